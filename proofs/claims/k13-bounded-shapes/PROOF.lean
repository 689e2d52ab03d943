import PyProof.Rows.All
import Wide.All
import OpenK.AllK
import Wide.FinOn
import HandS.ForMost
import HandS.ExcCtx
import HandS.ForExc
import HandS.Wide
import HandS.WideBits
import HandS.WideMore
import HandS.TupAny
import HandS.TupMul
import HandS.IsInst
import HandS.FStr
import HandS.RaiseMore
import HandS.Style
import HandS.Flow
import HandS.StrMore
import HandS.Zip
import HandS.Deep
import HandS.EndBits
import HandS.Property
import HandS.ClsMeth
import HandS.MakeKw
import HandS.MakeKwOnly
import HandS.OwnEq
import HandS.SlotsOwn
import KE.GoesMore
import PyProof.EnumMake
import HandS.Strs
import HandS.Dict
import KE.KCallOwn
import KE.KFmtOwn
import HandS.ExcOwn
import HandS.ExcInit
import HandS.ExcField
import HandS.Small
import PyProof.ExcBaseAll.ArithmeticError
import HandS.Defaults
import KE.GoesEnum
import HandS.SuiteRaise
import HandS.RaiseFrom
import HandS.ExcInitHot
import KE.KTryMore
import HandS.Codes
import HandS.ForDict
import PySem.Challenge.RW_shapetallies_k13_whole_bounded_shapes
set_option Elab.async false
set_option linter.all false
set_option maxRecDepth 100000
/-! PD1: pure data over the hand layer: data, what represents them, growth, judgements. -/
namespace PD
open PySem PySem.Spec PyProof.Rows L2

/-- pure data -/
inductive D where
  | non | bl (b : Bool) | int (i : Int) | str (x : Str)
  | tup (xs : List D) | lst (xs : List D) | scr (xs : List D) | dic (kvs : List (Key × D))
  | obj (c : Str) (fs : List (Str × D)) | exc (c : Str) (fs : List (Str × D)) | pur | cls (c : Str) | ty (n : String)

/-- the constants of a text: the written part, the classes' addresses; and the purse of a call -/
structure Cn where
  K : PySem.W.Frag
  adr : Str → Addr
  pu : Option Addr

mutual
inductive Rep (C : Cn) (B : Hp) : V → D → Prop
  | non : Rep C B .non .non
  | bl (b : Bool) : Rep C B (.bl b) (.bl b)
  | int (i : Int) : Rep C B (.int i) (.int i)
  | str (x : Str) : Rep C B (.str x) (.str x)
  | tup {a : Addr} {vs : List V} {ds : List D} : SqT C.K B a vs → Reps C B vs ds → Rep C B (.ref a) (.tup ds)
  | lst {a : Addr} {vs : List V} {ds : List D} : B a = some (.lst vs) → Reps C B vs ds → Rep C B (.ref a) (.lst ds)
  | scr {a : Addr} {vs : List V} {ds : List D} : SqL C.K B a vs → Reps C B vs ds → Rep C B (.ref a) (.scr ds)
  | dic {a : Addr} {kvs : List (Key × V)} {ds : List (Key × D)} : B a = some (.dK kvs) → RepK C B kvs ds → Rep C B (.ref a) (.dic ds)
  | obj {a dx : Addr} {c : Str} {fs : List (Str × V)} {ds : List (Str × D)} : B a = some (.ins (C.adr c) dx fs) → RepF C B fs ds → Rep C B (.ref a) (.obj c ds)
  | pur {a : Addr} : C.pu = some a → Rep C B (.ref a) .pur
  | cls (c : Str) : Rep C B (.ref (C.adr c)) (.cls c)
  | ty (n : String) : Rep C B (.ty n) (.ty n)
inductive Reps (C : Cn) (B : Hp) : List V → List D → Prop
  | nil : Reps C B [] []
  | cons {v : V} {vs : List V} {d : D} {ds : List D} : Rep C B v d → Reps C B vs ds → Reps C B (v :: vs) (d :: ds)
inductive RepK (C : Cn) (B : Hp) : List (Key × V) → List (Key × D) → Prop
  | nil : RepK C B [] []
  | cons {k : Key} {v : V} {vs : List (Key × V)} {d : D} {ds : List (Key × D)} : Rep C B v d → RepK C B vs ds → RepK C B ((k, v) :: vs) ((k, d) :: ds)
inductive RepF (C : Cn) (B : Hp) : List (Str × V) → List (Str × D) → Prop
  | nil : RepF C B [] []
  | cons {k : Str} {v : V} {vs : List (Str × V)} {d : D} {ds : List (Str × D)} : Rep C B v d → RepF C B vs ds → RepF C B ((k, v) :: vs) ((k, d) :: ds)
end

theorem sqL_mono {K : PySem.W.Frag} {B B' : Hp} (e : Same B B') {a : Addr} {xs : List V} (h : SqL K B a xs) : SqL K B' a xs := e.seq h
theorem sqT_mono {K : PySem.W.Frag} {B B' : Hp} (e : Same B B') {a : Addr} {xs : List V} (h : SqT K B a xs) : SqT K B' a xs := by
  rcases h with (h | ⟨o, h⟩) | h
  · exact .inl (.inl (e _ _ h))
  · exact .inl (.inr ⟨o, e _ _ h⟩)
  · exact .inr h

mutual
theorem Rep.mono {C : Cn} {B B' : Hp} (e : Same B B') : ∀ {v : V} {d : D}, Rep C B v d → Rep C B' v d
  | _, _, .non => .non
  | _, _, .bl b => .bl b
  | _, _, .int i => .int i
  | _, _, .str x => .str x
  | _, _, .tup h r => .tup (sqT_mono e h) (Reps.mono e r)
  | _, _, .lst h r => .lst (e _ _ h) (Reps.mono e r)
  | _, _, .scr h r => .scr (sqL_mono e h) (Reps.mono e r)
  | _, _, .dic h r => .dic (e _ _ h) (RepK.mono e r)
  | _, _, .obj h r => .obj (e _ _ h) (RepF.mono e r)
  | _, _, .pur h => .pur h
  | _, _, .cls c => .cls c
  | _, _, .ty n => .ty n
theorem Reps.mono {C : Cn} {B B' : Hp} (e : Same B B') : ∀ {v : List V} {d : List D}, Reps C B v d → Reps C B' v d
  | _, _, .nil => .nil
  | _, _, .cons h r => .cons (Rep.mono e h) (Reps.mono e r)
theorem RepK.mono {C : Cn} {B B' : Hp} (e : Same B B') : ∀ {v : List (Key × V)} {d : List (Key × D)}, RepK C B v d → RepK C B' v d
  | _, _, .nil => .nil
  | _, _, .cons h r => .cons (Rep.mono e h) (RepK.mono e r)
theorem RepF.mono {C : Cn} {B B' : Hp} (e : Same B B') : ∀ {v : List (Str × V)} {d : List (Str × D)}, RepF C B v d → RepF C B' v d
  | _, _, .nil => .nil
  | _, _, .cons h r => .cons (Rep.mono e h) (RepF.mono e r)
end

theorem Reps.length {C : Cn} {B : Hp} : ∀ {v : List V} {d : List D}, Reps C B v d → v.length = d.length
  | _, _, .nil => rfl
  | _, _, .cons _ r => congrArg (· + 1) (Reps.length r)
theorem Reps.get {C : Cn} {B : Hp} : ∀ {vs : List V} {ds : List D} {i : Nat} {d : D}, Reps C B vs ds → ds[i]? = some d → ∃ v, vs[i]? = some v ∧ Rep C B v d
  | _, _, _, _, .nil, e => by simp at e
  | _, _, 0, _, .cons r _, e => by simp at e; subst e; exact ⟨_, rfl, r⟩
  | _, _, i + 1, _, .cons _ t, e => by
    obtain ⟨u, h1, h2⟩ := Reps.get (i := i) t (by simpa using e)
    exact ⟨u, by simpa using h1, h2⟩
theorem Reps.got {C : Cn} {B : Hp} : ∀ {vs : List V} {ds : List D} {i : Nat} {v : V}, Reps C B vs ds → vs[i]? = some v → ∃ d, ds[i]? = some d ∧ Rep C B v d
  | _, _, _, _, .nil, e => by simp at e
  | _, _, 0, _, .cons r _, e => by simp at e; subst e; exact ⟨_, rfl, r⟩
  | _, _, i + 1, _, .cons _ t, e => by
    obtain ⟨u, h1, h2⟩ := Reps.got (i := i) t (by simpa using e)
    exact ⟨u, by simpa using h1, h2⟩
theorem Reps.append {C : Cn} {B : Hp} : ∀ {a b : List V} {x y : List D}, Reps C B a x → Reps C B b y → Reps C B (a ++ b) (x ++ y)
  | _, _, _, _, .nil, s => s
  | _, _, _, _, .cons r t, s => .cons r (Reps.append t s)
theorem Reps.take {C : Cn} {B : Hp} : ∀ {a : List V} {x : List D} (n : Nat), Reps C B a x → Reps C B (a.take n) (x.take n)
  | _, _, 0, _ => .nil
  | _, _, _ + 1, .nil => .nil
  | _, _, n + 1, .cons r t => .cons r (Reps.take n t)
theorem Reps.drop {C : Cn} {B : Hp} : ∀ {a : List V} {x : List D} (n : Nat), Reps C B a x → Reps C B (a.drop n) (x.drop n)
  | _, _, 0, r => r
  | _, _, _ + 1, .nil => .nil
  | _, _, n + 1, .cons _ t => Reps.drop n t
theorem Reps.set {C : Cn} {B : Hp} {v : V} {d : D} (r : Rep C B v d) : ∀ {a : List V} {x : List D} (n : Nat), Reps C B a x → Reps C B (a.set n v) (x.set n d)
  | _, _, _, .nil => .nil
  | _, _, 0, .cons _ t => .cons r t
  | _, _, n + 1, .cons q t => .cons q (Reps.set r n t)
theorem RepF.look {C : Cn} {B : Hp} {f : Str} : ∀ {fs : List (Str × V)} {ds : List (Str × D)} {d : D}, RepF C B fs ds → ds.lookup f = some d → ∃ v, fs.lookup f = some v ∧ Rep C B v d
  | _, _, _, .nil, e => by simp at e
  | _, _, d, .cons (k := k) r t, e => by
    rw [List.lookup_cons] at e ⊢
    cases h : f == k with
    | true =>
      rw [h] at e
      have e' : _ = d := Option.some.inj e
      subst e'
      exact ⟨_, rfl, r⟩
    | false =>
      rw [h] at e
      exact RepF.look t e
theorem RepF.none {C : Cn} {B : Hp} {f : Str} : ∀ {fs : List (Str × V)} {ds : List (Str × D)}, RepF C B fs ds → ds.lookup f = none → fs.lookup f = none
  | _, _, .nil, _ => rfl
  | _, _, .cons (k := k) r t, e => by
    rw [List.lookup_cons] at e ⊢
    cases h : f == k with
    | true => rw [h] at e; cases e
    | false =>
      rw [h] at e
      exact RepF.none t e

/-! ### computations -/
/-- what a call may change: the purse (a list of ints), or the instance that is being made -/
inductive Pu where
  | pl (l : List Int) | slf (c : Str) (fs : List (Str × D))
inductive Res (α : Type) where
  | stuck
  | ok (a : α) (p : Pu)
  | exc (x : D) (p : Pu)
def M (α : Type) : Type := Pu → Res α
def M.ok {α : Type} (a : α) : M α := fun p => .ok a p
def M.stuck {α : Type} : M α := fun _ => .stuck
def M.exc {α : Type} (x : D) : M α := fun p => .exc x p
def M.bind {α β : Type} (m : M α) (f : α → M β) : M β := fun p => match m p with
  | .stuck => .stuck
  | .ok a q => f a q
  | .exc x q => .exc x q
instance : Monad M where
  pure := M.ok
  bind := M.bind
@[simp] theorem bind_ok {α β : Type} (a : α) (f : α → M β) : M.bind (M.ok a) f = f a := rfl
@[simp] theorem bind_stuck {α β : Type} (f : α → M β) : M.bind M.stuck f = M.stuck := rfl
@[simp] theorem bind_exc {α β : Type} (x : D) (f : α → M β) : M.bind (M.exc x) f = M.exc x := rfl

/-- a slot of a frame: without a value, with one, with a list of its own -/
inductive Sl where
  | no | val (d : D) | own (xs : List D)
abbrev Ev := List Sl

/-! ### heaps: B, what stands still for ever; H, all -/
structure Grow (C : Cn) (B H B' H' : Hp) : Prop where
  bb : Same B B'
  sub : Same B' H'
  hh : ∀ a o, H a = some o → C.pu ≠ some a → H' a = some o
  nb : ∀ a, B a = none → H a ≠ none → B' a = none ∧ H' a ≠ none
def Hold (C : Cn) (B : Hp) (P : Pu) (o : HO) : Prop := match P with
  | .pl l => o = .lst (l.map V.int)
  | .slf c fs => ∃ dx vs, o = .ins (C.adr c) dx vs ∧ RepF C B vs fs
theorem Hold.mono {C : Cn} {B B' : Hp} (e : Same B B') {P : Pu} {o : HO} (h : Hold C B P o) : Hold C B' P o := by
  cases P with
  | pl l => exact h
  | slf c fs => obtain ⟨dx, vs, rfl, r⟩ := h; exact ⟨dx, vs, rfl, r.mono e⟩
def Pur (C : Cn) (B H : Hp) (P : Pu) : Prop := ∀ p, C.pu = some p → (∃ o, H p = some o ∧ Hold C B P o) ∧ B p = none
theorem Grow.refl {C : Cn} {B H : Hp} (s : Same B H) : Grow C B H B H := ⟨Same.refl B, s, fun _ _ h _ => h, fun _ h k => ⟨h, k⟩⟩
theorem Grow.there {C : Cn} {B H B' H' : Hp} (g : Grow C B H B' H') {a : Addr} (h : H' a = none) : H a = none := by
  cases e : H a with
  | none => rfl
  | some o =>
    cases f : B a with
    | none => exact absurd h (g.nb a f (by rw [e]; simp)).2
    | some u =>
      have := g.sub a u (g.bb a u f)
      rw [h] at this; cases this
theorem Grow.trans {C : Cn} {B H B1 H1 B2 H2 : Hp} (a : Grow C B H B1 H1) (b : Grow C B1 H1 B2 H2) : Grow C B H B2 H2 :=
  ⟨a.bb.trans b.bb, b.sub, fun x o h n => b.hh x o (a.hh x o h n) n, fun x h k => let ⟨p, q⟩ := a.nb x h k; b.nb x p q⟩
/-- a new object, standing still from now on -/
theorem Grow.new {C : Cn} {B H : Hp} (s : Same B H) {p : Addr} {o : HO} (hp : H p = none) : Grow C B H (upd B p o) (upd H p o) where
  bb := fun a u e => by rw [upd_ne (ne_of_none (s a u e) hp)]; exact e
  sub := fun a u e => by
    by_cases h : a = p
    · subst h; rw [upd_same] at e ⊢; exact e
    · rw [upd_ne h] at e ⊢; exact s a u e
  hh := fun a u e _ => by rw [upd_ne (ne_of_none e hp)]; exact e
  nb := fun a h k => by
    have ne : a ≠ p := fun e => k (e ▸ hp)
    rw [upd_ne ne, upd_ne ne]; exact ⟨h, k⟩
/-- a new object that is not (yet) said to stand still -/
theorem Grow.loose {C : Cn} {B H : Hp} (s : Same B H) {p : Addr} {o : HO} (hp : H p = none) : Grow C B H B (upd H p o) where
  bb := Same.refl B
  sub := fun a u e => by rw [upd_ne (ne_of_none (s a u e) hp)]; exact s a u e
  hh := fun a u e _ => by rw [upd_ne (ne_of_none e hp)]; exact e
  nb := fun a h k => by
    have ne : a ≠ p := fun e => k (e ▸ hp)
    rw [upd_ne ne]; exact ⟨h, k⟩
theorem Pur.up {C : Cn} {B H B' H' : Hp} {P : Pu} (x : Pur C B H P) (g : Grow C B H B' H') (k : ∀ p o, C.pu = some p → H p = some o → H' p = some o) : Pur C B' H' P := fun p e => by
  obtain ⟨⟨o, a, w⟩, b⟩ := x p e
  exact ⟨⟨o, k p _ e a, w.mono g.bb⟩, (g.nb p b (by rw [a]; simp)).1⟩
theorem Pur.new {C : Cn} {B H : Hp} {P : Pu} (x : Pur C B H P) (s : Same B H) {p : Addr} {o : HO} (hp : H p = none) : Pur C (upd B p o) (upd H p o) P :=
  x.up (Grow.new s hp) fun q u _ e => by rw [upd_ne (ne_of_none e hp)]; exact e
theorem Pur.loose {C : Cn} {B H : Hp} {P : Pu} (x : Pur C B H P) (s : Same B H) {p : Addr} {o : HO} (hp : H p = none) : Pur C B (upd H p o) P :=
  x.up (Grow.loose s hp) fun q u _ e => by rw [upd_ne (ne_of_none e hp)]; exact e

/-- the frame: entry heaps B0 H0, now B H, the slots σ hold env -/
structure Fr (C : Cn) (B0 H0 B H : Hp) (σ : L2.St) (env : Ev) (P : Pu) : Prop where
  g : Grow C B0 H0 B H
  pur : Pur C B H P
  len : σ.length = env.length
  val : ∀ (i : Nat) d, env[i]? = some (.val d) → ∃ v, σ[i]? = some (some v) ∧ Rep C B v d
  own : ∀ (i : Nat) xs, env[i]? = some (.own xs) → ∃ p vs, σ[i]? = some (some (.ref p)) ∧ H p = some (.lst vs) ∧ B p = none ∧ H0 p = none ∧ C.pu ≠ some p ∧ Reps C B vs xs
  inj : ∀ (i j : Nat) xs ys (p : Addr), env[i]? = some (.own xs) → env[j]? = some (.own ys) → σ[i]? = some (some (.ref p)) → σ[j]? = some (some (.ref p)) → i = j
theorem Fr.grow {C : Cn} {B0 H0 B H B' H' : Hp} {σ : L2.St} {env : Ev} {P P' : Pu} (f : Fr C B0 H0 B H σ env P) (g : Grow C B H B' H') (p : Pur C B' H' P') : Fr C B0 H0 B' H' σ env P' where
  g := f.g.trans g
  pur := p
  len := f.len
  val := fun i d e => let ⟨v, a, b⟩ := f.val i d e; ⟨v, a, b.mono g.bb⟩
  own := fun i xs e => by
    obtain ⟨q, vs, a, b, c, d, n, r⟩ := f.own i xs e
    exact ⟨q, vs, a, g.hh q _ b n, (g.nb q c (by rw [b]; simp)).1, d, n, r.mono g.bb⟩
  inj := f.inj

/-! ### judgements -/
def IsExc (C : Cn) (B' : Hp) (cls : Value) (dd : Option Addr) (x : D) : Prop := ∃ c fs, x = .exc c fs ∧ cls = .ref (C.adr c) ∧ ((fs = [] ∧ dd = none) ∨ ∃ d vs, dd = some d ∧ B' d = some (.xd vs) ∧ RepF C B' vs fs)
/-- what an end of a computation asks -/
def Post (C : Cn) (W : WX) (σ : L2.St) (B H : Hp) {α β : Type} (R : Hp → Hp → β → α → Prop) (r : Res α) (Q : β → Hp → Prop) : Prop := match r with
  | .stuck => False
  | .ok a P' => ∀ y B' H', Grow C B H B' H' → Pur C B' H' P' → R B' H' y a → Q y H'
  | .exc x P' => ∀ cls dd B' H', Grow C B H B' H' → Pur C B' H' P' → IsExc C B' cls dd x → W cls dd σ H'
/-- the reading t does what m says -/
def Do (C : Cn) (W : WX) {α β : Type} (t : L2.St → Hp → (β → Hp → Prop) → Prop) (R : Hp → Hp → Hp → β → α → Prop) (m : Ev → M α) : Prop :=
  ∀ B0 H0 B H σ env P, Fr C B0 H0 B H σ env P → ∀ Q, Post C W σ B H (R H) (m env P) Q → t σ H Q

theorem Post.grow {C : Cn} {W : WX} {σ : L2.St} {B H B' H' : Hp} {α β : Type} {R : Hp → Hp → β → α → Prop} {r : Res α} {Q : β → Hp → Prop} (h : Post C W σ B H R r Q) (g : Grow C B H B' H') : Post C W σ B' H' R r Q := by
  cases r with
  | stuck => exact h
  | ok a P => exact fun y B2 H2 g2 p r => h y B2 H2 (g.trans g2) p r
  | exc x P => exact fun c d B2 H2 g2 p r => h c d B2 H2 (g.trans g2) p r
/-- one behind the other -/
theorem Post.bind {C : Cn} {W : WX} {σ : L2.St} {B H : Hp} {α β γ δ : Type} {R : Hp → Hp → β → α → Prop} {S : Hp → Hp → δ → γ → Prop} {m : M α} {f : α → M γ} {P : Pu} {Q : δ → Hp → Prop} {Q' : β → Hp → Prop}
    (h : Post C W σ B H S (M.bind m f P) Q) (k : ∀ a P', m P = .ok a P' → ∀ y B' H', Grow C B H B' H' → Pur C B' H' P' → R B' H' y a → Post C W σ B' H' S (f a P') Q → Q' y H') : Post C W σ B H R (m P) Q' := by
  unfold M.bind at h
  cases e : m P with
  | stuck => rw [e] at h; exact h
  | ok a P' =>
    rw [e] at h
    exact fun y B' H' g p r => k a P' e y B' H' g p r (Post.grow h g)
  | exc x P' => rw [e] at h; exact h
theorem Post.imp {C : Cn} {W : WX} {σ : L2.St} {B H : Hp} {α β : Type} {R : Hp → Hp → β → α → Prop} {r : Res α} {Q Q' : β → Hp → Prop} (h : Post C W σ B H R r Q) (k : ∀ y H', Q y H' → Q' y H') : Post C W σ B H R r Q' := by
  cases r with
  | stuck => exact h
  | ok a P => exact fun y B2 H2 g2 p r => k _ _ (h y B2 H2 g2 p r)
  | exc x P => exact h

abbrev RD (C : Cn) : Hp → Hp → Hp → V → D → Prop := fun _ B _ v d => Rep C B v d
abbrev RDs (C : Cn) : Hp → Hp → Hp → List V → List D → Prop := fun _ B _ v d => Reps C B v d
abbrev RB : Hp → Hp → Hp → Bool → Bool → Prop := fun _ _ _ b c => b = c
/-- a new list that nothing else holds (Hs: the heap ahead) -/
def RF (C : Cn) : Hp → Hp → Hp → V → List D → Prop := fun Hs B H v xs => ∃ p vs, v = .ref p ∧ Hs p = none ∧ H p = some (.lst vs) ∧ B p = none ∧ C.pu ≠ some p ∧ Reps C B vs xs
/-- to be read: data that stands still, or a list of such that may change later -/
def RR (C : Cn) : Hp → Hp → Hp → V → D → Prop := fun _ B H v d => Rep C B v d ∨ ∃ xs p vs, d = .lst xs ∧ v = .ref p ∧ H p = some (.lst vs) ∧ C.pu ≠ some p ∧ B p = none ∧ Reps C B vs xs

/-- the readings that ask just what is needed -/
def wE (X : Cx) (e : Expr) : TE := fun σ H Q => ∀ pins s, Inv X pins σ H s → wpAny (model X.prog X.w) X.A (eval e X.env) (EP X pins σ Q) X.xe s
theorem pw {X : Cx} {e : Expr} : PE X e (wE X e) := ⟨fun pins s σ H Q I h => h pins s I⟩
theorem wE_of {X : Cx} {e : Expr} {t : TE} (h : PE X e t) {σ : L2.St} {H : Hp} {Q : VK} (q : t σ H Q) : wE X e σ H Q := fun pins s I => h.run pins s σ H Q I q
def wT (X : Cx) (e : Expr) : TT := fun σ H Q => ∀ pins s, Inv X pins σ H s → wpAny (model X.prog X.w) X.A (isTrue e X.env (eval e X.env)) (TP X pins σ Q) X.xe s
theorem tw {X : Cx} {e : Expr} : PT X e (wT X e) := ⟨fun pins s σ H Q I h => h pins s I⟩
theorem wT_of {X : Cx} {e : Expr} {t : TT} (h : PT X e t) {σ : L2.St} {H : Hp} {Q : Bool → Hp → Prop} (q : t σ H Q) : wT X e σ H Q := fun pins s I => h.run pins s σ H Q I q
def wA (X : Cx) (es : List Expr) : TA := fun σ H Q => ∀ pos pins s, Inv X pins σ H s → wpAny (model X.prog X.w) X.A (spliced (backTo pos (starEach es X.env))) (AP X pins σ Q) X.xe s
theorem aw {X : Cx} {es : List Expr} : PA X es (wA X es) := ⟨fun pos pins s σ H Q I h => h pos pins s I⟩
theorem wA_of {X : Cx} {es : List Expr} {t : TA} (h : PA X es t) {σ : L2.St} {H : Hp} {Q : List V → Hp → Prop} (q : t σ H Q) : wA X es σ H Q := fun pos pins s I => h.run pos pins s σ H Q I q
def wS (X : Cx) (st : Stmt) : TS := fun D σ H => ∀ pins s, Inv X pins σ H s → wpAny (model X.prog X.w) X.A (exec st X.env) (SP X pins D) X.xe s
theorem sw {X : Cx} {st : Stmt} : PS X st (wS X st) := ⟨fun pins s σ H D I h => h pins s I⟩
theorem wS_of {X : Cx} {st : Stmt} {t : TS} (h : PS X st t) {σ : L2.St} {H : Hp} {D : Ends} (q : t D σ H) : wS X st D σ H := fun pins s I => h.run pins s σ H D I q
def wSs (X : Cx) (st : List Stmt) : TS := fun D σ H => ∀ pins s, Inv X pins σ H s → wpAny (model X.prog X.w) X.A (execs st X.env) (SP X pins D) X.xe s
theorem ssw {X : Cx} {st : List Stmt} : PSs X st (wSs X st) := ⟨fun pins s σ H D I h => h pins s I⟩
theorem wSs_of {X : Cx} {st : List Stmt} {t : TS} (h : PSs X st t) {σ : L2.St} {H : Hp} {D : Ends} (q : t D σ H) : wSs X st D σ H := fun pins s I => h.run pins s σ H D I q

abbrev DE (C : Cn) (W : WX) (X : Cx) (e : Expr) (m : Ev → M D) : Prop := Do C W (wE X e) (RD C) m
abbrev DT (C : Cn) (W : WX) (X : Cx) (e : Expr) (m : Ev → M Bool) : Prop := Do C W (wT X e) RB m
abbrev DA (C : Cn) (W : WX) (X : Cx) (es : List Expr) (m : Ev → M (List D)) : Prop := Do C W (wA X es) (RDs C) m
abbrev DF (C : Cn) (W : WX) (X : Cx) (e : Expr) (m : Ev → M (List D)) : Prop := Do C W (wE X e) (RF C) m
abbrev DR (C : Cn) (W : WX) (X : Cx) (e : Expr) (m : Ev → M D) : Prop := Do C W (wE X e) (RR C) m

/-- how a statement ends -/
inductive Out where
  | next (env : Ev) | ret (d : D) | brk (env : Ev) | cont (env : Ev)
def PostS (C : Cn) (W : WX) (B0 H0 : Hp) (r : Res Out) (E : Ends) : Prop := match r with
  | .stuck => False
  | .ok (.next env') P' => ∀ σ' B' H', Fr C B0 H0 B' H' σ' env' P' → E.nx σ' H'
  | .ok (.brk env') P' => ∀ σ' B' H', Fr C B0 H0 B' H' σ' env' P' → E.bk σ' H'
  | .ok (.cont env') P' => ∀ σ' B' H', Fr C B0 H0 B' H' σ' env' P' → E.ct σ' H'
  | .ok (.ret d) P' => ∀ v B' H', Grow C B0 H0 B' H' → Pur C B' H' P' → Rep C B' v d → E.rt v H'
  | .exc x P' => ∀ cls dd σ' B' H', Grow C B0 H0 B' H' → Pur C B' H' P' → IsExc C B' cls dd x → W cls dd σ' H'
def DoS (C : Cn) (W : WX) (t : TS) (m : Ev → M Out) : Prop :=
  ∀ B0 H0 B H σ env P, Fr C B0 H0 B H σ env P → ∀ E, PostS C W B0 H0 (m env P) E → t E σ H
abbrev DS (C : Cn) (W : WX) (X : Cx) (st : Stmt) (m : Ev → M Out) : Prop := DoS C W (wS X st) m
abbrev DSs (C : Cn) (W : WX) (X : Cx) (st : List Stmt) (m : Ev → M Out) : Prop := DoS C W (wSs X st) m
end PD

set_option Elab.async false
set_option linter.all false
set_option maxRecDepth 100000
/-! PD2: expressions over pure data. -/
namespace PD
open PySem PySem.Spec PyProof.Rows L2

def cap : Nat := 1000000
theorem cap_le {n : Nat} (h : n ≤ cap) : n ≤ sizeLine := Nat.le_trans h (by decide)
theorem cap_lt {n : Nat} (h : n < cap) : n < sizeLine := Nat.lt_of_lt_of_le h (by decide)

mutual
def toPy : D → Option PyData
  | .non => some .none
  | .bl b => some (.bool b)
  | .int i => some (.int i)
  | .str x => some (.str x)
  | .tup xs => (toPys xs).map .tuple
  | .lst xs => (toPys xs).map .list
  | _ => none
def toPys : List D → Option (List PyData)
  | [] => some []
  | x :: xs => match toPy x, toPys xs with
    | some p, some ps => some (p :: ps)
    | _, _ => none
end

section
variable {C : Cn} {W : WX} {X : Cx}

mutual
theorem Rep.dp {B : Hp} : ∀ {v : V} {d : D} {p : PyData}, Rep C B v d → toPy d = some p → Dp C.K B v p
  | _, _, _, .non, e => by cases e; exact .non
  | _, _, _, .bl b, e => by cases e; exact .bl b
  | _, _, _, .int i, e => by cases e; exact .int i
  | _, _, _, .str x, e => by cases e; exact .str x
  | _, _, _, .tup (ds := ds) s r, e => by
    unfold toPy at e
    cases h : toPys ds with
    | none => rw [h] at e; cases e
    | some ps => rw [h] at e; cases e; exact .tup s (Reps.dp r h)
  | _, _, _, .lst (ds := ds) s r, e => by
    unfold toPy at e
    cases h : toPys ds with
    | none => rw [h] at e; cases e
    | some ps => rw [h] at e; cases e; exact .lst (SqL.of s) (Reps.dp r h)
  | _, _, _, .scr _ _, e => by unfold toPy at e; cases e
  | _, _, _, .dic _ _, e => by unfold toPy at e; cases e
  | _, _, _, .obj _ _, e => by unfold toPy at e; cases e
  | _, _, _, .pur _, e => by unfold toPy at e; cases e
  | _, _, _, .cls _, e => by unfold toPy at e; cases e
  | _, _, _, .ty _, e => by unfold toPy at e; cases e
theorem Reps.dp {B : Hp} : ∀ {v : List V} {d : List D} {p : List PyData}, Reps C B v d → toPys d = some p → DpAll C.K B v p
  | _, _, _, .nil, e => by cases e; exact .nil
  | _, _, _, .cons (d := d) (ds := ds) r t, e => by
    unfold toPys at e
    cases h : toPy d with
    | none => rw [h] at e; cases e
    | some p => cases h2 : toPys ds with
      | none => rw [h, h2] at e; cases e
      | some ps => rw [h, h2] at e; cases e; exact .cons (Rep.dp r h) (Reps.dp t h2)
end
theorem Dp.monoB {K : PySem.W.Frag} {B H : Hp} (s : Same B H) : ∀ {v : V} {p : PyData}, Dp K B v p → Dp K H v p := fun {v p} h =>
  Dp.rec (motive_1 := fun v p _ => Dp K H v p) (motive_2 := fun v p _ => DpAll K H v p) .non .bl .int .str (fun a _ r => .lst (s.seq a) r) (fun a _ r => .tup (sqT_mono s a) r) .nil (fun _ _ a b => .cons a b) h
theorem DpAll.monoB {K : PySem.W.Frag} {B H : Hp} (s : Same B H) : ∀ {v : List V} {p : List PyData}, DpAll K B v p → DpAll K H v p
  | _, _, .nil => .nil
  | _, _, .cons a b => .cons (Dp.monoB s a) (DpAll.monoB s b)
theorem RR.dp {Hs B H : Hp} {v : V} {d : D} {p : PyData} (r : RR C Hs B H v d) (s : Same B H) (e : toPy d = some p) : Dp C.K H v p := by
  rcases r with r | ⟨xs, q, vs, rfl, rfl, h, _, _, r⟩
  · exact Dp.monoB s (r.dp e)
  · unfold toPy at e
    cases h2 : toPys xs with
    | none => rw [h2] at e; cases e
    | some ps => rw [h2] at e; cases e; exact .lst (SqL.of h) (DpAll.monoB s (r.dp h2))
theorem RR.lst {Hs B H : Hp} {v : V} {xs : List D} (r : RR C Hs B H v (.lst xs)) (s : Same B H) : ∃ p vs, v = .ref p ∧ Reps C B vs xs ∧ H p = some (.lst vs) := by
  rcases r with r | ⟨ys, p, vs, e, rfl, h, _, _, r⟩
  · cases r with
    | lst q r => exact ⟨_, _, rfl, r, s _ _ q⟩
  · cases e; exact ⟨_, _, rfl, r, h⟩
theorem RR.scr {Hs B H : Hp} {v : V} {xs : List D} (r : RR C Hs B H v (.scr xs)) (s : Same B H) : ∃ p vs, v = .ref p ∧ Reps C B vs xs ∧ SqL C.K H p vs := by
  rcases r with r | ⟨ys, p, vs, e, rfl, h, _, _, r⟩
  · cases r with
    | scr q r => exact ⟨_, _, rfl, r, sqL_mono s q⟩
  · cases e
theorem RR.non {Hs B H : Hp} {v : V} (r : RR C Hs B H v .non) : v = .non := by
  rcases r with r | ⟨ys, p, vs, e, _⟩
  · cases r; rfl
  · cases e
theorem RR.tup {Hs B H : Hp} {v : V} {xs : List D} (r : RR C Hs B H v (.tup xs)) (s : Same B H) : ∃ p vs, v = .ref p ∧ Reps C B vs xs ∧ SqT C.K H p vs := by
  rcases r with r | ⟨ys, p, vs, e, _⟩
  · cases r with
    | tup q r => exact ⟨_, _, rfl, r, sqT_mono s q⟩
  · cases e
theorem RR.int {Hs B H : Hp} {v : V} {i : Int} (r : RR C Hs B H v (.int i)) : v = .int i := by
  rcases r with r | ⟨ys, p, vs, e, _⟩
  · cases r; rfl
  · cases e
theorem RR.str {Hs B H : Hp} {v : V} {i : Str} (r : RR C Hs B H v (.str i)) : v = .str i := by
  rcases r with r | ⟨ys, p, vs, e, _⟩
  · cases r; rfl
  · cases e
theorem RR.bl {Hs B H : Hp} {v : V} {i : Bool} (r : RR C Hs B H v (.bl i)) : v = .bl i := by
  rcases r with r | ⟨ys, p, vs, e, _⟩
  · cases r; rfl
  · cases e
theorem RR.obj {Hs B H : Hp} {v : V} {c : Str} {fs : List (Str × D)} (r : RR C Hs B H v (.obj c fs)) : Rep C B v (.obj c fs) := by
  rcases r with r | ⟨ys, p, vs, e, _⟩
  · exact r
  · cases e

theorem Post.val {σ : L2.St} {B H : Hp} {α β : Type} {R : Hp → Hp → β → α → Prop} {a : α} {P : Pu} {Q : β → Hp → Prop} (h : Post C W σ B H R (.ok a P) Q) (s : Same B H) (p : Pur C B H P) {y : β} (r : R B H y a) : Q y H := h y B H (Grow.refl s) p r
theorem Post.val' {σ : L2.St} {B H : Hp} {α β : Type} {R : Hp → Hp → β → α → Prop} {a : α} {P : Pu} {Q : β → Hp → Prop} (h : Post C W σ B H R (M.ok a P) Q) (s : Same B H) (p : Pur C B H P) {y : β} (r : R B H y a) : Q y H := h y B H (Grow.refl s) p r

/-! ### constants, names -/
theorem do_c {e : Expr} {v : V} {d : D} (h : PE X e (tC v)) (r : ∀ B, Rep C B v d) : DE C W X e (fun _ => M.ok d) := fun B0 H0 B H σ env P f Q q => wE_of h (q.val' f.g.sub f.pur (r B))
def mC (d : D) : Ev → M D := fun _ => M.ok d
theorem e_int {i j pos} : DE C W X (.Constant (.int i) j pos) (mC (.int i)) := do_c pe_int fun _ => .int _
theorem e_str {x j pos} : DE C W X (.Constant (.str x) j pos) (mC (.str x)) := do_c pe_str fun _ => .str _
theorem e_bl {b j pos} : DE C W X (.Constant (.bool b) j pos) (mC (.bl b)) := do_c pe_bl fun _ => .bl _
theorem e_non {j pos} : DE C W X (.Constant .none j pos) (mC .non) := do_c pe_non fun _ => .non
def slD : Option Sl → M D
  | some (.val d) => M.ok d
  | _ => M.stuck
def slR : Option Sl → M D
  | some (.val d) => M.ok d
  | some (.own xs) => M.ok (.lst xs)
  | _ => M.stuck
def mVar (i : Nat) : Ev → M D := fun env => slD env[i]?
def mVarR (i : Nat) : Ev → M D := fun env => slR env[i]?
theorem e_var (i : Nat) {x : Str} {pos : Pos} (hN : X.N[i]? = some x := by rfl) (hv : Vis X.env.scope x := by first | exact Or.inl rfl | exact Or.inr (Or.inl rfl) | exact Or.inr (Or.inr rfl))
    (hd : (x == ("__debug__" : Str)) = false := by decide) (hcd : (x == ("__classdict__" : Str)) = false := by decide) : DE C W X (.Name x pos) (mVar i) := fun B0 H0 B H σ env P f Q q => by
  unfold mVar at q
  cases e : env[i]? with
  | none => rw [e] at q; exact q.elim
  | some sl =>
    rw [e] at q
    cases sl with
    | val d =>
      obtain ⟨v, a, r⟩ := f.val i d e
      exact wE_of (pe_var hN hv hd hcd) ⟨v, a, q.val' f.g.sub f.pur r⟩
    | no => exact q.elim
    | own xs => exact q.elim
theorem r_var (i : Nat) {x : Str} {pos : Pos} (hN : X.N[i]? = some x := by rfl) (hv : Vis X.env.scope x := by first | exact Or.inl rfl | exact Or.inr (Or.inl rfl) | exact Or.inr (Or.inr rfl))
    (hd : (x == ("__debug__" : Str)) = false := by decide) (hcd : (x == ("__classdict__" : Str)) = false := by decide) : DR C W X (.Name x pos) (mVarR i) := fun B0 H0 B H σ env P f Q q => by
  unfold mVarR at q
  cases e : env[i]? with
  | none => rw [e] at q; exact q.elim
  | some sl =>
    rw [e] at q
    cases sl with
    | val d =>
      obtain ⟨v, a, r⟩ := f.val i d e
      exact wE_of (pe_var hN hv hd hcd) ⟨v, a, q.val' f.g.sub f.pur (.inl r)⟩
    | no => exact q.elim
    | own xs =>
      obtain ⟨p, vs, a, hp, bp, _, np, r⟩ := f.own i xs e
      exact wE_of (pe_var hN hv hd hcd) ⟨_, a, q.val' f.g.sub f.pur (.inr ⟨xs, p, vs, rfl, rfl, hp, np, bp, r⟩)⟩

/-! ### kinds of values -/
def mFz (m : Ev → M (List D)) : Ev → M D := fun env => M.bind (m env) fun xs => M.ok (.lst xs)
/-- from now on it stands still -/
theorem Grow.freeze {B H B1 H1 : Hp} (g : Grow C B H B1 H1) {p : Addr} {o : HO} (h0 : H p = none) (hp : H1 p = some o) (hb : B1 p = none) : Grow C B H (upd B1 p o) H1 where
  bb := fun a u e => by rw [upd_ne (ne_of_none (g.bb a u e) hb)]; exact g.bb a u e
  sub := fun a u e => by
    by_cases h : a = p
    · subst h; rw [upd_same] at e; cases e; exact hp
    · rw [upd_ne h] at e; exact g.sub a u e
  hh := g.hh
  nb := fun a h k => by
    have ne : a ≠ p := fun e => k (e ▸ h0)
    rw [upd_ne ne]; exact g.nb a h k
theorem Same.fz {B1 : Hp} {p : Addr} {o : HO} (hb : B1 p = none) : Same B1 (upd B1 p o) := fun a u e => by rw [upd_ne (ne_of_none e hb)]; exact e
theorem Pur.freeze {B1 H1 : Hp} {P : Pu} (x : Pur C B1 H1 P) {p : Addr} {o : HO} (hb : B1 p = none) (np : C.pu ≠ some p) : Pur C (upd B1 p o) H1 P := fun q e => by
  have ne : q ≠ p := fun z => np (z ▸ e)
  obtain ⟨⟨u, h, k⟩, b⟩ := x q e
  have sm : Same B1 (upd B1 p o) := fun a v z => by
    by_cases h : a = p
    · subst h; exact absurd z (by rw [hb]; simp)
    · rw [upd_ne h]; exact z
  exact ⟨⟨u, h, k.mono sm⟩, by rw [upd_ne ne]; exact b⟩
theorem e_f {e : Expr} {m : Ev → M (List D)} (h : DF C W X e m) : DE C W X e (mFz m) := fun B0 H0 B H σ env P f Q q =>
  h B0 H0 B H σ env P f Q (by
    unfold mFz M.bind at q
    cases e : m env P with
    | stuck => rw [e] at q; exact q
    | exc x P' => rw [e] at q; exact q
    | ok xs P' =>
      rw [e] at q
      rintro y B' H' g p ⟨l, vs, rfl, l0, hl, bl, np, r⟩
      exact q (.ref l) (upd B' l (.lst vs)) H' (g.freeze l0 hl bl) (p.freeze bl np) (.lst upd_same (r.mono (Same.fz bl))))
theorem r_e {e : Expr} {m : Ev → M D} (h : DE C W X e m) : DR C W X e m := fun B0 H0 B H σ env P f Q q =>
  h B0 H0 B H σ env P f Q (by
    cases e : m env P with
    | stuck => rw [e] at q; exact q
    | exc x P' => rw [e] at q; exact q
    | ok xs P' => rw [e] at q; exact fun y B' H' g p r => q y B' H' g p (.inl r))
theorem r_f {e : Expr} {m : Ev → M (List D)} (h : DF C W X e m) : DR C W X e (mFz m) := r_e (e_f h)

/-! ### two operands -/
def mBi {α β γ : Type} (ma : Ev → M α) (mb : Ev → M β) (f : α → β → M γ) : Ev → M γ := fun env => M.bind (ma env) fun a => M.bind (mb env) fun b => f a b
def mUn {α β : Type} (ma : Ev → M α) (f : α → M β) : Ev → M β := fun env => M.bind (ma env) f
theorem keepsD {Hs B H B' H' : Hp} {x : V} {a : D} (r : RD C Hs B H x a) (g : Grow C B H B' H') : RD C Hs B' H' x a := Rep.mono g.bb r
theorem keepsR {Hs B H B' H' : Hp} {x : V} {a : D} (r : RR C Hs B H x a) (g : Grow C B H B' H') : RR C Hs B' H' x a := by
  rcases r with r | ⟨xs, p, vs, rfl, rfl, s, n, b, r⟩
  · exact .inl (r.mono g.bb)
  · exact .inr ⟨xs, p, vs, rfl, rfl, g.hh _ _ s n, n, (g.nb p b (by rw [s]; simp)).1, r.mono g.bb⟩
theorem keepsF {Hs B H B' H' : Hp} {x : V} {a : List D} (r : RF C Hs B H x a) (g : Grow C B H B' H') : RF C Hs B' H' x a := by
  obtain ⟨p, vs, rfl, h0, s, b, n, r⟩ := r
  exact ⟨p, vs, rfl, h0, g.hh _ _ s n, (g.nb p b (by rw [s]; simp)).1, n, r.mono g.bb⟩
theorem do2 {ta tb : TE} {α β γ δ : Type} {Ra : Hp → Hp → Hp → V → α → Prop} {Rb : Hp → Hp → Hp → V → β → Prop} {Rc : Hp → Hp → Hp → V → γ → Prop} {ma : Ev → M α} {mb : Ev → M β} {f : α → β → M γ} {r : R2}
    (ha : Do C W ta Ra ma) (hb : Do C W tb Rb mb) (ka : ∀ {Hs B H B' H' x a}, Ra Hs B H x a → Grow C B H B' H' → Ra Hs B' H' x a)
    (hr : ∀ Hs Ha Hb B H σ P x y a b Q, (∀ p, H p = none → Hs p = none) → Same B H → Pur C B H P → Ra Ha B H x a → Rb Hb B H y b → Post C W σ B H (Rc Hs) (f a b P) Q → r x y H Q) : Do C W (tOp r ta tb) Rc (mBi ma mb f) := fun B0 H0 B H σ env P fr Q q =>
  ha B0 H0 B H σ env P fr _ (Post.bind q fun a P1 _ x B1 H1 g1 p1 r1 q =>
    hb B0 H0 B1 H1 σ env P1 (fr.grow g1 p1) _ (Post.bind q fun b P2 _ y B2 H2 g2 p2 r2 q =>
      hr H H H1 B2 H2 σ P2 x y a b Q (fun p h => (g1.trans g2).there h) g2.sub p2 (ka r1 g2) r2 q))
theorem do1 {ta : TE} {α γ : Type} {Ra : Hp → Hp → Hp → V → α → Prop} {Rc : Hp → Hp → Hp → V → γ → Prop} {ma : Ev → M α} {f : α → M γ} {r : V → Hp → VK → Prop}
    (ha : Do C W ta Ra ma)
    (hr : ∀ Hs Ha B H σ P x a Q, (∀ p, H p = none → Hs p = none) → Same B H → Pur C B H P → Ra Ha B H x a → Post C W σ B H (Rc Hs) (f a P) Q → r x H Q) : Do C W (tUn r ta) Rc (mUn ma f) := fun B0 H0 B H σ env P fr Q q =>
  ha B0 H0 B H σ env P fr _ (Post.bind q fun a P1 _ x B1 H1 g1 p1 r1 q =>
    hr H H B1 H1 σ P1 x a Q (fun p h => g1.there h) g1.sub p1 r1 q)
/-- a new tuple -/
theorem Post.newT {σ : L2.St} {B H : Hp} {ds : List D} {P : Pu} {Q : VK} {Hs : Hp} (h : Post C W σ B H (RD C Hs) (.ok (.tup ds) P) Q) (s : Same B H) (p : Pur C B H P) {vs : List V} (r : Reps C B vs ds) (l : Addr) (hl : H l = none) : Q (.ref l) (upd H l (.tup vs)) :=
  h (.ref l) (upd B l (.tup vs)) (upd H l (.tup vs)) (Grow.new s hl) (p.new s hl) (.tup (SqT.of upd_same) (r.mono (Grow.new (C := C) s hl).bb))
/-- a new list -/
theorem Post.newL {σ : L2.St} {B H : Hp} {ds : List D} {P : Pu} {Q : VK} {Hs : Hp} (h : Post C W σ B H (RF C Hs) (.ok ds P) Q) (hs : ∀ p, H p = none → Hs p = none) (s : Same B H) (p : Pur C B H P) {vs : List V} (r : Reps C B vs ds) (l : Addr) (hl : H l = none) : Q (.ref l) (upd H l (.lst vs)) := by
  have bl : B l = none := s.free hl
  refine h (.ref l) B (upd H l (.lst vs)) (Grow.loose s hl) (p.loose s hl) ⟨l, vs, rfl, hs l hl, upd_same, bl, fun e => ?_, r⟩
  obtain ⟨⟨o, h, _⟩, _⟩ := p l e
  rw [hl] at h; cases h

/-! ### operators -/
def mulOk (i j : Int) : Bool := decide (i.natAbs.log2 + j.natAbs.log2 ≤ 134000000)
def divOk (j : Int) : Bool := decide (j ≠ 0) && (decide (j.natAbs < 1073741824) || (decide (0 < j) && decide (j.natAbs.log2 < 9000)))
def powOk (i j : Int) : Bool := decide (0 ≤ j) && decide (j ≤ 1000000) && decide (i.natAbs < 2 ^ 64)
def okIf {α : Type} (b : Bool) (a : α) : M α := if b then M.ok a else M.stuck
@[simp] theorem okIf_true {α : Type} (a : α) : okIf true a = M.ok a := rfl
def addD : D → D → M D
  | .int i, .int j => M.ok (.int (i + j))
  | .str x, .str y => okIf (decide (x.length + y.length ≤ cap)) (.str (x ++ y))
  | .tup xs, .tup ys => okIf (decide (xs.length + ys.length ≤ cap)) (.tup (xs ++ ys))
  | _, _ => M.stuck
def subD : D → D → M D
  | .int i, .int j => M.ok (.int (i - j))
  | _, _ => M.stuck
def mulD : D → D → M D
  | .int i, .int j => okIf (mulOk i j) (.int (i * j))
  | _, _ => M.stuck
def fdivD : D → D → M D
  | .int i, .int j => okIf (divOk j) (.int (i.fdiv j))
  | _, _ => M.stuck
def modD : D → D → M D
  | .int i, .int j => okIf (decide (j ≠ 0)) (.int (i.fmod j))
  | _, _ => M.stuck
def powD : D → D → M D
  | .int i, .int j => okIf (powOk i j) (.int (i ^ j.toNat))
  | _, _ => M.stuck
def negD : D → M D
  | .int i => M.ok (.int (-i))
  | _ => M.stuck
theorem okIf_post {σ : L2.St} {B H : Hp} {α β : Type} {R : Hp → Hp → β → α → Prop} {b : Bool} {a : α} {P : Pu} {Q : β → Hp → Prop} (h : Post C W σ B H R (okIf b a P) Q) : b = true ∧ Post C W σ B H R (.ok a P) Q := by
  cases b with
  | true => exact ⟨rfl, h⟩
  | false => exact False.elim h
variable {a b : Expr} {pos : Pos} {ma mb : Ev → M D}
theorem e_add (ha : DE C W X a ma) (hb : DE C W X b mb) (hK : X.K = C.K := by rfl) : DE C W X (.BinOp a .Add b pos) (mBi ma mb addD) := fun B0 H0 B H σ env P f Q q =>
  wE_of (pe_op ((op_add.or op_add_str).or op_catA) pw pw) (do2 (δ := D) ha hb keepsD (fun Hs Ha Hb B H σ P x y a b Q hs s p ra rb q => by
    cases ra with
    | int i => cases rb with
      | int j => exact .inl (.inl ⟨i, j, rfl, rfl, q.val' s p (.int _)⟩)
      | _ => exact q.elim
    | str i => cases rb with
      | str j =>
        obtain ⟨h, q⟩ := okIf_post q
        exact .inl (.inr ⟨i, j, rfl, rfl, cap_le (of_decide_eq_true h), q.val s p (.str _)⟩)
      | _ => exact q.elim
    | tup sa ra => cases rb with
      | tup sb rb =>
        obtain ⟨h, q⟩ := okIf_post q
        have h := of_decide_eq_true h
        rw [← ra.length, ← rb.length] at h
        refine .inr ⟨_, _, _, _, rfl, rfl, by rw [hK]; exact sqT_mono s sa, by rw [hK]; exact sqT_mono s sb, cap_le h, fun e => ?_, fun _ e => ?_, fun _ _ l hl => q.newT s p (ra.append rb) l hl⟩
        · subst e; cases ra; exact q.val s p (.tup sb rb)
        · subst e; cases rb
          rw [List.append_nil] at q
          exact q.val s p (.tup sa ra)
      | _ => exact q.elim
    | _ => exact q.elim) B0 H0 B H σ env P f Q q)
theorem e_sub (ha : DE C W X a ma) (hb : DE C W X b mb) : DE C W X (.BinOp a .Sub b pos) (mBi ma mb subD) := fun B0 H0 B H σ env P f Q q =>
  wE_of (pe_op op_sub pw pw) (do2 (δ := D) ha hb keepsD (fun Hs Ha Hb B H σ P x y a b Q hs s p ra rb q => by
    cases ra with
    | int i => cases rb with
      | int j => exact ⟨i, j, rfl, rfl, q.val' s p (.int _)⟩
      | _ => exact q.elim
    | _ => exact q.elim) B0 H0 B H σ env P f Q q)
theorem mulOk_X {i j : Int} (h : mulOk i j = true) : CMulX i j := by
  have h := of_decide_eq_true h
  exact mulx_ok (a := i.natAbs.log2 + 1) (b := j.natAbs.log2 + 1) Nat.lt_log2_self Nat.lt_log2_self (by omega)
theorem e_mul (ha : DE C W X a ma) (hb : DE C W X b mb) : DE C W X (.BinOp a .Mult b pos) (mBi ma mb mulD) := fun B0 H0 B H σ env P f Q q =>
  wE_of (pe_op op_mulX pw pw) (do2 (δ := D) ha hb keepsD (fun Hs Ha Hb B H σ P x y a b Q hs s p ra rb q => by
    cases ra with
    | int i => cases rb with
      | int j =>
        obtain ⟨h, q⟩ := okIf_post q
        exact ⟨i, j, rfl, rfl, mulOk_X h, q.val s p (.int _)⟩
      | _ => exact q.elim
    | _ => exact q.elim) B0 H0 B H σ env P f Q q)
theorem e_fdiv (ha : DE C W X a ma) (hb : DE C W X b mb) : DE C W X (.BinOp a .FloorDiv b pos) (mBi ma mb fdivD) := fun B0 H0 B H σ env P f Q q =>
  wE_of (pe_op (op_fdivN.or op_fdivW) pw pw) (do2 (δ := D) ha hb keepsD (fun Hs Ha Hb B H σ P x y a b Q hs s p ra rb q => by
    cases ra with
    | int i => cases rb with
      | int j =>
        obtain ⟨h, q⟩ := okIf_post q
        unfold divOk at h
        simp only [Bool.and_eq_true, Bool.or_eq_true, decide_eq_true_eq] at h
        obtain ⟨h0, h | ⟨h1, h2⟩⟩ := h
        · exact .inl ⟨i, j, rfl, rfl, ⟨h0, h⟩, q.val s p (.int _)⟩
        · refine .inr ⟨i, j, rfl, rfl, ⟨h1, h2⟩, ?_⟩
          show Q (.int (i / j)) H
          rw [← Int.fdiv_eq_ediv_of_nonneg i (Int.le_of_lt h1)]
          exact q.val s p (.int _)
      | _ => exact q.elim
    | _ => exact q.elim) B0 H0 B H σ env P f Q q)
theorem e_mod (ha : DE C W X a ma) (hb : DE C W X b mb) : DE C W X (.BinOp a .Mod b pos) (mBi ma mb modD) := fun B0 H0 B H σ env P f Q q =>
  wE_of (pe_op op_modN pw pw) (do2 (δ := D) ha hb keepsD (fun Hs Ha Hb B H σ P x y a b Q hs s p ra rb q => by
    cases ra with
    | int i => cases rb with
      | int j =>
        obtain ⟨h, q⟩ := okIf_post q
        exact ⟨i, j, rfl, rfl, of_decide_eq_true h, q.val s p (.int _)⟩
      | _ => exact q.elim
    | _ => exact q.elim) B0 H0 B H σ env P f Q q)
theorem e_pow (ha : DE C W X a ma) (hb : DE C W X b mb) : DE C W X (.BinOp a .Pow b pos) (mBi ma mb powD) := fun B0 H0 B H σ env P f Q q =>
  wE_of (pe_op op_pow pw pw) (do2 (δ := D) ha hb keepsD (fun Hs Ha Hb B H σ P x y a b Q hs s p ra rb q => by
    cases ra with
    | int i => cases rb with
      | int j =>
        obtain ⟨h, q⟩ := okIf_post q
        unfold powOk at h
        simp only [Bool.and_eq_true, decide_eq_true_eq] at h
        exact ⟨i, j, rfl, rfl, ⟨h.1.1, h.1.2, h.2⟩, q.val s p (.int _)⟩
      | _ => exact q.elim
    | _ => exact q.elim) B0 H0 B H σ env P f Q q)
theorem e_neg (ha : DE C W X a ma) : DE C W X (.UnaryOp .USub a pos) (mUn ma negD) := fun B0 H0 B H σ env P f Q q =>
  wE_of (pe_un un_neg pw) (do1 ha (fun Hs Ha B H σ P x a Q hs s p ra q => by
    cases ra with
    | int i => exact ⟨i, rfl, q.val' s p (.int _)⟩
    | _ => exact q.elim) B0 H0 B H σ env P f Q q)
/-- lists put together -/
def catF (x y : D) : M (List D) := match x, y with
  | .lst xs, .lst ys => okIf (decide (xs.length + ys.length ≤ cap)) (xs ++ ys)
  | _, _ => M.stuck
def repF (x y : D) : M (List D) := match x, y with
  | .lst xs, .int k => okIf (decide (-(2 ^ 63) ≤ k) && decide (k < 2 ^ 63) && decide (xs.length * k.toNat ≤ cap)) (List.replicate k.toNat xs).flatten
  | _, _ => M.stuck
theorem Reps.rep {B : Hp} {vs : List V} {ds : List D} (r : Reps C B vs ds) : ∀ k : Nat, Reps C B (List.replicate k vs).flatten (List.replicate k ds).flatten
  | 0 => .nil
  | k + 1 => by
    rw [List.replicate_succ, List.replicate_succ, List.flatten_cons, List.flatten_cons]
    exact r.append (Reps.rep r k)
theorem f_cat (ha : DR C W X a ma) (hb : DR C W X b mb) : DF C W X (.BinOp a .Add b pos) (mBi ma mb catF) := fun B0 H0 B H σ env P f Q q =>
  wE_of (pe_op op_cat pw pw) (do2 (δ := D) ha hb keepsR (fun Hs Ha Hb B H σ P x y a b Q hs s p ra rb q => by
    unfold catF at q
    split at q
    · obtain ⟨h, q⟩ := okIf_post q
      have h := of_decide_eq_true h
      obtain ⟨l, vs, rfl, r1, h1⟩ := ra.lst s
      obtain ⟨m, ws, rfl, r2, h2⟩ := rb.lst s
      rw [← r1.length, ← r2.length] at h
      exact ⟨l, m, vs, ws, rfl, rfl, h1, h2, cap_le h, fun l hl => q.newL hs s p (r1.append r2) l hl⟩
    · exact q.elim) B0 H0 B H σ env P f Q q)
theorem f_rep (ha : DR C W X a ma) (hb : DE C W X b mb) : DF C W X (.BinOp a .Mult b pos) (mBi ma mb repF) := fun B0 H0 B H σ env P f Q q =>
  wE_of (pe_op op_rep pw pw) (do2 (δ := D) ha hb keepsR (fun Hs Ha Hb B H σ P x y a b Q hs s p ra rb q => by
    unfold repF at q
    split at q
    · obtain ⟨h, q⟩ := okIf_post q
      simp only [Bool.and_eq_true, decide_eq_true_eq] at h
      obtain ⟨l, vs, rfl, r1, h1⟩ := ra.lst s
      cases rb
      rw [← r1.length] at h
      exact ⟨l, _, vs, rfl, rfl, h1, h.1.1, h.1.2, cap_le h.2, fun l hl => q.newL hs s p (r1.rep _) l hl⟩
    · exact q.elim) B0 H0 B H σ env P f Q q)
end
end PD

set_option Elab.async false
set_option linter.all false
set_option maxRecDepth 100000
/-! PD3: comparisons, tests, calls of built-ins, displays, parts. -/
namespace PD
open PySem PySem.Spec PyProof.Rows L2
section
variable {C : Cn} {W : WX} {X : Cx} {a b c e : Expr} {pos : Pos} {ma mb mc m : Ev → M D}

/-! ### comparisons -/
def eqD (x y : D) : M Bool := match toPy x, toPy y with
  | some p, some q => okIf (SeqAt.shaped p && SeqAt.shaped q) (PyData.eqv p q)
  | _, _ => M.stuck
def neD (x y : D) : M Bool := M.bind (eqD x y) fun b => M.ok (!b)
def ltD : D → D → M Bool
  | .int i, .int j => M.ok (decide (i < j))
  | _, _ => M.stuck
def leD : D → D → M Bool
  | .int i, .int j => M.ok (decide (i ≤ j))
  | _, _ => M.stuck
def gtD : D → D → M Bool
  | .int i, .int j => M.ok (decide (j < i))
  | _, _ => M.stuck
def geD : D → D → M Bool
  | .int i, .int j => M.ok (decide (j ≤ i))
  | _, _ => M.stuck
def isNonD : D → Bool
  | .non => true
  | _ => false
def isD (x y : D) : M Bool := if isNonD y then M.ok (isNonD x) else M.stuck
def isNotD (x y : D) : M Bool := if isNonD y then M.ok (!isNonD x) else M.stuck
/-- a flat value -/
def flatD : D → Option V
  | .non => some .non
  | .bl b => some (.bl b)
  | .int i => some (.int i)
  | .str x => some (.str x)
  | _ => none
def flatDs : List D → Option (List V)
  | [] => some []
  | x :: xs => match flatD x, flatDs xs with
    | some v, some vs => some (v :: vs)
    | _, _ => none
def optM {α : Type} : Option α → M α
  | some a => M.ok a
  | none => M.stuck
@[simp] theorem optM_some {α : Type} (a : α) : optM (some a) = M.ok a := rfl
def inO (x y : D) : Option Bool := match y with
  | .str z => match x with
    | .str w => some (!(Builtin.Str.occurrences z w 0 z.length 1).isEmpty)
    | _ => none
  | .lst ys => match flatD x, flatDs ys with
    | some v, some vs => some (inV v vs)
    | _, _ => match toPy x, toPys ys with
      | some d, some ds => if SeqAt.shaped d && SeqAt.shaped (.list ds) then some (ds.any fun z => PyData.eqv z d) else none
      | _, _ => none
  | .tup ys => match flatD x, flatDs ys with
    | some v, some vs => some (inV v vs)
    | _, _ => none
  | _ => none
def inD (x y : D) : M Bool := optM (inO x y)
def notInD (x y : D) : M Bool := M.bind (inD x y) fun b => M.ok (!b)

def CmpOk (C : Cn) (X : Cx) (op : CmpOp) (f : D → D → M Bool) : Prop := ∃ r : R2, OpR X (compareOp op) r ∧
  ∀ W Ha Hb B H (σ : L2.St) P x y a b (Q : VK), Same B H → Pur C B H P → RR C Ha B H x a → RR C Hb B H y b → Post C W σ B H (fun _ _ (k : Bool) c => k = c) (f a b P) (fun k H' => Q (.bl k) H') → r x y H Q

theorem flatD_flat {Hs B H : Hp} {v w : V} {d : D} (r : RR C Hs B H v d) (e : flatD d = some w) : v = w ∧ flatV v = true := by
  cases d <;> simp [flatD] at e <;> subst e
  · exact ⟨r.non, by rw [r.non]; rfl⟩
  · exact ⟨r.bl, by rw [r.bl]; rfl⟩
  · exact ⟨r.int, by rw [r.int]; rfl⟩
  · exact ⟨r.str, by rw [r.str]; rfl⟩
theorem flatDs_flat {B : Hp} : ∀ {vs ws : List V} {ds : List D}, Reps C B vs ds → flatDs ds = some ws → vs = ws ∧ vs.all flatV = true
  | _, _, _, .nil, e => by unfold flatDs at e; cases e; exact ⟨rfl, rfl⟩
  | _, _, _, .cons (d := d) (ds := ds) r t, e => by
    unfold flatDs at e
    cases h : flatD d with
    | none => rw [h] at e; cases e
    | some v => cases h2 : flatDs ds with
      | none => rw [h, h2] at e; cases e
      | some vs =>
        rw [h, h2] at e; cases e
        obtain ⟨e1, f1⟩ := flatD_flat (Hs := B) (H := B) (.inl r) h
        obtain ⟨e2, f2⟩ := flatDs_flat t h2
        subst e1 e2
        exact ⟨rfl, by rw [List.all_cons, f1, f2]; rfl⟩

theorem c_eq (hu : X.A.units + 64 < cLine) (hK : X.K = C.K := by rfl) : CmpOk C X .Eq eqD := ⟨_, op_eqD hu, fun W Ha Hb B H σ P x y a b Q s p ra rb q => by
  unfold eqD at q
  cases e1 : toPy a with
  | none => rw [e1] at q; exact q.elim
  | some d => cases e2 : toPy b with
    | none => rw [e1, e2] at q; exact q.elim
    | some d2 =>
      rw [e1, e2] at q
      obtain ⟨h, q⟩ := okIf_post q
      obtain ⟨h1, h2⟩ := Bool.and_eq_true_iff.mp h
      exact ⟨d, d2, by rw [hK]; exact ra.dp s e1, by rw [hK]; exact rb.dp s e2, h1, h2, q.val s p rfl⟩⟩
theorem Post.notB {σ : L2.St} {B H : Hp} {m : M Bool} {P : Pu} {Q : Bool → Hp → Prop} (h : Post C W σ B H (fun _ _ (k : Bool) c => k = c) (M.bind m (fun b => M.ok (!b)) P) Q) : Post C W σ B H (fun _ _ (k : Bool) c => k = c) (m P) (fun k H' => Q (!k) H') := by
  unfold M.bind at h
  cases e : m P with
  | stuck => rw [e] at h; exact h
  | exc x P' => rw [e] at h; exact h
  | ok c P' =>
    rw [e] at h
    rintro y B' H' g p rfl
    exact h (!y) B' H' g p rfl
theorem c_ne (hu : X.A.units + 64 < cLine) (hK : X.K = C.K := by rfl) : CmpOk C X .NotEq neD := ⟨_, op_neD hu, fun W Ha Hb B H σ P x y a b Q s p ra rb q => by
  have q := Post.notB q
  unfold eqD at q
  cases e1 : toPy a with
  | none => rw [e1] at q; exact q.elim
  | some d => cases e2 : toPy b with
    | none => rw [e1, e2] at q; exact q.elim
    | some d2 =>
      rw [e1, e2] at q
      obtain ⟨h, q⟩ := okIf_post q
      obtain ⟨h1, h2⟩ := Bool.and_eq_true_iff.mp h
      exact ⟨d, d2, by rw [hK]; exact ra.dp s e1, by rw [hK]; exact rb.dp s e2, h1, h2, q.val s p rfl⟩⟩
theorem c_int {op : CmpOp} {p : Int → Int → Bool} {f : D → D → M Bool} (ho : OpR X (compareOp op) (rI0 fun i j => .bl (p i j))) (h1 : ∀ x y P, f x y P ≠ .stuck → ∃ i j, x = .int i ∧ y = .int j) (h2 : ∀ i j, f (.int i) (.int j) = M.ok (p i j)) : CmpOk C X op f :=
  ⟨_, ho, fun W Ha Hb B H σ P x y a b Q s pu ra rb q => by
    obtain ⟨i, j, rfl, rfl⟩ := h1 a b P (fun e => by rw [e] at q; exact q)
    rw [h2] at q
    exact ⟨i, j, ra.int, rb.int, q.val' s pu rfl⟩⟩
theorem c_lt : CmpOk C X .Lt ltD := c_int op_lt (fun x y P h => by cases x <;> first | exact absurd rfl h | (cases y <;> first | exact absurd rfl h | exact ⟨_, _, rfl, rfl⟩)) fun _ _ => rfl
theorem c_le : CmpOk C X .LtE leD := c_int op_le (fun x y P h => by cases x <;> first | exact absurd rfl h | (cases y <;> first | exact absurd rfl h | exact ⟨_, _, rfl, rfl⟩)) fun _ _ => rfl
theorem c_gt : CmpOk C X .Gt gtD := c_int op_gt (fun x y P h => by cases x <;> first | exact absurd rfl h | (cases y <;> first | exact absurd rfl h | exact ⟨_, _, rfl, rfl⟩)) fun _ _ => rfl
theorem c_ge : CmpOk C X .GtE geD := c_int op_ge (fun x y P h => by cases x <;> first | exact absurd rfl h | (cases y <;> first | exact absurd rfl h | exact ⟨_, _, rfl, rfl⟩)) fun _ _ => rfl
theorem RR.isNon {Hs B H : Hp} {v : V} {d : D} (r : RR C Hs B H v d) : decide (v = .non) = isNonD d := by
  rcases r with r | ⟨xs, p, vs, rfl, rfl, _⟩
  · cases r <;> rfl
  · rfl
theorem c_is : CmpOk C X .Is isD := ⟨_, op_isN, fun W Ha Hb B H σ P x y a b Q s p ra rb q => by
  unfold isD at q
  split at q
  · rename_i h
    rw [← rb.isNon] at h
    exact ⟨of_decide_eq_true h, by rw [ra.isNon]; exact q.val' s p rfl⟩
  · exact q.elim⟩
theorem c_isNot : CmpOk C X .IsNot isNotD := ⟨_, op_notN, fun W Ha Hb B H σ P x y a b Q s p ra rb q => by
  unfold isNotD at q
  split at q
  · rename_i h
    rw [← rb.isNon] at h
    exact ⟨of_decide_eq_true h, by rw [ra.isNon]; exact q.val' s p rfl⟩
  · exact q.elim⟩
theorem c_in (hu : X.A.units + 65 < cLine) (hK : X.K = C.K := by rfl) : CmpOk C X .In inD := ⟨_, (op_in_str.or op_in_seq).or (op_inD hu), fun W Ha Hb B H σ P x y a b Q s p ra rb q => by
  unfold inD at q
  cases e : inO a b with
  | none => rw [e] at q; exact q.elim
  | some k =>
    rw [e] at q
    have q := q.val' s p rfl
    unfold inO at e
    split at e
    · split at e
      · cases e; exact .inl (.inl ⟨_, _, ra.str, rb.str, q⟩)
      · cases e
    · rename_i ys
      obtain ⟨l, vs, rfl, r, hl⟩ := rb.lst s
      split at e
      · rename_i v ws e1 e2
        cases e
        obtain ⟨rfl, f1⟩ := flatD_flat ra e1
        obtain ⟨rfl, f2⟩ := flatDs_flat r e2
        exact .inl (.inr ⟨l, vs, rfl, .inl (SqL.of hl), f1, f2, q⟩)
      · split at e
        · rename_i d ds e1 e2
          split at e
          · rename_i h
            cases e
            obtain ⟨h1, h2⟩ := Bool.and_eq_true_iff.mp h
            exact .inr ⟨d, ds, by rw [hK]; exact ra.dp s e1, by rw [hK]; exact rb.dp (d := .lst ys) s (by unfold toPy; rw [e2]; rfl), h1, h2, q⟩
          · cases e
        · cases e
    · obtain ⟨l, vs, rfl, r, hl⟩ := rb.tup s
      split at e
      · rename_i v ws e1 e2
        cases e
        obtain ⟨rfl, f1⟩ := flatD_flat ra e1
        obtain ⟨rfl, f2⟩ := flatDs_flat r e2
        exact .inl (.inr ⟨l, vs, rfl, .inr (by rw [hK]; exact hl), f1, f2, q⟩)
      · cases e
    · cases e⟩
theorem c_notIn (hu : X.A.units + 65 < cLine) (hK : X.K = C.K := by rfl) : CmpOk C X .NotIn notInD := ⟨_, (op_notin_str.or op_notIn_seq).or (op_notInD hu), fun W Ha Hb B H σ P x y a b Q s p ra rb q => by
  have q := Post.notB q
  unfold inD at q
  cases e : inO a b with
  | none => rw [e] at q; exact q.elim
  | some k =>
    rw [e] at q
    have q := q.val' s p rfl
    unfold inO at e
    split at e
    · split at e
      · cases e; exact .inl (.inl ⟨_, _, ra.str, rb.str, q⟩)
      · cases e
    · rename_i ys
      obtain ⟨l, vs, rfl, r, hl⟩ := rb.lst s
      split at e
      · rename_i v ws e1 e2
        cases e
        obtain ⟨rfl, f1⟩ := flatD_flat ra e1
        obtain ⟨rfl, f2⟩ := flatDs_flat r e2
        exact .inl (.inr ⟨l, vs, rfl, .inl (SqL.of hl), f1, f2, q⟩)
      · split at e
        · rename_i d ds e1 e2
          split at e
          · rename_i h
            cases e
            obtain ⟨h1, h2⟩ := Bool.and_eq_true_iff.mp h
            exact .inr ⟨d, ds, by rw [hK]; exact ra.dp s e1, by rw [hK]; exact rb.dp (d := .lst ys) s (by unfold toPy; rw [e2]; rfl), h1, h2, q⟩
          · cases e
        · cases e
    · obtain ⟨l, vs, rfl, r, hl⟩ := rb.tup s
      split at e
      · rename_i v ws e1 e2
        cases e
        obtain ⟨rfl, f1⟩ := flatD_flat ra e1
        obtain ⟨rfl, f2⟩ := flatDs_flat r e2
        exact .inl (.inr ⟨l, vs, rfl, .inr (by rw [hK]; exact hl), f1, f2, q⟩)
      · cases e
    · cases e⟩
def blM (m : M Bool) : M D := M.bind m fun b => M.ok (.bl b)
theorem Post.bl {σ : L2.St} {B H : Hp} {m : M Bool} {P : Pu} {Q : VK} {Hs : Hp} (h : Post C W σ B H (RD C Hs) (blM m P) Q) : Post C W σ B H (fun _ _ (k : Bool) c => k = c) (m P) (fun k H' => Q (.bl k) H') := by
  unfold blM M.bind at h
  cases e : m P with
  | stuck => rw [e] at h; exact h
  | exc x P' => rw [e] at h; exact h
  | ok c P' =>
    rw [e] at h
    rintro y B' H' g p rfl
    exact h (.bl y) B' H' g p (.bl y)
theorem e_cmp {op : CmpOp} {f : D → D → M Bool} (ho : CmpOk C X op f) (ha : DR C W X a ma) (hb : DR C W X b mb) (hm : behindInMarks op b = false := by first | exact nomark _ | rfl) : DE C W X (.Compare a [op] [b] pos) (mBi ma mb fun x y => blM (f x y)) := by
  obtain ⟨r, h, k⟩ := ho
  exact fun B0 H0 B H σ env P fr Q q => wE_of (pe_cmpR h pw pw hm) (do2 (δ := D) ha hb keepsR (fun Hs Ha Hb B H σ P x y a b Q hs s p ra rb q => k W Ha Hb B H σ P x y a b Q s p ra rb q.bl) B0 H0 B H σ env P fr Q q)
/-- a test as it is written -/
theorem t_cmp {op : CmpOp} {f : D → D → M Bool} (ho : CmpOk C X op f) (ha : DR C W X a ma) (hb : DR C W X b mb) (hm : behindInMarks op b = false := by first | exact nomark _ | rfl) : DT C W X (.Compare a [op] [b] pos) (mBi ma mb f) := by
  obtain ⟨r, h, k⟩ := ho
  exact fun B0 H0 B H σ env P fr Q q => wT_of (pt_cmpR h pw pw hm) (ha B0 H0 B H σ env P fr _ (Post.bind q fun x P1 _ v B1 H1 g1 p1 r1 q =>
    hb B0 H0 B1 H1 σ env P1 (fr.grow g1 p1) _ (Post.bind q fun y P2 _ u B2 H2 g2 p2 r2 q => k W H H1 B2 H2 σ P2 v u x y _ g2.sub p2 (keepsR r1 g2) r2 (q.imp fun k H' z => ⟨k, rfl, z⟩))))
def mChain (ma mb mc : Ev → M D) (f g : D → D → M Bool) : Ev → M Bool := fun env => M.bind (ma env) fun x => M.bind (mb env) fun y => M.bind (f x y) fun k => if k then M.bind (mc env) fun z => g y z else M.ok false
theorem Post.bindB {σ : L2.St} {B H : Hp} {γ δ : Type} {S : Hp → Hp → δ → γ → Prop} {m : M Bool} {f : Bool → M γ} {P : Pu} {Q : δ → Hp → Prop} {Q' : Bool → Hp → Prop}
    (h : Post C W σ B H S (M.bind m f P) Q) (k : ∀ a P', m P = .ok a P' → ∀ B' H', Grow C B H B' H' → Pur C B' H' P' → Post C W σ B' H' S (f a P') Q → Q' a H') : Post C W σ B H (fun _ _ (k : Bool) c => k = c) (m P) Q' :=
  Post.bind h fun a P' e y B' H' g p r q => by
    subst r
    exact k y P' e B' H' g p q
theorem t_chain {op op' : CmpOp} {f g : D → D → M Bool} (ho : CmpOk C X op f) (ho' : CmpOk C X op' g) (ha : DR C W X a ma) (hb : DR C W X b mb) (hc : DR C W X c mc) (hm : behindInMarks op' c = false := by first | exact nomark _ | rfl) :
    DT C W X (.Compare a [op, op'] [b, c] pos) (mChain ma mb mc f g) := by
  obtain ⟨r, h, k⟩ := ho
  obtain ⟨r', h', k'⟩ := ho'
  exact fun B0 H0 B H σ env P fr Q q => wT_of (pt_chain h h' pw pw pw hm) (ha B0 H0 B H σ env P fr _ (Post.bind q fun x P1 _ v B1 H1 g1 p1 r1 q =>
    hb B0 H0 B1 H1 σ env P1 (fr.grow g1 p1) _ (Post.bind q fun y P2 _ u B2 H2 g2 p2 r2 q => k W H H1 B2 H2 σ P2 v u x y _ g2.sub p2 (keepsR r1 g2) r2 (Post.bindB q fun kk P3 _ B3 H3 g3 p3 q => ⟨kk, rfl, by
      cases kk with
      | true => exact hc B0 H0 B3 H3 σ env P3 (((fr.grow g1 p1).grow g2 p2).grow g3 p3) _ (Post.bind q fun z P4 _ w B4 H4 g4 p4 r4 q => k' W H1 H3 B4 H4 σ P4 u w y z _ g4.sub p4 (keepsR (keepsR r2 g3) g4) r4 (q.imp fun k H' z => ⟨k, rfl, z⟩))
      | false => exact ⟨false, rfl, q.val' g3.sub p3 rfl⟩⟩))))
theorem e_chain {op op' : CmpOp} {f g : D → D → M Bool} (ho : CmpOk C X op f) (ho' : CmpOk C X op' g) (ha : DR C W X a ma) (hb : DR C W X b mb) (hc : DR C W X c mc) (hm : behindInMarks op' c = false := by first | exact nomark _ | rfl) :
    DE C W X (.Compare a [op, op'] [b, c] pos) (fun env => blM (mChain ma mb mc f g env)) := by
  obtain ⟨r, h, k⟩ := ho
  obtain ⟨r', h', k'⟩ := ho'
  exact fun B0 H0 B H σ env P fr Q q => wE_of (pe_chain h h' pw pw pw hm) (ha B0 H0 B H σ env P fr _ (Post.bind q.bl fun x P1 _ v B1 H1 g1 p1 r1 q =>
    hb B0 H0 B1 H1 σ env P1 (fr.grow g1 p1) _ (Post.bind q fun y P2 _ u B2 H2 g2 p2 r2 q => k W H H1 B2 H2 σ P2 v u x y _ g2.sub p2 (keepsR r1 g2) r2 (Post.bindB q fun kk P3 _ B3 H3 g3 p3 q => ⟨kk, rfl, by
      cases kk with
      | true => exact hc B0 H0 B3 H3 σ env P3 (((fr.grow g1 p1).grow g2 p2).grow g3 p3) _ (Post.bind q fun z P4 _ w B4 H4 g4 p4 r4 q => k' W H1 H3 B4 H4 σ P4 u w y z _ g4.sub p4 (keepsR (keepsR r2 g3) g4) r4 q)
      | false => exact q.val' g3.sub p3 rfl⟩))))

/-! ### tests, and, or, not -/
def asB : D → M Bool
  | .bl b => M.ok b
  | _ => M.stuck
def mT (m : Ev → M D) : Ev → M Bool := fun env => M.bind (m env) asB
theorem t_val (h : DE C W X e m) (he : ∀ whole, isTrue e X.env whole = (do let v ← whole; standAt e.pos; holding [v] (truthy v)) := by intro _; rfl) : DT C W X e (mT m) := fun B0 H0 B H σ env P fr Q q =>
  wT_of (pt_val pw he) (h B0 H0 B H σ env P fr _ (Post.bind q fun x P1 _ v B1 H1 g1 p1 r1 q => by
    cases r1 with
    | bl b => exact ⟨b, rfl, q.val' g1.sub p1 rfl⟩
    | _ => exact q.elim))
/-- truth of any value -/
def truD : D → M Bool
  | .non => M.ok false
  | .bl b => M.ok b
  | .int i => M.ok (i != 0)
  | .str x => okIf (decide (x.length ≤ cap)) ((x.length : Int) != 0)
  | .lst xs => M.ok (!xs.isEmpty)
  | .tup xs => M.ok (!xs.isEmpty)
  | _ => M.stuck
theorem Reps.isEmpty {B : Hp} {vs : List V} {ds : List D} (r : Reps C B vs ds) : vs.isEmpty = ds.isEmpty := by cases r <;> rfl
theorem t_tru (h : DR C W X e m) (he : ∀ whole, isTrue e X.env whole = (do let v ← whole; standAt e.pos; holding [v] (truthy v)) := by intro _; rfl) (hK : X.K = C.K := by rfl) : DT C W X e (mUn m truD) := fun B0 H0 B H σ env P fr Q q =>
  wT_of (pt_truth pw he) (h B0 H0 B H σ env P fr _ (Post.bind q fun x P1 _ v B1 H1 g1 p1 r1 q => by
    cases x with
    | non => rw [r1.non]; exact ⟨false, rfl, q.val' g1.sub p1 rfl⟩
    | bl b => rw [r1.bl]; exact ⟨b, rfl, q.val' g1.sub p1 rfl⟩
    | int i => rw [r1.int]; exact ⟨_, rfl, q.val' g1.sub p1 rfl⟩
    | str z =>
      obtain ⟨h, q⟩ := okIf_post q
      rw [r1.str]; exact ⟨_, ⟨cap_le (of_decide_eq_true h), rfl⟩, q.val g1.sub p1 rfl⟩
    | lst xs =>
      obtain ⟨l, vs, rfl, r, hl⟩ := r1.lst g1.sub
      exact ⟨_, .inl ⟨vs, SqL.of hl, rfl⟩, by rw [r.isEmpty]; exact q.val' g1.sub p1 rfl⟩
    | tup xs =>
      obtain ⟨l, vs, rfl, r, hl⟩ := r1.tup g1.sub
      exact ⟨_, .inr (.inl ⟨vs, by rw [hK]; exact hl, rfl⟩), by rw [r.isEmpty]; exact q.val' g1.sub p1 rfl⟩
    | _ => exact q.elim))
def wW (X : Cx) (e : Expr) : TT := fun σ H Q => ∀ whole pins s, Inv X pins σ H s → wpAny (model X.prog X.w) X.A (isTrue e X.env whole) (TP X pins σ Q) X.xe s
theorem ww : PW X e (wW X e) := ⟨fun whole pins s σ H Q I h => h whole pins s I⟩
theorem wW_of {t : TT} (h : PW X e t) {σ : L2.St} {H : Hp} {Q : Bool → Hp → Prop} (q : t σ H Q) : wW X e σ H Q := fun whole pins s I => h.run whole pins s σ H Q I q
abbrev DW (C : Cn) (W : WX) (X : Cx) (e : Expr) (m : Ev → M Bool) : Prop := Do C W (wW X e) RB m
variable {na nb nc : Ev → M Bool} {rest : List Expr}
def mAnd (na nb : Ev → M Bool) : Ev → M Bool := fun env => M.bind (na env) fun k => if k then nb env else M.ok false
def mOr (na nb : Ev → M Bool) : Ev → M Bool := fun env => M.bind (na env) fun k => if k then M.ok true else nb env
def mNot (na : Ev → M Bool) : Ev → M Bool := fun env => M.bind (na env) fun k => M.ok (!k)
theorem t_w (h : DW C W X e na) : DT C W X e na := fun B0 H0 B H σ env P fr Q q => wT_of ww.pt (h B0 H0 B H σ env P fr Q q)
theorem w_and1 (h : DT C W X a na) : DW C W X (.BoolOp .And [a] pos) na := fun B0 H0 B H σ env P fr Q q => wW_of (pw_and1 tw) (h B0 H0 B H σ env P fr Q q)
theorem w_or1 (h : DT C W X a na) : DW C W X (.BoolOp .Or [a] pos) na := fun B0 H0 B H σ env P fr Q q => wW_of (pw_or1 tw) (h B0 H0 B H σ env P fr Q q)
theorem w_and (ha : DT C W X a na) (hb : DW C W X (.BoolOp .And (b :: rest) pos) nb) : DW C W X (.BoolOp .And (a :: b :: rest) pos) (mAnd na nb) := fun B0 H0 B H σ env P fr Q q =>
  wW_of (pw_and tw ww) (ha B0 H0 B H σ env P fr _ (Post.bindB q fun k P1 _ B1 H1 g1 p1 q => by
    cases k with
    | true => exact iteT (hb B0 H0 B1 H1 σ env P1 (fr.grow g1 p1) _ q)
    | false => exact iteF (q.val' g1.sub p1 rfl)))
theorem w_or (ha : DT C W X a na) (hb : DW C W X (.BoolOp .Or (b :: rest) pos) nb) : DW C W X (.BoolOp .Or (a :: b :: rest) pos) (mOr na nb) := fun B0 H0 B H σ env P fr Q q =>
  wW_of (pw_or tw ww) (ha B0 H0 B H σ env P fr _ (Post.bindB q fun k P1 _ B1 H1 g1 p1 q => by
    cases k with
    | true => exact iteT (q.val' g1.sub p1 rfl)
    | false => exact iteF (hb B0 H0 B1 H1 σ env P1 (fr.grow g1 p1) _ q)))
theorem t_not (h : DT C W X a na) : DT C W X (.UnaryOp .Not a pos) (mNot na) := fun B0 H0 B H σ env P fr Q q =>
  wT_of (pt_not tw) (h B0 H0 B H σ env P fr _ (Post.notB q))
def mAndV (ma mb : Ev → M D) : Ev → M D := fun env => M.bind (M.bind (ma env) asB) fun k => if k then mb env else M.ok (.bl false)
def mOrV (ma mb : Ev → M D) : Ev → M D := fun env => M.bind (M.bind (ma env) asB) fun k => if k then M.ok (.bl true) else mb env
theorem bind_assoc {α β γ : Type} (m : M α) (f : α → M β) (g : β → M γ) : M.bind (M.bind m f) g = M.bind m fun a => M.bind (f a) g := by
  funext P
  unfold M.bind
  cases m P <;> rfl
theorem e_one {op : BoolOp} (h : DE C W X a ma) : DE C W X (.BoolOp op [a] pos) ma := fun B0 H0 B H σ env P fr Q q => wE_of (pe_one pw) (h B0 H0 B H σ env P fr Q q)
theorem e_and (ha : DE C W X a ma) (hb : DE C W X (.BoolOp .And (b :: rest) pos) mb) : DE C W X (.BoolOp .And (a :: b :: rest) pos) (mAndV ma mb) := fun B0 H0 B H σ env P fr Q q =>
  wE_of (pe_and pw pw) (ha B0 H0 B H σ env P fr _ (by
    unfold mAndV at q
    rw [bind_assoc] at q
    exact Post.bind q fun x P1 _ v B1 H1 g1 p1 r1 q => by
      cases r1 with
      | bl k => cases k with
        | true => exact ⟨true, rfl, iteT (hb B0 H0 B1 H1 σ env P1 (fr.grow g1 p1) _ q)⟩
        | false => exact ⟨false, rfl, iteF (q.val' g1.sub p1 (.bl false))⟩
      | _ => exact q.elim))
theorem e_or (ha : DE C W X a ma) (hb : DE C W X (.BoolOp .Or (b :: rest) pos) mb) : DE C W X (.BoolOp .Or (a :: b :: rest) pos) (mOrV ma mb) := fun B0 H0 B H σ env P fr Q q =>
  wE_of (pe_or pw pw) (ha B0 H0 B H σ env P fr _ (by
    unfold mOrV at q
    rw [bind_assoc] at q
    exact Post.bind q fun x P1 _ v B1 H1 g1 p1 r1 q => by
      cases r1 with
      | bl k => cases k with
        | true => exact ⟨true, rfl, iteT (q.val' g1.sub p1 (.bl true))⟩
        | false => exact ⟨false, rfl, iteF (hb B0 H0 B1 H1 σ env P1 (fr.grow g1 p1) _ q)⟩
      | _ => exact q.elim))
def notD : D → M D
  | .bl b => M.ok (.bl (!b))
  | _ => M.stuck
theorem e_not (h : DE C W X a ma) : DE C W X (.UnaryOp .Not a pos) (mUn ma notD) := fun B0 H0 B H σ env P fr Q q =>
  wE_of (pe_not pw) (h B0 H0 B H σ env P fr _ (Post.bind q fun x P1 _ v B1 H1 g1 p1 r1 q => by
    cases r1 with
    | bl b => exact ⟨b, rfl, q.val' g1.sub p1 (.bl _)⟩
    | _ => exact q.elim))
def mIf {α : Type} (nc : Ev → M Bool) (ma mb : Ev → M α) : Ev → M α := fun env => M.bind (nc env) fun k => if k then ma env else mb env
theorem do_if {t : TT} {ta tb : TE} {α : Type} {R : Hp → Hp → Hp → V → α → Prop} {ma mb : Ev → M α} (kr : ∀ {Hs Hs' B H x a}, (∀ p, Hs p = none → Hs' p = none) → R Hs B H x a → R Hs' B H x a) (hc : Do C W t RB nc) (ha : Do C W ta R ma) (hb : Do C W tb R mb) : Do C W (tIf t ta tb) R (mIf nc ma mb) := fun B0 H0 B H σ env P fr Q q =>
  hc B0 H0 B H σ env P fr _ (Post.bindB q fun k P1 _ B1 H1 g1 p1 q => by
    have up : ∀ {r : Res α}, Post C W σ B1 H1 (R H) r Q → Post C W σ B1 H1 (R H1) r Q := fun {r} h => by
      cases r with
      | stuck => exact h
      | exc x P => exact h
      | ok a P => exact fun y B' H' g p r => h y B' H' g p (kr (fun _ z => g1.there z) r)
    cases k with
    | true => exact iteT (ha B0 H0 B1 H1 σ env P1 (fr.grow g1 p1) _ (up q))
    | false => exact iteF (hb B0 H0 B1 H1 σ env P1 (fr.grow g1 p1) _ (up q)))
theorem e_if (hc : DT C W X c nc) (ha : DE C W X a ma) (hb : DE C W X b mb) : DE C W X (.IfExp c a b pos) (mIf nc ma mb) := fun B0 H0 B H σ env P fr Q q =>
  wE_of (pe_ifExp tw pw pw) (do_if (R := RD C) (fun _ r => r) hc ha hb B0 H0 B H σ env P fr Q q)
theorem f_if {ma mb : Ev → M (List D)} (hc : DT C W X c nc) (ha : DF C W X a ma) (hb : DF C W X b mb) : DF C W X (.IfExp c a b pos) (mIf nc ma mb) := fun B0 H0 B H σ env P fr Q q =>
  wE_of (pe_ifExp tw pw pw) (do_if (R := RF C) (fun k r => let ⟨p, vs, e, h0, r⟩ := r; ⟨p, vs, e, k p h0, r⟩) hc ha hb B0 H0 B H σ env P fr Q q)
end
end PD

set_option Elab.async false
set_option linter.all false
set_option maxRecDepth 100000
/-! PD4: displays, built-in calls, parts of sequences, methods of texts. -/
namespace PD
open PySem PySem.Spec PyProof.Rows L2
section
variable {C : Cn} {W : WX} {X : Cx} {a b c e : Expr} {es : List Expr} {p pos : Pos} {ma mb mc m : Ev → M D} {ms : Ev → M (List D)}

/-! ### arguments -/
def RRx (C : Cn) (B H : Hp) : List V → List D → Prop
  | [], [] => True
  | v :: vs, d :: ds => RR C B B H v d ∧ RRx C B H vs ds
  | _, _ => False
abbrev RRs (C : Cn) : Hp → Hp → Hp → List V → List D → Prop := fun _ B H => RRx C B H
theorem keepsRs {B H B' H' : Hp} (g : Grow C B H B' H') : ∀ {x : List V} {a : List D}, RRx C B H x a → RRx C B' H' x a
  | [], [], _ => trivial
  | _ :: _, _ :: _, ⟨r, t⟩ => ⟨keepsR (Hs := B) r g, keepsRs g t⟩
theorem Post.opt {σ : L2.St} {B H : Hp} {α β : Type} {R : Hp → Hp → β → α → Prop} {o : Option α} {P : Pu} {Q : β → Hp → Prop} (h : Post C W σ B H R (optM o P) Q) : ∃ a, o = some a ∧ Post C W σ B H R (.ok a P) Q := by
  cases o with
  | none => exact h.elim
  | some a => exact ⟨a, rfl, h⟩
theorem keepsDs {Hs B H B' H' : Hp} {x : List V} {a : List D} (r : RDs C Hs B H x a) (g : Grow C B H B' H') : RDs C Hs B' H' x a := Reps.mono g.bb r
abbrev DAr (C : Cn) (W : WX) (X : Cx) (es : List Expr) (m : Ev → M (List D)) : Prop := Do C W (wA X es) (RRs C) m
def mNil : Ev → M (List D) := fun _ => M.ok []
def mCons (m : Ev → M D) (ms : Ev → M (List D)) : Ev → M (List D) := fun env => M.bind (m env) fun x => M.bind (ms env) fun xs => M.ok (x :: xs)
theorem a_nil : DA C W X [] mNil := fun B0 H0 B H σ env P fr Q q => wA_of pa_nil (q.val' fr.g.sub fr.pur .nil)
theorem ar_nil : DAr C W X [] mNil := fun B0 H0 B H σ env P fr Q q => wA_of pa_nil (q.val' (y := ([] : List V)) fr.g.sub fr.pur trivial)
theorem a_cons (h : DE C W X e m) (t : DA C W X es ms) (hs : starEach (e :: es) X.env = (false, eval e X.env) :: starEach es X.env := by rfl) : DA C W X (e :: es) (mCons m ms) := fun B0 H0 B H σ env P fr Q q =>
  wA_of (pa_cons pw aw hs) (h B0 H0 B H σ env P fr _ (Post.bind q fun x P1 _ v B1 H1 g1 p1 r1 q =>
    t B0 H0 B1 H1 σ env P1 (fr.grow g1 p1) _ (Post.bind q fun xs P2 _ vs B2 H2 g2 p2 r2 q => q.val' g2.sub p2 (.cons (keepsD (Hs := B) r1 g2) r2))))
theorem ar_cons (h : DR C W X e m) (t : DAr C W X es ms) (hs : starEach (e :: es) X.env = (false, eval e X.env) :: starEach es X.env := by rfl) : DAr C W X (e :: es) (mCons m ms) := fun B0 H0 B H σ env P fr Q q =>
  wA_of (pa_cons pw aw hs) (h B0 H0 B H σ env P fr _ (Post.bind q fun x P1 _ v B1 H1 g1 p1 r1 q =>
    t B0 H0 B1 H1 σ env P1 (fr.grow g1 p1) _ (Post.bind q fun xs P2 _ vs B2 H2 g2 p2 r2 q => q.val' (y := v :: vs) g2.sub p2 (show RRx C _ _ (v :: vs) (x :: xs) from ⟨keepsR (Hs := B) r1 g2, r2⟩))))

/-! ### displays -/
def mTup (ms : Ev → M (List D)) : Ev → M D := fun env => M.bind (ms env) fun ds => okIf (decide (ds.length ≤ cap)) (.tup ds)
def mLst (ms : Ev → M (List D)) : Ev → M (List D) := fun env => M.bind (ms env) fun ds => okIf (decide (ds.length ≤ cap)) ds
theorem e_tup {x1} (h : DA C W X es ms) : DE C W X (.Tuple es x1 pos) (mTup ms) := fun B0 H0 B H σ env P fr Q q =>
  wE_of (pe_tup aw) (h B0 H0 B H σ env P fr _ (Post.bind q fun ds P1 _ vs B1 H1 g1 p1 r1 q => by
    obtain ⟨h, q⟩ := okIf_post q
    have h := of_decide_eq_true h
    rw [← r1.length] at h
    exact ⟨cap_le h, fun l hl => q.newT g1.sub p1 r1 l hl⟩))
theorem f_lst (h : DA C W X es ms) : DF C W X (.List es pos) (mLst ms) := fun B0 H0 B H σ env P fr Q q =>
  wE_of (pe_lst aw) (h B0 H0 B H σ env P fr _ (Post.bind q fun ds P1 _ vs B1 H1 g1 p1 r1 q => by
    obtain ⟨h, q⟩ := okIf_post q
    have h := of_decide_eq_true h
    rw [← r1.length] at h
    exact ⟨cap_le h, fun l hl => q.newL (fun _ z => g1.there z) g1.sub p1 r1 l hl⟩))

/-! ### built-ins by name -/
def CallOk (C : Cn) (X : Cx) (g : Value) {γ : Type} (R : Hp → Hp → Hp → V → γ → Prop) (f : List D → M γ) : Prop := ∃ r, CallR X g r ∧
  ∀ W Hs Ha B H (σ : L2.St) P vs ds (Q : VK), (∀ p, H p = none → Hs p = none) → Same B H → Pur C B H P → RRs C Ha B H vs ds → Post C W σ B H (R Hs) (f ds P) Q → r vs H Q
theorem do_cb {f : Value} {γ : Type} {R : Hp → Hp → Hp → V → γ → Prop} {fm : List D → M γ} {r : List V → Hp → VK → Prop} (hr : ∀ W Hs Ha B H (σ : L2.St) P vs ds (Q : VK), (∀ p, H p = none → Hs p = none) → Same B H → Pur C B H P → RRs C Ha B H vs ds → Post C W σ B H (R Hs) (fm ds P) Q → r vs H Q)
    {ta : TA} (ha : Do C W ta (RRs C) ms) : Do C W (tCB r ta) R (mUn ms fm) := fun B0 H0 B H σ env P fr Q q =>
  ha B0 H0 B H σ env P fr _ (Post.bind q fun ds P1 _ vs B1 H1 g1 p1 r1 q => hr W H H B1 H1 σ P1 vs ds Q (fun _ z => g1.there z) g1.sub p1 r1 q)
theorem do_callB {x : Str} {id : String} {γ : Type} {R : Hp → Hp → Hp → V → γ → Prop} {f : List D → M γ} (hc : CallOk C X (.builtin id) R f) (ha : DAr C W X (e :: es) ms) (hm : X.mg x = none) (hg : Gl X x := by rfl) (hv : bootBuiltins x = some (.builtin id) := by decide +kernel) (hn : x ≠ "__name__" := by decide) (hdb : (x == ("__debug__" : Str)) = false := by decide)
    (he : starEach (e :: es) X.env = (false, eval e X.env) :: starEach es X.env := by rfl) (hpl : (backTo pos (starEach es X.env)).any (·.1) = false := by rfl) : Do C W (wE X (.Call (.Name x p) (e :: es) [] pos)) R (mUn ms f) := by
  obtain ⟨r, h, k⟩ := hc
  exact fun B0 H0 B H σ env P fr Q q => wE_of (pe_callB h hg hm hv aw hn hdb he hpl) (do_cb (f := .none) k ha B0 H0 B H σ env P fr Q q)
theorem do_callTy {x : Str} {T : String} {γ : Type} {R : Hp → Hp → Hp → V → γ → Prop} {f : List D → M γ} (hc : CallOk C X (.type T) R f) (ha : DAr C W X (e :: es) ms) (hm : X.mg x = none) (hg : Gl X x := by rfl) (hv : bootBuiltins x = some (.type T) := by decide +kernel) (hn : x ≠ "__name__" := by decide) (hdb : (x == ("__debug__" : Str)) = false := by decide)
    (he : starEach (e :: es) X.env = (false, eval e X.env) :: starEach es X.env := by rfl) (hpl : (backTo pos (starEach es X.env)).any (·.1) = false := by rfl) : Do C W (wE X (.Call (.Name x p) (e :: es) [] pos)) R (mUn ms f) := by
  obtain ⟨r, h, k⟩ := hc
  exact fun B0 H0 B H σ env P fr Q q => wE_of (pe_callTy h hg hm hv aw hn hdb he hpl) (do_cb (f := .none) k ha B0 H0 B H σ env P fr Q q)

theorem RRs.one {Hs B H : Hp} : ∀ {vs : List V} {d : D}, RRs C Hs B H vs [d] → ∃ v, vs = [v] ∧ RR C Hs B H v d
  | [v], _, ⟨r, _⟩ => ⟨v, rfl, r⟩
theorem RRs.two {Hs B H : Hp} : ∀ {vs : List V} {d d' : D}, RRs C Hs B H vs [d, d'] → ∃ v v', vs = [v, v'] ∧ RR C Hs B H v d ∧ RR C Hs B H v' d'
  | [v, v'], _, _, ⟨r, r', _⟩ => ⟨v, v', rfl, r, r'⟩

/-- a rule whose answer is one value of data, given as an Option -/
theorem callO {g : Value} {f : List D → Option D} {r} (h : CallR X g r)
    (k : ∀ Ha B H vs ds d (Q : VK), Same B H → RRs C Ha B H vs ds → f ds = some d → (∀ v, Rep C B v d → Q v H) → r vs H Q) : CallOk C X g (RD C) fun ds => optM (f ds) :=
  ⟨r, h, fun W Hs Ha B H σ P vs ds Q hs s p rr q => by
    obtain ⟨d, e, q⟩ := Post.opt (o := f ds) q
    exact k Ha B H vs ds d Q s rr e fun v hv => q.val s p hv⟩
def lenO : List D → Option D
  | [.str x] => if x.length ≤ cap then some (.int x.length) else none
  | [.lst xs] => some (.int xs.length)
  | [.tup xs] => some (.int xs.length)
  | [.scr xs] => some (.int xs.length)
  | _ => none
theorem cl_len (hK : X.K = C.K := by rfl) : CallOk C X (.builtin "len") (RD C) fun ds => optM (lenO ds) := callO call_len fun Ha B H vs ds d Q s rr e q => by
  unfold lenO at e
  split at e
  · split at e
    · rename_i h
      cases e
      obtain ⟨v, rfl, r⟩ := rr.one
      rw [r.str]
      exact ⟨_, _, rfl, ⟨cap_le h, rfl⟩, q _ (.int _)⟩
    · cases e
  · cases e
    obtain ⟨v, rfl, r⟩ := rr.one
    obtain ⟨l, us, rfl, r2, hl⟩ := r.lst s
    exact ⟨_, us.length, rfl, .inl ⟨us, SqL.of hl, rfl⟩, by rw [r2.length]; exact q _ (.int _)⟩
  · cases e
    obtain ⟨v, rfl, r⟩ := rr.one
    obtain ⟨l, us, rfl, r2, hl⟩ := r.tup s
    exact ⟨_, us.length, rfl, .inr ⟨us, by rw [hK]; exact hl, rfl⟩, by rw [r2.length]; exact q _ (.int _)⟩
  · cases e
    obtain ⟨v, rfl, r⟩ := rr.one
    obtain ⟨l, us, rfl, r2, hl⟩ := r.scr s
    exact ⟨_, us.length, rfl, .inl ⟨us, by rw [hK]; exact hl, rfl⟩, by rw [r2.length]; exact q _ (.int _)⟩
  · cases e
def absO : List D → Option D
  | [.int i] => some (.int (if i < 0 then -i else i))
  | _ => none
theorem cl_abs : CallOk C X (.builtin "abs") (RD C) fun ds => optM (absO ds) := callO call_abs fun Ha B H vs ds d Q s rr e q => by
  unfold absO at e
  split at e
  · cases e
    obtain ⟨v, rfl, r⟩ := rr.one
    rw [r.int]
    exact ⟨_, rfl, q _ (.int _)⟩
  · cases e
def intO : List D → Option D
  | [.int i] => some (.int i)
  | [.bl k] => some (.int (if k then 1 else 0))
  | [.str x] => match PySem.intText? x with
    | some n => if x.length ≤ 640 then some (.int n) else none
    | none => none
  | _ => none
theorem cl_int : CallOk C X (.type "int") (RD C) fun ds => optM (intO ds) := callO (call_int1.or call_int_str) fun Ha B H vs ds d Q s rr e q => by
  unfold intO at e
  split at e
  · cases e
    obtain ⟨v, rfl, r⟩ := rr.one
    rw [r.int]
    exact .inl (.inl ⟨_, rfl, q _ (.int _)⟩)
  · cases e
    obtain ⟨v, rfl, r⟩ := rr.one
    rw [r.bl]
    exact .inl (.inr ⟨_, rfl, q _ (.int _)⟩)
  · split at e
    · rename_i n hn
      split at e
      · cases e
        obtain ⟨v, rfl, r⟩ := rr.one
        rw [r.str]
        exact .inr ⟨_, n, rfl, hn, by assumption, q _ (.int _)⟩
      · cases e
    · cases e
  · cases e
def strO : List D → Option D
  | [.int i] => if i.natAbs.log2 < 1920 then some (.str (toString i)) else none
  | [.str x] => some (.str x)
  | _ => none
theorem cl_str : CallOk C X (.type "str") (RD C) fun ds => optM (strO ds) := callO (call_str_int.or SkE.call_str_str) fun Ha B H vs ds d Q s rr e q => by
  unfold strO at e
  split at e
  · split at e
    · cases e
      obtain ⟨v, rfl, r⟩ := rr.one
      rw [r.int]
      exact .inl ⟨_, rfl, by assumption, q _ (.str _)⟩
    · cases e
  · cases e
    obtain ⟨v, rfl, r⟩ := rr.one
    rw [r.str]
    exact .inr ⟨_, rfl, q _ (.str _)⟩
  · cases e
def bools : List D → Option (List Bool)
  | [] => some []
  | .bl b :: r => (bools r).map (b :: ·)
  | _ :: _ => none
theorem bools_of {B : Hp} : ∀ {vs : List V} {ds : List D} {bs : List Bool}, Reps C B vs ds → bools ds = some bs → vs = bs.map V.bl
  | _, _, _, .nil, e => by unfold bools at e; cases e; rfl
  | _, _, _, .cons (d := .bl b) (ds := ds) r t, e => by
    unfold bools at e
    cases h : bools ds with
    | none => rw [h] at e; cases e
    | some bs => rw [h] at e; cases e; cases r; rw [bools_of t h]; rfl
  | _, _, _, .cons (d := .non) r t, e => by unfold bools at e; cases e
  | _, _, _, .cons (d := .int _) r t, e => by unfold bools at e; cases e
  | _, _, _, .cons (d := .str _) r t, e => by unfold bools at e; cases e
  | _, _, _, .cons (d := .tup _) r t, e => by unfold bools at e; cases e
  | _, _, _, .cons (d := .lst _) r t, e => by unfold bools at e; cases e
  | _, _, _, .cons (d := .scr _) r t, e => by unfold bools at e; cases e
  | _, _, _, .cons (d := .dic _) r t, e => by unfold bools at e; cases e
  | _, _, _, .cons (d := .obj _ _) r t, e => by unfold bools at e; cases e
  | _, _, _, .cons (d := .exc _ _) r t, e => by unfold bools at e; cases e
  | _, _, _, .cons (d := .pur) r t, e => by unfold bools at e; cases e
  | _, _, _, .cons (d := .cls _) r t, e => by unfold bools at e; cases e
  | _, _, _, .cons (d := .ty _) r t, e => by unfold bools at e; cases e
def allO : List D → Option D
  | [.lst xs] => (bools xs).map fun bs => .bl (bs.all id)
  | _ => none
def anyO : List D → Option D
  | [.lst xs] => (bools xs).map fun bs => .bl (bs.any id)
  | _ => none
theorem cl_all (hc : X.calm = true := by rfl) : CallOk C X (.builtin "all") (RD C) fun ds => optM (allO ds) := callO (cr_all hc) fun Ha B H vs ds d Q s rr e q => by
  unfold allO at e
  split at e
  · obtain ⟨v, rfl, r⟩ := rr.one
    obtain ⟨l, us, rfl, r2, hl⟩ := r.lst s
    rename_i xs
    cases h : bools xs with
    | none => rw [h] at e; cases e
    | some bs =>
      rw [h] at e; cases e
      refine ⟨l, bs, rfl, ?_, q _ (.bl _)⟩
      rw [← bools_of r2 h]; exact SqL.of hl
  · cases e
theorem cl_any (hc : X.calm = true := by rfl) : CallOk C X (.builtin "any") (RD C) fun ds => optM (anyO ds) := callO (cr_any hc) fun Ha B H vs ds d Q s rr e q => by
  unfold anyO at e
  split at e
  · obtain ⟨v, rfl, r⟩ := rr.one
    obtain ⟨l, us, rfl, r2, hl⟩ := r.lst s
    rename_i xs
    cases h : bools xs with
    | none => rw [h] at e; cases e
    | some bs =>
      rw [h] at e; cases e
      refine ⟨l, bs, rfl, ?_, q _ (.bl _)⟩
      rw [← bools_of r2 h]; exact SqL.of hl
  · cases e
def maxO : List D → Option D
  | [.int i, .int j] => some (.int (if j > i then j else i))
  | _ => none
def minO : List D → Option D
  | [.int i, .int j] => some (.int (if j < i then j else i))
  | _ => none
theorem cl_max (hc : X.calm = true := by rfl) : CallOk C X (.builtin "max") (RD C) fun ds => optM (maxO ds) := callO (call_max2 hc) fun Ha B H vs ds d Q s rr e q => by
  unfold maxO at e
  split at e
  · cases e
    obtain ⟨v, w, rfl, r, r2⟩ := rr.two
    rw [r.int, r2.int]
    exact ⟨_, _, rfl, q _ (.int _)⟩
  · cases e
theorem cl_min (hc : X.calm = true := by rfl) : CallOk C X (.builtin "min") (RD C) fun ds => optM (minO ds) := callO (call_min2 hc) fun Ha B H vs ds d Q s rr e q => by
  unfold minO at e
  split at e
  · cases e
    obtain ⟨v, w, rfl, r, r2⟩ := rr.two
    rw [r.int, r2.int]
    exact ⟨_, _, rfl, q _ (.int _)⟩
  · cases e
/-- new lists, new tuples -/
def listO : List D → Option (List D)
  | [.lst xs] => some xs
  | [.tup xs] => some xs
  | [.scr xs] => some xs
  | _ => none
theorem cl_list (hK : X.K = C.K := by rfl) : CallOk C X (.type "list") (RF C) fun ds => optM (listO ds) := ⟨_, call_list_of, fun W Hs Ha B H σ P vs ds Q hs s p rr q => by
    obtain ⟨xs, e, q⟩ := Post.opt (o := listO ds) q
    unfold listO at e
    split at e
    · cases e
      obtain ⟨v, rfl, r⟩ := rr.one
      obtain ⟨l, us, rfl, r2, hl⟩ := r.lst s
      exact ⟨l, us, rfl, .inl (SqL.of hl), fun l hl => Post.newL q hs s p r2 l hl⟩
    · cases e
      obtain ⟨v, rfl, r⟩ := rr.one
      obtain ⟨l, us, rfl, r2, hl⟩ := r.tup s
      exact ⟨l, us, rfl, .inr (by rw [hK]; exact hl), fun l hl => Post.newL q hs s p r2 l hl⟩
    · cases e
      obtain ⟨v, rfl, r⟩ := rr.one
      obtain ⟨l, us, rfl, r2, hl⟩ := r.scr s
      exact ⟨l, us, rfl, .inl (by rw [hK]; exact hl), fun l hl => Post.newL q hs s p r2 l hl⟩
    · cases e⟩
def tupleO : List D → Option D
  | [.lst xs] => some (.tup xs)
  | [.scr xs] => some (.tup xs)
  | [.tup xs] => some (.tup xs)
  | _ => none
theorem cl_tuple (hK : X.K = C.K := by rfl) : CallOk C X (.type "tuple") (RD C) fun ds => optM (tupleO ds) := ⟨_, call_tuple_of, fun W Hs Ha B H σ P vs ds Q hs s p rr q => by
    obtain ⟨xs, e, q⟩ := Post.opt (o := tupleO ds) q
    unfold tupleO at e
    split at e
    · cases e
      obtain ⟨v, rfl, r⟩ := rr.one
      obtain ⟨l, us, rfl, r2, hl⟩ := r.lst s
      exact ⟨l, us, rfl, .inl ⟨SqL.of hl, fun l hl => Post.newT q s p r2 l hl⟩⟩
    · cases e
      obtain ⟨v, rfl, r⟩ := rr.one
      obtain ⟨l, us, rfl, r2, hl⟩ := r.scr s
      exact ⟨l, us, rfl, .inl ⟨by rw [hK]; exact hl, fun l hl => Post.newT q s p r2 l hl⟩⟩
    · cases e
      obtain ⟨v, rfl, r⟩ := rr.one
      obtain ⟨l, us, rfl, r2, hl⟩ := r.tup s
      rcases r with r | ⟨_, _, _, e, _⟩
      · exact ⟨l, us, rfl, .inr ⟨by rw [hK]; exact hl, q.val s p r⟩⟩
      · cases e
    · cases e⟩
def divmodO : List D → Option D
  | [.int i, .int j] => if 0 < j ∧ j < 1073741824 then some (.tup [.int (i / j), .int (i % j)]) else none
  | _ => none
theorem cl_divmod : CallOk C X (.builtin "divmod") (RD C) fun ds => optM (divmodO ds) := ⟨_, call_divmod, fun W Hs Ha B H σ P vs ds Q hs s p rr q => by
    obtain ⟨xs, e, q⟩ := Post.opt (o := divmodO ds) q
    unfold divmodO at e
    split at e
    · split at e
      · cases e
        obtain ⟨v, w, rfl, r, r2⟩ := rr.two
        rw [r.int, r2.int]
        exact ⟨_, _, rfl, by assumption, fun l hl => Post.newT q s p (.cons (.int _) (.cons (.int _) .nil)) l hl⟩
      · cases e
    · cases e⟩

/-! ### items -/
def ixO (x i : D) : Option D := match x, i with
  | .lst xs, .int i => atI xs i
  | .tup xs, .int i => atI xs i
  | .scr xs, .int i => atI xs i
  | .str z, .int i => if z.length ≤ cap then (atI z.cps.toList i).map fun c => .str ⟨#[c]⟩ else none
  | _, _ => none
theorem Reps.atI {B : Hp} {vs : List V} {ds : List D} {i : Int} {d : D} (r : Reps C B vs ds) (e : L2.atI ds i = some d) : ∃ v, L2.atI vs i = some v ∧ Rep C B v d := by
  unfold L2.atI at e ⊢
  rw [r.length]
  cases h : ixN ds.length i with
  | none => rw [h] at e; cases e
  | some j =>
    rw [h] at e
    exact r.get e
def mIx (ma mb : Ev → M D) : Ev → M D := mBi ma mb fun x i => optM (ixO x i)
theorem e_ix (ha : DR C W X a ma) (hb : DE C W X b mb) (hs : PlainIx b := by exact fun _ _ => rfl) (hK : X.K = C.K := by rfl) : DE C W X (.Subscript a b pos) (mIx ma mb) := fun B0 H0 B H σ env P f Q q =>
  wE_of (pe_ix ix_seq pw pw hs) (do2 (δ := D) ha hb keepsR (fun Hs Ha Hb B H σ P x y a b Q hs s p ra rb q => by
      obtain ⟨d, e, q2⟩ := Post.opt (o := ixO a b) q
      unfold ixO at e
      split at e
      · obtain ⟨l, vs, rfl, r, hl⟩ := ra.lst s
        obtain ⟨v, hv, rv⟩ := r.atI e
        cases rb
        exact .inl ⟨l, vs, _, v, rfl, rfl, SqL.of hl, hv, Post.val (R := RD C Hs) q2 s p rv⟩
      · obtain ⟨l, vs, rfl, r, hl⟩ := ra.tup s
        obtain ⟨v, hv, rv⟩ := r.atI e
        cases rb
        exact .inr (.inl ⟨l, vs, _, v, rfl, rfl, by rw [hK]; exact hl, hv, Post.val (R := RD C Hs) q2 s p rv⟩)
      · obtain ⟨l, vs, rfl, r, hl⟩ := ra.scr s
        obtain ⟨v, hv, rv⟩ := r.atI e
        cases rb
        exact .inl ⟨l, vs, _, v, rfl, rfl, by rw [hK]; exact hl, hv, Post.val (R := RD C Hs) q2 s p rv⟩
      · split at e
        · rename_i z i h
          cases h2 : L2.atI z.cps.toList i with
          | none => rw [h2] at e; cases e
          | some c =>
            rw [h2] at e; cases e
            cases rb
            exact .inr (.inr ⟨z, i, c, ra.str, rfl, cap_le h, h2, Post.val (R := RD C Hs) q2 s p (.str _)⟩)
        · cases e
      · cases e) B0 H0 B H σ env P f Q q)

/-! ### parts -/
def wO (X : Cx) (e : Option Expr) : TO := match e with
  | none => tNoPart
  | some e => tPart (wE X e)
theorem ow (X : Cx) (e : Option Expr) : PO X e (wO X e) := by
  cases e with
  | none => exact po_none
  | some e => exact po_some pw
def RO : Hp → Hp → Hp → Option Int → Option Int → Prop := fun _ _ _ b c => b = c
abbrev DO (C : Cn) (W : WX) (X : Cx) (e : Option Expr) (m : Ev → M (Option Int)) : Prop := Do C W (wO X e) RO m
def mONone : Ev → M (Option Int) := fun _ => M.ok none
def asO : D → M (Option Int)
  | .int i => M.ok (some i)
  | _ => M.stuck
def mOSome (m : Ev → M D) : Ev → M (Option Int) := mUn m asO
theorem o_none : DO C W X none mONone := fun B0 H0 B H σ env P fr Q q => q.val' fr.g.sub fr.pur rfl
theorem o_some (h : DE C W X e m) : DO C W X (some e) (mOSome m) := fun B0 H0 B H σ env P fr Q q =>
  h B0 H0 B H σ env P fr _ (Post.bind q fun x P1 _ v B1 H1 g1 p1 r1 q => by
    cases r1 with
    | int i => exact ⟨i, rfl, q.val' g1.sub p1 rfl⟩
    | _ => exact q.elim)
def cutD (xs : List D) (lo hi : Option Int) : List D := (xs.drop (HT.sIx xs.length 0 lo)).take (HT.sIx xs.length xs.length hi - HT.sIx xs.length 0 lo)
theorem Reps.cut {B : Hp} {vs : List V} {ds : List D} (r : Reps C B vs ds) (lo hi : Option Int) : Reps C B (cutV vs lo hi) (cutD ds lo hi) := by
  unfold cutV cutD
  rw [r.length]
  exact (r.drop _).take _
def slO (x : D) (lo hi : Option Int) : Option D := match x with
  | .tup xs => some (.tup (cutD xs lo hi))
  | .str z => if z.length ≤ cap then some (.str (cutS z lo hi)) else none
  | _ => none
def slF (x : D) (lo hi : Option Int) : Option (List D) := match x with
  | .lst xs => some (cutD xs lo hi)
  | .scr xs => some (cutD xs lo hi)
  | _ => none
def mSl {α : Type} (f : D → Option Int → Option Int → Option α) (ma : Ev → M D) (ml mh : Ev → M (Option Int)) : Ev → M α := fun env => M.bind (ma env) fun x => M.bind (ml env) fun l => M.bind (mh env) fun h => optM (f x l h)
theorem do_sl {lo hi : Option Expr} {α : Type} {R : Hp → Hp → Hp → V → α → Prop} {f : D → Option Int → Option Int → Option α} {ml mh : Ev → M (Option Int)} {p2 : Pos} {r : V → Option Int → Option Int → Hp → VK → Prop} (hr : SlR X r)
    (k : ∀ Hs Ha B H (σ : L2.St) P v x l h d (Q : VK), (∀ p, H p = none → Hs p = none) → Same B H → Pur C B H P → RR C Ha B H v x → f x l h = some d → Post C W σ B H (R Hs) (.ok d P) Q → r v l h H Q)
    (ha : DR C W X a ma) (hl : DO C W X lo ml) (hh : DO C W X hi mh) : Do C W (wE X (.Subscript a (.Slice lo hi none p2) pos)) R (mSl f ma ml mh) := fun B0 H0 B H σ env P fr Q q =>
  wE_of (pe_slice hr pw (ow X lo) (ow X hi)) (ha B0 H0 B H σ env P fr _ (Post.bind q fun x P1 _ v B1 H1 g1 p1 r1 q =>
    hl B0 H0 B1 H1 σ env P1 (fr.grow g1 p1) _ (Post.bind q fun l P2 _ l' B2 H2 g2 p2 r2 q =>
      hh B0 H0 B2 H2 σ env P2 ((fr.grow g1 p1).grow g2 p2) _ (Post.bind q fun h P3 _ h' B3 H3 g3 p3 r3 q => by
        have e2 : l' = l := r2
        have e3 : h' = h := r3
        subst e2 e3
        obtain ⟨d, e, q⟩ := Post.opt (o := f x l' h') q
        exact k H H B3 H3 σ P3 v x l' h' d Q (fun _ z => ((g1.trans g2).trans g3).there z) g3.sub p3 (keepsR (keepsR r1 g2) g3) e q))))
theorem e_sl {lo hi : Option Expr} {ml mh : Ev → M (Option Int)} {p2 : Pos} (ha : DR C W X a ma) (hl : DO C W X lo ml) (hh : DO C W X hi mh) (hK : X.K = C.K := by rfl) : DE C W X (.Subscript a (.Slice lo hi none p2) pos) (mSl slO ma ml mh) :=
  do_sl (R := RD C) (sl_tupA.or sl_str) (fun Hs Ha B H σ P v x l h d Q hs s p r e q => by
    unfold slO at e
    split at e
    · cases e
      obtain ⟨a, vs, rfl, r2, hl⟩ := r.tup s
      refine .inl ⟨a, vs, rfl, by rw [hK]; exact hl, fun w => ?_, fun _ l hl => q.newT s p (r2.cut _ _) l hl⟩
      rcases r with r | ⟨_, _, _, e, _⟩
      · refine q.val s p ?_
        rename_i xs
        have : cutD xs l h = xs := by
          unfold cutD
          rw [← r2.length, w.1, w.2, List.drop_zero, Nat.sub_zero, r2.length, List.take_length]
        rw [this]; exact r
      · cases e
    · split at e
      · cases e
        exact .inr ⟨_, r.str, cap_le (by assumption), q.val s p (.str _)⟩
      · cases e
    · cases e) ha hl hh
theorem f_sl {lo hi : Option Expr} {ml mh : Ev → M (Option Int)} {p2 : Pos} (ha : DR C W X a ma) (hl : DO C W X lo ml) (hh : DO C W X hi mh) (hK : X.K = C.K := by rfl) : DF C W X (.Subscript a (.Slice lo hi none p2) pos) (mSl slF ma ml mh) :=
  do_sl (R := RF C) sl_list (fun Hs Ha B H σ P v x l h d Q hs s p r e q => by
    unfold slF at e
    split at e
    · cases e
      obtain ⟨a, vs, rfl, r2, hl⟩ := r.lst s
      exact ⟨a, vs, rfl, SqL.of hl, fun l hl => q.newL hs s p (r2.cut _ _) l hl⟩
    · cases e
      obtain ⟨a, vs, rfl, r2, hl⟩ := r.scr s
      exact ⟨a, vs, rfl, by rw [hK]; exact hl, fun l hl => q.newL hs s p (r2.cut _ _) l hl⟩
    · cases e) ha hl hh

/-! ### methods of texts -/
theorem do_m1 {id : String} {name : Str} {apos : Pos} {α : Type} {R : Hp → Hp → Hp → V → α → Prop} {f : D → D → Option α} {r : V → List V → Hp → VK → Prop} (slot : Slot "str" name id) (ty : typeOf (.builtin id) = pure (.type "method_descriptor")) (rule : MtR X id r)
    (k1 : ∀ x y d, f x y = some d → ∃ z, x = .str z)
    (k : ∀ Hs Ha Hb B H (σ : L2.St) P v u x y d (Q : VK), (∀ p, H p = none → Hs p = none) → Same B H → Pur C B H P → RR C Ha B H v x → RR C Hb B H u y → f x y = some d → Post C W σ B H (R Hs) (.ok d P) Q → r v [u] H Q)
    (ha : DR C W X a ma) (hb : DR C W X b mb)
    (hs : starEach [b] X.env = [(false, eval b X.env)] := by rfl) (hbase : attributeBase a name X.env (eval a X.env) = eval a X.env := by rfl) (hline : (apos.endLine == pos.line) = true := by rfl) :
    Do C W (wE X (.Call (.Attribute a name apos) [b] [] pos)) R (fun env => M.bind (ma env) fun x => match x with | .str _ => M.bind (mb env) fun y => optM (f x y) | _ => M.stuck) := fun B0 H0 B H σ env P fr Q q =>
  wE_of (pe_m1 slot ty rule pw pw hs hbase hline) (ha B0 H0 B H σ env P fr _ (Post.bind q fun x P1 _ v B1 H1 g1 p1 r1 q => by
    cases x with
    | str z =>
      refine ⟨⟨z, r1.str⟩, hb B0 H0 B1 H1 σ env P1 (fr.grow g1 p1) _ (Post.bind q fun y P2 _ u B2 H2 g2 p2 r2 q => ?_)⟩
      obtain ⟨d, e, q⟩ := Post.opt (o := f (.str z) y) q
      exact k H H H1 B2 H2 σ P2 v u _ y d Q (fun _ z => (g1.trans g2).there z) g2.sub p2 (keepsR r1 g2) r2 e q
    | _ => exact q.elim))
def mM1 {α : Type} (f : D → D → Option α) (ma mb : Ev → M D) : Ev → M α := fun env => M.bind (ma env) fun x => match x with | .str _ => M.bind (mb env) fun y => optM (f x y) | _ => M.stuck
def txt2 (f : Str → Str → D) (x y : D) : Option D := match x, y with
  | .str x, .str y => some (f x y)
  | _, _ => none
theorem txt2_of {f : Str → Str → D} {x y d : D} (h : txt2 f x y = some d) : ∃ z w, x = .str z ∧ y = .str w ∧ d = f z w := by
  unfold txt2 at h
  split at h
  · cases h; exact ⟨_, _, rfl, rfl, rfl⟩
  · cases h
def startsO : D → D → Option D := txt2 fun x y => .bl (Txt.startswith x y)
def endsO : D → D → Option D := txt2 fun x y => .bl (Txt.endswith x y)
theorem e_starts {apos : Pos} (ha : DR C W X a ma) (hb : DR C W X b mb) (hs : starEach [b] X.env = [(false, eval b X.env)] := by rfl) (hbase : attributeBase a "startswith" X.env (eval a X.env) = eval a X.env := by rfl) (hline : (apos.endLine == pos.line) = true := by rfl) :
    DE C W X (.Call (.Attribute a "startswith" apos) [b] [] pos) (mM1 startsO ma mb) :=
  do_m1 (R := RD C) F.slot_str_startswith F.type_str_startswith mt_startswith (fun x y d h => let ⟨z, _, e, _⟩ := txt2_of h; ⟨z, e⟩) (fun Hs Ha Hb B H σ P v u x y d Q hs s p ra rb e q => by
    obtain ⟨z, w, rfl, rfl, rfl⟩ := txt2_of e
    exact ⟨z, w, ra.str, by rw [rb.str], q.val s p (.bl _)⟩) ha hb hs hbase hline
theorem e_ends {apos : Pos} (ha : DR C W X a ma) (hb : DR C W X b mb) (hs : starEach [b] X.env = [(false, eval b X.env)] := by rfl) (hbase : attributeBase a "endswith" X.env (eval a X.env) = eval a X.env := by rfl) (hline : (apos.endLine == pos.line) = true := by rfl) :
    DE C W X (.Call (.Attribute a "endswith" apos) [b] [] pos) (mM1 endsO ma mb) :=
  do_m1 (R := RD C) F.slot_str_endswith F.type_str_endswith mt_endswith (fun x y d h => let ⟨z, _, e, _⟩ := txt2_of h; ⟨z, e⟩) (fun Hs Ha Hb B H σ P v u x y d Q hs s p ra rb e q => by
    obtain ⟨z, w, rfl, rfl, rfl⟩ := txt2_of e
    exact ⟨z, w, ra.str, by rw [rb.str], q.val s p (.bl _)⟩) ha hb hs hbase hline
def splitO (x y : D) : Option (List D) := match x, y with
  | .str x, .str y => if (y.length == 0) = false ∧ x.length + 2 ≤ cap then some ((Txt.split x y).map .str) else none
  | _, _ => none
theorem Reps.strs {B : Hp} : ∀ ys : List Str, Reps C B (ys.map V.str) (ys.map D.str)
  | [] => .nil
  | y :: ys => .cons (.str y) (Reps.strs ys)
theorem f_split {apos : Pos} (ha : DR C W X a ma) (hb : DR C W X b mb) (hs : starEach [b] X.env = [(false, eval b X.env)] := by rfl) (hbase : attributeBase a "split" X.env (eval a X.env) = eval a X.env := by rfl) (hline : (apos.endLine == pos.line) = true := by rfl) :
    DF C W X (.Call (.Attribute a "split" apos) [b] [] pos) (mM1 splitO ma mb) :=
  do_m1 (R := RF C) F.slot_str_split F.type_str_split mt_split (fun x y d h => by
    unfold splitO at h
    split at h
    · exact ⟨_, rfl⟩
    · cases h) (fun Hs Ha Hb B H σ P v u x y d Q hs s p ra rb e q => by
    unfold splitO at e
    split at e
    · split at e
      · rename_i h
        cases e
        exact ⟨_, _, ra.str, by rw [rb.str], h.1, cap_le h.2, fun l hl => q.newL hs s p (Reps.strs _) l hl⟩
      · cases e
    · cases e) ha hb hs hbase hline
def txts : List D → Option (List Str)
  | [] => some []
  | .str x :: r => (txts r).map (x :: ·)
  | _ :: _ => none
theorem strs_eq : ∀ {ds : List D} {ys : List Str}, txts ds = some ys → ds = ys.map .str
  | [], _, e => by unfold txts at e; cases e; rfl
  | d :: ds, ys, e => by
    cases d with
    | str x =>
      unfold txts at e
      cases h : txts ds with
      | none => rw [h] at e; cases e
      | some zs => rw [h] at e; cases e; rw [strs_eq h]; rfl
    | _ => unfold txts at e; cases e
theorem strs_of {B : Hp} {vs : List V} : ∀ {ys : List Str}, Reps C B vs (ys.map .str) → vs = ys.map V.str := fun {ys} => by
  induction ys generalizing vs with
  | nil => intro r; cases r; rfl
  | cons y ys ih => intro r; cases r with | cons r t => cases r; rw [ih t]; rfl
def joinO (x y : D) : Option D := match x, y with
  | .str x, .lst ds => match txts ds with
    | some ys => if (ys.map (·.length)).sum + ys.length * x.length ≤ cap then some (.str (Txt.join x ys)) else none
    | none => none
  | _, _ => none
theorem e_join {apos : Pos} (ha : DR C W X a ma) (hb : DR C W X b mb) (hs : starEach [b] X.env = [(false, eval b X.env)] := by rfl) (hbase : attributeBase a "join" X.env (eval a X.env) = eval a X.env := by rfl) (hline : (apos.endLine == pos.line) = true := by rfl) :
    DE C W X (.Call (.Attribute a "join" apos) [b] [] pos) (mM1 joinO ma mb) :=
  do_m1 (R := RD C) F.slot_str_join F.type_str_join mt_join (fun x y d h => by
    unfold joinO at h
    split at h
    · exact ⟨_, rfl⟩
    · cases h) (fun Hs Ha Hb B H σ P v u x y d Q hs s p ra rb e q => by
    unfold joinO at e
    split at e
    · split at e
      · rename_i ys h
        split at e
        · rename_i hz
          cases e
          obtain ⟨l, vs, rfl, r, hl⟩ := rb.lst s
          rw [strs_eq h] at r
          rw [strs_of r] at hl
          refine ⟨_, l, ys, ra.str, rfl, .inl (SqL.of hl), Nat.le_trans hz (by decide), q.val s p (.str _)⟩
        · cases e
      · cases e
    · cases e) ha hb hs hbase hline
end
end PD

set_option Elab.async false
set_option linter.all false
set_option maxRecDepth 100000
/-! PD5: statements over pure data. -/
namespace PD
open PySem PySem.Spec PyProof.Rows L2
section
variable {C : Cn} {W : WX} {X : Cx} {a b c e : Expr} {es : List Expr} {p pos : Pos} {ma mb mc m : Ev → M D} {ms : Ev → M (List D)}

theorem Grow.nou {B0 H0 B H : Hp} (g : Grow C B0 H0 B H) {q : Addr} (h : H q = none) : H0 q = none := g.there h

/-! ### slots -/
theorem Fr.set {B0 H0 B H : Hp} {σ : L2.St} {env : Ev} {P : Pu} (f : Fr C B0 H0 B H σ env P) (i : Nat) {v : V} {d : D} (r : Rep C B v d) : Fr C B0 H0 B H (σ.set i (some v)) (env.set i (.val d)) P where
  g := f.g
  pur := f.pur
  len := by rw [List.length_set, List.length_set]; exact f.len
  val := fun j d' e => by
    by_cases h : i = j
    · subst h
      by_cases hl : i < env.length
      · rw [List.getElem?_set_self hl] at e; cases e
        exact ⟨v, List.getElem?_set_self (by rw [f.len]; exact hl), r⟩
      · rw [List.getElem?_eq_none (by rw [List.length_set]; omega)] at e; cases e
    · rw [List.getElem?_set_ne h] at e ⊢; exact f.val j d' e
  own := fun j xs e => by
    by_cases h : i = j
    · subst h
      by_cases hl : i < env.length
      · rw [List.getElem?_set_self hl] at e; cases e
      · rw [List.getElem?_eq_none (by rw [List.length_set]; omega)] at e; cases e
    · rw [List.getElem?_set_ne h] at e ⊢; exact f.own j xs e
  inj := fun j k xs ys q e1 e2 s1 s2 => by
    have ne : ∀ {j : Nat} {xs : List D}, (env.set i (.val d))[j]? = some (.own xs) → i ≠ j := fun {j xs} e z => by
      subst z
      by_cases hl : i < env.length
      · rw [List.getElem?_set_self hl] at e; cases e
      · rw [List.getElem?_eq_none (by rw [List.length_set]; omega)] at e; cases e
    have n1 := ne e1
    have n2 := ne e2
    rw [List.getElem?_set_ne n1] at e1 s1
    rw [List.getElem?_set_ne n2] at e2 s2
    exact f.inj j k xs ys q e1 e2 s1 s2
theorem Fr.setOwn {B0 H0 B H : Hp} {σ : L2.St} {env : Ev} {P : Pu} (f : Fr C B0 H0 B H σ env P) (i : Nat) {l : Addr} {vs : List V} {ds : List D} (hl : H l = some (.lst vs)) (bl : B l = none) (h0 : H0 l = none) (np : C.pu ≠ some l) (r : Reps C B vs ds)
    (new : ∀ (j : Nat) xs, env[j]? = some (.own xs) → σ[j]? ≠ some (some (.ref l))) : Fr C B0 H0 B H (σ.set i (some (.ref l))) (env.set i (.own ds)) P where
  g := f.g
  pur := f.pur
  len := by rw [List.length_set, List.length_set]; exact f.len
  val := fun j d' e => by
    by_cases h : i = j
    · subst h
      by_cases hl : i < env.length
      · rw [List.getElem?_set_self hl] at e; cases e
      · rw [List.getElem?_eq_none (by rw [List.length_set]; omega)] at e; cases e
    · rw [List.getElem?_set_ne h] at e ⊢; exact f.val j d' e
  own := fun j xs e => by
    by_cases h : i = j
    · subst h
      by_cases hi : i < env.length
      · rw [List.getElem?_set_self hi] at e; cases e
        exact ⟨l, vs, List.getElem?_set_self (by rw [f.len]; exact hi), hl, bl, h0, np, r⟩
      · rw [List.getElem?_eq_none (by rw [List.length_set]; omega)] at e; cases e
    · rw [List.getElem?_set_ne h] at e ⊢; exact f.own j xs e
  inj := fun j k xs ys q e1 e2 s1 s2 => by
    by_cases h1 : i = j
    · by_cases h2 : i = k
      · exact h1.symm.trans h2
      · exfalso
        subst h1
        rw [List.getElem?_set_ne h2] at e2 s2
        have hi : i < env.length := by
          have := (List.getElem?_eq_some_iff.mp e1).1
          rw [List.length_set] at this; exact this
        rw [List.getElem?_set_self (by rw [f.len]; exact hi)] at s1
        cases s1
        exact new k ys e2 s2
    · by_cases h2 : i = k
      · exfalso
        subst h2
        rw [List.getElem?_set_ne h1] at e1 s1
        have hi : i < env.length := by
          have := (List.getElem?_eq_some_iff.mp e2).1
          rw [List.length_set] at this; exact this
        rw [List.getElem?_set_self (by rw [f.len]; exact hi)] at s2
        cases s2
        exact new j xs e1 s1
      · rw [List.getElem?_set_ne h1] at e1 s1
        rw [List.getElem?_set_ne h2] at e2 s2
        exact f.inj j k xs ys q e1 e2 s1 s2
/-- an object of no slot is written -/
theorem Fr.upd {B0 H0 B H : Hp} {σ : L2.St} {env : Ev} {P : Pu} (f : Fr C B0 H0 B H σ env P) {l : Addr} {o : HO} (hl : H l ≠ none) (bl : B l = none) (h0 : H0 l = none) (np : C.pu ≠ some l)
    (new : ∀ (j : Nat) xs, env[j]? = some (.own xs) → σ[j]? ≠ some (some (.ref l))) : Fr C B0 H0 B (upd H l o) σ env P where
  g := ⟨f.g.bb, fun a u e => by
      have ne : a ≠ l := fun z => by rw [z, bl] at e; cases e
      rw [upd_ne ne]; exact f.g.sub a u e, fun a u e n => by
      have ne : a ≠ l := fun z => by rw [z, h0] at e; cases e
      rw [upd_ne ne]; exact f.g.hh a u e n, fun a h k => by
      have ne : a ≠ l := fun z => k (by rw [z]; exact h0)
      rw [upd_ne ne]; exact f.g.nb a h k⟩
  pur := fun q e => by
    have ne : q ≠ l := fun z => np (z ▸ e)
    rw [upd_ne ne]; exact f.pur q e
  len := f.len
  val := f.val
  own := fun j xs e => by
    obtain ⟨q, vs, s1, hq, r⟩ := f.own j xs e
    have ne : q ≠ l := fun z => new j xs e (by rw [s1, z])
    exact ⟨q, vs, s1, by rw [upd_ne ne]; exact hq, r⟩
  inj := f.inj
/-- the list of slot i is written -/
theorem Fr.put {B0 H0 B H : Hp} {σ : L2.St} {env : Ev} {P : Pu} (f : Fr C B0 H0 B H σ env P) {i : Nat} {l : Addr} {xs ds : List D} {vs : List V} (ei : env[i]? = some (.own xs)) (si : σ[i]? = some (some (.ref l))) (r : Reps C B vs ds) :
    Fr C B0 H0 B (L2.upd H l (.lst vs)) σ (env.set i (.own ds)) P := by
  obtain ⟨q, us, s1, hq, bq, h0, np, _⟩ := f.own i xs ei
  rw [si] at s1; cases s1
  have hi : i < env.length := (List.getElem?_eq_some_iff.mp ei).1
  refine ⟨⟨f.g.bb, fun a u e => ?_, fun a u e n => ?_, fun a h k => ?_⟩, fun q e => ?_, by rw [List.length_set]; exact f.len, fun j d' e => ?_, fun j ys e => ?_, fun j k ys zs q e1 e2 s1 s2 => ?_⟩
  · have ne : a ≠ l := fun z => by rw [z, bq] at e; cases e
    rw [upd_ne ne]; exact f.g.sub a u e
  · have ne : a ≠ l := fun z => by rw [z, h0] at e; cases e
    rw [upd_ne ne]; exact f.g.hh a u e n
  · have ne : a ≠ l := fun z => k (by rw [z]; exact h0)
    rw [upd_ne ne]; exact f.g.nb a h k
  · have ne : q ≠ l := fun z => np (z ▸ e)
    rw [upd_ne ne]; exact f.pur q e
  · by_cases h : i = j
    · subst h; rw [List.getElem?_set_self hi] at e; cases e
    · rw [List.getElem?_set_ne h] at e; exact f.val j d' e
  · by_cases h : i = j
    · subst h; rw [List.getElem?_set_self hi] at e; cases e
      exact ⟨l, vs, si, upd_same, bq, h0, np, r⟩
    · rw [List.getElem?_set_ne h] at e
      obtain ⟨q, us, s1, hq2, r2⟩ := f.own j ys e
      have ne : q ≠ l := fun z => by
        subst z
        exact h (f.inj i j xs ys q ei e si s1)
      exact ⟨q, us, s1, by rw [upd_ne ne]; exact hq2, r2⟩
  · have back : ∀ {j : Nat} {ys : List D}, (env.set i (.own ds))[j]? = some (.own ys) → ∃ zs, env[j]? = some (.own zs) := fun {j ys} e => by
      by_cases h : i = j
      · subst h; exact ⟨xs, ei⟩
      · rw [List.getElem?_set_ne h] at e; exact ⟨ys, e⟩
    obtain ⟨z1, e1⟩ := back e1
    obtain ⟨z2, e2⟩ := back e2
    exact f.inj j k z1 z2 q e1 e2 s1 s2
/-- the list of slot i stands still from now on -/
theorem Fr.fz {B0 H0 B H : Hp} {σ : L2.St} {env : Ev} {P : Pu} (f : Fr C B0 H0 B H σ env P) {i : Nat} {xs : List D} (ei : env[i]? = some (.own xs)) : ∃ B', Fr C B0 H0 B' H σ (env.set i (.val (.lst xs))) P := by
  obtain ⟨l, us, si, hq, bq, h0, np, r⟩ := f.own i xs ei
  have hi : i < env.length := (List.getElem?_eq_some_iff.mp ei).1
  have sm : Same B (L2.upd B l (.lst us)) := Same.fz bq
  refine ⟨L2.upd B l (.lst us), ⟨f.g.bb.trans sm, fun a u e => ?_, f.g.hh, fun a h k => ?_⟩, fun q e => ?_, by rw [List.length_set]; exact f.len, fun j d' e => ?_, fun j ys e => ?_, fun j k ys zs q e1 e2 s1 s2 => ?_⟩
  · by_cases h : a = l
    · subst h; rw [upd_same] at e; cases e; exact hq
    · rw [upd_ne h] at e; exact f.g.sub a u e
  · have ne : a ≠ l := fun z => k (by rw [z]; exact h0)
    rw [upd_ne ne]; exact f.g.nb a h k
  · have ne : q ≠ l := fun z => np (z ▸ e)
    obtain ⟨⟨o, h, k⟩, b⟩ := f.pur q e
    exact ⟨⟨o, h, k.mono sm⟩, by rw [upd_ne ne]; exact b⟩
  · by_cases h : i = j
    · subst h; rw [List.getElem?_set_self hi] at e; cases e
      exact ⟨_, si, .lst upd_same (r.mono sm)⟩
    · rw [List.getElem?_set_ne h] at e
      obtain ⟨v, s, r⟩ := f.val j d' e
      exact ⟨v, s, r.mono sm⟩
  · by_cases h : i = j
    · subst h; rw [List.getElem?_set_self hi] at e; cases e
    · rw [List.getElem?_set_ne h] at e
      obtain ⟨q, ws, s1, hq2, bq2, r2, n2, r3⟩ := f.own j ys e
      have ne : q ≠ l := fun z => by
        subst z
        exact h (f.inj i j xs ys q ei e si s1)
      exact ⟨q, ws, s1, hq2, by rw [upd_ne ne]; exact bq2, r2, n2, r3.mono sm⟩
  · have ne : ∀ {j : Nat} {ys : List D}, (env.set i (.val (.lst xs)))[j]? = some (.own ys) → i ≠ j := fun {j ys} e z => by
      subst z; rw [List.getElem?_set_self hi] at e; cases e
    have n1 := ne e1
    have n2 := ne e2
    rw [List.getElem?_set_ne n1] at e1
    rw [List.getElem?_set_ne n2] at e2
    exact f.inj j k ys zs q e1 e2 s1 s2
/-- a new address is of no slot -/
theorem Fr.fresh {B0 H0 B H : Hp} {σ : L2.St} {env : Ev} {P : Pu} (f : Fr C B0 H0 B H σ env P) {l : Addr} (hl : H l = none) (j : Nat) (xs : List D) (e : env[j]? = some (.own xs)) : σ[j]? ≠ some (some (.ref l)) := fun s => by
  obtain ⟨q, us, s1, hq, _⟩ := f.own j xs e
  rw [s] at s1; cases s1
  rw [hl] at hq; cases hq

/-! ### what may be stored -/
def RX (C : Cn) : Hp → Hp → Hp → V → Sl → Prop := fun Hs B H v s => match s with
  | .no => False
  | .val d => Rep C B v d
  | .own xs => RF C Hs B H v xs
abbrev DX (C : Cn) (W : WX) (X : Cx) (e : Expr) (m : Ev → M Sl) : Prop := Do C W (wE X e) (RX C) m
def mVal (m : Ev → M D) : Ev → M Sl := fun env => M.bind (m env) fun d => M.ok (.val d)
def mOwn (m : Ev → M (List D)) : Ev → M Sl := fun env => M.bind (m env) fun d => M.ok (.own d)
theorem x_e (h : DE C W X e m) : DX C W X e (mVal m) := fun B0 H0 B H σ env P fr Q q => h B0 H0 B H σ env P fr Q (by
  unfold mVal M.bind at q
  cases e : m env P with
  | stuck => rw [e] at q; exact q
  | exc x P' => rw [e] at q; exact q
  | ok xs P' => rw [e] at q; exact fun y B' H' g p r => q y B' H' g p r)
theorem x_f (h : DF C W X e ms) : DX C W X e (mOwn ms) := fun B0 H0 B H σ env P fr Q q => h B0 H0 B H σ env P fr Q (by
  unfold mOwn M.bind at q
  cases e : ms env P with
  | stuck => rw [e] at q; exact q
  | exc x P' => rw [e] at q; exact q
  | ok xs P' => rw [e] at q; exact fun y B' H' g p r => q y B' H' g p r)
theorem keepsX {Hs B H B' H' : Hp} {x : V} {a : Sl} (r : RX C Hs B H x a) (g : Grow C B H B' H') : RX C Hs B' H' x a := by
  cases a with
  | no => exact r
  | val d => exact Rep.mono g.bb r
  | own xs => exact keepsF r g
/-- storing what was reckoned: Hs, the heap ahead of it -/
theorem Fr.store {B0 H0 B H Hs : Hp} {σ : L2.St} {env : Ev} {P : Pu} (f : Fr C B0 H0 B H σ env P) (i : Nat) {v : V} {s : Sl} (r : RX C Hs B H v s) (h0 : ∀ l, Hs l = none → H0 l = none)
    (new : ∀ l, Hs l = none → ∀ (j : Nat) xs, env[j]? = some (.own xs) → σ[j]? ≠ some (some (.ref l))) : Fr C B0 H0 B H (σ.set i (some v)) (env.set i s) P := by
  cases s with
  | no => exact r.elim
  | val d => exact f.set i r
  | own xs =>
    obtain ⟨l, vs, rfl, l0, hl, bl, np, r⟩ := r
    exact f.setOwn i hl bl (h0 l l0) np r (new l l0)

/-! ### statements -/
variable {st : Stmt} {sts : List Stmt} {m1 m2 : Ev → M Out}
theorem PostS.exc {B0 H0 B H : Hp} {σ : L2.St} {x : D} {P : Pu} {E : Ends} (h : PostS C W B0 H0 (.exc x P) E) (g : Grow C B0 H0 B H) {α β : Type} {R : Hp → Hp → β → α → Prop} {Q : β → Hp → Prop} : Post C W σ B H R (.exc x P) Q := fun cls dd B' H' g' p i => h cls dd σ B' H' (g.trans g') p i
/-- an expression, then a statement's rest -/
theorem PostS.bind {B0 H0 B H : Hp} {σ : L2.St} {env : Ev} {α β : Type} {R : Hp → Hp → β → α → Prop} {m : M α} {f : α → M Out} {P : Pu} {E : Ends} {Q : β → Hp → Prop} (fr : Fr C B0 H0 B H σ env P)
    (h : PostS C W B0 H0 (M.bind m f P) E) (k : ∀ a P', ∀ y B' H', Grow C B H B' H' → Pur C B' H' P' → Fr C B0 H0 B' H' σ env P' → R B' H' y a → PostS C W B0 H0 (f a P') E → Q y H') : Post C W σ B H R (m P) Q := by
  unfold M.bind at h
  cases e : m P with
  | stuck => rw [e] at h; exact h
  | exc x P' => rw [e] at h; exact PostS.exc h fr.g
  | ok a P' =>
    rw [e] at h
    exact fun y B' H' g p r => k a P' y B' H' g p (fr.grow g p) r h
def mSeq (m1 m2 : Ev → M Out) : Ev → M Out := fun env => M.bind (m1 env) fun o => match o with
  | .next env' => m2 env'
  | o => M.ok o
def mSkip : Ev → M Out := fun env => M.ok (.next env)
theorem s_nil : DSs C W X [] mSkip := fun B0 H0 B H σ env P fr E q => wSs_of pss_nil (q σ B H fr)
theorem s_cons (h1 : DS C W X st m1) (h2 : DSs C W X sts m2) : DSs C W X (st :: sts) (mSeq m1 m2) := fun B0 H0 B H σ env P fr E q =>
  wSs_of (pss_cons sw ssw) (h1 B0 H0 B H σ env P fr _ (by
    unfold mSeq M.bind at q
    cases e : m1 env P with
    | stuck => rw [e] at q; exact q
    | exc x P' => rw [e] at q; exact q
    | ok o P' =>
      rw [e] at q
      cases o with
      | next env' => exact fun σ' B' H' fr' => h2 B0 H0 B' H' σ' env' P' fr' E q
      | ret d => exact q
      | brk env' => exact q
      | cont env' => exact q))
theorem s_one (h1 : DS C W X st m1) : DSs C W X [st] m1 := fun B0 H0 B H σ env P fr E q => wSs_of (pss_one sw) (h1 B0 H0 B H σ env P fr E q)
/-- from here on the list of slot i stands still -/
def mFreeze (i : Nat) (m : Ev → M Out) : Ev → M Out := fun env => match env[i]? with
  | some (.own xs) => m (env.set i (.val (.lst xs)))
  | _ => m env
theorem s_freeze (i : Nat) (h : DSs C W X sts m1) : DSs C W X sts (mFreeze i m1) := fun B0 H0 B H σ env P fr E q => by
  unfold mFreeze at q
  cases e : env[i]? with
  | none => rw [e] at q; exact h B0 H0 B H σ env P fr E q
  | some s =>
    rw [e] at q
    cases s with
    | own xs =>
      obtain ⟨B', fr'⟩ := fr.fz e
      exact h B0 H0 B' H σ _ P fr' E q
    | no => exact h B0 H0 B H σ env P fr E q
    | val d => exact h B0 H0 B H σ env P fr E q
def mSet (i : Nat) (m : Ev → M Sl) : Ev → M Out := fun env => M.bind (m env) fun s => M.ok (.next (env.set i s))
theorem s_set (i : Nat) {x : Str} {pos' : Pos} {mx : Ev → M Sl} (hx : DX C W X e mx) (hN : X.N.Nodup) (hi : X.N[i]? = some x := by rfl) (hl : Loc X.env.scope x := by first | exact Or.inl rfl | exact Or.inr rfl)
    (hs : swapsWith e (some (.Name x pos')) pos.line X.env = pure false := by rfl) (hf : X.fn x = true ∨ X.env.scope.names.lookup x = some .local := by first | exact .inl rfl | exact .inr rfl) : DS C W X (.Assign [.Name x pos'] e pos) (mSet i mx) := fun B0 H0 B H σ env P fr E q =>
  wS_of (ps_set hN hi hl pw hs hf) (hx B0 H0 B H σ env P fr _ (PostS.bind fr q fun s P' v B' H' g p fr' r q =>
    q _ B' H' (fr'.store i r (fun l h => fr.g.there h) fun l h => fr.fresh h)))
theorem s_pass : DS C W X (.Pass pos) mSkip := fun B0 H0 B H σ env P fr E q => wS_of ps_pass (q σ B H fr)
def mBrk : Ev → M Out := fun env => M.ok (.brk env)
def mCnt : Ev → M Out := fun env => M.ok (.cont env)
theorem s_brk : DS C W X (.Break pos) mBrk := fun B0 H0 B H σ env P fr E q => wS_of ps_break (q σ B H fr)
theorem s_cnt : DS C W X (.Continue pos) mCnt := fun B0 H0 B H σ env P fr E q => wS_of ps_continue (q σ B H fr)
def mRet (m : Ev → M D) : Ev → M Out := fun env => M.bind (m env) fun d => M.ok (.ret d)
theorem s_ret (h : DE C W X e m) : DS C W X (.Return (some e) pos) (mRet m) := fun B0 H0 B H σ env P fr E q =>
  wS_of (ps_ret pw) (h B0 H0 B H σ env P fr _ (PostS.bind fr q fun d P' v B' H' g p fr' r q => q v B' H' fr'.g p r))
def mRetN : Ev → M Out := fun env => M.ok (.ret .non)
theorem s_retN : DS C W X (.Return none pos) mRetN := fun B0 H0 B H σ env P fr E q => wS_of ps_retN (q _ B H fr.g fr.pur .non)
def mDrop {α : Type} (m : Ev → M α) : Ev → M Out := fun env => M.bind (m env) fun _ => M.ok (.next env)
theorem s_expr (h : DE C W X e m) (hs : swapsWith e none pos.line X.env = pure false := by rfl) : DS C W X (.Expr e pos) (mDrop m) := fun B0 H0 B H σ env P fr E q =>
  wS_of (ps_expr pw hs) (h B0 H0 B H σ env P fr _ (PostS.bind fr q fun d P' v B' H' g p fr' r q => q σ B' H' fr'))
def mIfS (nc : Ev → M Bool) (m1 m2 : Ev → M Out) : Ev → M Out := fun env => M.bind (nc env) fun k => if k then m1 env else m2 env
theorem s_if {nc : Ev → M Bool} {st2 : List Stmt} (hc : DT C W X c nc) (h1 : DSs C W X sts m1) (h2 : DSs C W X st2 m2) : DS C W X (.If c sts st2 pos) (mIfS nc m1 m2) := fun B0 H0 B H σ env P fr E q =>
  wS_of (ps_if tw ssw ssw) (hc B0 H0 B H σ env P fr _ (PostS.bind fr q fun k P' y B' H' g p fr' r q => by
    have r' : y = k := r
    subst r'
    cases y with
    | true => exact iteT (h1 B0 H0 B' H' σ env P' fr' E q)
    | false => exact iteF (h2 B0 H0 B' H' σ env P' fr' E q)))
/-- a statement that is not reached -/
def mNever : Ev → M Out := fun _ => M.stuck
theorem s_never : DS C W X st mNever := fun B0 H0 B H σ env P fr E q => q.elim
theorem ss_never : DSs C W X sts mNever := fun B0 H0 B H σ env P fr E q => q.elim

/-! ### two, three names at once; a tuple's items -/
def mPar (i j : Nat) (m1 m2 : Ev → M Sl) : Ev → M Out := fun env => M.bind (m1 env) fun s => M.bind (m2 env) fun t => M.ok (.next ((env.set i s).set j t))
theorem fresh2 {B0 H0 B H B1 H1 : Hp} {σ : L2.St} {env : Ev} {P : Pu} (fr : Fr C B0 H0 B H σ env P) {i : Nat} {s : Sl} {v : V} (r : RX C H B1 H1 v s) : ∀ l, H1 l = none → (∀ q, H1 q = none → H q = none) → ∀ (k : Nat) xs, (env.set i s)[k]? = some (.own xs) → (σ.set i (some v))[k]? ≠ some (some (.ref l)) := fun l h up k xs e z => by
  by_cases hk : i = k
  · subst hk
    by_cases hl : i < env.length
    · rw [List.getElem?_set_self hl] at e; cases e
      rw [List.getElem?_set_self (by rw [fr.len]; exact hl)] at z; cases z
      obtain ⟨l', vs, e', _, hl', _⟩ := r
      cases e'
      rw [h] at hl'; cases hl'
    · rw [List.getElem?_eq_none (by rw [List.length_set]; omega)] at e; cases e
  · rw [List.getElem?_set_ne hk] at e z
    exact fr.fresh (up l h) k xs e z
theorem s_par (i j : Nat) {x y : Str} {px py pt : Pos} {kt k2 pt2} {m1 m2 : Ev → M Sl} (ha : DX C W X a m1) (hb : DX C W X b m2) (hN : X.N.Nodup) (hc : X.calm = true := by rfl) (hi : X.N[i]? = some x := by rfl) (hj : X.N[j]? = some y := by rfl) (hij : i ≠ j := by decide)
    (k : PS X (.Assign [.Tuple [.Name x px, .Name y py] kt pt] (.Tuple [a, b] k2 pt2) pos) (tPar i j (tCons (wE X a) (tCons (wE X b) tNil)))) : DS C W X (.Assign [.Tuple [.Name x px, .Name y py] kt pt] (.Tuple [a, b] k2 pt2) pos) (mPar i j m1 m2) := fun B0 H0 B H σ env P fr E q =>
  wS_of k (ha B0 H0 B H σ env P fr _ (PostS.bind fr q fun s P1 v B1 H1 g1 p1 fr1 r1 q =>
    hb B0 H0 B1 H1 σ env P1 fr1 _ (PostS.bind fr1 q fun t P2 u B2 H2 g2 p2 fr2 r2 q => by
      refine ⟨v, u, rfl, q _ B2 H2 ?_⟩
      have f1 := fr2.store i (keepsX r1 g2) (fun l h => fr.g.there h) fun l h => fr.fresh h
      exact f1.store j r2 (fun l h => fr1.g.there h) fun l h => fresh2 fr r1 l h fun q hq => g1.there hq)))
theorem s_par3 (i j l : Nat) {x y z : Str} {px py pz pt : Pos} {kt k2 pt2} {m1 m2 m3 : Ev → M D} (ha : DE C W X a m1) (hb : DE C W X b m2) (hcc : DE C W X c m3)
    (k : PS X (.Assign [.Tuple [.Name x px, .Name y py, .Name z pz] kt pt] (.Tuple [a, b, c] k2 pt2) pos) (tPar3 i j l (tCons (wE X a) (tCons (wE X b) (tCons (wE X c) tNil))))) :
    DS C W X (.Assign [.Tuple [.Name x px, .Name y py, .Name z pz] kt pt] (.Tuple [a, b, c] k2 pt2) pos) (fun env => M.bind (m1 env) fun s => M.bind (m2 env) fun t => M.bind (m3 env) fun u => M.ok (.next (((env.set i (.val s)).set j (.val t)).set l (.val u)))) := fun B0 H0 B H σ env P fr E q =>
  wS_of k (ha B0 H0 B H σ env P fr _ (PostS.bind fr q fun s P1 v B1 H1 g1 p1 fr1 r1 q =>
    hb B0 H0 B1 H1 σ env P1 fr1 _ (PostS.bind fr1 q fun t P2 u B2 H2 g2 p2 fr2 r2 q =>
      hcc B0 H0 B2 H2 σ env P2 fr2 _ (PostS.bind fr2 q fun z P3 w B3 H3 g3 p3 fr3 r3 q =>
        ⟨v, u, w, rfl, q _ B3 H3 (((fr3.set i (Rep.mono (g2.trans g3).bb r1)).set j (Rep.mono g3.bb r2)).set l r3)⟩))))
/-- targets that are names, in a row -/
def gsN : List Nat → TGs
  | [] => gNil
  | i :: is => gCons (gName i) (gsN is)
def setAll {α : Type} : List Nat → List α → List α → List α
  | i :: is, v :: vs, l => setAll is vs (l.set i v)
  | _, _, l => l
theorem gsN_run : ∀ {is : List Nat} {vs : List V} {σ : L2.St} {H : Hp} {Q : L2.St → Hp → Prop}, vs.length = is.length → Q (setAll is (vs.map some) σ) H → gsN is vs σ H Q
  | [], [], _, _, _, _, q => ⟨rfl, q⟩
  | [], _ :: _, _, _, _, h, _ => by simp at h
  | _ :: _, [], _, _, _, h, _ => by simp at h
  | i :: is, v :: vs, _, _, _, h, q => ⟨v, vs, rfl, gsN_run (by simpa using h) q⟩
def itemsO : D → Option (List D)
  | .tup xs => some xs
  | _ => none
def unpD (is : List Nat) (d : D) (env : Ev) : Option Ev := match itemsO d with
  | some xs => if xs.length = is.length then some (setAll is (xs.map .val) env) else none
  | none => none
theorem Fr.setAll {B0 H0 B H : Hp} {P : Pu} : ∀ {is : List Nat} {vs : List V} {ds : List D} {σ : L2.St} {env : Ev}, Fr C B0 H0 B H σ env P → Reps C B vs ds → Fr C B0 H0 B H (PD.setAll is (vs.map some) σ) (PD.setAll is (ds.map .val) env) P
  | [], _, _, _, _, f, _ => f
  | i :: is, _, _, _, _, f, .nil => f
  | i :: is, _, _, _, _, f, .cons r t => Fr.setAll (is := is) (f.set i r) t
/-- a target: what storing an item does to the frame -/
def TgRun (C : Cn) (g : TG) (is : List Nat) (t : D → Ev → Option Ev) : Prop := ∀ d env env', t d env = some env' → ∀ B0 H0 B H σ P v (Q : L2.St → Hp → Prop), Fr C B0 H0 B H σ env P → Rep C B v d → (∀ ws, Fr C B0 H0 B H (setAll is ws σ) env' P → Q (setAll is ws σ) H) → g v σ H Q
def tgN (i : Nat) : D → Ev → Option Ev := fun d env => some (env.set i (.val d))
theorem tr_name (i : Nat) : TgRun C (gName i) [i] (tgN i) := fun d env env' e B0 H0 B H σ P v Q f r q => by cases e; exact q [some v] (f.set i r)
theorem tr_tup (is : List Nat) {K : PySem.W.Frag} (hK : K = C.K := by rfl) : TgRun C (gTup K is.length (gsN is)) is (unpD is) := fun d env env' e B0 H0 B H σ P v Q f r q => by
  unfold unpD itemsO at e
  split at e
  · rename_i xs h1
    split at h1
    · cases h1
      split at e
      · rename_i h2
        cases e
        cases r with
        | tup s r =>
          exact ⟨_, _, rfl, by rw [hK]; exact sqT_mono f.g.sub s, by rw [r.length]; exact h2, gsN_run (by rw [r.length]; exact h2) (q _ (f.setAll r))⟩
      · cases e
    · cases h1
  · cases e
def mUnpk (t : D → Ev → Option Ev) (m : Ev → M D) : Ev → M Out := fun env => M.bind (m env) fun d => M.bind (optM (t d env)) fun env' => M.ok (.next env')
theorem s_unpk {tg : Expr} {g : TG} {is : List Nat} {t : D → Ev → Option Ev} (hg : PG X tg g) (ht : TgRun C g is t) (h : DE C W X e m) (hs : swapsWithSole [tg] e pos.line X.env = pure false := by rfl) (hw : swappedStores [tg] e X.env = pure none := by rfl) (h1 : List.map (fun x => x.snd) (assignEach [tg] X.env) = [assign tg X.env] := by rfl) : DS C W X (.Assign [tg] e pos) (mUnpk t m) := fun B0 H0 B H σ env P fr E q =>
  wS_of (ps_asg pw hg hs hw h1) (h B0 H0 B H σ env P fr _ (PostS.bind fr q fun d P' v B' H' g p fr' r q => by
    cases e : t d env with
    | none => rw [e] at q; exact q.elim
    | some env' =>
      rw [e] at q
      exact ht d env env' e B0 H0 B' H' σ P' v _ fr' r fun ws f => q _ B' H' f))

/-! ### lists that a slot owns -/
def ownO : Option Sl → Option (List D)
  | some (.own xs) => some xs
  | _ => none
theorem ownO_eq {s : Option Sl} {xs : List D} (h : ownO s = some xs) : s = some (.own xs) := by
  unfold ownO at h
  split at h
  · cases h; rfl
  · cases h
theorem okIfS {B0 H0 : Hp} {k : Bool} {o : Out} {P : Pu} {E : Ends} (h : PostS C W B0 H0 (okIf k o P) E) : k = true ∧ PostS C W B0 H0 (.ok o P) E := by
  cases k with
  | true => exact ⟨rfl, h⟩
  | false => exact h.elim
theorem optS {B0 H0 : Hp} {α : Type} {o : Option α} {f : α → M Out} {P : Pu} {E : Ends} (h : PostS C W B0 H0 (M.bind (optM o) f P) E) : ∃ a, o = some a ∧ PostS C W B0 H0 (f a P) E := by
  cases o with
  | none => exact h.elim
  | some a => exact ⟨a, rfl, h⟩
def mApp (i : Nat) (m : Ev → M D) : Ev → M Out := fun env => M.bind (optM (ownO env[i]?)) fun xs => M.bind (m env) fun d => okIf (decide (xs.length < cap)) (.next (env.set i (.own (xs ++ [d]))))
theorem s_app (i : Nat) {x : Str} {px pa pc : Pos} (h : DE C W X e m)
    (k : PE X (.Call (.Attribute (.Name x px) "append" pa) [e] [] pc) (tBM X.K "list" rAppend (tVar i) (tCons (wE X e) tNil))) (hs : swapsWith (.Call (.Attribute (.Name x px) "append" pa) [e] [] pc) none pos.line X.env = pure false := by rfl) :
    DS C W X (.Expr (.Call (.Attribute (.Name x px) "append" pa) [e] [] pc) pos) (mApp i m) := fun B0 H0 B H σ env P fr E q => by
  obtain ⟨xs, e1, q⟩ := optS q
  have ei := ownO_eq e1
  obtain ⟨l, vs, si, hl, bl, h0, np, r⟩ := fr.own i xs ei
  refine wS_of (ps_expr k hs) ⟨_, si, .inl ⟨rfl, vs, SqL.of hl⟩, ?_⟩
  refine h B0 H0 B H σ env P fr _ (PostS.bind fr q fun d P' v B' H' g p fr' r' q => ?_)
  obtain ⟨hz, q⟩ := okIfS q
  obtain ⟨l2, vs2, si2, hl2, _, _, _, r2⟩ := fr'.own i xs ei
  rw [si] at si2; cases si2
  exact ⟨l, vs2, v, rfl, rfl, hl2, cap_lt (by rw [r2.length]; exact of_decide_eq_true hz), q σ B' _ (fr'.put ei si (r2.append (.cons r' .nil)))⟩
/-- x[j] = e, x a list that slot i owns -/
def mSetIx (i : Nat) (m mj : Ev → M D) : Ev → M Out := fun env => M.bind (optM (ownO env[i]?)) fun xs => M.bind (m env) fun d => M.bind (mj env) fun j => M.bind (optM (match j with | .int k => ixN xs.length k | _ => none)) fun n => M.ok (.next (env.set i (.own (xs.set n d))))
theorem s_setIx (i : Nat) {tg : Expr} {mj : Ev → M D} (h : DE C W X e m) (hj : DE C W X b mj) (k : PS X (.Assign [tg] e pos) (tAsg (wE X e) (gSub (tVar i) (wE X b) rSetL))) : DS C W X (.Assign [tg] e pos) (mSetIx i m mj) := fun B0 H0 B H σ env P fr E q => by
  obtain ⟨xs, e1, q⟩ := optS q
  have ei := ownO_eq e1
  obtain ⟨l, vs, si, hl, bl, h0, np, r⟩ := fr.own i xs ei
  refine wS_of k (h B0 H0 B H σ env P fr _ (PostS.bind fr q fun d P' v B' H' g p fr' r' q => ⟨_, si, hj B0 H0 B' H' σ env P' fr' _ (PostS.bind fr' q fun j P2 u B2 H2 g2 p2 fr2 r2 q => ?_)⟩))
  obtain ⟨n, e2, q3⟩ := optS q
  split at e2
  · rename_i kk
    cases r2
    obtain ⟨l2, vs2, si2, hl2, _, _, _, r3⟩ := fr2.own i xs ei
    rw [si] at si2; cases si2
    exact ⟨l, vs2, kk, n, rfl, rfl, hl2, by rw [r3.length]; exact e2, q3 σ B2 _ (fr2.put ei si (Reps.set (keepsD (Hs := B) r' g2) n r3))⟩
  · cases e2
/-- x += e, an int -/
def mAugI (i : Nat) (f : Int → Int → Int) (m : Ev → M D) : Ev → M Out := fun env => M.bind (slD env[i]?) fun x => M.bind (m env) fun y => match x, y with
  | .int a, .int b => M.ok (.next (env.set i (.val (.int (f a b)))))
  | _, _ => M.stuck
theorem s_augI (i : Nat) {f : Int → Int → Int} (h : DE C W X e m) (k : PS X st (tAug i (wE X e) (ipI f))) : DS C W X st (mAugI i f m) := fun B0 H0 B H σ env P fr E q => by
  unfold mAugI at q
  cases ei : env[i]? with
  | none => rw [ei] at q; exact q.elim
  | some s =>
    rw [ei] at q
    cases s with
    | no => exact q.elim
    | own xs => exact q.elim
    | val d =>
      obtain ⟨v, si, r⟩ := fr.val i d ei
      refine wS_of k ⟨v, si, h B0 H0 B H σ env P fr _ (PostS.bind fr q fun y P' u B' H' g p fr' r' q => ?_)⟩
      cases r with
      | int a => cases r' with
        | int b => exact ⟨a, b, rfl, rfl, q _ B' H' (fr'.set i (.int _))⟩
        | _ => exact q.elim
      | _ => exact q.elim
end
end PD

set_option Elab.async false
set_option linter.all false
set_option maxRecDepth 100000
/-! PD6: what is walked; for, while, comprehensions. -/
namespace PD
open PySem PySem.Spec PyProof.Rows L2 RZ
section
variable {C : Cn} {W : WX} {X : Cx} {a b c e tg : Expr} {es : List Expr} {p pos : Pos} {ma mb mc m : Ev → M D} {ms : Ev → M (List D)}

/-- J yields ds, as long as Hk is kept -/
def ItOk (C : Cn) (J : It) (B Hk : Hp) (ds : List D) : Prop := ∀ B1 H1, Same B B1 → Same B1 H1 → (∀ a o, Hk a = some o → C.pu ≠ some a → H1 a = some o) →
  (∀ (i : Nat) d, ds[i]? = some d → J.go i H1 ∧ ∀ x H2, J.yld i H1 x H2 → ∃ B2, Grow C B1 H1 B2 H2 ∧ (∀ p o, C.pu = some p → H1 p = some o → H2 p = some o) ∧ Rep C B2 x d) ∧ J.stop ds.length H1
theorem ItOk.more {J : It} {B Hk Hk' : Hp} {ds : List D} (h : ItOk C J B Hk ds) (k : ∀ a o, Hk a = some o → Hk' a = some o) : ItOk C J B Hk' ds := fun B1 H1 s1 s2 s3 => h B1 H1 s1 s2 fun a o e n => s3 a o (k a o e) n
def wI (X : Cx) (tg iter : Expr) : TI := fun σ H R => ∀ pins s, Inv X pins σ H s → wpAny (model X.prog X.w) X.A (eval iter X.env) (fun v s1 => wpAny (model X.prog X.w) X.A (pyIter v) (PIE X pins σ tg R) X.xe s1) X.xe s
theorem iw {iter : Expr} : PI X tg iter (wI X tg iter) := ⟨fun pins s σ H R I h => h pins s I⟩
theorem wI_of {iter : Expr} {t : TI} (h : PI X tg iter t) {σ : L2.St} {H : Hp} {R : It → Hp → Prop} (q : t σ H R) : wI X tg iter σ H R := fun pins s I => h.run pins s σ H R I q
def PostI (C : Cn) (W : WX) (st : Bool) (σ : L2.St) (B H : Hp) (r : Res (List D)) (R : It → Hp → Prop) : Prop := match r with
  | .stuck => False
  | .ok ds P' => ∀ J B' H' Hk, Grow C B H B' H' → Pur C B' H' P' → (∀ a o, Hk a = some o → H' a = some o) → (st = true → ∀ a, Hk a ≠ none → H a = none ∨ B' a ≠ none) → ItOk C J B' Hk ds → R J H'
  | .exc x P' => ∀ cls dd B' H', Grow C B H B' H' → Pur C B' H' P' → IsExc C B' cls dd x → W cls dd σ H'
/-- st: for a loop's statement too -/
def DI (C : Cn) (W : WX) (X : Cx) (st : Bool) (tg iter : Expr) (m : Ev → M (List D)) : Prop := ∀ B0 H0 B H σ env P, Fr C B0 H0 B H σ env P → ∀ R, PostI C W st σ B H (m env P) R → wI X tg iter σ H R
theorem PostI.bind {st : Bool} {σ : L2.St} {B H : Hp} {α β : Type} {R : Hp → Hp → β → α → Prop} {m : M α} {f : α → M (List D)} {P : Pu} {Q : It → Hp → Prop} {Q' : β → Hp → Prop} (h : PostI C W st σ B H (M.bind m f P) Q)
    (k : ∀ a P' y B' H', Grow C B H B' H' → Pur C B' H' P' → R B' H' y a → PostI C W st σ B H (f a P') Q → Q' y H') : Post C W σ B H R (m P) Q' := by
  unfold M.bind at h
  cases e : m P with
  | stuck => rw [e] at h; exact h
  | exc x P' => rw [e] at h; exact h
  | ok a P' => rw [e] at h; exact fun y B' H' g p r => k a P' y B' H' g p r h
theorem PostI.opt {st : Bool} {σ : L2.St} {B H : Hp} {o : Option (List D)} {P : Pu} {Q : It → Hp → Prop} (h : PostI C W st σ B H (optM o P) Q) : ∃ ds, o = some ds ∧ PostI C W st σ B H (.ok ds P) Q := by
  cases o with
  | none => exact h.elim
  | some a => exact ⟨a, rfl, h⟩
theorem it_list {K : PySem.W.Frag} (hK : K = C.K) {l : Addr} {vs : List V} {ds : List D} {B Hk : Hp} (r : Reps C B vs ds) (h : ∀ B1 H1, Same B B1 → Same B1 H1 → (∀ a o, Hk a = some o → C.pu ≠ some a → H1 a = some o) → SqL K H1 l vs) : ItOk C (Itl K l) B Hk ds := fun B1 H1 s1 s2 s3 => by
  have hl := h B1 H1 s1 s2 s3
  refine ⟨fun i d e => ?_, vs, hl, by rw [r.length]; exact Nat.le_refl _⟩
  obtain ⟨v, hv, rv⟩ := r.get e
  refine ⟨⟨vs, v, hl, hv⟩, fun x H2 y => ?_⟩
  obtain ⟨e1, y⟩ := y
  subst e1
  have := y vs hl
  rw [hv] at this; cases this
  exact ⟨B1, Grow.refl s2, fun _ _ _ z => z, rv.mono s1⟩
theorem it_tup {K : PySem.W.Frag} (hK : K = C.K) {l : Addr} {vs : List V} {ds : List D} {B Hk : Hp} (r : Reps C B vs ds) (h : ∀ B1 H1, Same B B1 → Same B1 H1 → SqT K H1 l vs) : ItOk C (Itt K l) B Hk ds := fun B1 H1 s1 s2 s3 => by
  have hl := h B1 H1 s1 s2
  refine ⟨fun i d e => ?_, vs, hl, by rw [r.length]; exact Nat.le_refl _⟩
  obtain ⟨v, hv, rv⟩ := r.get e
  refine ⟨⟨vs, v, hl, hv⟩, fun x H2 y => ?_⟩
  obtain ⟨e1, y⟩ := y
  subst e1
  have := y vs hl
  rw [hv] at this; cases this
  exact ⟨B1, Grow.refl s2, fun _ _ _ z => z, rv.mono s1⟩
/-- a sequence's items -/
def seqO : D → Option (List D)
  | .lst xs => some xs
  | .tup xs => some xs
  | .scr xs => some xs
  | .str x => some (x.cps.toList.map fun c => .str ⟨#[c]⟩)
  | _ => none
theorem it_str {z : Str} {B Hk : Hp} : ItOk C (Its z) B Hk (z.cps.toList.map fun c => .str ⟨#[c]⟩) := fun B1 H1 s1 s2 s3 => by
  refine ⟨fun i d e => ?_, by show z.cps.size ≤ _; simp⟩
  rw [List.getElem?_map] at e
  cases h : z.cps.toList[i]? with
  | none => rw [h] at e; cases e
  | some c =>
    rw [h] at e; cases e
    have hc : z.cps[i]? = some c := by rw [← Array.getElem?_toList]; exact h
    refine ⟨(Array.getElem?_eq_some_iff.mp hc).1, fun x H2 y => ?_⟩
    obtain ⟨e1, c', h1, e2⟩ := y
    subst e1 e2
    rw [hc] at h1; cases h1
    exact ⟨B1, Grow.refl s2, fun _ _ _ z => z, .str _⟩
theorem i_e {st : Bool} (h : DE C W X e m) (hK : X.K = C.K := by rfl) : DI C W X st tg e (mUn m fun d => optM (seqO d)) := fun B0 H0 B H σ env P fr R q => by
  have go : ∀ {t : TI}, PI X tg e t → ∀ P1, (∀ d v B1 H1, Grow C B H B1 H1 → Pur C B1 H1 P1 → m env P = .ok d P1 → Rep C B1 v d → True) → True := fun _ _ _ => trivial
  -- the kind is known by the data
  cases em : m env P with
  | stuck => unfold mUn M.bind at q; rw [em] at q; exact q.elim
  | exc x P1 =>
    unfold mUn M.bind at q; rw [em] at q
    refine wI_of (pi_list pw) (h B0 H0 B H σ env P fr _ ?_)
    rw [em]; exact q
  | ok d P1 =>
    unfold mUn M.bind at q; rw [em] at q
    obtain ⟨ds, e1, q⟩ := PostI.opt q
    unfold seqO at e1
    split at e1
    · cases e1
      refine wI_of (pi_list pw) (h B0 H0 B H σ env P fr _ ?_)
      rw [em]
      intro v B1 H1 g p r
      cases r with
      | lst s r => exact ⟨_, rfl, ⟨_, SqL.of (g.sub _ _ s)⟩, q _ B1 H1 B1 g p g.sub (fun _ a z => .inr z) (it_list hK r fun B2 H2 s1 s2 _ => SqL.of (s2 _ _ (s1 _ _ s)))⟩
    · cases e1
      refine wI_of (pi_tup pw) (h B0 H0 B H σ env P fr _ ?_)
      rw [em]
      intro v B1 H1 g p r
      cases r with
      | tup s r => exact ⟨_, rfl, ⟨_, by rw [hK]; exact sqT_mono g.sub s⟩, q _ B1 H1 B1 g p g.sub (fun _ a z => .inr z) (it_tup hK r fun B2 H2 s1 s2 => by rw [hK]; exact sqT_mono (s1.trans s2) s)⟩
    · cases e1
      refine wI_of (pi_list pw) (h B0 H0 B H σ env P fr _ ?_)
      rw [em]
      intro v B1 H1 g p r
      cases r with
      | scr s r => exact ⟨_, rfl, ⟨_, by rw [hK]; exact sqL_mono g.sub s⟩, q _ B1 H1 B1 g p g.sub (fun _ a z => .inr z) (it_list hK r fun B2 H2 s1 s2 _ => by rw [hK]; exact sqL_mono (s1.trans s2) s)⟩
    · cases e1
      refine wI_of (pi_str pw) (h B0 H0 B H σ env P fr _ ?_)
      rw [em]
      intro v B1 H1 g p r
      cases r with
      | str _ => exact ⟨_, rfl, q _ B1 H1 B1 g p g.sub (fun _ a z => .inr z) it_str⟩
    · cases e1
theorem i_f {st : Bool} (h : DF C W X e ms) (hK : X.K = C.K := by rfl) : DI C W X st tg e ms := fun B0 H0 B H σ env P fr R q => by
  refine wI_of (pi_list pw) (h B0 H0 B H σ env P fr _ ?_)
  cases em : ms env P with
  | stuck => rw [em] at q; exact q
  | exc x P1 => rw [em] at q; exact q
  | ok ds P1 =>
    rw [em] at q
    rintro v B1 H1 g p ⟨l, vs, rfl, l0, hl, bl, np, r⟩
    refine ⟨l, rfl, ⟨vs, SqL.of hl⟩, q _ B1 H1 (fun a => if a = l then some (.lst vs) else none) g p (fun a o z => ?_) (fun _ a z => .inl ?_) (it_list hK r fun B2 H2 s1 s2 s3 => SqL.of (s3 l _ (if_pos rfl) np))⟩
    · split at z
      · rename_i h; subst h; cases z; exact hl
      · cases z
    · split at z
      · rename_i h; rw [h]; exact l0
      · exact absurd rfl z
/-- a list that a slot owns: in a comprehension alone -/
def lstO : D → Option (List D)
  | .lst xs => some xs
  | _ => none
theorem i_r (h : DR C W X e m) (hK : X.K = C.K := by rfl) : DI C W X false tg e (mUn m fun d => optM (lstO d)) := fun B0 H0 B H σ env P fr R q => by
  refine wI_of (pi_list pw) (h B0 H0 B H σ env P fr _ (PostI.bind q fun d P1 v B1 H1 g p r q => ?_))
  obtain ⟨ds, e1, q⟩ := PostI.opt q
  cases d with
  | lst xs =>
    cases e1
    obtain ⟨l, vs, rfl, r2, hl⟩ := r.lst g.sub
    have np : C.pu ≠ some l := by
      rcases r with r | ⟨_, _, _, e, e', _, n, _⟩
      · cases r with
        | lst s _ => intro z; have := (p l z).2; rw [s] at this; cases this
      · cases e'; exact n
    exact ⟨l, rfl, ⟨vs, SqL.of hl⟩, q _ B1 H1 H1 g p (fun _ _ z => z) (fun z => nomatch z) (it_list hK r2 fun B2 H2 s1 s2 s3 => SqL.of (s3 l _ hl np))⟩
  | _ => cases e1
/-! ranges -/
def rngD (lo : Int) (n : Nat) : List D := (List.range n).map fun i => .int (lo + (i : Nat))
theorem it_rng {lo : Int} {n : Nat} {B Hk : Hp} : ItOk C (Itr lo n) B Hk (rngD lo n) := fun B1 H1 s1 s2 s3 => by
  refine ⟨fun i d e => ?_, by show n ≤ _; simp [rngD]⟩
  unfold rngD at e
  rw [List.getElem?_map] at e
  by_cases h : i < n
  · rw [List.getElem?_range h] at e; cases e
    exact ⟨h, fun x H2 y => by
      obtain ⟨e1, e2⟩ := y
      subst e1 e2
      exact ⟨B1, Grow.refl s2, fun _ _ _ z => z, .int _⟩⟩
  · rw [List.getElem?_eq_none (by simpa using h)] at e; cases e
def rng1O : List D → Option (List D)
  | [.int j] => if -(2 ^ 62) ≤ j ∧ j < 2 ^ 62 then some (rngD 0 j.toNat) else none
  | _ => none
def rng2O : List D → Option (List D)
  | [.int i, .int j] => if -(2 ^ 62) ≤ i ∧ i < 2 ^ 62 ∧ -(2 ^ 62) ≤ j ∧ j < 2 ^ 62 then some (rngD i (j - i).toNat) else none
  | _ => none
theorem i_rng1 {st : Bool} (h : DAr C W X [a] ms) (hm : X.mg "range" = none) (hg : Gl X "range" := by rfl) (hs : starEach [a] X.env = [(false, eval a X.env)] := by rfl) : DI C W X st tg (.Call (.Name "range" p) [a] [] pos) (mUn ms fun ds => optM (rng1O ds)) := fun B0 H0 B H σ env P fr R q =>
  wI_of (pi_range1 hg hm aw hs) (h B0 H0 B H σ env P fr _ (PostI.bind q fun ds P1 vs B1 H1 g p r q => by
    obtain ⟨xs, e1, q⟩ := PostI.opt q
    unfold rng1O at e1
    split at e1
    · split at e1
      · rename_i hz
        cases e1
        obtain ⟨v, rfl, r8⟩ := RRs.one (Hs := B) r
        rw [RR.int (Hs := B) r8]
        exact ⟨_, rfl, hz.1, hz.2, q _ B1 H1 B1 g p g.sub (fun _ a z => .inr z) it_rng⟩
      · cases e1
    · cases e1))
theorem i_rng2 {st : Bool} (h : DAr C W X [a, b] ms) (hm : X.mg "range" = none) (hg : Gl X "range" := by rfl) (hs : starEach [a, b] X.env = [(false, eval a X.env), (false, eval b X.env)] := by rfl) (hs2 : starEach [b] X.env = [(false, eval b X.env)] := by rfl) : DI C W X st tg (.Call (.Name "range" p) [a, b] [] pos) (mUn ms fun ds => optM (rng2O ds)) := fun B0 H0 B H σ env P fr R q =>
  wI_of (pi_range2 hg hm aw hs hs2) (h B0 H0 B H σ env P fr _ (PostI.bind q fun ds P1 vs B1 H1 g p r q => by
    obtain ⟨xs, e1, q⟩ := PostI.opt q
    unfold rng2O at e1
    split at e1
    · split at e1
      · rename_i hz
        cases e1
        obtain ⟨v, w, rfl, r8, r9⟩ := RRs.two (Hs := B) r
        rw [RR.int (Hs := B) r8, RR.int (Hs := B) r9]
        exact ⟨_, _, rfl, hz, q _ B1 H1 B1 g p g.sub (fun _ a z => .inr z) it_rng⟩
      · cases e1
    · cases e1))
/-! zip of two sequences of one kind -/
def zipD : List D → List D → List D
  | x :: xs, y :: ys => .tup [x, y] :: zipD xs ys
  | _, _ => []
theorem zipD_get : ∀ {xs ys : List D} {i : Nat} {d : D}, (zipD xs ys)[i]? = some d → ∃ x y, xs[i]? = some x ∧ ys[i]? = some y ∧ d = .tup [x, y]
  | [], _, _, _, e => by simp [zipD] at e
  | _ :: _, [], _, _, e => by simp [zipD] at e
  | x :: xs, y :: ys, 0, d, e => by simp [zipD] at e; exact ⟨x, y, rfl, rfl, e.symm⟩
  | x :: xs, y :: ys, i + 1, d, e => by
    obtain ⟨x', y', h1, h2, h3⟩ := zipD_get (xs := xs) (ys := ys) (i := i) (by simpa [zipD] using e)
    exact ⟨x', y', by simpa using h1, by simpa using h2, h3⟩
theorem zipD_len : ∀ xs ys : List D, (zipD xs ys).length = min xs.length ys.length
  | [], _ => by simp [zipD]
  | _ :: _, [] => by simp [zipD]
  | _ :: xs, _ :: ys => by simp [zipD, zipD_len xs ys] <;> omega
theorem pair_new {B1 H1 : Hp} (s2 : Same B1 H1) {x y : V} {dx dy : D} (rx : Rep C B1 x dx) (ry : Rep C B1 y dy) {T : Addr} (hT : H1 T = none) : ∃ B2, Grow C B1 H1 B2 (upd H1 T (.tup [x, y])) ∧ (∀ p o, C.pu = some p → H1 p = some o → upd H1 T (.tup [x, y]) p = some o) ∧ Rep C B2 (.ref T) (.tup [dx, dy]) :=
  ⟨upd B1 T (.tup [x, y]), Grow.new s2 hT, fun q o _ e => by rw [upd_ne (ne_of_none e hT)]; exact e, .tup (SqT.of upd_same) (.cons (rx.mono (Grow.new (C := C) s2 hT).bb) (.cons (ry.mono (Grow.new (C := C) s2 hT).bb) .nil))⟩
theorem it_zipL {K : PySem.W.Frag} {l k : Addr} {vs ws : List V} {xs ys : List D} {B Hk : Hp} (r : Reps C B vs xs) (r2 : Reps C B ws ys) (h : ∀ B1 H1, Same B B1 → Same B1 H1 → (∀ a o, Hk a = some o → C.pu ≠ some a → H1 a = some o) → SqL K H1 l vs ∧ SqL K H1 k ws) : ItOk C (Itz K l k) B Hk (zipD xs ys) := fun B1 H1 s1 s2 s3 => by
  obtain ⟨hl, hk⟩ := h B1 H1 s1 s2 s3
  refine ⟨fun i d e => ?_, vs, ws, hl, hk, ?_⟩
  · obtain ⟨x, y, e1, e2, rfl⟩ := zipD_get e
    obtain ⟨v, hv, rv⟩ := r.get e1
    obtain ⟨w, hw, rw'⟩ := r2.get e2
    refine ⟨⟨vs, ws, v, w, hl, hk, hv, hw⟩, fun z H2 yy => ?_⟩
    obtain ⟨T, x', y', rfl, hT, rfl, q1, q2⟩ := yy
    have q1 := q1 vs hl; rw [hv] at q1; cases q1
    have q2 := q2 ws hk; rw [hw] at q2; cases q2
    exact pair_new s2 (rv.mono s1) (rw'.mono s1) hT
  · rw [zipD_len, r.length, r2.length] <;> omega
theorem it_zipT {K : PySem.W.Frag} {l k : Addr} {vs ws : List V} {xs ys : List D} {B Hk : Hp} (r : Reps C B vs xs) (r2 : Reps C B ws ys) (h : ∀ B1 H1, Same B B1 → Same B1 H1 → SqT K H1 l vs ∧ SqT K H1 k ws) : ItOk C (ItzT K l k) B Hk (zipD xs ys) := fun B1 H1 s1 s2 s3 => by
  obtain ⟨hl, hk⟩ := h B1 H1 s1 s2
  refine ⟨fun i d e => ?_, vs, ws, hl, hk, ?_⟩
  · obtain ⟨x, y, e1, e2, rfl⟩ := zipD_get e
    obtain ⟨v, hv, rv⟩ := r.get e1
    obtain ⟨w, hw, rw'⟩ := r2.get e2
    refine ⟨⟨vs, ws, v, w, hl, hk, hv, hw⟩, fun z H2 yy => ?_⟩
    obtain ⟨T, x', y', rfl, hT, rfl, q1, q2⟩ := yy
    have q1 := q1 vs hl; rw [hv] at q1; cases q1
    have q2 := q2 ws hk; rw [hw] at q2; cases q2
    exact pair_new s2 (rv.mono s1) (rw'.mono s1) hT
  · rw [zipD_len, r.length, r2.length] <;> omega
def zipO : List D → Option (List D)
  | [.lst xs, .lst ys] => some (zipD xs ys)
  | [.tup xs, .tup ys] => some (zipD xs ys)
  | _ => none
/-- frozen operands: for every loop -/
theorem i_zip {st : Bool} {elts : List Expr} {kk : Nat} {tpos : Pos} (h : DA C W X [a, b] ms) (hm : X.mg "zip" = none) (k : PI X (.Tuple elts kk tpos) (.Call (.Name "zip" p) [a, b] [] pos) (iZipA X.K (wA X [a, b]))) (hK : X.K = C.K := by rfl) : DI C W X st (.Tuple elts kk tpos) (.Call (.Name "zip" p) [a, b] [] pos) (mUn ms fun ds => optM (zipO ds)) := fun B0 H0 B H σ env P fr R q =>
  wI_of k (h B0 H0 B H σ env P fr _ (PostI.bind q fun ds P1 vs B1 H1 g p r q => by
    obtain ⟨xs, e1, q⟩ := PostI.opt q
    unfold zipO at e1
    split at e1
    · cases e1
      cases r with | cons r t => cases t with | cons r2 t => cases t; cases r with | lst s1 r => cases r2 with | lst s2 r2 =>
        exact ⟨_, _, _, _, rfl, .inl ⟨SqL.of (g.sub _ _ s1), SqL.of (g.sub _ _ s2), q _ B1 H1 B1 g p g.sub (fun _ a z => .inr z) (it_zipL r r2 fun B2 H2 z1 z2 _ => ⟨SqL.of (z2 _ _ (z1 _ _ s1)), SqL.of (z2 _ _ (z1 _ _ s2))⟩)⟩⟩
    · cases e1
      cases r with | cons r t => cases t with | cons r2 t => cases t; cases r with | tup s1 r => cases r2 with | tup s2 r2 =>
        exact ⟨_, _, _, _, rfl, .inr ⟨by rw [hK]; exact sqT_mono g.sub s1, by rw [hK]; exact sqT_mono g.sub s2, q _ B1 H1 B1 g p g.sub (fun _ a z => .inr z) (it_zipT r r2 fun B2 H2 z1 z2 => by rw [hK]; exact ⟨sqT_mono (z1.trans z2) s1, sqT_mono (z1.trans z2) s2⟩)⟩⟩
    · cases e1))
/-! enumerate of a list -/
def enumD : Nat → List D → List D
  | _, [] => []
  | i, x :: xs => .tup [.int (i : Nat), x] :: enumD (i + 1) xs
theorem enumD_len : ∀ (k : Nat) (xs : List D), (enumD k xs).length = xs.length
  | _, [] => rfl
  | k, x :: xs => congrArg (· + 1) (enumD_len (k + 1) xs)
theorem enumD_get : ∀ {xs : List D} {k i : Nat} {d : D}, (enumD k xs)[i]? = some d → ∃ x, xs[i]? = some x ∧ d = .tup [.int ((k + i : Nat)), x]
  | [], _, _, _, e => by simp [enumD] at e
  | x :: xs, k, 0, d, e => by simp [enumD] at e; exact ⟨x, rfl, e.symm⟩
  | x :: xs, k, i + 1, d, e => by
    obtain ⟨x', h1, h2⟩ := enumD_get (xs := xs) (k := k + 1) (i := i) (by simpa [enumD] using e)
    exact ⟨x', by simpa using h1, by rw [h2]; congr 3; congr 1; omega⟩
theorem it_enum {K : PySem.W.Frag} {l : Addr} {vs : List V} {xs : List D} {B Hk : Hp} (r : Reps C B vs xs) (h : ∀ B1 H1, Same B B1 → Same B1 H1 → (∀ a o, Hk a = some o → C.pu ≠ some a → H1 a = some o) → SqL K H1 l vs) : ItOk C (Ite K l) B Hk (enumD 0 xs) := fun B1 H1 s1 s2 s3 => by
  have hl := h B1 H1 s1 s2 s3
  refine ⟨fun i d e => ?_, vs, hl, by rw [enumD_len, r.length]; exact Nat.le_refl _⟩
  obtain ⟨x, e1, rfl⟩ := enumD_get e
  obtain ⟨v, hv, rv⟩ := r.get e1
  refine ⟨⟨vs, v, hl, hv⟩, fun z H2 yy => ?_⟩
  obtain ⟨T, x', rfl, hT, rfl, q1⟩ := yy
  have q1 := q1 vs hl; rw [hv] at q1; cases q1
  have e0 : (0 + i : Nat) = i := Nat.zero_add i
  rw [e0]
  exact pair_new s2 (.int _) (rv.mono s1) hT

/-! ### for -/
theorem Fr.rebase {B0 H0 B H : Hp} {σ : L2.St} {env : Ev} {P : Pu} (f : Fr C B0 H0 B H σ env P) : ∃ Hk : Hp, (∀ a o, Hk a = some o → H a = some o) ∧ (∀ a o, H a = some o → (∀ (i : Nat) xs, env[i]? = some (.own xs) → σ[i]? ≠ some (some (.ref a))) → Hk a = some o) ∧ Fr C B Hk B H σ env P ∧
    (∀ B1 H1, Grow C B Hk B1 H1 → Grow C B0 H0 B1 H1) ∧ ∀ B1 H1 σ1 env1 P1, Fr C B Hk B1 H1 σ1 env1 P1 → Fr C B0 H0 B1 H1 σ1 env1 P1 := by
  classical
  let ow : Addr → Prop := fun a => ∃ (i : Nat) (xs : List D), env[i]? = some (.own xs) ∧ σ[i]? = some (some (.ref a))
  let Hk : Hp := fun a => if ow a then none else H a
  have k1 : ∀ a o, Hk a = some o → H a = some o := fun a o e => by
    by_cases h : ow a
    · simp only [Hk, if_pos h] at e; cases e
    · simpa only [Hk, if_neg h] using e
  have k2 : ∀ a o, H a = some o → ¬ ow a → Hk a = some o := fun a o e h => by simpa only [Hk, if_neg h] using e
  have k3 : ∀ a, H0 a ≠ none → ¬ ow a := fun a h ⟨i, xs, e, s⟩ => by
    obtain ⟨q, vs, s1, _, _, h0, _⟩ := f.own i xs e
    rw [s] at s1; cases s1
    exact h h0
  have k4 : ∀ a, ow a → Hk a = none := fun a h => by simp only [Hk, if_pos h]
  have gg : ∀ B1 H1, Grow C B Hk B1 H1 → Grow C B0 H0 B1 H1 := fun B1 H1 g => by
    refine ⟨f.g.bb.trans g.bb, g.sub, fun a o e n => ?_, fun a h k => ?_⟩
    · exact g.hh a o (k2 a o (f.g.hh a o e n) (k3 a (by rw [e]; simp))) n
    · obtain ⟨h1, h2⟩ := f.g.nb a h k
      refine g.nb a h1 ?_
      cases e : H a with
      | none => exact absurd e h2
      | some o => rw [k2 a o e (k3 a k)]; simp
  refine ⟨Hk, k1, fun a o e h => k2 a o e fun ⟨i, xs, e1, s1⟩ => h i xs e1 s1, ⟨⟨Same.refl B, f.g.sub, fun a o e _ => k1 a o e, fun a h k => ⟨h, ?_⟩⟩, f.pur, f.len, f.val, fun i xs e => ?_, f.inj⟩, gg, fun B1 H1 σ1 env1 P1 g => ⟨gg B1 H1 g.g, g.pur, g.len, g.val, fun i xs e => ?_, g.inj⟩⟩
  · cases e : Hk a with
    | none => exact absurd e k
    | some o => rw [k1 a o e]; simp
  · obtain ⟨q, vs, s1, hq, bq, h0, np, r⟩ := f.own i xs e
    exact ⟨q, vs, s1, hq, bq, k4 q ⟨i, xs, e, s1⟩, np, r⟩
  · obtain ⟨q, vs, s1, hq, bq, h0, np, r⟩ := g.own i xs e
    refine ⟨q, vs, s1, hq, bq, ?_, np, r⟩
    cases e0 : H0 q with
    | none => rfl
    | some o =>
      have nn : H0 q ≠ none := by rw [e0]; simp
      have : H q ≠ none := fun z => nn (f.g.there z)
      cases e1 : H q with
      | none => exact absurd e1 this
      | some u =>
        have := k2 q u e1 (k3 q nn)
        rw [h0] at this; cases this
def forM (t : D → Ev → Option Ev) (body : Ev → M Out) : List D → Ev → M Out
  | [], env => M.ok (.next env)
  | x :: xs, env => M.bind (optM (t x env)) fun env1 => M.bind (body env1) fun o => match o with
    | .next env2 => forM t body xs env2
    | .cont env2 => forM t body xs env2
    | .brk env2 => M.ok (.next env2)
    | .ret d => M.ok (.ret d)
def mFor (mi : Ev → M (List D)) (t : D → Ev → Option Ev) (body : Ev → M Out) : Ev → M Out := fun env => M.bind (mi env) fun ds => forM t body ds env
theorem PostS.base {B0 H0 B Hk : Hp} {r : Res Out} {E : Ends} (h : PostS C W B0 H0 r E) (g : ∀ B1 H1, Grow C B Hk B1 H1 → Grow C B0 H0 B1 H1) (f : ∀ B1 H1 σ1 env1 P1, Fr C B Hk B1 H1 σ1 env1 P1 → Fr C B0 H0 B1 H1 σ1 env1 P1) : PostS C W B Hk r E := by
  cases r with
  | stuck => exact h
  | exc x P => exact fun cls dd σ' B' H' g' p i => h cls dd σ' B' H' (g _ _ g') p i
  | ok o P => cases o with
    | next env' => exact fun σ' B' H' f' => h σ' B' H' (f _ _ _ _ _ f')
    | brk env' => exact fun σ' B' H' f' => h σ' B' H' (f _ _ _ _ _ f')
    | cont env' => exact fun σ' B' H' f' => h σ' B' H' (f _ _ _ _ _ f')
    | ret d => exact fun v B' H' g' p r => h v B' H' (g _ _ g') p r
theorem s_for {iter : Expr} {mi : Ev → M (List D)} {g : TG} {is : List Nat} {t : D → Ev → Option Ev} {body : List Stmt} {mbody : Ev → M Out} (hi : DI C W X true tg iter mi) (ht : TgRun C g is t) (hb : DSs C W X body mbody)
    (k : PS X (.For tg iter body [] pos) (tFor (wI X tg iter) g (wSs X body))) : DS C W X (.For tg iter body [] pos) (mFor mi t mbody) := fun B0 H0 B H σ env P fr E q => by
  refine wS_of k (hi B0 H0 B H σ env P fr _ ?_)
  unfold mFor M.bind at q
  cases em : mi env P with
  | stuck => rw [em] at q; exact q
  | exc x P1 => rw [em] at q; exact fun cls dd B' H' g p i => q cls dd σ B' H' (fr.g.trans g) p i
  | ok ds P1 =>
    rw [em] at q
    intro J B1 H1 Hs g1 p1 hs1 hs2 it
    have fr1 := fr.grow g1 p1
    obtain ⟨Hk, k1, k2, fr2, gg, ff⟩ := fr1.rebase
    have it := it.more (Hk' := Hk) fun a o e => k2 a o (hs1 a o e) fun i xs ei si => by
      obtain ⟨l, vs, s1, hl, bl, h0, _⟩ := fr.own i xs ei
      rw [si] at s1; cases s1
      rcases hs2 rfl a (by rw [e]; simp) with z | z
      · rw [hl] at z; cases z
      · exact z (g1.nb a bl (by rw [hl]; simp)).1
    refine ⟨fun i m σ' H' => i + m = ds.length ∧ ∃ B' env' P', Fr C B1 Hk B' H' σ' env' P' ∧ PostS C W B1 Hk (forM t mbody (ds.drop i) env' P') E, ⟨ds.length, by omega, B1, env, P1, fr2, by rw [List.drop_zero]; exact q.base gg ff⟩, ?_⟩
    rintro i m σ' H' ⟨hn, B', env', P', fr', q'⟩
    have keep : ∀ a o, Hk a = some o → C.pu ≠ some a → H' a = some o := fun a o e n => fr'.g.hh a o e n
    obtain ⟨i1, i2⟩ := it B' H' fr'.g.bb fr'.g.sub keep
    cases hd : ds[i]? with
    | none =>
      have hl : ds.length ≤ i := List.getElem?_eq_none_iff.mp hd
      have hl2 : i = ds.length := by omega
      subst hl2
      rw [List.drop_length] at q'
      exact .inl ⟨i2, q' σ' B' H' fr'⟩
    | some d =>
      obtain ⟨go, yl⟩ := i1 i d hd
      have hlt : i < ds.length := (List.getElem?_eq_some_iff.mp hd).1
      have ed : ds.drop i = d :: ds.drop (i + 1) := by
        rw [List.drop_eq_getElem_cons hlt]
        have := (List.getElem?_eq_some_iff.mp hd).2
        rw [this]
      rw [ed] at q'
      unfold forM at q'
      obtain ⟨env1, et, q'⟩ := optS q'
      refine .inr ⟨go, fun σ2 H2 => ∃ B2 env2 P2, Fr C B1 Hk B2 H2 σ2 env2 P2 ∧ PostS C W B1 Hk (forM t mbody (ds.drop (i + 1)) env2 P2) E, fun σ2 H2 ⟨B2, env2, P2, f, z⟩ => ⟨m - 1, by omega, by omega, B2, env2, P2, f, z⟩, fun x H2 y => ?_⟩
      obtain ⟨B2, g2, pu2, rx⟩ := yl x H2 y
      have fr3 := fr'.grow g2 (fr'.pur.up g2 pu2)
      refine ht d env' env1 et B1 Hk B2 H2 σ' P' x _ fr3 rx fun ws fr4 => hb B1 Hk B2 H2 _ env1 P' fr4 _ ?_
      unfold M.bind at q'
      cases eb : mbody env1 P' with
      | stuck => rw [eb] at q'; exact q'
      | exc x P2 => rw [eb] at q'; exact q'
      | ok o P2 =>
        rw [eb] at q'
        cases o with
        | next env2 => exact fun σ5 B5 H5 f5 => ⟨B5, env2, P2, f5, q'⟩
        | cont env2 => exact fun σ5 B5 H5 f5 => ⟨B5, env2, P2, f5, q'⟩
        | brk env2 => exact q'
        | ret d => exact q'
end
end PD

set_option Elab.async false
set_option linter.all false
set_option maxRecDepth 100000
/-! PD7: comprehensions, while. -/
namespace PD
open PySem PySem.Spec PyProof.Rows L2 RZ
section
variable {C : Cn} {W : WX} {X : Cx} {a b c e tg elt iter : Expr} {es : List Expr} {p pos : Pos} {ma mb mc m : Ev → M D} {ms : Ev → M (List D)}

def WF : WX := fun _ _ _ _ => False
def noexc {α : Type} (m : M α) : M α := fun P => match m P with
  | .stuck => .stuck
  | .ok a P' => .ok a P'
  | .exc _ _ => .stuck
@[simp] theorem noexc_ok {α : Type} (a : α) : noexc (M.ok a) = M.ok a := rfl
def lcM (t : D → Ev → Option Ev) (tt : Ev → M Bool) (te : Ev → M D) (env : Ev) : List D → M (List D)
  | [] => M.ok []
  | x :: xs => M.bind (optM (t x env)) fun env1 => M.bind (noexc (tt env1)) fun k => if k then M.bind (noexc (te env1)) fun y => M.bind (lcM t tt te env xs) fun ys => M.ok (y :: ys) else lcM t tt te env xs
theorem noexc_bind {α β : Type} {m : M α} {f : α → M β} {P : Pu} : M.bind (noexc m) f P = match m P with
    | .ok a P2 => f a P2
    | .stuck => .stuck
    | .exc _ _ => .stuck := by
  unfold M.bind noexc
  cases m P <;> rfl
theorem lcM_step {t : D → Ev → Option Ev} {tt : Ev → M Bool} {te : Ev → M D} {env : Ev} {x : D} {xs : List D} {β : Type} {K : List D → M β} {P : Pu} : M.bind (lcM t tt te env (x :: xs)) K P = match t x env with
    | none => .stuck
    | some env1 => match tt env1 P with
      | .ok k P2 => if k = true then (match te env1 P2 with | .ok y P3 => M.bind (lcM t tt te env xs) (fun ys => K (y :: ys)) P3 | .stuck => .stuck | .exc _ _ => .stuck) else M.bind (lcM t tt te env xs) K P2
      | .stuck => .stuck
      | .exc _ _ => .stuck := by
  rw [lcM, bind_assoc]
  cases t x env with
  | none => rfl
  | some env1 =>
    show M.bind (M.bind (noexc (tt env1)) _) K P = _
    rw [bind_assoc]
    rw [noexc_bind]
    cases h1 : tt env1 P with
    | stuck => simp only [h1]
    | exc x P2 => simp only [h1]
    | ok k P2 =>
      simp only [h1]
      cases k with
      | false => rfl
      | true =>
        show M.bind (M.bind (noexc (te env1)) _) K P2 = _
        rw [bind_assoc]
        rw [noexc_bind, if_pos rfl]
        cases h2 : te env1 P2 with
        | stuck => simp only [h2]
        | exc x P3 => simp only [h2]
        | ok y P3 =>
          simp only [h2]
          rw [bind_assoc]
          rfl
def wipeE (env : Ev) : List Nat → Ev
  | [] => env
  | v :: vs => (wipeE env vs).set v .no
def mLc (own : List Nat) (t : D → Ev → Option Ev) (tt : Ev → M Bool) (te : Ev → M D) (mi : Ev → M (List D)) : Ev → M (List D) := fun env => M.bind (mi env) fun ds => if ds.length ≤ cap then lcM t tt te (wipeE env own) ds else M.stuck
theorem wipe_get {σ : L2.St} {j : Nat} : ∀ {vs : List Nat}, (wipe σ vs)[j]? = if j ∈ vs ∧ j < σ.length then some none else σ[j]?
  | [] => by simp [wipe]
  | v :: vs => by
    unfold wipe
    by_cases h : v = j
    · subst h
      by_cases hl : v < σ.length
      · rw [List.getElem?_set_self (by rw [wipe_length]; exact hl), if_pos ⟨by simp, hl⟩]
      · rw [List.getElem?_eq_none (by rw [List.length_set, wipe_length]; omega), if_neg (fun z => hl z.2), List.getElem?_eq_none (by omega)]
    · rw [List.getElem?_set_ne h, wipe_get]
      have : (j ∈ v :: vs) ↔ j ∈ vs := by
        rw [List.mem_cons]
        exact ⟨fun z => z.elim (fun e => absurd e.symm h) id, .inr⟩
      simp only [this]
theorem setAll_get {α : Type} {j : Nat} : ∀ {is : List Nat} {ws l : List α}, j ∉ is → (setAll is ws l)[j]? = l[j]?
  | [], _, _, _ => by unfold setAll; rfl
  | i :: is, [], _, _ => by unfold setAll; rfl
  | i :: is, w :: ws, l, h => by
    unfold setAll
    rw [setAll_get (fun z => h (List.mem_cons_of_mem _ z)), List.getElem?_set_ne (fun z => h (by rw [z]; exact List.mem_cons_self))]
theorem setAll_len {α : Type} : ∀ {is : List Nat} {ws l : List α}, (setAll is ws l).length = l.length
  | [], _, _ => by unfold setAll; rfl
  | i :: is, [], _ => by unfold setAll; rfl
  | i :: is, w :: ws, l => by unfold setAll; rw [setAll_len, List.length_set]
theorem wipe_setAll {σ : L2.St} {is vs : List Nat} {ws : List (Option V)} (h : ∀ i ∈ is, i ∈ vs) : wipe (setAll is ws (wipe σ vs)) vs = wipe σ vs := by
  apply List.ext_getElem?
  intro j
  rw [wipe_get, setAll_len, wipe_length]
  by_cases hj : j ∈ vs ∧ j < σ.length
  · rw [if_pos hj, wipe_get, if_pos hj]
  · rw [if_neg hj]
    by_cases hv : j ∈ vs
    · have : ¬ j < σ.length := fun z => hj ⟨hv, z⟩
      rw [List.getElem?_eq_none (by rw [setAll_len, wipe_length]; omega), List.getElem?_eq_none (by rw [wipe_length]; omega)]
    · exact setAll_get fun z => hv (h j z)
theorem wipeE_get {env : Ev} {j : Nat} {s : Sl} : ∀ {vs : List Nat}, (wipeE env vs)[j]? = some s → s = .no ∨ (env[j]? = some s ∧ j ∉ vs)
  | [], h => .inr ⟨h, by simp⟩
  | v :: vs, h => by
    unfold wipeE at h
    by_cases hv : v = j
    · subst hv
      by_cases hl : v < (wipeE env vs).length
      · rw [List.getElem?_set_self hl] at h; cases h; exact .inl rfl
      · rw [List.getElem?_eq_none (by rw [List.length_set]; omega)] at h; cases h
    · rw [List.getElem?_set_ne hv] at h
      rcases wipeE_get h with z | ⟨z, n⟩
      · exact .inl z
      · refine .inr ⟨z, fun q => ?_⟩
        rcases List.mem_cons.mp q with q | q
        · exact hv q.symm
        · exact n q
theorem wipeE_len {env : Ev} : ∀ {vs : List Nat}, (wipeE env vs).length = env.length
  | [] => rfl
  | v :: vs => by unfold wipeE; rw [List.length_set, wipeE_len]
theorem Fr.wipe {B0 H0 B H : Hp} {σ : L2.St} {env : Ev} {P : Pu} (f : Fr C B0 H0 B H σ env P) (vs : List Nat) : Fr C B0 H0 B H (L2.wipe σ vs) (wipeE env vs) P where
  g := f.g
  pur := f.pur
  len := by rw [wipe_length, wipeE_len]; exact f.len
  val := fun i d e => by
    rcases wipeE_get e with z | ⟨z, n⟩
    · cases z
    · obtain ⟨v, s, r⟩ := f.val i d z
      exact ⟨v, by rw [wipe_get, if_neg (fun q => n q.1)]; exact s, r⟩
  own := fun i xs e => by
    rcases wipeE_get e with z | ⟨z, n⟩
    · cases z
    · obtain ⟨q, us, s, r⟩ := f.own i xs z
      exact ⟨q, us, by rw [wipe_get, if_neg (fun q => n q.1)]; exact s, r⟩
  inj := fun i j xs ys q e1 e2 s1 s2 => by
    rcases wipeE_get e1 with z | ⟨z1, n1⟩
    · cases z
    · rcases wipeE_get e2 with z | ⟨z2, n2⟩
      · cases z
      · rw [wipe_get, if_neg (fun q => n1 q.1)] at s1
        rw [wipe_get, if_neg (fun q => n2 q.1)] at s2
        exact f.inj i j xs ys q z1 z2 s1 s2
theorem lc_do {g : TG} {tt : TT} {te : TE} {vs is : List Nat} {t : D → Ev → Option Ev} {mtt : Ev → M Bool} {mte : Ev → M D} {mi : Ev → M (List D)} (hi : DI C W X false tg iter mi) (hg : TgRun C g is t) (htt : Do C WF tt RB mtt) (hte : Do C WF te (RD C) mte) (hin : ∀ i ∈ is, i ∈ vs) :
    Do C W (tLc (wI X tg iter) g tt te vs) (RF C) (mLc vs t mtt mte mi) := fun B0 H0 B H σ env P fr Q q => by
  refine hi B0 H0 B H σ env P fr _ ?_
  unfold mLc M.bind at q
  cases em : mi env P with
  | stuck => rw [em] at q; exact q
  | exc x P1 => rw [em] at q; exact q
  | ok ds P1 =>
    rw [em] at q
    intro J B1 H1 Hs g1 p1 hs1 _ it Dl hD
    have hz : ds.length ≤ cap := by
      by_cases h : ds.length ≤ cap
      · exact h
      · simp only [if_neg h] at q; exact q.elim
    simp only [if_pos hz] at q
    have q := q.grow g1
    have fr1 := fr.grow g1 p1
    have hD0 : H0 Dl = none := fr1.g.there hD
    have hDs : H Dl = none := g1.there hD
    have bD1 : B1 Dl = none := g1.sub.free hD
    have npD : C.pu ≠ some Dl := fun e => by obtain ⟨⟨o, h, _⟩, _⟩ := p1 Dl e; rw [hD] at h; cases h
    have newD : ∀ (j : Nat) xs, (wipeE env vs)[j]? = some (.own xs) → (wipe σ vs)[j]? ≠ some (some (.ref Dl)) := (fr1.wipe vs).fresh hD
    refine ⟨fun i m H' => i + m = ds.length ∧ ∃ B' P' accV acc, Fr C B0 H0 B' H' (wipe σ vs) (wipeE env vs) P' ∧ Grow C B1 H1 B' H' ∧ H' Dl = some (.lst accV) ∧ B' Dl = none ∧ Reps C B' accV acc ∧ acc.length ≤ i ∧
      Post C W σ B1 H1 (RF C H) (M.bind (lcM t mtt mte (wipeE env vs) (ds.drop i)) (fun ys => M.ok (acc ++ ys)) P') Q, ?_, ?_⟩
    · refine ⟨ds.length, by omega, B1, P1, [], [], ?_, Grow.loose g1.sub hD, upd_same, bD1, .nil, Nat.le_refl _, ?_⟩
      · exact (fr1.grow (Grow.loose g1.sub hD) (p1.loose g1.sub hD)).wipe vs
      · have e : M.bind (lcM t mtt mte (wipeE env vs) (ds.drop 0)) (fun ys => M.ok ([] ++ ys)) P1 = lcM t mtt mte (wipeE env vs) ds P1 := by
          rw [List.drop_zero]
          unfold M.bind
          cases lcM t mtt mte (wipeE env vs) ds P1 <;> rfl
        rw [e]; exact q
    · rintro i m H' ⟨hn, B', P', accV, acc, fr', g', hl, bl, r, ha, q'⟩
      obtain ⟨i1, i2⟩ := it B' H' g'.bb g'.sub fun a o e n => g'.hh a o (hs1 a o e) n
      cases hd : ds[i]? with
      | none =>
        have hl1 : ds.length ≤ i := List.getElem?_eq_none_iff.mp hd
        have hl2 : i = ds.length := by omega
        subst hl2
        rw [List.drop_length] at q'
        refine .inl ⟨i2, q' (.ref Dl) B' H' g' fr'.pur ⟨Dl, accV, rfl, hDs, hl, bl, npD, by rw [List.append_nil]; exact r⟩⟩
      | some d =>
        obtain ⟨go, yl⟩ := i1 i d hd
        have hlt : i < ds.length := (List.getElem?_eq_some_iff.mp hd).1
        have ed : ds.drop i = d :: ds.drop (i + 1) := by
          rw [List.drop_eq_getElem_cons hlt]
          have := (List.getElem?_eq_some_iff.mp hd).2
          rw [this]
        rw [ed] at q'
        rw [lcM_step] at q'
        cases et : t d (wipeE env vs) with
        | none => rw [et] at q'; exact q'.elim
        | some env1 =>
          rw [et] at q'
          refine .inr ⟨go, fun H2 => ∃ B2 P2 accV acc, Fr C B0 H0 B2 H2 (wipe σ vs) (wipeE env vs) P2 ∧ Grow C B1 H1 B2 H2 ∧ H2 Dl = some (.lst accV) ∧ B2 Dl = none ∧ Reps C B2 accV acc ∧ acc.length ≤ i + 1 ∧
            Post C W σ B1 H1 (RF C H) (M.bind (lcM t mtt mte (wipeE env vs) (ds.drop (i + 1))) (fun ys => M.ok (acc ++ ys)) P2) Q,
            fun H2 z => ⟨m - 1, by omega, by omega, z⟩, fun x H2 y => ?_⟩
          obtain ⟨B2, g2, pu2, rx⟩ := yl x H2 y
          have fr2 := fr'.grow g2 (fr'.pur.up g2 pu2)
          refine hg d (wipeE env vs) env1 et B0 H0 B2 H2 (wipe σ vs) P' x _ fr2 rx fun ws fr3 => ⟨wipe_setAll hin, ?_⟩
          refine htt B0 H0 B2 H2 _ env1 P' fr3 _ ?_
          have hl2 := g2.hh _ _ hl npD
          have bl2 := (g2.nb Dl bl (by rw [hl]; simp)).1
          have r2 := r.mono g2.bb
          have g12 := g'.trans g2
          cases ett : mtt env1 P' with
          | stuck => simp only [ett] at q'; exact q'.elim
          | exc x P2 => simp only [ett] at q'; exact q'.elim
          | ok k P2 =>
            intro k' B3 H3 g3 p3 rk
            have rk : k' = k := rk
            subst rk
            simp only [ett] at q'
            have fr4 := fr2.grow g3 p3
            have hl3 := g3.hh _ _ hl2 npD
            have bl3 := (g3.nb Dl bl2 (by rw [hl2]; simp)).1
            have r3 := r2.mono g3.bb
            have g13 := g12.trans g3
            cases k' with
            | false =>
              rw [if_neg Bool.false_ne_true] at q'
              exact iteF ⟨B3, P2, accV, acc, fr4, g13, hl3, bl3, r3, by omega, q'⟩
            | true =>
              rw [if_pos rfl] at q'
              refine iteT (hte B0 H0 B3 H3 _ env1 P2 (fr3.grow g3 p3) _ ?_)
              cases ete : mte env1 P2 with
              | stuck => simp only [ete] at q'; exact q'.elim
              | exc x P3 => simp only [ete] at q'; exact q'.elim
              | ok y P3 =>
                intro v B4 H4 g4 p4 rv
                simp only [ete] at q'
                have fr5 := fr4.grow g4 p4
                have hl4 := g4.hh _ _ hl3 npD
                have bl4 := (g4.nb Dl bl3 (by rw [hl3]; simp)).1
                have r4 := r3.mono g4.bb
                have g14 := g13.trans g4
                refine ⟨accV, hl4, cap_lt (by rw [r4.length]; omega), B4, P3, accV ++ [v], acc ++ [y], fr5.upd (by rw [hl4]; simp) bl4 hD0 npD newD, ?_, upd_same, bl4, r4.append (.cons rv .nil), by simp; omega, ?_⟩
                · have ne : ∀ {a : Addr}, H1 a ≠ none → a ≠ Dl := fun {a} z e => z (by rw [e]; exact hD)
                  refine ⟨g14.bb, fun a u e => ?_, fun a u e n => ?_, fun a h k => ?_⟩
                  · have n : a ≠ Dl := fun z => by rw [z, bl4] at e; cases e
                    rw [upd_ne n]; exact g14.sub a u e
                  · rw [upd_ne (ne (by rw [e]; simp))]; exact g14.hh a u e n
                  · rw [upd_ne (ne k)]; exact g14.nb a h k
                · have e : (fun ys => M.ok ((acc ++ [y]) ++ ys) : List D → M (List D)) = fun ys => M.ok (acc ++ y :: ys) := by
                    funext ys; rw [List.append_assoc]; rfl
                  rw [e]; exact q'
/-- the block's readings, whatever its frame -/
def wEb (X : Cx) (scope : Scope) (e : Expr) : TE := fun σ H Q => ∀ (s : Shared) (H' : Hp) (c : Addr) (cl : List (Str × Addr)) (fp : List Addr), wE (X.blk s H' scope (compEnvC scope cl c X.env) fp) e σ H Q
def wTb (X : Cx) (scope : Scope) (e : Expr) : TT := fun σ H Q => ∀ (s : Shared) (H' : Hp) (c : Addr) (cl : List (Str × Addr)) (fp : List Addr), wT (X.blk s H' scope (compEnvC scope cl c X.env) fp) e σ H Q
def mTrue : Ev → M Bool := fun _ => M.ok true
theorem do_yes : Do C WF tYes RB mTrue := fun B0 H0 B H σ env P fr Q q => q.val' fr.g.sub fr.pur rfl
theorem f_lc {scope : Scope} (own : List (Str × Nat)) {is : List Nat} {g : TG} {t : D → Ev → Option Ev} {mte : Ev → M D} {mi : Ev → M (List D)} (hi : DI C W X false tg iter mi) (hN : X.N.Nodup) (ok : blkC X.N X.env.scope scope own = true)
    (ht : ∀ (s : Shared) (H : Hp) (c : Addr) (cl : List (Str × Addr)) (fp : List Addr), PG (X.blk s H scope (compEnvC scope cl c X.env) fp) tg g) (hr : TgRun C g is t)
    (he : ∀ (s : Shared) (H : Hp) (c : Addr) (cl : List (Str × Addr)) (fp : List Addr), DE C WF (X.blk s H scope (compEnvC scope cl c X.env) fp) elt mte)
    (hin : ∀ i ∈ is, i ∈ own.map (·.2) := by decide) (hc : X.calm = true := by rfl) (hs : ∀ x, foldedSetIterable iter X.env x = pure x := by intro _; rfl) : DF C W X (.ListComp elt [⟨tg, iter, [], 0⟩] scope pos) (mLc (own.map (·.2)) t mTrue mte mi) := fun B0 H0 B H σ env P fr Q q =>
  wE_of (pe_lc (own := own) (g := g) (tt := tYes) (te := wEb X scope elt) hc hN iw (blkOk_by ok) ht (fun s H c cl fp => pts_nil) (fun s H c cl fp => ⟨fun pins s' σ H' Q I h => h s H c cl fp pins s' I⟩) hs)
    (lc_do hi hr do_yes (fun B0 H0 B H σ env P fr Q q s H' c cl fp => he s H' c cl fp B0 H0 B H σ env P fr Q q) hin B0 H0 B H σ env P fr Q q)
theorem f_lcif {scope : Scope} (own : List (Str × Nat)) {is : List Nat} {g : TG} {t : D → Ev → Option Ev} {mtt : Ev → M Bool} {mte : Ev → M D} {mi : Ev → M (List D)} (hi : DI C W X false tg iter mi) (hN : X.N.Nodup) (ok : blkC X.N X.env.scope scope own = true)
    (ht : ∀ (s : Shared) (H : Hp) (c : Addr) (cl : List (Str × Addr)) (fp : List Addr), PG (X.blk s H scope (compEnvC scope cl c X.env) fp) tg g) (hr : TgRun C g is t)
    (htt : ∀ (s : Shared) (H : Hp) (cc : Addr) (cl : List (Str × Addr)) (fp : List Addr), DT C WF (X.blk s H scope (compEnvC scope cl cc X.env) fp) c mtt)
    (he : ∀ (s : Shared) (H : Hp) (c : Addr) (cl : List (Str × Addr)) (fp : List Addr), DE C WF (X.blk s H scope (compEnvC scope cl c X.env) fp) elt mte)
    (hin : ∀ i ∈ is, i ∈ own.map (·.2) := by decide) (hc : X.calm = true := by rfl) (hs : ∀ x, foldedSetIterable iter X.env x = pure x := by intro _; rfl) : DF C W X (.ListComp elt [⟨tg, iter, [c], 0⟩] scope pos) (mLc (own.map (·.2)) t mtt mte mi) := fun B0 H0 B H σ env P fr Q q =>
  wE_of (pe_lc (own := own) (g := g) (tt := wTb X scope c) (te := wEb X scope elt) hc hN iw (blkOk_by ok) ht (fun s H cc cl fp => pts_one ⟨fun pins s' σ H' Q I h => h s H cc cl fp pins s' I⟩) (fun s H c cl fp => ⟨fun pins s' σ H' Q I h => h s H c cl fp pins s' I⟩) hs)
    (lc_do hi hr (fun B0 H0 B H σ env P fr Q q s H' c cl fp => htt s H' c cl fp B0 H0 B H σ env P fr Q q) (fun B0 H0 B H σ env P fr Q q s H' c cl fp => he s H' c cl fp B0 H0 B H σ env P fr Q q) hin B0 H0 B H σ env P fr Q q)
/-- x = [..] on one line -/
theorem s_setLc (i : Nat) {x : Str} {px : Pos} {scope : Scope} (own : List (Str × Nat)) {is : List Nat} {g : TG} {t : D → Ev → Option Ev} {mte : Ev → M D} {mi : Ev → M (List D)} (hi : DI C W X false tg iter mi) (hN : X.N.Nodup) (ok : blkC X.N X.env.scope scope own = true)
    (ht : ∀ (s : Shared) (H : Hp) (c : Addr) (cl : List (Str × Addr)) (fp : List Addr), PG (X.blk s H scope (compEnvC scope cl c X.env) fp) tg g) (hr : TgRun C g is t)
    (he : ∀ (s : Shared) (H : Hp) (c : Addr) (cl : List (Str × Addr)) (fp : List Addr), DE C WF (X.blk s H scope (compEnvC scope cl c X.env) fp) elt mte)
    (hsw : swapsWith (.ListComp elt [⟨tg, iter, [], 0⟩] scope pos) (some (.Name x px)) p.line X.env = pure true)
    (hy : X.N[i]? = some x := by rfl) (hyl : X.env.scope.names.lookup x = some .local := by rfl) (hin : ∀ i ∈ is, i ∈ own.map (·.2) := by decide) (hc : X.calm = true := by rfl) (hs : ∀ x, foldedSetIterable iter X.env x = pure x := by intro _; rfl) :
    DS C W X (.Assign [.Name x px] (.ListComp elt [⟨tg, iter, [], 0⟩] scope pos) p) (mSet i (mOwn (mLc (own.map (·.2)) t mTrue mte mi))) := fun B0 H0 B H σ env P fr E q =>
  wS_of (ps_setLc (i := i) (own := own) (g := g) (tt := tYes) (te := wEb X scope elt) hc hN hy hyl hsw iw (blkOk_by ok) ht (fun s H c cl fp => pts_nil) (fun s H c cl fp => ⟨fun pins s' σ H' Q I h => h s H c cl fp pins s' I⟩) hs)
    (lc_do hi hr do_yes (fun B0 H0 B H σ env P fr Q q s H' c cl fp => he s H' c cl fp B0 H0 B H σ env P fr Q q) hin B0 H0 B H σ env P fr _ (by
      unfold mSet mOwn at q
      rw [bind_assoc] at q
      exact PostS.bind (R := RF C H) fr q fun xs P' v B' H' g p fr' r q => q _ B' H' (fr'.store i (s := .own xs) (Hs := H) r (fun l h => fr.g.there h) fun l h => fr.fresh h)))
theorem s_setLcif (i : Nat) {x : Str} {px : Pos} {scope : Scope} (own : List (Str × Nat)) {is : List Nat} {g : TG} {t : D → Ev → Option Ev} {mtt : Ev → M Bool} {mte : Ev → M D} {mi : Ev → M (List D)} (hi : DI C W X false tg iter mi) (hN : X.N.Nodup) (ok : blkC X.N X.env.scope scope own = true)
    (ht : ∀ (s : Shared) (H : Hp) (c : Addr) (cl : List (Str × Addr)) (fp : List Addr), PG (X.blk s H scope (compEnvC scope cl c X.env) fp) tg g) (hr : TgRun C g is t)
    (htt : ∀ (s : Shared) (H : Hp) (cc : Addr) (cl : List (Str × Addr)) (fp : List Addr), DT C WF (X.blk s H scope (compEnvC scope cl cc X.env) fp) c mtt)
    (he : ∀ (s : Shared) (H : Hp) (c : Addr) (cl : List (Str × Addr)) (fp : List Addr), DE C WF (X.blk s H scope (compEnvC scope cl c X.env) fp) elt mte)
    (hsw : swapsWith (.ListComp elt [⟨tg, iter, [c], 0⟩] scope pos) (some (.Name x px)) p.line X.env = pure true)
    (hy : X.N[i]? = some x := by rfl) (hyl : X.env.scope.names.lookup x = some .local := by rfl) (hin : ∀ i ∈ is, i ∈ own.map (·.2) := by decide) (hc : X.calm = true := by rfl) (hs : ∀ x, foldedSetIterable iter X.env x = pure x := by intro _; rfl) :
    DS C W X (.Assign [.Name x px] (.ListComp elt [⟨tg, iter, [c], 0⟩] scope pos) p) (mSet i (mOwn (mLc (own.map (·.2)) t mtt mte mi))) := fun B0 H0 B H σ env P fr E q =>
  wS_of (ps_setLc (i := i) (own := own) (g := g) (tt := wTb X scope c) (te := wEb X scope elt) hc hN hy hyl hsw iw (blkOk_by ok) ht (fun s H cc cl fp => pts_one ⟨fun pins s' σ H' Q I h => h s H cc cl fp pins s' I⟩) (fun s H c cl fp => ⟨fun pins s' σ H' Q I h => h s H c cl fp pins s' I⟩) hs)
    (lc_do hi hr (fun B0 H0 B H σ env P fr Q q s H' c cl fp => htt s H' c cl fp B0 H0 B H σ env P fr Q q) (fun B0 H0 B H σ env P fr Q q s H' c cl fp => he s H' c cl fp B0 H0 B H σ env P fr Q q) hin B0 H0 B H σ env P fr _ (by
      unfold mSet mOwn at q
      rw [bind_assoc] at q
      exact PostS.bind (R := RF C H) fr q fun xs P' v B' H' g p fr' r q => q _ B' H' (fr'.store i (s := .own xs) (Hs := H) r (fun l h => fr.g.there h) fun l h => fr.fresh h)))
/-- the list is put away as it is: standing still -/
def mFzSet (i : Nat) (m : Ev → M Out) : Ev → M Out := fun env => M.bind (m env) fun o => match o with
  | .next env' => match env'[i]? with
    | some (.own xs) => M.ok (.next (env'.set i (.val (.lst xs))))
    | _ => M.ok (.next env')
  | o => M.ok o
end
end PD

set_option Elab.async false
set_option linter.all false
set_option maxRecDepth 100000
/-! PD8: defs, their calls, while. -/
namespace PD
open PySem PySem.Spec PyProof.Rows L2 RZ

/-! ### while, by a number that tells when to give up -/
def whileM (nc : Ev → M Bool) (body : Ev → M Out) : Nat → Ev → M Out
  | 0, _ => M.stuck
  | n + 1, env => M.bind (nc env) fun k => if k then M.bind (body env) fun o => match o with
      | .next env2 => whileM nc body n env2
      | .cont env2 => whileM nc body n env2
      | .brk env2 => M.ok (.next env2)
      | .ret d => M.ok (.ret d)
    else M.ok (.next env)
def mWhile (fu : Ev → Nat) (nc : Ev → M Bool) (body : Ev → M Out) : Ev → M Out := fun env => whileM nc body (fu env) env
section
variable {C : Cn} {W : WX} {X : Cx} {a b c e : Expr} {es : List Expr} {p pos : Pos} {ma mb mc m : Ev → M D} {ms : Ev → M (List D)}
theorem s_while {body : List Stmt} {nc : Ev → M Bool} {mbody : Ev → M Out} (fu : Ev → Nat) (hc : DT C W X c nc) (hb : DSs C W X body mbody) (k : PS X (.While c body [] pos) (tWhile (wT X c) (wSs X body))) : DS C W X (.While c body [] pos) (mWhile fu nc mbody) := fun B0 H0 B H σ env P fr E q => by
  refine wS_of k ⟨fun m σ' H' => ∃ B' env' P', Fr C B0 H0 B' H' σ' env' P' ∧ PostS C W B0 H0 (whileM nc mbody m env' P') E, ⟨fu env, B, env, P, fr, q⟩, ?_⟩
  rintro m σ' H' ⟨B', env', P', fr', q'⟩
  cases m with
  | zero => exact q'.elim
  | succ n =>
    unfold whileM at q'
    refine hc B0 H0 B' H' σ' env' P' fr' _ (PostS.bind fr' q' fun k P1 y B1 H1 g1 p1 fr1 r1 q1 => ?_)
    have r1 : y = k := r1
    subst r1
    cases y with
    | false => exact iteF (q1 σ' B1 H1 fr1)
    | true =>
      refine iteT ⟨fun σ2 H2 => ∃ B2 env2 P2, Fr C B0 H0 B2 H2 σ2 env2 P2 ∧ PostS C W B0 H0 (whileM nc mbody n env2 P2) E, fun σ2 H2 z => ⟨n, Nat.lt_succ_self n, z⟩, hb B0 H0 B1 H1 σ' env' P1 fr1 _ ?_⟩
      have q1 : PostS C W B0 H0 (M.bind (mbody env') _ P1) E := q1
      unfold M.bind at q1
      cases eb : mbody env' P1 with
      | stuck => rw [eb] at q1; exact q1
      | exc x P2 => rw [eb] at q1; exact q1
      | ok o P2 =>
        rw [eb] at q1
        cases o with
        | next env2 => exact fun σ5 B5 H5 f5 => ⟨B5, env2, P2, f5, q1⟩
        | cont env2 => exact fun σ5 B5 H5 f5 => ⟨B5, env2, P2, f5, q1⟩
        | brk env2 => exact q1
        | ret d => exact q1

/-! ### promises -/
def PostF (C : Cn) (B H : Hp) (r : Res D) (Q : VK) (E : XK) : Prop := match r with
  | .stuck => False
  | .ok d P' => ∀ v B' H', Grow C B H B' H' → Pur C B' H' P' → Rep C B' v d → Q v H'
  | .exc x P' => ∀ cls dd B' H', Grow C B H B' H' → Pur C B' H' P' → IsExc C B' cls dd x → E cls dd H'
def spD (K : PySem.W.Frag) (adr : Str → Addr) (n : Nat) (f : List D → M D) : Sp := fun vs H Q E => vs.length = n ∧ ∃ pu B ds P, Reps ⟨K, adr, pu⟩ B vs ds ∧ Same B H ∧ Pur ⟨K, adr, pu⟩ B H P ∧ PostF ⟨K, adr, pu⟩ B H (f ds P) Q E
def envOf (n : Nat) (ds : List D) : Ev := ds.map .val ++ List.replicate (n - ds.length) .no
def endD : Res Out → Res D
  | .stuck => .stuck
  | .exc x P => .exc x P
  | .ok (.ret d) P => .ok d P
  | .ok (.next _) P => .ok .non P
  | .ok (.brk _) _ => .stuck
  | .ok (.cont _) _ => .stuck
def runD (n : Nat) (m : Ev → M Out) (ds : List D) : M D := fun P => endD (m (envOf n ds) P)
theorem Fr.start {B H : Hp} {N : List Str} {vs : List V} {ds : List D} {P : Pu} (hl : vs.length ≤ N.length) (r : Reps C B vs ds) (s : Same B H) (p : Pur C B H P) : Fr C B H B H (L2.start N vs) (envOf N.length ds) P where
  g := Grow.refl s
  pur := p
  len := by unfold L2.start envOf; simp [r.length]
  val := fun i d e => by
    unfold envOf at e
    rw [List.getElem?_append] at e
    split at e
    · rw [List.getElem?_map] at e
      cases h : ds[i]? with
      | none => rw [h] at e; cases e
      | some d' =>
        rw [h] at e; cases e
        obtain ⟨v, hv, rv⟩ := r.get h
        refine ⟨v, ?_, rv⟩
        unfold L2.start
        rw [List.getElem?_append_left (by rw [List.length_map]; exact (List.getElem?_eq_some_iff.mp hv).1), List.getElem?_map, hv]
        rfl
    · have := List.mem_of_getElem? e
      cases (List.mem_replicate.mp this).2
  own := fun i xs e => by
    unfold envOf at e
    have := List.mem_of_getElem? e
    rcases List.mem_append.mp this with h | h
    · obtain ⟨d, _, z⟩ := List.mem_map.mp h
      cases z
    · cases (List.mem_replicate.mp h).2
  inj := fun i j xs ys q e1 e2 _ _ => by
    exfalso
    unfold envOf at e1
    have := List.mem_of_getElem? e1
    rcases List.mem_append.mp this with h | h
    · obtain ⟨d, _, z⟩ := List.mem_map.mp h
      cases z
    · cases (List.mem_replicate.mp h).2
theorem PostF.toS {B H : Hp} {r : Res Out} {Q : VK} {E : XK} (h : PostF C B H (endD r) Q E) : PostS C (fun c d _ H => E c d H) B H r { nx := fun _ H' => Q .non H', rt := Q } := by
  cases r with
  | stuck => exact h
  | exc x P => exact fun cls dd σ' B' H' g p i => h cls dd B' H' g p i
  | ok o P => cases o with
    | next env' => exact fun σ' B' H' f => h .non B' H' f.g f.pur .non
    | ret d => exact fun v B' H' g p r => h v B' H' g p r
    | brk env' => exact h.elim
    | cont env' => exact h.elim
theorem L2N.Takes.imp' {W' : WX} (t : L2N.Takes X W) (h : ∀ c d σ H, W' c d σ H → W c d σ H) : L2N.Takes X W' := t.imp h
theorem Post.toF {σ : L2.St} {B H : Hp} {r : Res D} {Q : VK} {Hs : Hp} (h : Post C W σ B H (RD C Hs) r Q) : PostF C B H r Q (WE W σ) := by
  cases r with
  | stuck => exact h
  | exc x P => exact h
  | ok d P => exact h
theorem post_call {σ : L2.St} {env : Ev} {P : Pu} {B H : Hp} {Q : VK} {n : Nat} {mf : List D → M D} (hlen : ∀ env P ds P', ms env P = .ok ds P' → ds.length = n) (q : Post C W σ B H (RD C H) (mUn ms mf env P) Q) :
    Post C W σ B H (RDs C H) (ms env P) (fun vs H1 => spD C.K C.adr n mf vs H1 Q (WE W σ)) :=
  Post.bind q fun ds P1 em vs B1 H1 g1 p1 r1 q => ⟨by rw [r1.length]; exact hlen _ _ _ _ em, C.pu, B1, ds, P1, r1, g1.sub, p1, q.toF⟩
/-- f(e, ..) of a def with a promise of data -/
theorem e_call {k : Nat} {f : Addr} {fd : FuncData} {ps : List Str} {n : Nat} {mf : List D → M D} {x : Str} (F : FnOk X.prog X.w X.K X.mg X.base (L2N.CX X.prog X.w) k f fd ps (spD C.K C.adr n mf)) (hr : Room k X.A) (hm : X.mg x = some (.ref f)) (hk : PySem.W.keepIn X.K (.ref f) = true) (hb : Binds X.K fd ps []) (tk : L2N.Takes X W)
    (ha : DA C W X (e :: es) ms) (hn : (e :: es).length = n := by rfl) (hg : Gl X x := by rfl) (hdb : (x == ("__debug__" : Str)) = false := by decide) (he : starEach (e :: es) X.env = (false, eval e X.env) :: starEach es X.env := by rfl) (hpl : (backTo pos (starEach es X.env)).any (·.1) = false := by rfl) (hlen : ∀ env P ds P', ms env P = .ok ds P' → ds.length = n) :
    DE C W X (.Call (.Name x p) (e :: es) [] pos) (mUn ms mf) := fun B0 H0 B H σ env P fr Q q =>
  wE_of (pe_callS F hr hg hm hk hb (E := WE W) (fun σ => L2N.passAt tk σ) aw hdb he hpl) (ha B0 H0 B H σ env P fr _ (post_call hlen q))
end

/-! ### defs -/
section
variable {P : Program} {w : World} {K : PySem.W.Frag} {mg : Str → Option Value} {base : Heap} {adr : Str → Addr}
theorem passN {X : Cx} : Passes (L2N.CX X.prog X.w) X E0 := fun _ _ _ _ _ _ _ ⟨_, _, _, _, _, _, _, _, _, _, _, _, z⟩ => z.elim
theorem fun_okN {x qual : Str} {st : Stmt} {f : Addr} {fd : FuncData} {N ps : List Str} {k : Nat} {sp : Sp} (F : Fun K x qual st f fd) (S : FnScope N ps (defScope st)) (len : ∀ vs H Q E, sp vs H Q E → vs.length = ps.length)
    (hb : ∀ (cdv : Value) (A : Around) (outer : List Env) (s : Shared) (H : Hp) (vs : List V) (Q : VK) (E : XK), Room k (A.deeper (envOfC qual (defScope st) s.heap.objs.size f cdv)) → sp vs H Q E →
      ∃ t, PSs (cxOf (L2N.CX P w) P w K mg base N qual (defScope st) f cdv A outer s H E) (defBody st) t ∧ t { nx := fun _ H' => Q .non H', rt := Q } (start N vs) H) : FnOk P w K mg base (L2N.CX P w) (k + 1) f fd ps sp := by
  obtain ⟨_, _, _, _, _, _, _, _, _, rfl, lk, hc⟩ := F.ex
  exact fn_of lk hc S len fun A outer s H vs Q E hr q => hb _ A outer s H vs Q E hr q
theorem fn_D {x qual : Str} {st : Stmt} {f : Addr} {fd : FuncData} {N ps : List Str} {k : Nat} {mb : Ev → M Out} (F : Fun K x qual st f fd) (S : FnScope N ps (defScope st))
    (hbody : ∀ (pu : Option Addr) (cdv : Value) (A : Around) (outer : List Env) (s : Shared) (H : Hp) (E : XK), Room k (A.deeper (envOfC qual (defScope st) s.heap.objs.size f cdv)) →
      DSs ⟨K, adr, pu⟩ (fun c d _ H => E c d H) (cxOf (L2N.CX P w) P w K mg base N qual (defScope st) f cdv A outer s H E) (defBody st) mb) : FnOk P w K mg base (L2N.CX P w) (k + 1) f fd ps (spD K adr ps.length (runD N.length mb)) := by
  refine fun_okN F S (fun vs H Q E h => h.1) fun cdv A outer s H vs Q E hr h => ?_
  obtain ⟨hl, pu, B, ds, Pp, r, sm, p, q⟩ := h
  have hpl : ps.length ≤ N.length := by
    have := congrArg List.length S.pre
    rw [List.length_take] at this; omega
  exact ⟨_, ssw, hbody pu cdv A outer s H E hr B H B H (L2.start N vs) (envOf N.length ds) Pp (Fr.start (by omega) r sm p) _ (PostF.toS q)⟩
/-- the same for what is called where no container is being shown -/
structure FnG (P : Program) (w : World) (K : PySem.W.Frag) (mg : Str → Option Value) (base : Heap) (CX : CXT) (k : Nat) (f : Addr) (fd : FuncData) (ps : List Str) (sp : Sp) : Prop where
  len : ∀ vs H Q E, sp vs H Q E → vs.length = ps.length
  go : ∀ (A : Around), A.guards = some [] → ∀ (outer : List Env) (s : Shared) (H : Hp) (args : Args) (us : List Value) (vs : List V) (Q : VK) (E : XK), Room k A → Env0 P w K mg base A outer s H →
    BindsTo s fd args (ps.zip us) → Vals vs us → sp vs H Q E → codeAny (model P w) A (.call (.ref f) args) (CR CX outer P w H s Q E) s
theorem FnG.of {CX : CXT} {k : Nat} {f : Addr} {fd : FuncData} {ps : List Str} {sp : Sp} (F : FnOk P w K mg base CX k f fd ps sp) : FnG P w K mg base CX k f fd ps sp :=
  ⟨F.len, fun A _ outer s H args us vs Q E hr e0 hb r h => F.run A outer s H args us vs Q E hr e0 hb r h⟩
theorem FnG.mono {CX : CXT} {j k : Nat} {f : Addr} {fd : FuncData} {ps : List Str} {sp : Sp} (F : FnG P w K mg base CX j f fd ps sp) (h : j ≤ k) : FnG P w K mg base CX k f fd ps sp :=
  ⟨F.len, fun A hg outer s H args us vs Q E hr => F.go A hg outer s H args us vs Q E (hr.mono h)⟩
theorem fn_ofG {CX : CXT} {k : Nat} {f : Addr} {name qual : Str} {params : Arguments} {body : List Stmt} {scope : Scope} {dV kV doc pm cdv ct oc : Value} {an od : Option Addr} {osl : Array (Option Value)} {N ps : List Str} {sp : Sp}
    (lk : K.lookup f = some ⟨oc, od, .func (PySem.W.fnOf name qual params body scope dV kV doc pm an cdv ct), osl⟩) (hcd : PySem.W.codeIn K cdv qual = true) (S : FnScope N ps scope) (len : ∀ vs H Q E, sp vs H Q E → vs.length = ps.length)
    (hbody : ∀ (A : Around), A.guards = some [] → ∀ (outer : List Env) (s : Shared) (H : Hp) (vs : List V) (Q : VK) (E : XK), Room k (A.deeper (envOfC qual scope s.heap.objs.size f cdv)) → sp vs H Q E →
      ∃ t, PSs (cxOf CX P w K mg base N qual scope f cdv A outer s H E) body t ∧ t { nx := fun _ H' => Q .non H', rt := Q } (L2.start N vs) H) :
    FnG P w K mg base CX (k + 1) f (PySem.W.fnOf name qual params body scope dV kV doc pm an cdv ct) ps sp := by
  refine ⟨len, ?_⟩
  intro A gd outer s H args us vs Q E room env0 bnd vals hsp
  have hlen := len _ _ _ _ hsp
  have inK : K.In s.heap := env0.mod.kin.keeps (fun b o z => (env0.bs b o z).1)
  have nolim : s.heap.NoLimit := env0.mod.nolimit.keeps (fun b o z => (env0.bs b o z).1)
  have kinds : ∀ y ∈ ps.zip us, scope.names.lookup y.1 = some .local ∨ (scope.names.lookup y.1 = some .cell ∧ ((cellsFrom (s.heap.objs.size + 1) scope.names []).lookup y.1).isSome = true) := by
    rintro ⟨n, v⟩ hy
    cases S.par n (List.of_mem_zip hy).1 with
    | inl z => exact Or.inl z
    | inr z => exact Or.inr ⟨z, PySem.W.cellsFrom_some _ _ _ (Or.inl z)⟩
  apply codeAny_call_function room.depth (inK _ _ lk) rfl S.co S.gen rfl (PySem.W.codeRec_of inK hcd) (bnd _ _ _ _ _)
  apply wpAny_newFunctionEnv_cells S.kind kinds
  intro env isEnv s1 inC
  subst isEnv
  refine ⟨nolim.keeps inC.toInCall.keep, codeAny_func ?_⟩
  obtain ⟨t, pss, red⟩ := hbody A gd outer s H vs Q E (room.deeper _) hsp
  have inv := inv_start (CX := CX) (E := E) S room.hd env0 hlen vals inC
  refine wpAny_mono (pss.run [] s1 (L2.start N vs) H _ inv red) ?_ (fun _ _ z => z)
  intro fl s' ends
  cases fl with
  | ret u => obtain ⟨v, σ', H', J, rv, q⟩ := ends; exact ⟨v, H', J.os, J.bare, J.base, J.hok, rv, q⟩
  | next => obtain ⟨σ', H', J, q⟩ := ends; exact ⟨V.non, H', J.os, J.bare, J.base, J.hok, rfl, q⟩
  | brk => obtain ⟨_, _, _, q⟩ := ends; exact q.elim
  | cont => obtain ⟨_, _, _, q⟩ := ends; exact q.elim
theorem guards_deeper {A : Around} (h : A.guards = some []) (env : Env) : (A.deeper env).guards = some [] := by
  first
    | exact h
    | (simp [Around.deeper, h])
theorem fn_G {x qual : Str} {st : Stmt} {f : Addr} {fd : FuncData} {N ps : List Str} {k : Nat} {mb : Ev → M Out} (F : Fun K x qual st f fd) (S : FnScope N ps (defScope st))
    (hbody : ∀ (pu : Option Addr) (cdv : Value) (A : Around) (outer : List Env) (s : Shared) (H : Hp) (E : XK), (A.deeper (envOfC qual (defScope st) s.heap.objs.size f cdv)).guards = some [] → Room k (A.deeper (envOfC qual (defScope st) s.heap.objs.size f cdv)) →
      DSs ⟨K, adr, pu⟩ (fun c d _ H => E c d H) (cxOf (L2N.CX P w) P w K mg base N qual (defScope st) f cdv A outer s H E) (defBody st) mb) : FnG P w K mg base (L2N.CX P w) (k + 1) f fd ps (spD K adr ps.length (runD N.length mb)) := by
  obtain ⟨oc, od, kV, doc, pm, an, cdv, ct, osl, rfl, lk, hcd⟩ := F.ex
  refine fn_ofG lk hcd S (fun vs H Q E h => h.1) fun A gd outer s H vs Q E hr h => ?_
  obtain ⟨hl, pu, B, ds, Pp, r, sm, p, q⟩ := h
  have hpl : ps.length ≤ N.length := by
    have := congrArg List.length S.pre
    rw [List.length_take] at this; omega
  exact ⟨_, ssw, hbody pu cdv A outer s H E (guards_deeper gd _) hr B H B H (L2.start N vs) (envOf N.length ds) Pp (Fr.start (by omega) r sm p) _ (PostF.toS q)⟩
end
section
variable {C : Cn} {W : WX} {X : Cx} {e : Expr} {es : List Expr} {p pos : Pos} {ms : Ev → M (List D)}
theorem run_G {CX : CXT} {k : Nat} {f : Addr} {fd : FuncData} {ps : List Str} {sp : Sp} {E : XK} {pins : List (Addr × Obj)} {σ : L2.St} {H : Hp} {s : Shared} {Q : VK} {us : List Value} {vs : List V} (F : FnG X.prog X.w X.K X.mg X.base CX k f fd ps sp) (gd : X.A.guards = some []) (hr : Room k X.A) (hb : Binds X.K fd ps [])
    (hx : PassesAt CX X σ E) (I : Inv X pins σ H s) (r : Vals vs us) (h : sp vs H Q E) : wpAny (model X.prog X.w) X.A (call (.ref f) us) (EP X pins σ Q) X.xe s := by
  have len : us.length = ps.length := (r.length).symm.trans (F.len _ _ _ _ h)
  have bnd := hb s us I.kIn (by simpa using len)
  simp only [List.append_nil] at bnd
  apply wpAny_call
  apply codeAny_mono (F.go X.A gd X.stack s H ⟨us, []⟩ us vs Q E hr I.env0 bnd r h)
  intro res s' ends
  cases res with
  | error z => exact hx pins H s z s' I ends
  | ok fl => cases fl with
    | ret u => exact I.after ends
    | next => exact ends.elim
    | brk => exact ends.elim
    | cont => exact ends.elim
theorem e_callG {k : Nat} {f : Addr} {fd : FuncData} {ps : List Str} {n : Nat} {mf : List D → M D} {x : Str} (F : FnG X.prog X.w X.K X.mg X.base (L2N.CX X.prog X.w) k f fd ps (spD C.K C.adr n mf)) (gd : X.A.guards = some []) (hr : Room k X.A) (hm : X.mg x = some (.ref f)) (hk : PySem.W.keepIn X.K (.ref f) = true) (hb : Binds X.K fd ps []) (tk : L2N.Takes X W)
    (ha : DA C W X (e :: es) ms) (hn : (e :: es).length = n := by rfl) (hg : Gl X x := by rfl) (hdb : (x == ("__debug__" : Str)) = false := by decide) (he : starEach (e :: es) X.env = (false, eval e X.env) :: starEach es X.env := by rfl) (hpl : (backTo pos (starEach es X.env)).any (·.1) = false := by rfl) (hlen : ∀ env P ds P', ms env P = .ok ds P' → ds.length = n) :
    DE C W X (.Call (.Name x p) (e :: es) [] pos) (mUn ms mf) := fun B0 H0 B H σ env P fr Q q pins s I => by
  refine wpAny_Call_Name_kw (ld_glob I hg hm ?_ hdb)
  exact PySem.W.callWith_K (h₀ := X.base) I.ok.mod.kin hk (thn (aw.run pos pins s σ H (fun vs H1 => spD C.K C.adr n mf vs H1 Q (WE W σ)) I (ha B0 H0 B H σ env P fr _ (post_call hlen q))) fun us s1 ⟨vs, H1, I1, r, q⟩ => ⟨I1.kIn, run_G F gd hr hb (L2N.passAt tk σ) I1 r q⟩) he hpl
theorem mNil_len : ∀ env P ds P', mNil env P = .ok ds P' → ds.length = 0 := fun env P ds P' h => by cases h; rfl
theorem mCons_len {m : Ev → M D} {ms : Ev → M (List D)} {n : Nat} (h : ∀ env P ds P', ms env P = .ok ds P' → ds.length = n) : ∀ env P ds P', mCons m ms env P = .ok ds P' → ds.length = n + 1 := fun env P ds P' e => by
  unfold mCons M.bind at e
  cases e1 : m env P with
  | stuck => rw [e1] at e; cases e
  | exc x P1 => rw [e1] at e; cases e
  | ok d P1 =>
    rw [e1] at e
    cases e2 : ms env P1 with
    | stuck => simp only [e2] at e; cases e
    | exc x P2 => simp only [e2] at e; cases e
    | ok xs P2 =>
      simp only [e2] at e
      cases e
      simp [h _ _ _ _ e2]
end
end PD

set_option Elab.async false
set_option linter.all false
set_option maxRecDepth 100000
/-! PD9: classes and their instances. -/
namespace PD
open PySem PySem.Spec PyProof.Rows L2 RZ ClX

mutual
def noPur : D → Bool
  | .pur => false
  | .tup xs => noPurs xs
  | .lst xs => noPurs xs
  | .scr xs => noPurs xs
  | .dic xs => noPurK xs
  | .obj _ fs => noPurF fs
  | .exc _ fs => noPurF fs
  | _ => true
def noPurs : List D → Bool
  | [] => true
  | x :: xs => noPur x && noPurs xs
def noPurK : List (Key × D) → Bool
  | [] => true
  | (_, x) :: xs => noPur x && noPurK xs
def noPurF : List (Str × D) → Bool
  | [] => true
  | (_, x) :: xs => noPur x && noPurF xs
end
def Cn.at (C : Cn) (p : Option Addr) : Cn := ⟨C.K, C.adr, p⟩
mutual
theorem Rep.cn {C : Cn} {p : Option Addr} {B : Hp} : ∀ {v : V} {d : D}, noPur d = true → Rep C B v d → Rep (C.at p) B v d
  | _, _, _, .non => .non
  | _, _, _, .bl b => .bl b
  | _, _, _, .int i => .int i
  | _, _, _, .str x => .str x
  | _, _, h, .tup s r => .tup s (Reps.cn (by unfold noPur at h; exact h) r)
  | _, _, h, .lst s r => .lst s (Reps.cn (by unfold noPur at h; exact h) r)
  | _, _, h, .scr s r => .scr s (Reps.cn (by unfold noPur at h; exact h) r)
  | _, _, h, .dic s r => .dic s (RepK.cn (by unfold noPur at h; exact h) r)
  | _, _, h, .obj s r => .obj s (RepF.cn (by unfold noPur at h; exact h) r)
  | _, _, h, .pur e => by unfold noPur at h; cases h
  | _, _, _, .cls c => .cls (C := C.at p) c
  | _, _, _, .ty n => .ty n
theorem Reps.cn {C : Cn} {p : Option Addr} {B : Hp} : ∀ {v : List V} {d : List D}, noPurs d = true → Reps C B v d → Reps (C.at p) B v d
  | _, _, _, .nil => .nil
  | _, _, h, .cons r t => by
    unfold noPurs at h
    obtain ⟨h1, h2⟩ := Bool.and_eq_true_iff.mp h
    exact .cons (Rep.cn h1 r) (Reps.cn h2 t)
theorem RepK.cn {C : Cn} {p : Option Addr} {B : Hp} : ∀ {v : List (Key × V)} {d : List (Key × D)}, noPurK d = true → RepK C B v d → RepK (C.at p) B v d
  | _, _, _, .nil => .nil
  | _, _, h, .cons r t => by
    unfold noPurK at h
    obtain ⟨h1, h2⟩ := Bool.and_eq_true_iff.mp h
    exact .cons (Rep.cn h1 r) (RepK.cn h2 t)
theorem RepF.cn {C : Cn} {p : Option Addr} {B : Hp} : ∀ {v : List (Str × V)} {d : List (Str × D)}, noPurF d = true → RepF C B v d → RepF (C.at p) B v d
  | _, _, _, .nil => .nil
  | _, _, h, .cons r t => by
    unfold noPurF at h
    obtain ⟨h1, h2⟩ := Bool.and_eq_true_iff.mp h
    exact .cons (Rep.cn h1 r) (RepF.cn h2 t)
end
section
variable {C : Cn} {W : WX} {X : Cx} {a b c e o : Expr} {es : List Expr} {p pos apos : Pos} {ma mb mc m : Ev → M D} {ms : Ev → M (List D)} {x f nm : Str}

/-! ### names of the module, of the language -/
theorem e_glob {d : D} {v : V} {u : Value} (hm : X.mg x = some u) (r : RelV v u) (rr : ∀ B, Rep C B v d) (hg : Gl X x := by rfl) (hd : (x == ("__debug__" : Str)) = false := by decide) : DE C W X (.Name x pos) (mC d) := do_c (pe_glob hg hm r hd) rr
theorem e_cls {cn : Str} (hm : X.mg x = some (.ref (C.adr cn))) (hg : Gl X x := by rfl) (hd : (x == ("__debug__" : Str)) = false := by decide) : DE C W X (.Name x pos) (mC (.cls cn)) := do_c (pe_glob (v := .ref (C.adr cn)) hg hm rfl hd) fun _ => .cls cn
theorem e_ty {n : String} (hm : X.mg x = none) (hv : bootBuiltins x = some (.type n)) (hg : Gl X x := by rfl) (hn : x ≠ "__name__" := by decide) (hd : (x == ("__debug__" : Str)) = false := by decide) : DE C W X (.Name x pos) (mC (.ty n)) :=
  do_c (pe_bltn (v := .ty n) hg hm hv rfl hn hd) fun _ => .ty n

/-! ### attributes -/
def fldO (cn f : Str) : D → Option D
  | .obj c fs => if c = cn then fs.lookup f else none
  | _ => none
theorem e_fld {cn : Str} (hc : Cls X.K (C.adr cn)) (hn : NoAttr X.K (C.adr cn) f) (h : DE C W X a m) (hb : attributeBase a f X.env (eval a X.env) = eval a X.env := by rfl) : DE C W X (.Attribute a f pos) (mUn m fun d => optM (fldO cn f d)) := fun B0 H0 B H σ env P fr Q q =>
  wE_of (pe_fld pw hb) (h B0 H0 B H σ env P fr _ (Post.bind q fun d P1 _ v B1 H1 g1 p1 r1 q => by
    obtain ⟨z, e, q9⟩ := Post.opt (o := fldO cn f d) q
    cases d with
    | obj c fs =>
      have e : (if c = cn then fs.lookup f else none) = some z := e
      by_cases hcn : c = cn
      · subst hcn
        rw [if_pos rfl] at e
        cases r1 with
        | obj s r =>
          obtain ⟨u, hu, ru⟩ := r.look e
          exact ⟨_, _, _, _, u, rfl, g1.sub _ _ s, hc, hn, hu, Post.val (R := RD C H) q9 g1.sub p1 ru⟩
      · rw [if_neg hcn] at e; cases e
    | _ => cases e))
def putD (f : Str) (d : D) : List (Str × D) → List (Str × D)
  | [] => [(f, d)]
  | (g, x) :: r => if g = f then (g, d) :: r else (g, x) :: putD f d r
theorem RepF.put {B : Hp} {v : V} {d : D} (rv : Rep C B v d) : ∀ {vs : List (Str × V)} {ds : List (Str × D)}, RepF C B vs ds → RepF C B (putF f v vs) (putD f d ds)
  | _, _, .nil => .cons rv .nil
  | _, _, .cons (k := k) r t => by
    unfold putF putD
    by_cases h : k = f
    · rw [if_pos h, if_pos h]; exact .cons rv t
    · rw [if_neg h, if_neg h]; exact .cons r (RepF.put rv t)
theorem RepF.length {B : Hp} : ∀ {vs : List (Str × V)} {ds : List (Str × D)}, RepF C B vs ds → vs.length = ds.length
  | _, _, .nil => rfl
  | _, _, .cons _ t => congrArg (· + 1) (RepF.length t)
/-- self.f = e, in __init__ -/
def mSetF (cn f : Str) (ma m : Ev → M D) : Ev → M Out := fun env => M.bind (m env) fun d => M.bind (ma env) fun s => fun P => match s, P with
  | .pur, .slf c fs => if c = cn ∧ fs.length < 1000 then .ok (.next env) (.slf c (putD f d fs)) else .stuck
  | _, _ => .stuck
theorem s_setF {cn : Str} {pa : Pos} (hc : Cls X.K (C.adr cn)) (hn : NoAttr X.K (C.adr cn) f) (h : DE C W X e m) (ha : DE C W X a ma) (hs : swapsWith e (some (.Attribute a f pa)) pos.line X.env = pure false := by rfl) : DS C W X (.Assign [.Attribute a f pa] e pos) (mSetF cn f ma m) := fun B0 H0 B H σ env P fr E q =>
  wS_of (ps_fld pw pw hs) (h B0 H0 B H σ env P fr _ (PostS.bind fr q fun d P1 v B1 H1 g1 p1 fr1 r1 q =>
    ha B0 H0 B1 H1 σ env P1 fr1 _ (PostS.bind fr1 q fun s P2 u B2 H2 g2 p2 fr2 r2 q => by
      cases r2 with
      | @pur ad e =>
        obtain ⟨⟨o, ho, hh⟩, bo⟩ := p2 _ e
        cases P2 with
        | pl l => exact q.elim
        | slf c fs =>
          obtain ⟨dx, vs, rfl, r⟩ := hh
          have q9 : PostS C W B0 H0 (if c = cn ∧ fs.length < 1000 then .ok (.next env) (.slf c (putD f d fs)) else .stuck) E := q
          by_cases hcn : c = cn ∧ fs.length < 1000
          · rw [if_pos hcn] at q9
            obtain ⟨rfl, hl⟩ := hcn
            refine ⟨_, _, dx, vs, rfl, ho, hc, hn, by rw [r.length]; exact hl, q9 σ B2 _ ?_⟩
            have ne : ∀ {q : Addr}, C.pu ≠ some q → q ≠ ad := fun {q} n z => n (z ▸ e)
            have r1' := r1.mono g2.bb
            refine ⟨⟨fr2.g.bb, fun q u z => ?_, fun q u z n => ?_, fun q h k => ?_⟩, fun q eq => ?_, fr2.len, fr2.val, fun i xs z => ?_, fr2.inj⟩
            · have n : q ≠ ad := fun w => by rw [w, bo] at z; cases z
              rw [upd_ne n]; exact fr2.g.sub q u z
            · rw [upd_ne (ne n)]; exact fr2.g.hh q u z n
            · obtain ⟨z1, z2⟩ := fr2.g.nb q h k
              refine ⟨z1, ?_⟩
              by_cases n : q = ad
              · rw [n, upd_same]; simp
              · rw [upd_ne n]; exact z2
            · rw [e] at eq; cases eq
              exact ⟨⟨_, upd_same, dx, _, rfl, RepF.put r1' r⟩, bo⟩
            · obtain ⟨l, ws, s1, hl, bl, h0, np, rr⟩ := fr2.own i xs z
              exact ⟨l, ws, s1, by rw [upd_ne (ne np)]; exact hl, bl, h0, np, rr⟩
          · rw [if_neg hcn] at q9; exact q9.elim
      | _ => exact q.elim)))
theorem Post.opt' {σ : L2.St} {B H : Hp} {α β γ : Type} {R : Hp → Hp → β → α → Prop} {o : Option γ} {f : γ → M α} {P : Pu} {Q : β → Hp → Prop} (h : Post C W σ B H R (M.bind (optM o) f P) Q) : ∃ a, o = some a ∧ Post C W σ B H R (f a P) Q := by
  cases o with
  | none => exact h.elim
  | some a => exact ⟨a, rfl, h⟩
/-! ### methods, properties: nothing may be raised -/
theorem noexc_post {σ : L2.St} {B H : Hp} {α β : Type} {R : Hp → Hp → β → α → Prop} {n : M α} {P : Pu} {Q : β → Hp → Prop} (h : Post C W σ B H R (noexc n P) Q) : ∃ a P', n P = .ok a P' ∧ Post C W σ B H R (.ok a P') Q := by
  unfold noexc at h
  cases e : n P with
  | stuck => rw [e] at h; exact h.elim
  | exc x P' => rw [e] at h; exact h.elim
  | ok a P' => rw [e] at h; exact ⟨a, P', rfl, h⟩
def recvO (cn nm : Str) : D → Option D
  | .obj c fs => if c = cn ∧ fs.lookup nm = none then some (.obj c fs) else none
  | _ => none
def mMeth (cn nm : Str) (mf : List D → M D) (mo : Ev → M D) (ms : Ev → M (List D)) : Ev → M D := fun env => M.bind (mo env) fun o => M.bind (optM (recvO cn nm o)) fun o => M.bind (ms env) fun ds => noexc (mf (o :: ds))
theorem recvO_of {cn nm : Str} {d d' : D} (h : recvO cn nm d = some d') : ∃ fs, d = .obj cn fs ∧ d' = .obj cn fs ∧ fs.lookup nm = none := by
  cases d with
  | obj c fs =>
    have h : (if c = cn ∧ fs.lookup nm = none then some (D.obj c fs) else none) = some d' := h
    by_cases k : c = cn ∧ fs.lookup nm = none
    · rw [if_pos k] at h; cases h
      obtain ⟨rfl, k⟩ := k
      exact ⟨fs, rfl, rfl, k⟩
    · rw [if_neg k] at h; cases h
  | _ => cases h
theorem spD_ok {vs : List V} {ds : List D} {B H : Hp} {σ : L2.St} {P : Pu} {n : Nat} {mf : List D → M D} {Q : VK} {E : XK} {Hs : Hp} (hn : ds.length = n) (r : Reps C B vs ds) (s : Same B H) (p : Pur C B H P) (q : Post C W σ B H (RD C Hs) (noexc (mf ds) P) Q) : spD C.K C.adr n mf vs H Q E := by
  obtain ⟨a, P', e, q⟩ := noexc_post q
  refine ⟨by rw [r.length]; exact hn, C.pu, B, ds, P, r, s, p, ?_⟩
  rw [e]
  exact q
theorem e_meth {pl : Sem Bool} {cn nm : Str} {k : Nat} {g : Addr} {fd : FuncData} {ps : List Str} {n : Nat} {mf : List D → M D} {mo : Ev → M D} (ho : DE C W X o mo) (hc : Cls X.K (C.adr cn)) (hm : Meth X.K (C.adr cn) nm g) (F : FnOk X.prog X.w X.K X.mg X.base (L2N.CX X.prog X.w) k g fd ps (spD C.K C.adr (n + 1) mf)) (hr : Room k X.A) (hb : Binds X.K fd ps [])
    (ha : DA C W X (e :: es) ms) (hlen : ∀ env P ds P', ms env P = .ok ds P' → ds.length = n) (k0 : PE X (.Call (.Attribute o nm apos) (e :: es) [] pos) (tMeth (C.adr cn) nm (spD C.K C.adr (n + 1) mf) [] E0 (wE X o) (wA X (e :: es)))) :
    DE C W X (.Call (.Attribute o nm apos) (e :: es) [] pos) (mMeth cn nm mf mo ms) := fun B0 H0 B H σ env P fr Q q =>
  wE_of k0 (ho B0 H0 B H σ env P fr _ (Post.bind q fun d P1 _ v B1 H1 g1 p1 r1 q => by
    obtain ⟨d', e1, q9⟩ := Post.opt' q
    obtain ⟨fs, rfl, rfl, l⟩ := recvO_of e1
    cases r1 with
    | obj s r =>
      refine ⟨_, _, _, rfl, g1.sub _ _ s, r.none l, ha B0 H0 B1 H1 σ env P1 (fr.grow g1 p1) _ (Post.bind q9 fun ds P2 em vs B2 H2 g2 p2 r2 q8 => ?_)⟩
      rw [List.append_nil]
      exact spD_ok (W := W) (σ := σ) (Hs := H) (by rw [List.length_cons, hlen _ _ _ _ em]) (.cons ((Rep.obj s r).mono g2.bb) r2) g2.sub p2 q8))
theorem e_meth0 {cn nm : Str} {mf : List D → M D} {mo : Ev → M D} (ho : DE C W X o mo)
    (k0 : PE X (.Call (.Attribute o nm apos) [] [] pos) (tMeth (C.adr cn) nm (spD C.K C.adr 1 mf) [] E0 (wE X o) tNil)) :
    DE C W X (.Call (.Attribute o nm apos) [] [] pos) (mMeth cn nm mf mo mNil) := fun B0 H0 B H σ env P fr Q q =>
  wE_of k0 (ho B0 H0 B H σ env P fr _ (Post.bind q fun d P1 _ v B1 H1 g1 p1 r1 q => by
    obtain ⟨d', e1, q9⟩ := Post.opt' q
    obtain ⟨fs, rfl, rfl, l⟩ := recvO_of e1
    cases r1 with
    | obj s r =>
      refine ⟨_, _, _, rfl, g1.sub _ _ s, r.none l, ?_⟩
      exact spD_ok (W := W) (σ := σ) (Hs := H) rfl (.cons (Rep.obj s r) .nil) g1.sub p1 q9))
def objO (cn : Str) : D → Option D
  | .obj c fs => if c = cn then some (.obj c fs) else none
  | _ => none
theorem objO_of {cn : Str} {d d' : D} (h : objO cn d = some d') : ∃ fs, d = .obj cn fs ∧ d' = .obj cn fs := by
  cases d with
  | obj c fs =>
    have h : (if c = cn then some (D.obj c fs) else none) = some d' := h
    by_cases k : c = cn
    · rw [if_pos k] at h; cases h
      subst k
      exact ⟨fs, rfl, rfl⟩
    · rw [if_neg k] at h; cases h
  | _ => cases h
def mProp (cn : Str) (mf : List D → M D) (mo : Ev → M D) : Ev → M D := fun env => M.bind (mo env) fun o => M.bind (optM (objO cn o)) fun o => noexc (mf [o])
theorem e_prop {cn f : Str} {mf : List D → M D} {mo : Ev → M D} (ho : DE C W X o mo) (k0 : PE X (.Attribute o f pos) (tProp (C.adr cn) (spD C.K C.adr 1 mf) [] E0 (wE X o))) : DE C W X (.Attribute o f pos) (mProp cn mf mo) := fun B0 H0 B H σ env P fr Q q =>
  wE_of k0 (ho B0 H0 B H σ env P fr _ (Post.bind q fun d P1 _ v B1 H1 g1 p1 r1 q => by
    obtain ⟨d', e1, q9⟩ := Post.opt' q
    obtain ⟨fs, rfl, rfl⟩ := objO_of e1
    cases r1 with
    | obj s r => exact ⟨_, _, _, rfl, g1.sub _ _ s, spD_ok (W := W) (σ := σ) (Hs := H) rfl (.cons (Rep.obj s r) .nil) g1.sub p1 q9⟩))

/-! ### a new instance -/
/-- what __init__ promises: f's ends, from the instance and the arguments -/
def mMake (cn : Str) (mf : List D → M D) (ms : Ev → M (List D)) : Ev → M D := fun env => M.bind (ms env) fun ds => fun P => if noPurs ds = true then (match mf (.pur :: ds) (.slf cn []) with
    | .ok .non (.slf c fs) => if c = cn ∧ noPurF fs = true then .ok (.obj cn fs) P else .stuck
    | _ => .stuck) else .stuck
theorem make_ok {vs : List V} {ds : List D} {B H : Hp} {σ : L2.St} {P : Pu} {n : Nat} {cn : Str} {mf : List D → M D} {Q : VK} {Hs : Hp} (hn : ds.length = n) (r : Reps C B vs ds) (s : Same B H) (p : Pur C B H P)
    (q : Post C W σ B H (RD C Hs) (if noPurs ds = true then (match mf (.pur :: ds) (.slf cn []) with
      | .ok .non (.slf c fs) => if c = cn ∧ noPurF fs = true then .ok (.obj cn fs) P else .stuck
      | _ => .stuck) else .stuck) Q) :
    ∀ x dx, H x = none → H dx = none → dx ≠ x → spD C.K C.adr (n + 1) mf (.ref x :: vs) (upd (upd H dx (.own x)) x (.ins (C.adr cn) dx [])) (fun v H2 => v = .non ∧ Q (.ref x) H2) E0 := by
  intro x dx hx hdx ne
  by_cases hp : noPurs ds = true
  · rw [if_pos hp] at q
    cases em : mf (.pur :: ds) (.slf cn []) with
    | stuck => rw [em] at q; exact q.elim
    | exc y P' => rw [em] at q; exact q.elim
    | ok d P' =>
      rw [em] at q
      cases P' with
      | pl l => cases d <;> exact q.elim
      | slf c fs =>
        cases d with
        | non =>
          have q : Post C W σ B H (RD C Hs) (if c = cn ∧ noPurF fs = true then .ok (.obj cn fs) P else .stuck) Q := q
          by_cases hc : c = cn ∧ noPurF fs = true
          · rw [if_pos hc] at q
            obtain ⟨rfl, hf⟩ := hc
            have bx : B x = none := s.free hx
            have bdx : B dx = none := s.free hdx
            have nx : ∀ {a : Addr}, H a ≠ none → a ≠ x := fun {a} h z => h (by rw [z]; exact hx)
            have nd : ∀ {a : Addr}, H a ≠ none → a ≠ dx := fun {a} h z => h (by rw [z]; exact hdx)
            have up : ∀ {a : Addr}, H a ≠ none → (upd (upd H dx (.own x)) x (.ins (C.adr c) dx [])) a = H a := fun {a} h => by rw [upd_ne (nx h), upd_ne (nd h)]
            have s2 : Same B (upd (upd H dx (.own x)) x (.ins (C.adr c) dx [])) := fun a o e => by
              have h := s a o e
              rw [up (by rw [h]; simp)]; exact h
            refine ⟨by rw [List.length_cons, r.length, hn], some x, B, .pur :: ds, .slf c [], .cons (.pur rfl) (Reps.cn (C := C) (p := some x) hp r), s2, fun a e => ?_, ?_⟩
            · cases e
              exact ⟨⟨_, upd_same, dx, [], rfl, .nil⟩, bx⟩
            · rw [em]
              intro v B3 H3 g3 p3 r3
              cases r3
              obtain ⟨⟨o, ho, hh⟩, b3⟩ := p3 x rfl
              obtain ⟨dx', fv, rfl, rf⟩ := hh
              have rf' : RepF C B3 fv fs := RepF.cn (C := ⟨C.K, C.adr, some x⟩) (p := C.pu) hf rf
              have gg : Grow C B H (upd B3 x (.ins (C.adr c) dx' fv)) H3 := by
                refine ⟨fun a u e => ?_, fun a u e => ?_, fun a u e n => ?_, fun a h k => ?_⟩
                · have h := g3.bb a u e
                  rw [upd_ne (ne_of_none h b3)]; exact h
                · by_cases h : a = x
                  · subst h; rw [upd_same] at e; cases e; exact ho
                  · rw [upd_ne h] at e; exact g3.sub a u e
                · have hn : H a ≠ none := by rw [e]; simp
                  exact g3.hh a u (by rw [up hn]; exact e) (fun z => nx hn (by cases z; rfl))
                · obtain ⟨z1, z2⟩ := g3.nb a h (by rw [up k]; exact k)
                  exact ⟨by rw [upd_ne (nx k)]; exact z1, z2⟩
              have sm : Same B3 (upd B3 x (.ins (C.adr c) dx' fv)) := Same.fz b3
              refine ⟨rfl, q (.ref x) _ H3 gg (fun a e => ?_) (.obj upd_same (rf'.mono sm))⟩
              obtain ⟨⟨o, ho', hh⟩, ba⟩ := p a e
              have hna : H a ≠ none := by rw [ho']; simp
              exact ⟨⟨o, g3.hh a o (by rw [up hna]; exact ho') (fun z => nx hna (by cases z; rfl)), (hh.mono g3.bb).mono sm⟩, (gg.nb a ba hna).1⟩
          · rw [if_neg hc] at q; exact q.elim
        | _ => exact q.elim
  · rw [if_neg hp] at q; exact q.elim
theorem e_make {cn x : Str} {n : Nat} {mf : List D → M D} (ha : DA C W X (e :: es) ms) (hlen : ∀ env P ds P', ms env P = .ok ds P' → ds.length = n) (k0 : PE X (.Call (.Name x p) (e :: es) [] pos) (tMake (C.adr cn) (spD C.K C.adr (n + 1) mf) [] E0 (wA X (e :: es)))) :
    DE C W X (.Call (.Name x p) (e :: es) [] pos) (mMake cn mf ms) := fun B0 H0 B H σ env P fr Q q =>
  wE_of k0 (ha B0 H0 B H σ env P fr _ (Post.bind q fun ds P1 em vs B1 H1 g1 p1 r1 q9 => by
    rw [List.append_nil]
    exact make_ok (Hs := H) (hlen _ _ _ _ em) r1 g1.sub p1 q9))
end
end PD

set_option Elab.async false
set_option linter.all false
set_option maxRecDepth 100000
/-! PD10: own ==, isinstance, classmethods, keyword makes. -/
namespace PD
open PySem PySem.Spec PyProof.Rows L2 RZ ClX
section
variable {C : Cn} {W : WX} {X : Cx} {a b c e o : Expr} {es : List Expr} {p pos apos : Pos} {ma mb mc m : Ev → M D} {ms : Ev → M (List D)} {x f nm : Str}

/-! ### == by the class's own def -/
def blO : D → Option Bool
  | .bl b => some b
  | _ => none
def eqOwn (cn : Str) (mf : List D → M D) (x y : D) : M Bool := M.bind (optM (objO cn x)) fun x => M.bind (optM (objO cn y)) fun y => noexc (M.bind (mf [x, y]) fun d => optM (blO d))
def rOwn (C : Cn) (cn : Str) (sp : Sp) : R2 := fun x y H Q => ∃ a b dx dy fs gs, x = .ref a ∧ y = .ref b ∧ H a = some (.ins (C.adr cn) dx fs) ∧ H b = some (.ins (C.adr cn) dy gs) ∧ sp [.ref a, .ref b] H Q E0
theorem bind_both {α β : Type} {m : M α} {g : α → M β} {P : Pu} {z : β} {P' : Pu} (h : M.bind m g P = .ok z P') : ∃ y P1, m P = .ok y P1 ∧ g y P1 = .ok z P' := by
  unfold M.bind at h
  cases e : m P with
  | stuck => rw [e] at h; cases h
  | exc x P1 => rw [e] at h; cases h
  | ok y P1 => rw [e] at h; exact ⟨y, P1, rfl, h⟩
theorem op_own {k : Nat} {g : Addr} {fd : FuncData} {ps : List Str} {sp : Sp} {cn : Str} (F : FnOk X.prog X.w X.K X.mg X.base (L2N.CX X.prog X.w) k g fd ps sp) (hr : Room k X.A) (hb : Binds X.K fd ps [])
    (hs : PySem.W.findIn X.K (.ref (C.adr cn)) "__eq__" = some (some (.ref g))) (hf : PySem.W.isFn X.K (.ref g) = true) : OpR X (compareOp .Eq) (rOwn C cn sp) := by
  intro pins s σ H x y v u Q I rx ry h
  obtain ⟨a, b, dx, dy, fs, gs, rfl, rfl, ha, hb', q⟩ := h
  cases rx
  cases ry
  obtain ⟨mA, J, _⟩ := ins_get I.hok ha
  obtain ⟨mB, J', _⟩ := ins_get I.hok hb'
  obtain ⟨od, J, _⟩ := J.look
  obtain ⟨od', J', _⟩ := J'.look
  obtain ⟨m, hF⟩ := I.fr
  refine PySem.W.cmp_K (op := .Eq) (tb := .ref (C.adr cn)) hr.units0 hF I.ok.mod.kin J J'.type (by simp [PySem.W.notFirst]) hs hf ?_
  refine wpAny_mono (run_fn (us := [.ref a, .ref b]) (vs := [.ref a, .ref b]) (dvs := []) F hr hb .nil passN I (.cons rfl (.cons rfl .nil)) (by rw [List.append_nil]; exact q)) (fun w s' z => ?_) fun _ _ x => x
  obtain ⟨z', H', I', rz, qz⟩ := z
  exact SlX.cmpback rz ⟨z', H', I', rz, qz⟩
theorem c_eqOwn {k : Nat} {g : Addr} {fd : FuncData} {ps : List Str} {mf : List D → M D} {cn : Str} (F : FnOk X.prog X.w X.K X.mg X.base (L2N.CX X.prog X.w) k g fd ps (spD C.K C.adr 2 mf)) (hr : Room k X.A) (hb : Binds X.K fd ps [])
    (hs : PySem.W.findIn X.K (.ref (C.adr cn)) "__eq__" = some (some (.ref g))) (hf : PySem.W.isFn X.K (.ref g) = true) : CmpOk C X .Eq (eqOwn cn mf) := ⟨_, op_own F hr hb hs hf, fun W Ha Hb B H σ P x y a b Q s p ra rb q => by
  obtain ⟨a', e1, q1⟩ := Post.opt' q
  obtain ⟨fs, rfl, rfl⟩ := objO_of e1
  obtain ⟨b', e2, q2⟩ := Post.opt' q1
  obtain ⟨gs, rfl, rfl⟩ := objO_of e2
  obtain ⟨z, P', e3, q3⟩ := noexc_post q2
  obtain ⟨d, P1, e4, e5⟩ := bind_both e3
  rcases ra with ra | ⟨_, _, _, w, _⟩
  · rcases rb with rb | ⟨_, _, _, w, _⟩
    · cases ra with
      | obj sa fa => cases rb with
        | obj sb fb =>
          refine ⟨_, _, _, _, _, _, rfl, rfl, s _ _ sa, s _ _ sb, rfl, C.pu, B, _, P, .cons (.obj sa fa) (.cons (.obj sb fb) .nil), s, p, ?_⟩
          rw [e4]
          cases d with
          | bl k =>
            have e5 : Res.ok k P1 = .ok z P' := e5
            cases e5
            exact fun v B' H' g1 p1 r1 => by cases r1; exact q3 z B' H' g1 p1 rfl
          | _ => cases e5
    · cases w
  · cases w⟩

/-! ### isinstance -/
/-- a class of the text whose instances isinstance may be asked about -/
structure TyC (K : PySem.W.Frag) (C : Addr) : Prop where
  cl : Cls K C
  ha : PySem.W.findIn K (.ref C) "__class__" = some (some (.builtin "object.__class__"))
  hn : PySem.W.specialIn K (.builtin "object.__class__") "__get__" = some (some (.builtin "getset_descriptor.__get__"))
  tk : PySem.W.takesIn K (.builtin "object.__class__") = some true
  hm : PySem.W.mroIn K C (.type "object") = some true
def tyV (adr : Str → Addr) (cs : List Str) : D → Option Value
  | .non => some (.type "NoneType")
  | .bl _ => some (.type "bool")
  | .int _ => some (.type "int")
  | .str _ => some (.type "str")
  | .tup _ => some (.type "tuple")
  | .lst _ => some (.type "list")
  | .scr _ => some (.type "list")
  | .dic _ => some (.type "dict")
  | .obj c _ => if cs.contains c then some (.ref (adr c)) else none
  | _ => none
def clV (adr : Str → Addr) : D → Option Value
  | .cls c => some (.ref (adr c))
  | .ty n => some (.type n)
  | _ => none
def isiO (K : PySem.W.Frag) (adr : Str → Addr) (cs : List Str) : List D → Option D
  | [x, c] => match tyV adr cs x, clV adr c with
    | some t, some u => (PySem.W.kitOne K t u).map .bl
    | _, _ => none
  | _ => none
theorem tyV_of {cs : List Str} (hc : ∀ c ∈ cs, TyC X.K (C.adr c)) (hK : X.K = C.K) {Hs B H : Hp} {v : V} {d : D} {t : Value} (s : Same B H) (r : RR C Hs B H v d) (e : tyV C.adr cs d = some t) : TyX X.K H v t := by
  rcases r with r | ⟨xs, p, vs, rfl, rfl, h, _⟩
  · cases r with
    | non => cases e; exact .base .non
    | bl b => cases e; exact .base (.bl b)
    | int i => cases e; exact .base (.int i)
    | str z => cases e; exact .base (.str z)
    | tup h r =>
      cases e
      rcases h with (h | ⟨ob, h⟩) | ⟨ob, its, n, h1, h2, _⟩
      · exact .base (.tup (s _ _ h))
      · exact .fTuple (s _ _ h)
      · exact .kTuple (by rw [hK]; exact h1) h2
    | lst h r => cases e; exact .base (.lst (s _ _ h))
    | scr h r =>
      cases e
      rcases h with (h | ⟨ob, h⟩) | ⟨ob, its, n, h1, h2, _⟩
      · exact .base (.lst (s _ _ h))
      · exact .base (.frz (s _ _ h))
      · exact .kList (by rw [hK]; exact h1) h2
    | dic h r => cases e; exact .base (.dK (s _ _ h))
    | @obj ad dx c fs ds h r =>
      have e : (if cs.contains c then some (Value.ref (C.adr c)) else none) = some t := e
      by_cases z : cs.contains c = true
      · rw [if_pos z] at e; cases e
        have k := hc c (by simpa using z)
        exact .base (.ins (s _ _ h) k.cl k.ha k.hn k.tk k.hm)
      · rw [if_neg z] at e; cases e
    | pur _ => cases e
    | cls _ => cases e
    | ty _ => cases e
  · cases e; exact .base (.lst h)
theorem cl_isi {cs : List Str} (hc : ∀ c ∈ cs, TyC X.K (C.adr c)) (hK : X.K = C.K := by rfl) : CallOk C X (.builtin "isinstance") (RD C) fun ds => optM (isiO X.K C.adr cs ds) := callO call_isi fun Ha B H vs ds d Q s rr e q => by
  unfold isiO at e
  split at e
  · rename_i x c
    obtain ⟨v, v', rfl, r1, r2⟩ := rr.two
    split at e
    · rename_i t u e1 e2
      cases e3 : PySem.W.kitOne X.K t u with
      | none => rw [e3] at e; cases e
      | some k =>
        rw [e3] at e; cases e
        refine ⟨v, v', t, u, k, rfl, ?_, tyV_of hc hK s r1 e1, e3, q _ (.bl k)⟩
        rcases r2 with r2 | ⟨_, _, _, w, _⟩
        · cases r2 <;> first | (cases e2; done) | (cases e2; constructor)
        · subst w; cases e2
    · cases e
  · cases e
end
end PD
namespace PD
open PySem PySem.Spec PyProof.Rows L2 RZ ClX
section
variable {C : Cn} {W : WX} {X : Cx} {a b c e o : Expr} {es : List Expr} {p pos apos : Pos} {ma mb mc m : Ev → M D} {ms : Ev → M (List D)} {x f nm : Str}
/-! ### repr of lists and tuples -/
def boxD : D → Bool
  | .tup _ => true
  | .lst _ => true
  | _ => false
def reprO : List D → Option D
  | [x] => match toPy x with
    | some d => if (boxD x && d.showable && !d.hasDict && decide (d.depth ≤ 40) && decide (d.shown.length ≤ cap)) = true then some (.str d.shown) else none
    | none => none
  | _ => none
def rRepr (K : PySem.W.Frag) : List V → Hp → VK → Prop := fun xs H Q => ∃ (a : Addr) (d : PyData), xs = [.ref a] ∧ Dp K H (.ref a) d ∧ d.showable = true ∧ d.hasDict = false ∧ d.depth ≤ 40 ∧ d.shown.length ≤ sizeLine ∧ Q (.str d.shown) H
theorem call_repr (gd : X.A.guards = some []) (hu : X.A.units + 64 < cLine) : CallR X (.builtin "repr") (rRepr X.K) := by
  intro pins s σ H xs us Q I r h
  obtain ⟨a, d, rfl, dp, h1, h2, h3, h4, q⟩ := h
  cases r with
  | cons r1 t =>
    cases t
    cases r1
    obtain ⟨as, rd⟩ := Dp.reads I d _ _ dp rfl
    exact repr_of_reads' (h₀ := s.heap) rd h1 (fun z => by rw [h2] at z; cases z) gd (by omega) (fun _ _ z => z) (fun h' u tk hk => ⟨.str d.shown, H, I.kept hk, ⟨_, rfl⟩, q⟩) h4
theorem cl_repr (gd : X.A.guards = some []) (hu : X.A.units + 64 < cLine) (hK : X.K = C.K := by rfl) : CallOk C X (.builtin "repr") (RD C) fun ds => optM (reprO ds) := callO (call_repr gd hu) fun Ha B H vs ds d Q s rr e q => by
  unfold reprO at e
  split at e
  · rename_i x
    obtain ⟨v, rfl, r⟩ := rr.one
    cases e1 : toPy x with
    | none => simp only [e1] at e; cases e
    | some d2 =>
      simp only [e1] at e
      by_cases z : (boxD x && d2.showable && !d2.hasDict && decide (d2.depth ≤ 40) && decide (d2.shown.length ≤ cap)) = true
      · rw [if_pos z] at e; cases e
        simp only [Bool.and_eq_true, decide_eq_true_eq, Bool.not_eq_true'] at z
        obtain ⟨⟨⟨⟨z1, z2⟩, z3⟩, z4⟩, z5⟩ := z
        have dp := r.dp s e1
        have hv : ∃ a, v = .ref a := by
          cases x with
          | tup xs => obtain ⟨l, us, rfl, _⟩ := r.tup s; exact ⟨l, rfl⟩
          | lst xs => obtain ⟨l, us, rfl, _⟩ := r.lst s; exact ⟨l, rfl⟩
          | _ => cases z1
        obtain ⟨a, rfl⟩ := hv
        exact ⟨a, d2, rfl, by rw [hK]; exact dp, z2, z3, z4, cap_le z5, q _ (.str _)⟩
      · rw [if_neg z] at e; cases e
  · cases e

/-! ### C.m(e, ..), m a classmethod -/
def mCmeth (cn : Str) (mf : List D → M D) (ms : Ev → M (List D)) : Ev → M D := fun env => M.bind (ms env) fun ds => noexc (mf (.cls cn :: ds))
theorem e_cmeth {cn : Str} {k n : Nat} {g pa : Addr} {mc : Value} {fd : FuncData} {ps : List Str} {mf : List D → M D} {pl : Sem Bool} (hm : X.mg x = some (.ref (C.adr cn))) (rd : CRead X.K (C.adr cn) mc) (cm : CMet X.K (C.adr cn) mc nm pa g)
    (F : FnOk X.prog X.w X.K X.mg X.base (L2N.CX X.prog X.w) k g fd ps (spD C.K C.adr (n + 1) mf)) (hb : Binds X.K fd ps []) (hr : Room k X.A) (ha : DA C W X (e :: es) ms) (hlen : ∀ env P ds P', ms env P = .ok ds P' → ds.length = n)
    (hg : Gl X x := by rfl) (hd : (x == ("__debug__" : Str)) = false := by decide)
    (hst : starEach (e :: es) X.env = (false, eval e X.env) :: starEach es X.env := by rfl) (hpl : (backTo pos (starEach es X.env)).any (·.1) = false := by rfl)
    (ht : eval (.Call (.Attribute (.Name x p) nm apos) (e :: es) [] pos) X.env = (do
      let ov ← eval (.Name x p) X.env
      standAt apos.atName
      let (f, first) ← holding [ov] (getMethod ov nm pl)
      callWith pos f first (backTo pos (starEach (e :: es) X.env)) (backToKw pos (keywordEach [] X.env))) := by rfl) :
    DE C W X (.Call (.Attribute (.Name x p) nm apos) (e :: es) [] pos) (mCmeth cn mf ms) := fun B0 H0 B H σ env P fr Q q =>
  wE_of (pe_cmeth (pe_glob (v := .ref (C.adr cn)) hg hm rfl hd) rd cm (F.raw hb .nil) hr passN aw hst hpl ht) ⟨rfl, ha B0 H0 B H σ env P fr _ (Post.bind q fun ds P1 em vs B1 H1 g1 p1 r1 q9 => by
    show spD C.K C.adr (n + 1) mf ((V.ref (C.adr cn) :: vs) ++ []) H1 Q E0
    rw [List.append_nil]
    exact spD_ok (W := W) (σ := σ) (Hs := H) (by rw [List.length_cons, hlen _ _ _ _ em]) (.cons (.cls cn) r1) g1.sub p1 q9)⟩

/-! ### cls(e, ..), cls the first parameter of a classmethod -/
def clsO (cn : Str) : Sl → Option Unit
  | .val (.cls c) => if c = cn then some () else none
  | _ => none
def mMakeL (i : Nat) (cn : Str) (mf : List D → M D) (ms : Ev → M (List D)) : Ev → M D := fun env => M.bind (optM ((env[i]?).bind (clsO cn))) fun _ => mMake cn mf ms env
theorem e_makeL {cn : Str} {i n k : Nat} {g : Addr} {fd : FuncData} {ps : List Str} {mf : List D → M D} (M0 : Mk X.K (C.adr cn) g) (F : FnOk X.prog X.w X.K X.mg X.base (L2N.CX X.prog X.w) k g fd ps (spD C.K C.adr (n + 1) mf)) (hr : Room (k + 1) X.A) (hb : Binds X.K fd ps [])
    (hN : X.N[i]? = some x) (hv : Vis X.env.scope x) (ha : DA C W X (e :: es) ms) (hlen : ∀ env P ds P', ms env P = .ok ds P' → ds.length = n)
    (hdb : (x == ("__debug__" : Str)) = false := by decide) (hcd : (x == ("__classdict__" : Str)) = false := by decide)
    (he : starEach (e :: es) X.env = (false, eval e X.env) :: starEach es X.env := by rfl) (hpl : (backTo pos (starEach es X.env)).any (·.1) = false := by rfl) :
    DE C W X (.Call (.Name x p) (e :: es) [] pos) (mMakeL i cn mf ms) := fun B0 H0 B H σ env P fr Q q pins s I => by
  obtain ⟨_, e1, q⟩ := Post.opt' q
  have hs : σ[i]? = some (some (.ref (C.adr cn))) := by
    cases e2 : env[i]? with
    | none => rw [e2] at e1; cases e1
    | some sl =>
      rw [e2] at e1
      cases sl with
      | val d =>
        cases d with
        | cls c =>
          have e1 : (if c = cn then some () else none) = some _ := e1
          by_cases z : c = cn
          · subst z
            obtain ⟨v, h1, h2⟩ := fr.val i _ e2
            cases h2
            exact h1
          · rw [if_neg z] at e1; cases e1
        | _ => cases e1
      | _ => cases e1
  refine wpAny_Call_Name_kw (thn ((pe_var (pos := p) hN hv hdb hcd).run pins s σ H (fun v H1 => v = .ref (C.adr cn) ∧ H1 = H) I ⟨.ref (C.adr cn), hs, rfl, rfl⟩) fun u s1 ⟨v, H1, I1, r1, q1⟩ => ?_)
  obtain ⟨rfl, rfl⟩ := q1
  cases r1
  refine PySem.W.callWith_K (h₀ := X.base) I.ok.mod.kin M0.kp (thn (aw.run pos pins s1 σ _ (fun vs H1 => ∀ x dx, H1 x = none → H1 dx = none → dx ≠ x → spD C.K C.adr (n + 1) mf (.ref x :: vs) (upd (upd H1 dx (.own x)) x (.ins (C.adr cn) dx [])) (fun v H2 => v = .non ∧ Q (.ref x) H2) E0) I1 (ha B0 H0 B _ σ env P fr _ (Post.bind q fun ds P1 em vs B1 H1 g1 p1 r1 q9 => make_ok (hlen _ _ _ _ em) r1 g1.sub p1 q9))) fun us s2 ⟨vs, H2, I2, r, q⟩ => ⟨I2.kIn, ?_⟩) he hpl
  exact run_make (dvs := []) M0 F hr hb .nil passN I2 r (by rw [List.append_nil]; exact q)

/-! ### C(k = e) -/
theorem kbn_one {K : PySem.W.Frag} {nm qual : Str} {st : Stmt} {f : Addr} {fd : FuncData} {ps : List Str} {ky : Str} (F : Fun K nm qual st f fd)
    (h : ∀ (kV doc pm : Value) (an : Option Addr) (cdv ct a b : Value), bindArgs (PySem.W.fnOf nm qual (defArgs st) (defBody st) (defScope st) .none kV doc pm an cdv ct) ⟨[a], [(ky, b)]⟩ = pure (ps.zip [a, b])) : KBn K fd ps 1 [ky] (fun us ws => us ++ ws) (fun vs zs => vs ++ zs) := by
  obtain ⟨oc, od, kV, doc, pm, an, cdv, ct, osl, rfl, lk, hcd⟩ := F.ex
  refine ⟨fun s us ws _ l1 l2 => ?_, fun r1 r2 => r1.append r2⟩
  match us, ws, l1, l2 with
  | [a], [b], _, _ => exact .of_eq (h kV doc pm an cdv ct a b)
theorem e_makeK {cn ky : Str} {kp : Pos} {k : Nat} {g : Addr} {fd : FuncData} {ps : List Str} {mf : List D → M D} (M0 : Mk X.K (C.adr cn) g) (F : FnOk X.prog X.w X.K X.mg X.base (L2N.CX X.prog X.w) k g fd ps (spD C.K C.adr 2 mf)) (hr : Room (k + 1) X.A)
    (hm : X.mg x = some (.ref (C.adr cn))) (hb : KBn X.K fd ps 1 [ky] (fun us ws => us ++ ws) (fun vs zs => vs ++ zs)) (he : DE C W X e m) (hg : Gl X x := by rfl)
    (hall : (backToKw pos (keywordEach [⟨some ky, e, kp⟩] X.env)).all (·.1.isSome) = true := by rfl) (hks : (backToKw pos (keywordEach [⟨some ky, e, kp⟩] X.env)).filterMap (·.1) = [ky] := by rfl) (hdb : (x == ("__debug__" : Str)) = false := by decide)
    (hpl : ((backTo pos (starEach [] X.env)).any (·.1) || (backToKw pos (keywordEach [⟨some ky, e, kp⟩] X.env)).any (·.1.isNone)) = false := by rfl) :
    DE C W X (.Call (.Name x p) [] [⟨some ky, e, kp⟩] pos) (mMake cn mf (mCons m mNil)) := fun B0 H0 B H σ env P fr Q q =>
  wE_of (pe_makeK0 M0 F hr hg hm hb passN (pk_cons pw pk_nil) hall hks hdb hpl) (by
    show wE X e σ H fun v H1 => _
    refine he B0 H0 B H σ env P fr _ ?_
    have q : Post C W σ B H (RD C H) (M.bind (mCons m mNil env) (fun ds P => if noPurs ds = true then (match mf (.pur :: ds) (.slf cn []) with
      | .ok .non (.slf c fs) => if c = cn ∧ noPurF fs = true then .ok (.obj cn fs) P else .stuck
      | _ => .stuck) else .stuck) P) Q := q
    have q : Post C W σ B H (RD C H) (M.bind (m env) (fun d P => if noPurs [d] = true then (match mf (.pur :: [d]) (.slf cn []) with
      | .ok .non (.slf c fs) => if c = cn ∧ noPurF fs = true then .ok (.obj cn fs) P else .stuck
      | _ => .stuck) else .stuck) P) Q := by
      have e9 : ∀ P, M.bind (mCons m mNil env) (fun ds P => if noPurs ds = true then (match mf (.pur :: ds) (.slf cn []) with
        | .ok .non (.slf c fs) => if c = cn ∧ noPurF fs = true then Res.ok (D.obj cn fs) P else .stuck
        | _ => .stuck) else .stuck) P = M.bind (m env) (fun d P => if noPurs [d] = true then (match mf (.pur :: [d]) (.slf cn []) with
        | .ok .non (.slf c fs) => if c = cn ∧ noPurF fs = true then Res.ok (D.obj cn fs) P else .stuck
        | _ => .stuck) else .stuck) P := fun P => by
        unfold mCons M.bind
        cases m env P <;> rfl
      rw [← e9]; exact q
    exact Post.bind q fun d P1 em v B1 H1 g1 p1 r1 q9 => ⟨rfl, rfl, make_ok (W := W) (σ := σ) (Hs := H) (ds := [d]) rfl (.cons r1 .nil) g1.sub p1 q9⟩)
end
end PD

set_option Elab.async false
set_option linter.all false
set_option maxRecDepth 100000
/-! PD11: enumerate over a tuple. -/
namespace PDE
open PySem AutoSeq1
theorem meets_enumT (l : Addr) (items : Array Value) (n : Nat) (dct : Option Addr) (sl : Array (Option Value)) :
    Meets (Builtin.«enumerate.__new__» ⟨[.type "enumerate", .ref l], []⟩) fun _ R s =>
      s.heap.get? l = some { cls := .type "tuple", dict := dct, data := .seq items n, slots := sl } ∧
        R (.ok (.ret (.ref (s.heap.push { cls := .type "tuple_iterator", data := .fields #[.ref l, .int 0 0] }).objs.size)))
          { s with heap := (s.heap.push { cls := .type "tuple_iterator", data := .fields #[.ref l, .int 0 0] }).push { cls := .type "enumerate", data := .fields #[.none, .bool false, .ref s.heap.objs.size, rawInt 0, .none, .none] } } :=
  .of_wp fun prog w A R sh hh => by
    obtain ⟨hp, gg, dd, tk, oo⟩ := sh
    obtain ⟨hl, hh⟩ := hh
    have hu := sub_enumerate
    have hT : Heap.IsTuple (Shared.heap ⟨hp, gg, dd, tk, oo⟩) l items := ⟨_, hl, rfl, n, rfl⟩
    wp_walk using wpAny_loadPart' hl
    refine wpAny_stack_any fun _ => wpAny_pure ?_
    split
    · rename_i cc _ _ _ _ _
      cases (cc == Value.type "enumerate") <;> (wp_walk using wpAny_loadPart' hl, wpAny_pyIter_tuple hT; exact ⟨_, rfl, hh⟩)
    · (wp_walk using wpAny_loadPart' hl, wpAny_pyIter_tuple hT; exact ⟨_, rfl, hh⟩)
section
variable {prog : Program} {w : World} {A : Around} {E : Value → Shared → Prop} {s : Shared}
theorem call_enumT {l : Addr} {items : Array Value} {Q : Value → Shared → Prop} (hL : s.heap.IsTuple l items)
    (k : ∀ h', IsEnum h' (s.heap.objs.size + 1) s.heap.objs.size 0 .none → h'.IsTupleIter s.heap.objs.size l 0 → (∀ b o, s.heap.get? b = some o → h'.get? b = some o) → Q (.ref (s.heap.objs.size + 1)) { s with heap := h' }) :
    wpAny (model prog w) A (call (.type "enumerate") [.ref l]) Q E s := by
  obtain ⟨⟨c, dct, dt, sl⟩, hl, hc, n, hd⟩ := hL
  have hc : c = .type "tuple" := hc
  have hd : dt = .seq items n := hd
  subst hc hd
  refine callType_new F.called_enumerate (by decide) (F.typeCall_enumerate_1 _) (F.newCall_enumerate_1 _) (fun obj => F.args_object_init_2 obj _) F.entry_enumerate_new
    (meets_enumT l items n dct sl) ⟨hl, ?_⟩
  have hz : (s.heap.push { cls := .type "tuple_iterator", data := .fields #[.ref l, .int 0 0] }).objs.size = s.heap.objs.size + 1 := Heap.size_push ..
  show _ ∧ _
  rw [hz]
  have he : IsEnum ((s.heap.push { cls := .type "tuple_iterator", data := .fields #[.ref l, .int 0 0] }).push { cls := .type "enumerate", data := .fields #[.none, .bool false, .ref s.heap.objs.size, rawInt 0, .none, .none] }) (s.heap.objs.size + 1) s.heap.objs.size 0 .none := by
    have z := Heap.get?_push_size (s.heap.push { cls := .type "tuple_iterator", data := .fields #[.ref l, .int 0 0] }) (o := { cls := .type "enumerate", data := .fields #[.none, .bool false, .ref s.heap.objs.size, rawInt 0, .none, .none] }) rfl
    rwa [hz] at z
  exact ⟨⟨_, he, rfl⟩, k _ he ⟨_, Heap.get?_push_of_some _ (Heap.get?_push_size _ rfl), rfl, rfl⟩ fun b o x => Heap.get?_push_of_some _ (Heap.get?_push_of_some _ x)⟩
end
end PDE
namespace PDE
open PySem PySem.Spec PyProof.Rows L2
/-- the tuple at a, each item in a new pair with its place -/
def IteT (K : PySem.W.Frag) (a : Addr) : It :=
  ⟨fun i H => ∃ (xs : List V) (x : V), SqT K H a xs ∧ xs[i]? = some x, fun i H v H' => ∃ T x, v = .ref T ∧ H T = none ∧ H' = upd H T (.tup [.int (i : Nat), x]) ∧ ∀ xs, SqT K H a xs → xs[i]? = some x, fun i H => ∃ xs : List V, SqT K H a xs ∧ xs.length ≤ i⟩
theorem turn_enumT {P : Program} {w : World} {K : PySem.W.Frag} {elts : List Expr} {kk : Nat} {tpos : Pos} (a e it : Addr) :
    Turn P w K (.Tuple elts kk tpos) (IteT K a) [e, it] e (fun i h => (∃ old, IsEnum h e it ((i : Nat) : Int) old) ∧ h.IsTupleIter it a i ∧ e ≠ it ∧ a ≠ it ∧ e ≠ a) where
  mem := by simp
  obj := fun i h st b hb => by
    obtain ⟨⟨old, he⟩, ⟨o, ho, hc, hd⟩, _⟩ := st
    rcases (show b = e ∨ b = it by simpa using hb) with z | z
    · rw [z]; exact ⟨_, he, fun v q => nomatch q⟩
    · rw [z]; exact ⟨o, ho, fun v q => by rw [hd] at q; cases q⟩
  keep := fun i h h' st k => let ⟨⟨old, he⟩, hi, hne⟩ := st; ⟨⟨old, k e (by simp) _ he⟩, hi.at fun o q => k it (by simp) o q, hne⟩
  item := by
    intro X hP hw hK hc i pins s σ H E I hf st hg
    subst hP hw hK
    obtain ⟨⟨old, he⟩, hit, hne, hae, hea⟩ := st
    obtain ⟨xs, x, hq, hx⟩ := hg
    obtain ⟨its, rv, p, hz⟩ := I.tuple hq
    obtain ⟨u, hu, ru⟩ := rv.get hx
    have hel : e < s.heap.objs.size := Heap.lt_size he
    have hil : it < s.heap.objs.size := by obtain ⟨_, q, _⟩ := hit; exact Heap.lt_size q
    have hlt : i < its.toArray.size := by simpa using (List.getElem?_eq_some_iff.mp hu).1
    refine wpAny_pyNext_enum_itemD (Draws.tuple (A := X.A.in1) (I.ok.hd hc) it a hae its.toArray) he ⟨hit, p⟩ hlt hne (by simp [hne, hea]) fun y h' tk hy ho hit' hT hsz hk => ?_
    have hyu : y = u := by
      have hy : its.toArray[i]? = some y := hy
      rw [List.getElem?_toArray, hu] at hy
      exact (Option.some.inj hy).symm
    subst hyu
    refine ⟨_, rfl, wpAny_letOwnedTupleGo_enum (s := { s with heap := h', toks := tk + 1 }) ho fun h'' he' sb => ?_⟩
    have hT2 : h''.get? s.heap.objs.size = some { cls := .type "tuple", data := .seq #[.int i tk, y] } := (sb.2 _ (Nat.ne_of_gt hel)).trans hT
    have new : ObjOk X.prog X.w (upd H s.heap.objs.size (.tup [.int (i : Nat), x])) h'' s.heap.objs.size (.tup [.int (i : Nat), x]) :=
      ⟨by show 2 ≤ sizeLine; decide, [.int i tk, y], .cons ⟨_, rfl⟩ (.cons ru .nil), ⟨_, hT2, rfl, _, rfl⟩⟩
    have I1 : Inv X pins σ (upd H s.heap.objs.size (.tup [.int (i : Nat), x])) { s with heap := h'', toks := tk + 1 } :=
      I.turnedNew (ch := [e, it]) (fun b ob hb q => (sb.2 b (fun z => hb (by simp [z]))).trans (hk b ob (fun z => hb (by simp [z])) (fun z => hb (by simp [z])) q)) hf (Nat.le_refl _) new
    refine ⟨.ref s.heap.objs.size, _, I1, rfl, ⟨_, x, rfl, I.hok.fresh (Nat.le_refl _), rfl, fun ys hy => by rw [I.tuple_inj hy hq]; exact hx⟩, ⟨⟨y, ?_⟩, hit'.1.at fun o q => (sb.2 it (Ne.symm hne)).trans q, hne, hae, hea⟩, fun b hb => ?_⟩
    · have e1 : ((i + 1 : Nat) : Int) = (i : Int) + 1 := by omega
      rw [e1]; exact he'
    · have hb' : b < s.heap.objs.size := by
        rcases (show b = e ∨ b = it by simpa using hb) with z | z
        · rw [z]; exact hel
        · rw [z]; exact hil
      rw [upd_ne (Nat.ne_of_lt hb')]
      exact (hf b hb).1
  done := by
    intro X hP hw hK hc i pins s σ H E I hf st hg
    subst hP hw hK
    obtain ⟨⟨old, he⟩, hit, hne, hae, hea⟩ := st
    obtain ⟨xs, hq, hx⟩ := hg
    obtain ⟨its, rv, p, hz⟩ := I.tuple hq
    obtain ⟨f0, f1, f2, f3, f4, f5⟩ := hf it (by simp)
    have hl := rv.length
    unfold pyNext
    have hTy : s.TypeIs (.ref e) "enumerate" := ⟨_, he, rfl⟩
    refine wpAny_bind (wpAny_attempt (wpAny_callSpecial?_slot (name := Str.ofString "__next__") hTy F.slot_enumerate_next (wpAny_call_entry F.slot_enumerate_next hTy F.entry_enumerate_next ?_ (F.args_enumerate_next_1 _))))
    show wpAny _ _ (field (.ref e) 2 >>= _) _ _ _
    refine wpAny_bind (wpAny_field he rfl (x := .ref it) rfl ?_)
    refine wpAny_bind (RZ.nextOf_tuple_end (I.ok.hd hc) hit p (by simp; omega) fun h' x he' hx' => ?_)
    obtain ⟨o, ho, hc⟩ := hx'
    refine wpAny_bind (wpAny_isInstance (T := "StopIteration") (b := true) ⟨o, ho, hc⟩ isSubtype_stop ?_)
    exact wpAny_pure ⟨rfl, I.turned (t' := s.toks) (fun b o hb q => he' b o hb q) f0 f1 f3 f4 f5⟩
  self := fun A i s Q E st h => let ⟨⟨_, he⟩, _⟩ := st; wpAny_pyIter_enum he h
def iEnumT (K : PySem.W.Frag) (ta : TA) : TI := fun σ H R => ta σ H fun vs H1 => ∃ a xs, vs = [.ref a] ∧ SqT K H1 a xs ∧ R (IteT K a) H1
theorem pi_enumT {X : Cx} {e : Expr} {ta : TA} {p pos tpos : Pos} {elts : List Expr} {kk : Nat} (hg : Gl X "enumerate") (hm : X.mg "enumerate" = none) (ha : PA X [e] ta) (hs : starEach [e] X.env = [(false, eval e X.env)]) :
    PI X (.Tuple elts kk tpos) (.Call (.Name "enumerate" p) [e] [] pos) (iEnumT X.K ta) := by
  refine ⟨fun pins s σ H R I h => ?_⟩
  refine Call_ (ld_blt I hg hm boot_enumerate (PyProof.Rows.callWith_type1 (thn (ha.run pos pins s σ H _ I h) fun us s1 ⟨vs, H1, I1, r1, q1⟩ => ?_) hs rfl))
  obtain ⟨a, xs, ex, hq, q⟩ := q1
  subst ex
  cases r1 with
  | cons r rr =>
    cases rr
    cases r
    obtain ⟨its, rv, p', hz⟩ := I1.tuple hq
    have hal : a < s1.heap.objs.size := by obtain ⟨_, q, _⟩ := p'; exact Heap.lt_size q
    refine call_enumT p' fun h' he hit hk => wpAny_pyIter_enum he ?_
    have I2 : Inv X pins σ H1 { s1 with heap := h' } := I1.kept (t' := s1.toks) hk
    refine ⟨s1.heap.objs.size + 1, [s1.heap.objs.size + 1, s1.heap.objs.size], _, _, H1, rfl, I2, turn_enumT a (s1.heap.objs.size + 1) s1.heap.objs.size, ⟨⟨.none, he⟩, hit, Nat.succ_ne_self _, Nat.ne_of_lt hal, Nat.ne_of_gt (Nat.lt_succ_of_lt hal)⟩, fun b hb => ?_, q⟩
    have hle : s1.heap.objs.size ≤ b := by
      rcases (show b = s1.heap.objs.size + 1 ∨ b = s1.heap.objs.size by simpa using hb) with z | z
      · rw [z]; exact Nat.le_add_right _ _
      · rw [z]; exact Nat.le_refl _
    exact I1.fpOk hle (I1.hok.fresh hle)
end PDE

set_option Elab.async false
set_option linter.all false
set_option maxRecDepth 100000
/-! PD12: enumerate of a tuple, slices with a step, index of a tuple, a display's get, x[j] += e. -/
namespace PD
open PySem PySem.Spec PyProof.Rows L2 RZ ClX
section
variable {C : Cn} {W : WX} {X : Cx} {a b c e o : Expr} {es : List Expr} {p pos apos : Pos} {ma mb mc m : Ev → M D} {ms : Ev → M (List D)} {x f nm : Str}

/-! ### enumerate of a tuple -/
theorem it_enumT {K : PySem.W.Frag} {l : Addr} {vs : List V} {xs : List D} {B Hk : Hp} (r : Reps C B vs xs) (h : ∀ B1 H1, Same B B1 → Same B1 H1 → SqT K H1 l vs) : ItOk C (PDE.IteT K l) B Hk (enumD 0 xs) := fun B1 H1 s1 s2 s3 => by
  have hl := h B1 H1 s1 s2
  refine ⟨fun i d e => ?_, vs, hl, by rw [enumD_len, r.length]; exact Nat.le_refl _⟩
  obtain ⟨x, e1, rfl⟩ := enumD_get e
  obtain ⟨v, hv, rv⟩ := r.get e1
  refine ⟨⟨vs, v, hl, hv⟩, fun z H2 yy => ?_⟩
  obtain ⟨T, x', rfl, hT, rfl, q1⟩ := yy
  have q1 := q1 vs hl; rw [hv] at q1; cases q1
  have e0 : (0 + i : Nat) = i := Nat.zero_add i
  rw [e0]
  exact pair_new s2 (.int _) (rv.mono s1) hT
def enumO : List D → Option (List D)
  | [.tup xs] => some (enumD 0 xs)
  | _ => none
theorem i_enumT {st : Bool} {elts : List Expr} {kk : Nat} {tpos : Pos} (h : DA C W X [a] ms) (hm : X.mg "enumerate" = none) (hK : X.K = C.K := by rfl) (hg : Gl X "enumerate" := by rfl) (hs : starEach [a] X.env = [(false, eval a X.env)] := by rfl) : DI C W X st (.Tuple elts kk tpos) (.Call (.Name "enumerate" p) [a] [] pos) (mUn ms fun ds => optM (enumO ds)) := fun B0 H0 B H σ env P fr R q =>
  wI_of (PDE.pi_enumT hg hm aw hs) (h B0 H0 B H σ env P fr _ (PostI.bind q fun ds P1 vs B1 H1 g p r q => by
    obtain ⟨xs, e1, q⟩ := PostI.opt q
    unfold enumO at e1
    split at e1
    · cases e1
      cases r with | cons r t => cases t; cases r with | tup s1 r =>
        exact ⟨_, _, rfl, by rw [hK]; exact sqT_mono g.sub s1, q _ B1 H1 B1 g p g.sub (fun _ a z => .inr z) (it_enumT r fun B2 H2 z1 z2 => by rw [hK]; exact sqT_mono (z1.trans z2) s1)⟩
    · cases e1))

/-! ### slices with a step -/
def pickI (n : Nat) (lo st : Option Int) : List Nat := sliceRange (sliceBounds lo none st n).1 (sliceBounds lo none st n).2.1 (sliceBounds lo none st n).2.2
def pickL {α : Type} (xs : List α) (lo st : Option Int) : List α := (pickI xs.length lo st).filterMap (xs[·]?)
theorem Reps.pick {B : Hp} {vs : List V} {ds : List D} (r : Reps C B vs ds) : ∀ is : List Nat, Reps C B (is.filterMap (vs[·]?)) (is.filterMap (ds[·]?))
  | [] => .nil
  | i :: is => by
    rw [List.filterMap_cons, List.filterMap_cons]
    cases h : ds[i]? with
    | none =>
      have h2 : vs[i]? = none := by
        rw [List.getElem?_eq_none_iff] at h ⊢
        rw [r.length]; exact h
      rw [h2]; exact Reps.pick r is
    | some d =>
      obtain ⟨v, hv, rv⟩ := r.get h
      rw [hv]; exact .cons rv (Reps.pick r is)
theorem vals_pick {vs : List V} {us : List Value} (r : Vals vs us) : ∀ is : List Nat, Vals (is.filterMap (vs[·]?)) (is.filterMap (us[·]?))
  | [] => .nil
  | i :: is => by
    rw [List.filterMap_cons, List.filterMap_cons]
    cases h : vs[i]? with
    | none =>
      have h2 : us[i]? = none := by
        rw [List.getElem?_eq_none_iff] at h ⊢
        rw [← r.length]; exact h
      rw [h2]; exact vals_pick r is
    | some d =>
      obtain ⟨v, hv, rv⟩ := r.get h
      rw [hv]; exact .cons rv (vals_pick r is)
def tStep (K : PySem.W.Frag) (te : TE) (lo st : Option Int) : TE := fun σ H Q => te σ H fun x H1 => ∃ a xs, x = .ref a ∧ SqL K H1 a xs ∧ (pickL xs lo st).length ≤ sizeLine ∧ ∀ p, H1 p = none → Q (.ref p) (upd H1 p (.lst (pickL xs lo st)))
theorem pe_step {te : TE} {lo st : Option Expr} {vl vs : Option Int} {p3 : Pos} {tl ts : TO} (he : PE X e te) (hl : PO X lo tl) (hs : PO X st ts) (kl : ∀ σ H Q, Q vl H → tl σ H Q) (ks : ∀ σ H Q, Q vs H → ts σ H Q) (h0 : vs ≠ some 0) (hsub : ∀ u v, subscripted (.Slice lo none st p3) false u v = operate [u, v] (getItem u v)) : PE X (.Subscript e (.Slice lo none st p3) pos) (tStep X.K te vl vs) := by
  refine ⟨fun pins s σ H Q I h => ?_⟩
  refine Subscript_ (thn (he.run pins s σ H _ I h) fun v s1 ⟨x, H1, I1, r1, q1⟩ => ?_)
  obtain ⟨a, xs, ex, hx, hn, q⟩ := q1
  subst ex
  cases r1
  refine wpAny_Slice (thn (hl.run pins s1 σ H1 (fun o H2 => o = vl ∧ H2 = H1) I1 (kl _ _ _ ⟨rfl, rfl⟩)) fun ul s2 ⟨l, H2, I2, pl, el, e2⟩ => ?_)
  subst el e2
  refine thn (po_none.run pins s2 σ H2 (fun o H3 => o = none ∧ H3 = H2) I2 ⟨rfl, rfl⟩) fun vu s3 ⟨u, H3, I3, pu, eu, e3⟩ => ?_
  subst eu e3
  refine thn (hs.run pins s3 σ H3 (fun o H4 => o = vs ∧ H4 = H3) I3 (ks _ _ _ ⟨rfl, rfl⟩)) fun us s4 ⟨o, H4, I4, ps, eo, e4⟩ => ?_
  subst eo e4
  have I5 : Inv X pins σ H4 { s4 with heap := s4.heap.push { cls := .type "slice", data := .fields #[ul, vu, us] } } := I4.kept (t' := s4.toks) fun b ob q => Heap.get?_push_of_some _ q
  obtain ⟨its, r, ht, hz⟩ := I5.list hx
  have hlen := r.length
  show wpAny (model X.prog X.w) X.A (subscriptTail e (.Slice lo none st p3) (.ref a) (.ref s4.heap.objs.size)) (EP X pins σ Q) X.xe { s4 with heap := s4.heap.push { cls := .type "slice", data := .fields #[ul, vu, us] } }
  refine tail_any (ops := [.ref a, .ref s4.heap.objs.size]) ht.isList.typeIs (PySem.slot_list_getitem.lookup) ?_ (hsub _ _)
  refine wpAny_getItem_list_slice ht.isList (Heap.IsSliceOf.new _ ul vu us) pl pu ps h0 ?_ (by rw [List.size_toArray]; omega)
  have ee : slicePick its.toArray l none o = (pickL its l o).toArray := by
    unfold slicePick pickL pickI
    rw [List.size_toArray]
    have e0 : (fun i : Nat => its.toArray[i]?) = fun i => its[i]? := by funext i; simp
    show (List.filterMap (fun i : Nat => its.toArray[i]?) _).toArray = (List.filterMap (fun i : Nat => its[i]?) _).toArray
    rw [e0]
  rw [ee]
  have rp : Vals (pickL xs l o) (pickL its l o) := by
    unfold pickL
    rw [hlen]
    exact vals_pick r _
  refine ⟨.ref _, _, I5.laid (t' := s4.toks) (o := .lst (pickL xs l o)) (fun b ob q => Heap.get?_push_of_some _ q) (Nat.le_refl _) ?_, rfl, q _ (I5.hok.fresh (Nat.le_refl _))⟩
  exact ⟨hn, _, 0, rp, Heap.get?_push_size _ rfl⟩
def stepO (lo st : Option Int) : D → Option (List D)
  | .lst xs => if (pickL xs lo st).length ≤ cap then some (pickL xs lo st) else none
  | .scr xs => if (pickL xs lo st).length ≤ cap then some (pickL xs lo st) else none
  | _ => none
theorem pickL_reps {B : Hp} {vs : List V} {ds : List D} (r : Reps C B vs ds) (lo st : Option Int) : Reps C B (pickL vs lo st) (pickL ds lo st) := by
  unfold pickL
  rw [r.length]
  exact r.pick _
theorem f_step {lo st : Option Expr} {vl vs : Option Int} {p3 : Pos} {tl ts : TO} (ha : DR C W X a ma) (hl : PO X lo tl) (hs : PO X st ts) (kl : ∀ σ H Q, Q vl H → tl σ H Q) (ks : ∀ σ H Q, Q vs H → ts σ H Q) (h0 : vs ≠ some 0) (hsub : ∀ u v, subscripted (.Slice lo none st p3) false u v = operate [u, v] (getItem u v) := by exact fun _ _ => rfl) (hK : X.K = C.K := by rfl) : DF C W X (.Subscript a (.Slice lo none st p3) pos) (mUn ma fun d => optM (stepO vl vs d)) := fun B0 H0 B H σ env P fr Q q =>
  wE_of (pe_step pw hl hs kl ks h0 hsub) (ha B0 H0 B H σ env P fr _ (Post.bind q fun d P1 _ v B1 H1 g1 p1 r1 q => by
    obtain ⟨ds, e1, q⟩ := Post.opt (o := stepO vl vs d) q
    unfold stepO at e1
    split at e1
    · split at e1
      · rename_i hn
        cases e1
        obtain ⟨l, us, rfl, r2, hl⟩ := r1.lst g1.sub
        have rp := pickL_reps r2 vl vs
        exact ⟨l, us, rfl, SqL.of hl, by rw [rp.length]; exact cap_le hn, fun p hp => Post.newL (Hs := H) q (fun _ z => g1.there z) g1.sub p1 rp p hp⟩
      · cases e1
    · split at e1
      · rename_i hn
        cases e1
        obtain ⟨l, us, rfl, r2, hl⟩ := r1.scr g1.sub
        have rp := pickL_reps r2 vl vs
        exact ⟨l, us, rfl, by rw [hK]; exact hl, by rw [rp.length]; exact cap_le hn, fun p hp => Post.newL (Hs := H) q (fun _ z => g1.there z) g1.sub p1 rp p hp⟩
      · cases e1
    · cases e1))
theorem po_c {i : Int} {kk : Nat} : ∀ σ H Q, Q (some i) H → tPart (tC (.int i)) σ H Q := fun σ H Q q => ⟨i, rfl, q⟩
theorem po_n : ∀ σ H Q, Q none H → tNoPart σ H Q := fun σ H Q q => q

/-! ### index of a tuple of texts -/
def firstS (z : Str) : List Str → Nat → Option Nat
  | [], _ => none
  | y :: ys, n => if y = z then some n else firstS z ys (n + 1)
theorem firstS_of {z : Str} : ∀ {ys : List Str} {n j : Nat}, firstS z ys n = some j → ∃ i, j = n + i ∧ ys[i]? = some z ∧ ∀ m, m < i → ys[m]? ≠ some z
  | [], _, _, e => by unfold firstS at e; cases e
  | y :: ys, n, j, e => by
    unfold firstS at e
    by_cases h : y = z
    · rw [if_pos h] at e; cases e
      exact ⟨0, rfl, by simp [h], fun m hm => by omega⟩
    · rw [if_neg h] at e
      obtain ⟨i, e1, e2, e3⟩ := firstS_of e
      refine ⟨i + 1, by omega, by simpa using e2, fun m hm => ?_⟩
      cases m with
      | zero => simpa using h
      | succ m => simpa using e3 m (by omega)
def indexO (ds : List D) (y : D) : Option D := match y with
  | .str z => match txts ds with
    | some ys => (firstS z ys 0).map fun j => .int (j : Nat)
    | none => none
  | _ => none
/-! ### a tuple of texts that the top has written: known by its name -/
structure KTup (C : Cn) (cn : Str) (ys : List Str) : Prop where
  at_ : ∃ (o : Obj) (its : Array Value) (n : Nat), C.K.lookup (C.adr cn) = some o ∧ o.cls = .type "tuple" ∧ o.dict = none ∧ o.data = .seq its n ∧ its.size ≤ sizeLine ∧ Vals (ys.map V.str) its.toList
theorem KTup.sq {cn : Str} {ys : List Str} (k : KTup C cn ys) (B : Hp) : SqT C.K B (C.adr cn) (ys.map V.str) := by
  obtain ⟨o, its, n, h1, h2, _, h4, h5, h6⟩ := k.at_
  exact .inr ⟨o, its, n, h1, h2, h4, h5, h6⟩
def ktO (cn : Str) (ys : List Str) : D → Option D
  | .cls c => if c = cn then some (.tup (ys.map .str)) else none
  | _ => none
theorem e_kt {cn : Str} {ys : List Str} (kt : KTup C cn ys) (h : DE C W X e m) : DE C W X e (mUn m fun d => optM (ktO cn ys d)) := fun B0 H0 B H σ env P fr Q q =>
  h B0 H0 B H σ env P fr _ (Post.bind q fun d P1 _ v B1 H1 g1 p1 r1 q => by
    obtain ⟨z, e1, q9⟩ := Post.opt (o := ktO cn ys d) q
    cases d with
    | cls c =>
      have e1 : (if c = cn then some (D.tup (ys.map .str)) else none) = some z := e1
      by_cases hc : c = cn
      · rw [if_pos hc] at e1; cases e1
        subst hc
        cases r1
        exact Post.val (R := RD C H) q9 g1.sub p1 (.tup (kt.sq B1) (Reps.strs ys))
      · rw [if_neg hc] at e1; cases e1
    | _ => cases e1)
def kiO (cn : Str) : D → Option Unit
  | .cls c => if c = cn then some () else none
  | _ => none
def mTIndex (cn : Str) (ys : List Str) (ma mb : Ev → M D) : Ev → M D := fun env => M.bind (ma env) fun x => M.bind (optM (kiO cn x)) fun _ => M.bind (mb env) fun y => optM (indexO (ys.map .str) y)
theorem e_tindex {cn : Str} {ys : List Str} (kt : KTup C cn ys) (ha : DE C W X a ma) (hb : DE C W X b mb) (hs2 : starEach (b :: []) X.env = (false, eval b X.env) :: starEach [] X.env := by rfl) (hbase : attributeBase a "index" X.env (eval a X.env) = eval a X.env := by rfl) (hline : (apos.endLine == pos.line) = true := by rfl)
    (hfew : ((backTo pos (starEach [b] X.env)).all (fun x => !x.1) && (backToKw pos (keywordEach [] X.env)).all (fun x => x.1.isSome) && decide ([b].length + ([] : List Keyword).length + (if ([] : List Keyword).isEmpty then 0 else 1) < 30)) = true := by rfl)
    (hs : starEach [b] X.env = [(false, eval b X.env)] := by rfl) (hpl : (backTo pos (starEach [] X.env)).any (·.1) = false := by rfl) (hK : X.K = C.K := by rfl) :
    DE C W X (.Call (.Attribute a "index" apos) [b] [] pos) (mTIndex cn ys ma mb) := fun B0 H0 B H σ env P fr Q q =>
  wE_of (pe_bm PySem.F.plainAttrs_tuple PySem.F.slot_tuple_index PySem.F.type_tuple_index mt_tup_index pw (pa_cons pw (pa_nil (X := X)) hs2) hbase hfew hline hs2 hpl) (ha B0 H0 B H σ env P fr _ (Post.bind q fun x P1 ex v B1 H1 g1 p1 r1 q => by
    obtain ⟨_, e1, q9⟩ := Post.opt' q
    cases x with
    | cls c =>
      have e1 : (if c = cn then some () else none) = some _ := e1
      by_cases hc : c = cn
      · subst hc
        cases r1
        obtain ⟨o, its, n, h1, h2, h3, _⟩ := kt.at_
        refine ⟨.inr (.inl ⟨rfl, o, by rw [hK]; exact h1, h2, h3⟩), hb B0 H0 B1 H1 σ env P1 (fr.grow g1 p1) _ (Post.bind q9 fun y P2 ey u B2 H2 g2 p2 r2 q => ?_)⟩
        obtain ⟨z, e2, q⟩ := Post.opt (o := indexO (ys.map .str) y) q
        unfold indexO at e2
        split at e2
        · rename_i zz
          cases r2
          cases e3 : txts (ys.map .str) with
          | none => rw [e3] at e2; cases e2
          | some ys2 =>
            rw [e3] at e2
            cases e4 : firstS zz ys2 0 with
            | none => simp only [e4] at e2; cases e2
            | some j =>
              simp only [e4] at e2
              cases e2
              obtain ⟨i, e5, h1, h2⟩ := firstS_of e4
              have e6 : j = i := by omega
              subst e6
              have e7 := strs_eq e3
              have e8 : ys = ys2 := by
                have inj : ∀ {a b : List Str}, a.map D.str = b.map D.str → a = b := fun {a} => by
                  induction a with
                  | nil => intro b h; cases b with
                    | nil => rfl
                    | cons _ _ => cases h
                  | cons x xs ih => intro b h; cases b with
                    | nil => cases h
                    | cons y ys => injection h with h1 h2; injection h1 with h1; rw [h1, ih h2]
                exact inj e7
              subst e8
              exact ⟨_, ys, zz, j, rfl, rfl, by rw [hK]; exact kt.sq _, h1, h2, Post.val (R := RD C H) q g2.sub p2 (.int _)⟩
        · cases e2
      · rw [if_neg hc] at e1; cases e1
    | _ => cases e1))

/-! ### a display of two pairs with texts as keys, and its get -/
def lookD (z : Str) : List (Str × D) → Option D
  | [] => none
  | (y, d) :: r => if y = z then some d else lookD z r
def mDsp (kvs : List (Str × Int)) (dflt : Int) (m : Ev → M D) : Ev → M D := fun env => M.bind (m env) fun y => match y with
  | .str z => M.ok (.int ((kvs.lookup z).getD dflt))
  | _ => M.stuck
theorem e_dsp2 {k1 k2 : Str} {v1 v2 dv : Int} {ke1 ke2 ve1 ve2 : Expr} {dp : Pos} {ed : Expr} (hne : k1 ≠ k2) (hu : X.A.units + 1 < cLine) (h1 : PE X ke1 (tC (.str k1))) (h2 : PE X ke2 (tC (.str k2))) (hv1 : PE X ve1 (tC (.int v1))) (hv2 : PE X ve2 (fun _ H Q => Q (.int v2) H)) (hd : PE X ed (tC (.int dv))) (hm : DE C W X e m)
    (mm : M2 X (.Dict [some ke1, some ke2] [ve1, ve2] dp) "get" apos e ed pos) : DE C W X (.Call (.Attribute (.Dict [some ke1, some ke2] [ve1, ve2] dp) "get" apos) [e, ed] [] pos) (mDsp [(k1, v1), (k2, v2)] dv m) := fun B0 H0 B H σ env P fr Q q => by
  refine wE_of (pe_dget2 hu (pe_disp (pps_cons h1 hv1 (pps_cons h2 hv2 pps_nil)) rfl rfl (by simp) (by simp)) pw hd mm) ?_
  intro l hl
  have hl2 : (upd H l (.dK [])) l = some (.dK []) := upd_same
  refine ⟨hl2, [(.inr k1, .int v1), (.inr k2, .int v2)], rfl, by simp, l, rfl, .inl ⟨_, .inl upd_same⟩, ?_⟩
  have ee : upd (upd H l (.dK [])) l (.dK (mergeK [] [(.inr k1, .int v1), (.inr k2, .int v2)])) = upd H l (.dK [(.inr k1, .int v1), (.inr k2, .int v2)]) := by
    funext a
    unfold mergeK putK
    by_cases ha : a = l
    · subst ha
      rw [upd_same, upd_same]
      simp [putK, hne]
    · rw [upd_ne ha, upd_ne ha, upd_ne ha]
  rw [ee]
  have gg : Grow C B H B (upd H l (.dK [(.inr k1, .int v1), (.inr k2, .int v2)])) := Grow.loose fr.g.sub hl
  refine hm B0 H0 B _ σ env P (fr.grow gg (fr.pur.loose fr.g.sub hl)) _ (Post.bind (q.grow gg) fun y P1 _ u B1 H1 g1 p1 r1 q => ?_)
  cases y with
  | str z =>
    cases r1
    have npl : C.pu ≠ some l := fun e => by obtain ⟨⟨o, h, _⟩, _⟩ := fr.pur l e; rw [hl] at h; cases h
    have h9 := g1.hh l _ upd_same npl
    refine ⟨_, .inl ⟨_, .inr z, .inl h9, rfl, rfl⟩, ?_⟩
    have ev : ((valV [(Sum.inr k1, V.int v1), (Sum.inr k2, V.int v2)] (Sum.inr z : Key)).getD (.int dv) : V) = .int (([(k1, v1), (k2, v2)].lookup z).getD dv) := by
      unfold valV
      rw [List.lookup_cons, List.lookup_cons]
      by_cases z1 : k1 = z
      · subst z1; simp
      · have z1' : (z == k1) = false := by simp; exact fun h => z1 h.symm
        by_cases z2 : k2 = z
        · subst z2; simp [z1, z1']
        · have z2' : (z == k2) = false := by simp; exact fun h => z2 h.symm
          simp [z1, z2, z1', z2']
    rw [ev]
    exact Post.val (R := RD C _) q g1.sub p1 (.int _)
  | _ => exact q.elim

/-! ### x[j] += e, a list of ints that slot i owns -/
def rGetN : V → V → Hp → VK → Prop := fun o i H Q => ∃ p xs k v, o = .ref p ∧ i = .int (k : Nat) ∧ H p = some (.lst xs) ∧ xs[k]? = some v ∧ Q v H
theorem get_list : PGet X rGetN := by
  intro pins s σ H o i ov iv Q I ro ri h
  obtain ⟨p, xs, k, v, rfl, rfl, hp, hk, q⟩ := h
  cases ro
  obtain ⟨t, rfl⟩ := ri
  obtain ⟨its, r, pl, hz⟩ := I.list (SqL.of hp)
  obtain ⟨u, hu, ru⟩ := r.get hk
  have h1 : k < its.length := (List.getElem?_eq_some_iff.mp hu).1
  have h2 := line63
  have h3 := r.length
  exact wpAny_getItem_list pl.isList (Int.natCast_nonneg k) (by omega) (by simpa using hu) ⟨v, H, I, ru, q⟩
def intAt (xs : List D) : D → Option (Nat × Int)
  | .int k => if 0 ≤ k then (match xs[k.toNat]? with
    | some (.int x) => some (k.toNat, x)
    | _ => none) else none
  | _ => none
def intV : D → Option Int
  | .int k => some k
  | _ => none
theorem intV_of {d : D} {k : Int} (h : intV d = some k) : d = .int k := by
  cases d with
  | int i => cases h; rfl
  | _ => cases h
theorem intAt_of {xs : List D} {j : D} {r : Nat × Int} (h : intAt xs j = some r) : j = .int (r.1 : Nat) ∧ xs[r.1]? = some (.int r.2) := by
  cases j with
  | int k =>
    unfold intAt at h
    by_cases hk : 0 ≤ k
    · simp only [if_pos hk] at h
      split at h
      · rename_i x hx
        cases h
        exact ⟨by rw [Int.toNat_of_nonneg hk], hx⟩
      · cases h
    · simp only [if_neg hk] at h; cases h
  | _ => cases h
def mAugIx (i : Nat) (mj m : Ev → M D) : Ev → M Out := fun env => M.bind (optM (ownO env[i]?)) fun xs => M.bind (mj env) fun j => M.bind (optM (intAt xs j)) fun kx => M.bind (m env) fun d => M.bind (optM (intV d)) fun y =>
  M.ok (.next (env.set i (.own (xs.set kx.1 (.int (kx.2 + y))))))
theorem s_augIx (i : Nat) {mj : Ev → M D} {st : Stmt} (hj : DE C W X b mj) (h : DE C W X e m) (k : PS X st (tAugS (tVar i) (wE X b) (wE X e) rGetN (ipI fun i j => i + j) rSetL)) : DS C W X st (mAugIx i mj m) := fun B0 H0 B H σ env P fr E q => by
  obtain ⟨xs, e1, q1⟩ := optS q
  have ei := ownO_eq e1
  obtain ⟨l, vs, si, hl, bl, h0, np, r⟩ := fr.own i xs ei
  refine wS_of k ⟨_, si, hj B0 H0 B H σ env P fr _ (PostS.bind fr q1 fun j P' v B' H' g p fr' r' q2 => ?_)⟩
  obtain ⟨⟨kk, x⟩, e2, q3⟩ := optS q2
  obtain ⟨rfl, ex⟩ := intAt_of e2
  obtain ⟨l2, vs2, si2, hl2, bl2, h02, np2, r2⟩ := fr'.own i xs ei
  rw [si] at si2; cases si2
  obtain ⟨vx, hv, rx⟩ := r2.get ex
  cases rx
  cases r'
  refine ⟨l, vs2, kk, _, rfl, rfl, hl2, hv, h B0 H0 B' H' σ env P' fr' _ (PostS.bind fr' q3 fun d P2 u B2 H2 g2 p2 fr2 ru q4 => ?_)⟩
  obtain ⟨y, e3, q5⟩ := optS q4
  cases intV_of e3
  cases ru
  obtain ⟨l3, vs3, si3, hl3, bl3, h03, np3, r3⟩ := fr2.own i xs ei
  rw [si] at si3; cases si3
  have hlt : kk < vs3.length := by rw [r3.length]; exact (List.getElem?_eq_some_iff.mp ex).1
  exact ⟨x, y, rfl, rfl, l, vs3, kk, kk, rfl, rfl, hl3, (by unfold ixN; rw [if_pos (by omega), if_pos (by omega)]; simp), q5 σ B2 _ (fr2.put ei si (Reps.set (.int _) kk r3))⟩
end
end PD

set_option Elab.async false
set_option linter.all false
set_option maxRecDepth 100000
/-! PD13: the purse: reading, writing; functions that hand out a new list; a call that makes a purse; try. -/
namespace PD
open PySem PySem.Spec PyProof.Rows L2 RZ ClX
section
variable {C : Cn} {W : WX} {X : Cx} {a b c e o : Expr} {es : List Expr} {p pos apos : Pos} {ma mb mc m mj : Ev → M D} {ms : Ev → M (List D)} {x f nm : Str} {st : Stmt}
def purO : D → Option Unit
  | .pur => some ()
  | _ => none
def natO : D → Option Nat
  | .int k => if 0 ≤ k then some k.toNat else none
  | _ => none
theorem natO_of {d : D} {k : Nat} (h : natO d = some k) : d = .int (k : Nat) := by
  cases d with
  | int i =>
    have h : (if 0 ≤ i then some i.toNat else none) = some k := h
    by_cases z : 0 ≤ i
    · rw [if_pos z] at h; cases h
      rw [Int.toNat_of_nonneg z]
    · rw [if_neg z] at h; cases h
  | _ => cases h
theorem purO_of {d : D} {u : Unit} (h : purO d = some u) : d = .pur := by
  cases d with
  | pur => rfl
  | _ => cases h
def getP (k : Nat) : M D := fun P => match P with
  | .pl l => match l[k]? with
    | some v => .ok (.int v) P
    | none => .stuck
  | _ => .stuck
def putP (k : Nat) (v : Int) : M Unit := fun P => match P with
  | .pl l => if k < l.length then .ok () (.pl (l.set k v)) else .stuck
  | _ => .stuck
/-- p[k], p the purse -/
def mPix (ma mb : Ev → M D) : Ev → M D := fun env => M.bind (ma env) fun x => M.bind (optM (purO x)) fun _ => M.bind (mb env) fun k => M.bind (optM (natO k)) getP
theorem e_pix (ha : DE C W X a ma) (hb : DE C W X b mb) (hs : PlainIx b := by exact fun _ _ => rfl) : DE C W X (.Subscript a b pos) (mPix ma mb) := fun B0 H0 B H σ env P fr Q q =>
  wE_of (pe_ix ix_seq pw pw hs) (ha B0 H0 B H σ env P fr _ (Post.bind q fun x P1 _ v B1 H1 g1 p1 r1 q1 => by
    obtain ⟨_, e1, q2⟩ := Post.opt' q1
    cases purO_of e1
    refine hb B0 H0 B1 H1 σ env P1 (fr.grow g1 p1) _ (Post.bind q2 fun k P2 _ u B2 H2 g2 p2 r2 q3 => ?_)
    obtain ⟨n, e2, q4⟩ := Post.opt' q3
    cases natO_of e2
    cases r1 with
    | @pur ad epu =>
      cases r2
      obtain ⟨⟨o, ho, hh⟩, bo⟩ := p2 ad epu
      cases P2 with
      | slf c fs => exact q4.elim
      | pl l =>
        have hh : o = .lst (l.map V.int) := hh
        subst hh
        have q4 : Post C W σ B2 H2 (RD C H) (match l[n]? with | some v => .ok (.int v) (.pl l) | none => .stuck) Q := q4
        cases el : l[n]? with
        | none => rw [el] at q4; exact q4.elim
        | some v =>
          rw [el] at q4
          have hv : (l.map V.int)[n]? = some (V.int v) := by rw [List.getElem?_map, el]; rfl
          have hl : n < (l.map V.int).length := (List.getElem?_eq_some_iff.mp hv).1
          refine .inl ⟨ad, _, (n : Nat), _, rfl, rfl, SqL.of ho, ?_, Post.val (R := RD C H) q4 g2.sub p2 (.int v)⟩
          unfold atI
          have ei : ixN (l.map V.int).length (n : Int) = some n := by unfold ixN; rw [if_pos (by omega), if_pos (by omega)]; simp
          rw [ei]; exact hv))
theorem purse_fr {B0 H0 B H : Hp} {σ : L2.St} {env : Ev} {P P' : Pu} (fr : Fr C B0 H0 B H σ env P) {ad : Addr} (e : C.pu = some ad) {o : HO} (ho : Hold C B P' o) : Fr C B0 H0 B (upd H ad o) σ env P' := by
  obtain ⟨⟨o0, ho0, _⟩, bo⟩ := fr.pur ad e
  have ne : ∀ {q : Addr}, C.pu ≠ some q → q ≠ ad := fun {q} n z => n (z ▸ e)
  refine ⟨⟨fr.g.bb, fun q u z => ?_, fun q u z n => ?_, fun q h k => ?_⟩, fun q eq => ?_, fr.len, fr.val, fun i xs z => ?_, fr.inj⟩
  · have n : q ≠ ad := fun w => by rw [w, bo] at z; cases z
    rw [upd_ne n]; exact fr.g.sub q u z
  · rw [upd_ne (ne n)]; exact fr.g.hh q u z n
  · obtain ⟨z1, z2⟩ := fr.g.nb q h k
    refine ⟨z1, ?_⟩
    by_cases n : q = ad
    · rw [n, upd_same]; simp
    · rw [upd_ne n]; exact z2
  · rw [e] at eq; cases eq
    exact ⟨⟨_, upd_same, ho⟩, bo⟩
  · obtain ⟨l, ws, s1, hl, bl, h0, np, rr⟩ := fr.own i xs z
    exact ⟨l, ws, s1, by rw [upd_ne (ne np)]; exact hl, bl, h0, np, rr⟩
/-- p[k] = e -/
def mPset (m ma mj : Ev → M D) : Ev → M Out := fun env => M.bind (m env) fun d => M.bind (optM (intV d)) fun v => M.bind (ma env) fun x => M.bind (optM (purO x)) fun _ => M.bind (mj env) fun k => M.bind (optM (natO k)) fun k => M.bind (putP k v) fun _ => M.ok (.next env)
theorem putS {B0 H0 : Hp} {k : Nat} {v : Int} {f : Unit → M Out} {P : Pu} {E : Ends} (h : PostS C W B0 H0 (M.bind (putP k v) f P) E) : ∃ l, P = .pl l ∧ k < l.length ∧ PostS C W B0 H0 (f () (.pl (l.set k v))) E := by
  unfold M.bind putP at h
  cases P with
  | slf c fs => exact h.elim
  | pl l =>
    simp only at h
    by_cases z : k < l.length
    · rw [if_pos z] at h; exact ⟨l, rfl, z, h⟩
    · rw [if_neg z] at h; exact h.elim
theorem s_pset (h : DE C W X e m) (ha : DE C W X a ma) (hj : DE C W X b mj) (k : PS X st (tAsg (wE X e) (gSub (wE X a) (wE X b) rSetL))) : DS C W X st (mPset m ma mj) := fun B0 H0 B H σ env P fr E q =>
  wS_of k (h B0 H0 B H σ env P fr _ (PostS.bind fr q fun d P1 v B1 H1 g1 p1 fr1 r1 q1 => by
    obtain ⟨n, e1, q2⟩ := optS q1
    cases intV_of e1
    cases r1
    refine ha B0 H0 B1 H1 σ env P1 fr1 _ (PostS.bind fr1 q2 fun x P2 u B2 H2 g2 p2 fr2 r2 q3 => ?_)
    obtain ⟨_, e2, q4⟩ := optS q3
    cases purO_of e2
    refine hj B0 H0 B2 H2 σ env P2 fr2 _ (PostS.bind fr2 q4 fun y P3 w B3 H3 g3 p3 fr3 r3 q5 => ?_)
    obtain ⟨kk, e3, q6⟩ := optS q5
    cases natO_of e3
    cases r3
    cases r2 with
    | @pur ad epu =>
      obtain ⟨l, rfl, hlt, q7⟩ := putS q6
      obtain ⟨⟨o, ho, hh⟩, bo⟩ := p3 ad epu
      have hh : o = .lst (l.map V.int) := hh
      subst hh
      refine ⟨ad, _, (kk : Nat), kk, rfl, rfl, ho, by unfold ixN; rw [if_pos (by omega), if_pos (by rw [List.length_map]; omega)]; simp, ?_⟩
      exact q7 σ B3 _ (purse_fr (P' := .pl (l.set kk n)) fr3 epu (o := .lst ((l.map V.int).set kk (.int n))) (by show HO.lst _ = HO.lst _; rw [List.map_set]))))
/-- p[k], x = e: a pair of ints -/
def pairO : D → Option (Int × D)
  | .tup [.int u, d] => some (u, d)
  | _ => none
def mPdiv (i : Nat) (m ma mj : Ev → M D) : Ev → M Out := fun env => M.bind (m env) fun d => M.bind (optM (pairO d)) fun v => M.bind (ma env) fun x => M.bind (optM (purO x)) fun _ => M.bind (mj env) fun k => M.bind (optM (natO k)) fun k => M.bind (putP k v.1) fun _ => M.ok (.next (env.set i (.val v.2)))
theorem s_pdiv (i : Nat) (h : DE C W X e m) (ha : DE C W X a ma) (hj : DE C W X b mj) (k : PS X st (tAsg (wE X e) (gTup X.K 2 (gCons (gSub (wE X a) (wE X b) rSetL) (gCons (gName i) gNil))))) (hK : X.K = C.K := by rfl) : DS C W X st (mPdiv i m ma mj) := fun B0 H0 B H σ env P fr E q =>
  wS_of k (h B0 H0 B H σ env P fr _ (PostS.bind fr q fun d P1 v B1 H1 g1 p1 fr1 r1 q1 => by
    obtain ⟨⟨n, dd⟩, e1, q2⟩ := optS q1
    have ed : d = .tup [.int n, dd] := by
      unfold pairO at e1
      split at e1
      · cases e1; rfl
      · cases e1
    subst ed
    cases r1 with
    | tup s1 rr =>
      cases rr with
      | cons ra rr => cases rr with
        | cons rb rr =>
          cases rr
          cases ra
          refine ⟨_, _, rfl, by rw [hK]; exact sqT_mono g1.sub s1, rfl, _, _, rfl, ?_⟩
          refine ha B0 H0 B1 H1 σ env P1 fr1 _ (PostS.bind fr1 q2 fun x P2 u B2 H2 g2 p2 fr2 r2 q3 => ?_)
          obtain ⟨_, e2, q4⟩ := optS q3
          cases purO_of e2
          refine hj B0 H0 B2 H2 σ env P2 fr2 _ (PostS.bind fr2 q4 fun y P3 w B3 H3 g3 p3 fr3 r3 q5 => ?_)
          obtain ⟨kk, e3, q6⟩ := optS q5
          cases natO_of e3
          cases r3
          cases r2 with
          | @pur ad epu =>
            obtain ⟨l, rfl, hlt, q7⟩ := putS q6
            obtain ⟨⟨o, ho, hh⟩, bo⟩ := p3 ad epu
            have hh : o = .lst (l.map V.int) := hh
            subst hh
            refine ⟨ad, _, (kk : Nat), kk, rfl, rfl, ho, by unfold ixN; rw [if_pos (by omega), if_pos (by rw [List.length_map]; omega)]; simp, ?_⟩
            refine ⟨_, _, rfl, rfl, ?_⟩
            exact q7 _ B3 _ ((purse_fr (P' := .pl (l.set kk n)) fr3 epu (o := .lst ((l.map V.int).set kk (.int n))) (by show HO.lst _ = HO.lst _; rw [List.map_set])).set i (rb.mono (g2.bb.trans g3.bb)))))

/-! ### try, where nothing is raised -/
def mNox (m : Ev → M Out) : Ev → M Out := fun env => noexc (m env)
theorem s_try {body : List Stmt} {h0 : ExceptHandler} {hs : List ExceptHandler} {mbody : Ev → M Out} (hb : DSs C WF X.nox body mbody) : DS C W X (.Try body (h0 :: hs) [] [] pos) (mNox mbody) := fun B0 H0 B H σ env P fr E q =>
  wS_of (ps_try_thru0 ssw) (hb B0 H0 B H σ env P fr E (by
    unfold mNox noexc at q
    cases em : mbody env P with
    | stuck => rw [em] at q; exact q.elim
    | exc x P1 => rw [em] at q; exact q.elim
    | ok o P1 =>
      rw [em] at q
      cases o <;> exact q))
end
end PD

set_option Elab.async false
set_option linter.all false
set_option maxRecDepth 100000
/-! PD14: a def that hands out a new list; the call that makes it a purse; the end of a law. -/
namespace PD
open PySem PySem.Spec PyProof.Rows L2 RZ ClX
def spF (K : PySem.W.Frag) (adr : Str → Addr) (n : Nat) (f : List D → M (List D)) : Sp := fun vs H Q _ => vs.length = n ∧ ∃ pu B ds P, Reps ⟨K, adr, pu⟩ B vs ds ∧ Same B H ∧ Pur ⟨K, adr, pu⟩ B H P ∧
  ∃ xs P', f ds P = .ok xs P' ∧ ∀ v B' H', Grow ⟨K, adr, pu⟩ B H B' H' → Pur ⟨K, adr, pu⟩ B' H' P' → RF ⟨K, adr, pu⟩ H B' H' v xs → Q v H'
def runF (n : Nat) (m1 : Ev → M Out) (ml : Ev → M (List D)) (ds : List D) : M (List D) := M.bind (m1 (envOf n ds)) fun o => match o with
  | .next env => noexc (ml env)
  | _ => M.stuck
section
variable {P : Program} {w : World} {K : PySem.W.Frag} {mg : Str → Option Value} {base : Heap} {adr : Str → Addr}
theorem fn_F {x qual : Str} {st s1 : Stmt} {ee : Expr} {rp : Pos} {f : Addr} {fd : FuncData} {N ps : List Str} {k : Nat} {m1 : Ev → M Out} {ml : Ev → M (List D)} (F : Fun K x qual st f fd) (S : FnScope N ps (defScope st)) (eb : defBody st = [s1, .Return (some ee) rp])
    (hb : ∀ (pu : Option Addr) (cdv : Value) (A : Around) (outer : List Env) (s : Shared) (H : Hp) (E : XK), Room k (A.deeper (envOfC qual (defScope st) s.heap.objs.size f cdv)) →
      DS ⟨K, adr, pu⟩ WF (cxOf (L2N.CX P w) P w K mg base N qual (defScope st) f cdv A outer s H E) s1 m1 ∧ DF ⟨K, adr, pu⟩ WF (cxOf (L2N.CX P w) P w K mg base N qual (defScope st) f cdv A outer s H E) ee ml) :
    FnOk P w K mg base (L2N.CX P w) (k + 1) f fd ps (spF K adr ps.length (runF N.length m1 ml)) := by
  refine fun_okN F S (fun vs H Q E h => h.1) fun cdv A outer s H vs Q E hr h => ?_
  obtain ⟨hl, pu, B, ds, Pp, r, sm, p, xs, P', er, q⟩ := h
  have hpl : ps.length ≤ N.length := by
    have := congrArg List.length S.pre
    rw [List.length_take] at this; omega
  obtain ⟨h1, h2⟩ := hb pu cdv A outer s H E hr
  rw [eb]
  refine ⟨_, pss_cons sw (pss_one (ps_ret pw)), ?_⟩
  have fr := Fr.start (N := N) (by omega) r sm p
  unfold runF M.bind at er
  cases e1 : m1 (envOf N.length ds) Pp with
  | stuck => rw [e1] at er; cases er
  | exc x P1 => rw [e1] at er; cases er
  | ok o P1 =>
    rw [e1] at er
    cases o with
    | next env1 =>
      refine h1 B H B H _ _ Pp fr _ ?_
      rw [e1]
      intro σ1 B1 H1 fr1
      have er : noexc (ml env1) P1 = .ok xs P' := er
      unfold noexc at er
      cases e2 : ml env1 P1 with
      | stuck => rw [e2] at er; cases er
      | exc x P2 => rw [e2] at er; cases er
      | ok ys P2 =>
        rw [e2] at er
        cases er
        refine h2 B H B1 H1 σ1 env1 P1 fr1 _ ?_
        rw [e2]
        rintro v B2 H2 g2 p2 ⟨l, vs2, rfl, hl0, rest⟩
        exact q _ B2 H2 (fr1.g.trans g2) p2 ⟨l, vs2, rfl, fr1.g.there hl0, rest⟩
    | ret d => cases er
    | brk env1 => cases er
    | cont env1 => cases er
end
section
variable {C : Cn} {W : WX} {X : Cx} {e : Expr} {es : List Expr} {p pos pp2 pos2 : Pos} {ms : Ev → M (List D)}
def intsO : List D → Option (List Int)
  | [] => some []
  | .int i :: r => (intsO r).map (i :: ·)
  | _ :: _ => none
theorem intsO_of {B : Hp} : ∀ {xs : List D} {l : List Int} {vs : List V}, intsO xs = some l → Reps C B vs xs → vs = l.map V.int
  | [], l, _, h, r => by cases h; cases r; rfl
  | d :: xs, l, _, h, r => by
    cases d with
    | int i =>
      unfold intsO at h
      cases e : intsO xs with
      | none => rw [e] at h; cases h
      | some l2 =>
        rw [e] at h; cases h
        cases r with
        | cons r1 r2 =>
          cases r1
          rw [intsO_of e r2]; rfl
    | _ => unfold intsO at h; cases h
/-- f(g(e, ..)): g's new list of ints is the purse of f -/
def mMkPu (mg : List D → M (List D)) (mf : List D → M D) (ms : Ev → M (List D)) : Ev → M D := fun env => M.bind (ms env) fun ds => M.bind (noexc (mg ds)) fun xs => fun P => match intsO xs with
  | some l => match mf [.pur] (.pl l) with
    | .ok d _ => if noPur d = true then .ok d P else .stuck
    | _ => .stuck
  | none => .stuck
theorem e_callPu {k j n : Nat} {f g : Addr} {fd gd' : FuncData} {ps qs : List Str} {mf : List D → M D} {mgg : List D → M (List D)} {x y : Str} (F : FnG X.prog X.w X.K X.mg X.base (L2N.CX X.prog X.w) k f fd ps (spD C.K C.adr 1 mf)) (gd : X.A.guards = some []) (hr : Room k X.A) (hm : X.mg x = some (.ref f)) (hk : PySem.W.keepIn X.K (.ref f) = true) (hb : Binds X.K fd ps [])
    (G : FnOk X.prog X.w X.K X.mg X.base (L2N.CX X.prog X.w) j g gd' qs (spF C.K C.adr n mgg)) (hrj : Room j X.A) (hmg : X.mg y = some (.ref g)) (hkg : PySem.W.keepIn X.K (.ref g) = true) (hbg : Binds X.K gd' qs []) (tk : L2N.Takes X W)
    (ha : DA C W X (e :: es) ms) (hlen : ∀ env P ds P', ms env P = .ok ds P' → ds.length = n) (hg : Gl X x := by rfl) (hgy : Gl X y := by rfl) (hdb : (x == ("__debug__" : Str)) = false := by decide) (hdy : (y == ("__debug__" : Str)) = false := by decide)
    (he : starEach (e :: es) X.env = (false, eval e X.env) :: starEach es X.env := by rfl) (hpl : (backTo pos2 (starEach es X.env)).any (·.1) = false := by rfl)
    (he2 : starEach [.Call (.Name y pp2) (e :: es) [] pos2] X.env = (false, eval (.Call (.Name y pp2) (e :: es) [] pos2) X.env) :: starEach [] X.env := by rfl) (hpl2 : (backTo pos (starEach [] X.env)).any (·.1) = false := by rfl) :
    DE C W X (.Call (.Name x p) [.Call (.Name y pp2) (e :: es) [] pos2] [] pos) (mMkPu mgg mf ms) := fun B0 H0 B H σ env P fr Q q pins s I => by
  refine wpAny_Call_Name_kw (ld_glob I hg hm ?_ hdb)
  refine PySem.W.callWith_K (h₀ := X.base) I.ok.mod.kin hk (thn ((pa_cons pw (pa_nil (X := X)) he2).run pos pins s σ H (fun vs H1 => spD C.K C.adr 1 mf vs H1 Q (WE W σ)) I ?_) fun us s1 ⟨vs, H1, I1, r, q⟩ => ⟨I1.kIn, run_G F gd hr hb (L2N.passAt tk σ) I1 r q⟩) he2 hpl2
  refine wE_of (pe_callS G hrj hgy hmg hkg hbg (E := WE W) (fun σ => L2N.passAt tk σ) aw hdy he hpl) (ha B0 H0 B H σ env P fr _ (Post.bind q fun ds P1 em vs B1 H1 g1 p1 r1 q1 => ?_))
  unfold M.bind at q1
  cases en : noexc (mgg ds) P1 with
  | stuck => rw [en] at q1; exact q1.elim
  | exc z P2 => unfold noexc at en; split at en <;> cases en
  | ok xs P2 =>
    rw [en] at q1
    have eg : mgg ds P1 = .ok xs P2 := by
      unfold noexc at en
      cases e9 : mgg ds P1 with
      | stuck => rw [e9] at en; cases en
      | exc z P3 => rw [e9] at en; cases en
      | ok z P3 => rw [e9] at en; exact en
    refine ⟨by rw [r1.length]; exact hlen _ _ _ _ em, C.pu, B1, ds, P1, r1, g1.sub, p1, xs, P2, eg, ?_⟩
    rintro v B2 H2 g2 p2 ⟨l, ws, rfl, hl1, hl2, bl2, npl, rr⟩
    cases ei : intsO xs with
    | none => simp only [ei] at q1; exact q1.elim
    | some li =>
      simp only [ei] at q1
      have ews := intsO_of ei rr
      subst ews
      cases em2 : mf [.pur] (.pl li) with
      | stuck => simp only [em2] at q1; exact q1.elim
      | exc z P3 => simp only [em2] at q1; exact q1.elim
      | ok d P3 =>
        simp only [em2] at q1
        by_cases np : noPur d = true
        · rw [if_pos np] at q1
          refine ⟨rfl, some l, B2, [.pur], .pl li, .cons (.pur rfl) .nil, g2.sub, fun a ea => ?_, ?_⟩
          · cases ea; exact ⟨⟨_, hl2, rfl⟩, bl2⟩
          · rw [em2]
            intro u B3 H3 g3 p3 r3
            have nl : ∀ {a : Addr}, H1 a ≠ none → a ≠ l := fun {a} h z => h (by rw [z]; exact hl1)
            refine q1 u B3 H3 ⟨g2.bb.trans g3.bb, g3.sub, fun a o z n => ?_, fun a h1 h2 => ?_⟩ (fun a ea => ?_) (Rep.cn (C := ⟨C.K, C.adr, some l⟩) (p := C.pu) np r3)
            · exact g3.hh a o (g2.hh a o z n) (fun w => nl (by rw [z]; simp) (by cases w; rfl))
            · obtain ⟨z1, z2⟩ := g2.nb a h1 h2
              exact g3.nb a z1 z2
            · obtain ⟨⟨o, ho, hh⟩, ba⟩ := p2 a ea
              have nal : a ≠ l := fun z => npl (z ▸ ea)
              exact ⟨⟨o, g3.hh a o ho (fun w => nal (by cases w; rfl)), hh.mono g3.bb⟩, (g3.nb a ba (by rw [ho]; simp)).1⟩
        · rw [if_neg np] at q1; exact q1.elim
end
/-! ### the end -/
theorem law_callG {P : Program} {w : World} {K : PySem.W.Frag} {mg mb : Str → Option Value} {CX : CXT} {k : Nat} {fa a : Addr} {fd : FuncData} {x : Str} {sp : Sp} {tt : Shared} {vals : List Value} {nums : List Int}
    (KIn : K.In tt.heap) (gns : tt.heap.Ns mainGlobals mg) (gb : tt.heap.Ns builtinsNs mb) (gbb : ∀ x : Str, x ≠ "__name__" → mb x = bootBuiltins x) (glim : tt.heap.NoLimit) (gg : tt.gens = #[])
    (ga : tt.heap.get? a = some { cls := .type "list", data := .seq vals.toArray }) (gi : IntsAre vals nums) (gl : nums.length ≤ sizeLine) (room : Room k callerA)
    (F : ∀ base : Heap, K.In base → base.Ns mainGlobals mg → FnG P w K mg base CX k fa fd [x] sp) (gbind : ∀ (s : Shared) (uu : Value), BindsTo s fd ⟨[uu], []⟩ [(x, uu)])
    (gsp : ∀ H : Hp, Only H → SqL K H a (nums.map V.int) → sp [.ref a] H (fun v _ => v = .bl true) fun _ _ _ => False)
    (gCX : ∀ H e s2, CX [] H tt (fun _ _ _ => False) e s2 → False) :
    codeAny (model P w) callerA (.call (.ref fa) ⟨[.ref a], []⟩) (fun r s2 => r = .ok (.ret (.bool true)) ∧ OldK tt.heap s2.heap ∧ s2.os = tt.os ∧ AllBare s2.gens) tt := by
  have rvs := vals_ints gi
  have lv := gi.length
  -- from an abstract heap in which nothing but the script may be tracked
  have kern : ∀ H : Hp, Only H → SqL K H a (nums.map V.int) → HOk P w H tt.heap → (∀ b, H b ≠ none → b = a) → (H a ≠ none → K.lookup a = none) →
      codeAny (model P w) callerA (.call (.ref fa) ⟨[.ref a], []⟩) (fun r s2 => r = .ok (.ret (.bool true)) ∧ OldK tt.heap s2.heap ∧ s2.os = tt.os ∧ AllBare s2.gens) tt := by
    intro H oH sH ok1 aH kH
    have bof : ∀ {b : Addr} {o : Obj}, tt.heap.get? b = some o → H b = none → (hidT tt.heap H).get? b = some o := fun e n => hidT_get e n
    have nA : ∀ {b : Addr} {o : Obj} {es : Array DictEntry} {ep : Nat}, tt.heap.get? b = some o → o.data = .dict es ep → H b = none := fun {b o es ep} e d => by
      cases q : H b with
      | none => rfl
      | some uu =>
        have ee : b = a := aH b (by rw [q]; simp)
        subst ee
        rw [ga] at e; cases e
        have dd : Data.seq vals.toArray _ = Data.dict es ep := d
        cases dd
    have nK : ∀ {b : Addr} {m : Str → Option Value}, tt.heap.Ns b m → (hidT tt.heap H).Ns b m := fun {b m} ⟨o, es, ep, e, d, r⟩ => ⟨o, es, ep, bof e (nA e d), d, r⟩
    have kIn2 : K.In (hidT tt.heap H) := fun b o e => bof (KIn b o e) (by
      cases q : H b with
      | none => rfl
      | some uu =>
        have ee : b = a := aH b (by rw [q]; simp)
        subst ee
        rw [kH (by rw [q]; simp)] at e; cases e)
    have mod1 : Mod K mg (hidT tt.heap H) := ⟨kIn2, nK gns, ⟨mb, nK gb, gbb⟩, let ⟨mc, h1, h2⟩ := glim; ⟨mc, nK h1, h2⟩⟩
    have en0 : Env0 P w K mg (hidT tt.heap H) callerA [] tt H := ⟨rfl, mod1, fun b o e => of_hidT e, Nat.le_of_eq (hidT_size _ _), trivial, fun b gb => absurd (show b ∈ ([] : List Addr) from gb) (by simp), ok1, .of_eq gg⟩
    refine codeAny_mono ((F _ kIn2 (nK gns)).go callerA rfl [] tt H ⟨[.ref a], []⟩ [.ref a] [.ref a] _ _ room en0 (gbind tt (.ref a)) (.cons rfl .nil) (gsp H oH sH)) fun r s2 h => ?_
    cases r with
    | error e => exact (gCX H e s2 h).elim
    | ok fl =>
      cases fl with
      | next => exact False.elim h
      | brk => exact False.elim h
      | cont => exact False.elim h
      | ret uu =>
        obtain ⟨v, H', oo, br, unn, ok1', r2, q⟩ := h
        have qq : v = .bl true := q
        subst qq
        obtain rfl : uu = Value.bool true := r2
        refine ⟨rfl, OldK.of_keep fun b o e => ?_, oo, br⟩
        cases q : H b with
        | none => exact unn.keep b o e q (by intro z; exact absurd (show b ∈ ([] : List Addr) from z) (by simp)) (by simp)
        | some uu =>
          rcases oH b with z | ⟨obj, xs, z⟩
          · rw [q] at z; cases z
          · have z2 := unn.frzs b obj _ z
            obtain ⟨e1, _⟩ := ok1 b _ z
            obtain ⟨e2, _⟩ := ok1' b _ z2
            rw [e] at e1; cases e1
            exact e2
  cases kk : K.lookup a with
  | some o =>
    -- the script is one of the module's own objects
    have e := KIn a o kk
    rw [ga] at e
    cases e
    refine kern (fun _ => none) (fun _ => .inl rfl) (.inr ⟨_, vals.toArray, _, kk, rfl, rfl, rfl, by rw [List.size_toArray, lv]; exact gl, by simpa using rvs⟩) (fun b uu z => by have zz : (none : Option HO) = some uu := z; cases zz) (fun b z => absurd rfl z) fun z => absurd rfl z
  | none =>
    refine kern (fun b => if b = a then some (.frz { cls := .type "list", data := .seq vals.toArray } (.lst (nums.map V.int))) else none) (fun b => ?_) (.inl (.inr ⟨{ cls := .type "list", data := .seq vals.toArray }, if_pos rfl⟩)) (fun b uu z => ?_) (fun b z => ?_) fun _ => kk
    · by_cases gb : b = a
      · exact .inr ⟨_, _, if_pos gb⟩
      · exact .inl (if_neg gb)
    · by_cases gb : b = a
      · have zz := (if_pos gb).symm.trans z
        cases zz
        subst gb
        exact ⟨ga, by rw [List.length_map]; exact gl, vals, _, rvs, ga⟩
      · have zz := (if_neg gb).symm.trans z
        cases zz
    · by_cases gb : b = a
      · exact gb
      · exact absurd (if_neg gb) z
end PD

set_option Elab.async false
set_option linter.all false
set_option maxRecDepth 100000
/-! PD15: from the mirror of law to the row. -/
namespace PD
open PySem PySem.Spec PyProof.Rows L2 RZ ClX
theorem reps_ints {C : Cn} {B : Hp} : ∀ ns : List Int, Reps C B (ns.map V.int) (ns.map D.int)
  | [] => .nil
  | n :: ns => .cons (.int n) (reps_ints ns)
theorem walk_G {l : PySem.W.OpenLaw} {n k : Nat} {q : Program} {loose : List Str} {XP : (Str → Option Value) → Heap → Prop} {YP : World → Heap → Prop} {d : DefRec} {K : Params → PySem.W.Frag} {x : Str} {mf : PySem.W.Frag → (Str → Addr) → List D → M D}
    (hn : l.most = some n) (hn2 : n ≤ sizeLine) (hdf : d.params.defaults = []) (hr : Room k callerA) (hY : ∀ (w : World) (h : Heap), YP w h → (K w.params).In h)
    (F : ∀ (w : World) (mg : Str → Option Value) (fa : Addr) (h : Heap), (K w.params).In h → h.Ns mainGlobals mg → mg d.name = some (.ref fa) →
      ∃ (fd : FuncData) (adr : Str → Addr), (∀ (s : Shared) (u : Value), BindsTo s fd ⟨[u], []⟩ [(x, u)]) ∧
        (∀ base : Heap, (K w.params).In base → base.Ns mainGlobals mg → FnG l.prog w (K w.params) mg base (L2N.CX l.prog w) k fa fd [x] (spD (K w.params) adr 1 (mf (K w.params) adr))) ∧
        ∀ ns : List Int, ns.length ≤ n → (∀ z ∈ ns, Builtin.Int.intBits z ≤ 1048576) → ∃ P', mf (K w.params) adr [.scr (ns.map .int)] (.pl []) = .ok (.bl true) P') :
    PySem.W.WalkO q loose XP YP l.row.toRowW d [] (fun f vs => PySem.call f vs) := by
  refine Att.attach_callB hn hdf fun w t0 t1 mg mb fa o pm cd doc a vs ns G Y ho hd hcd hmg hobj hints hlen hbits hg => ?_
  obtain ⟨fd, adr, hb, hF, hT⟩ := F w mg fa _ (hY w _ Y) G.T.g hmg
  obtain ⟨P', eT⟩ := hT ns hlen hbits
  refine law_callG (hY w _ Y) G.T.g G.T.b G.T.builtins G.T.nolimit hg hobj hints (Nat.le_trans hlen hn2) hr hF hb (fun H hO hS => ?_) fun H e s' z => ?_
  · refine ⟨rfl, none, H, [.scr (ns.map .int)], .pl [], .cons (.scr hS (reps_ints ns)) .nil, Same.refl H, (fun p e => nomatch e), ?_⟩
    rw [eT]
    intro v B' H' g p r
    cases r
    rfl
  · obtain ⟨_, _, _, _, _, _, _, _, _, _, _, _, h⟩ := z
    exact h
end PD

set_option Elab.async false
set_option linter.all false
set_option maxRecDepth 100000
/-! PD16: promises by name, for texts in which nothing is raised. -/
namespace PD
open PySem PySem.Spec PyProof.Rows L2 RZ ClX
section
variable {C : Cn} {W : WX} {X : Cx} {a b c e o : Expr} {es : List Expr} {p pos apos pp2 pos2 : Pos} {ma mb mc m : Ev → M D} {ms : Ev → M (List D)} {x y f nm cn : Str}
theorem takesF : L2N.Takes X WF := fun u s' h => by
  obtain ⟨_, _, _, _, _, _, _, _, h⟩ := h
  exact absurd h (by
    intro z
    obtain ⟨_, _, _, _, _, _, _, z⟩ := z
    first
      | exact z
      | (obtain ⟨_, z⟩ := z; exact z)
      | (obtain ⟨_, _, z⟩ := z; exact z))
theorem ss_nox {sts : List Stmt} {m1 : Ev → M Out} (h : DSs C WF X.nox sts m1) : DSs C W X sts (mNox m1) := fun B0 H0 B H σ env P fr E q => wSs_of (ssw (X := X.nox) (st := sts)).nox <| h B0 H0 B H σ env P fr E (by
  unfold mNox noexc at q
  cases em : m1 env P with
  | stuck => rw [em] at q; exact q.elim
  | exc x P1 => rw [em] at q; exact q.elim
  | ok o P1 => rw [em] at q; cases o <;> exact q)
end
/-- the def at adr key promises mf of n values -/
structure Pr (P : Program) (w : World) (K : PySem.W.Frag) (mg : Str → Option Value) (base : Heap) (adr : Str → Addr) (key : Str) (k n : Nat) (mf : List D → M D) : Prop where
  ex : ∃ (fd : FuncData) (ps : List Str), FnOk P w K mg base (L2N.CX P w) k (adr key) fd ps (spD K adr n mf) ∧ Binds K fd ps [] ∧ PySem.W.keepIn K (.ref (adr key)) = true
/-- .. where no container is being shown -/
structure PrG (P : Program) (w : World) (K : PySem.W.Frag) (mg : Str → Option Value) (base : Heap) (adr : Str → Addr) (key : Str) (k n : Nat) (mf : List D → M D) : Prop where
  ex : ∃ (fd : FuncData) (ps : List Str), FnG P w K mg base (L2N.CX P w) k (adr key) fd ps (spD K adr n mf) ∧ Binds K fd ps [] ∧ PySem.W.keepIn K (.ref (adr key)) = true
structure PrF (P : Program) (w : World) (K : PySem.W.Frag) (mg : Str → Option Value) (base : Heap) (adr : Str → Addr) (key : Str) (k n : Nat) (mf : List D → M (List D)) : Prop where
  ex : ∃ (fd : FuncData) (ps : List Str), FnOk P w K mg base (L2N.CX P w) k (adr key) fd ps (spF K adr n mf) ∧ Binds K fd ps [] ∧ PySem.W.keepIn K (.ref (adr key)) = true
structure PrK (ky : Str) (P : Program) (w : World) (K : PySem.W.Frag) (mg : Str → Option Value) (base : Heap) (adr : Str → Addr) (key : Str) (k n : Nat) (mf : List D → M D) : Prop where
  ex : ∃ (fd : FuncData) (ps : List Str), FnOk P w K mg base (L2N.CX P w) k (adr key) fd ps (spD K adr n mf) ∧ Binds K fd ps [] ∧ PySem.W.keepIn K (.ref (adr key)) = true ∧ KBn K fd ps 1 [ky] (fun us ws => us ++ ws) (fun vs zs => vs ++ zs)
theorem PrK.pr {ky : Str} {P : Program} {w : World} {K : PySem.W.Frag} {mg : Str → Option Value} {base : Heap} {adr : Str → Addr} {key : Str} {k n : Nat} {mf : List D → M D} (h : PrK ky P w K mg base adr key k n mf) : Pr P w K mg base adr key k n mf := by
  obtain ⟨fd, ps, a, b, c, _⟩ := h.ex
  exact ⟨fd, ps, a, b, c⟩
/-- the def, as the top has made it -/
structure DefAt (K : PySem.W.Frag) (adr : Str → Addr) (key nm qual : Str) (st : Stmt) : Prop where
  ex : ∃ fd : FuncData, Fun K nm qual st (adr key) fd
section
variable {P : Program} {w : World} {K : PySem.W.Frag} {mg : Str → Option Value} {base : Heap} {adr : Str → Addr} {key nm qual : Str} {st : Stmt} {N ps : List Str} {k n : Nat} {mb : Ev → M Out} {mf : List D → M D}
abbrev BindsBy (st : Stmt) (nm qual : Str) (ps : List Str) : Prop := ∀ (kV doc pm : Value) (an : Option Addr) (cdv ct : Value) (us : List Value), us.length = ps.length → bindArgs (PySem.W.fnOf nm qual (defArgs st) (defBody st) (defScope st) .none kV doc pm an cdv ct) ⟨us, []⟩ = pure (ps.zip us)
theorem pr_D (D0 : DefAt K adr key nm qual st) (S : FnScope N ps (defScope st)) (hn : ps.length = n) {nN kk : Nat} (hf : mf = runD nN (mNox mb)) (hN : N.length = nN) (hk : kk = k + 1) (hb : BindsBy st nm qual ps)
    (hbody : ∀ (pu : Option Addr) (f : Addr) (cdv : Value) (A : Around) (outer : List Env) (s : Shared) (H : Hp) (E : XK), Room k (A.deeper (envOfC qual (defScope st) s.heap.objs.size f cdv)) →
      DSs ⟨K, adr, pu⟩ WF (cxOf (L2N.CX P w) P w K mg base N qual (defScope st) f cdv A outer s H E).nox (defBody st) mb) : Pr P w K mg base adr key kk n mf := by
  obtain ⟨fd, F⟩ := D0.ex
  subst hn hN hk
  rw [hf]
  exact ⟨fd, ps, fn_D F S fun pu cdv A outer s H E hr => ss_nox (hbody pu _ cdv A outer s H E hr), F.binds hb, F.kp⟩
theorem pr_K {ky : Str} (D0 : DefAt K adr key nm qual st) (S : FnScope N ps (defScope st)) (hn : ps.length = n) {nN kk : Nat} (hf : mf = runD nN (mNox mb)) (hN : N.length = nN) (hk : kk = k + 1) (hb : BindsBy st nm qual ps)
    (hkb : ∀ (kV doc pm : Value) (an : Option Addr) (cdv ct a b : Value), bindArgs (PySem.W.fnOf nm qual (defArgs st) (defBody st) (defScope st) .none kV doc pm an cdv ct) ⟨[a], [(ky, b)]⟩ = pure (ps.zip [a, b]))
    (hbody : ∀ (pu : Option Addr) (f : Addr) (cdv : Value) (A : Around) (outer : List Env) (s : Shared) (H : Hp) (E : XK), Room k (A.deeper (envOfC qual (defScope st) s.heap.objs.size f cdv)) →
      DSs ⟨K, adr, pu⟩ WF (cxOf (L2N.CX P w) P w K mg base N qual (defScope st) f cdv A outer s H E).nox (defBody st) mb) : PrK ky P w K mg base adr key kk n mf := by
  obtain ⟨fd, F⟩ := D0.ex
  subst hn hN hk
  rw [hf]
  exact ⟨fd, ps, fn_D F S fun pu cdv A outer s H E hr => ss_nox (hbody pu _ cdv A outer s H E hr), F.binds hb, F.kp, kbn_one F hkb⟩
theorem pr_F {s1 : Stmt} {ee : Expr} {rp : Pos} {m1 : Ev → M Out} {ml : Ev → M (List D)} (D0 : DefAt K adr key nm qual st) (S : FnScope N ps (defScope st)) (hn : ps.length = n) (hb : BindsBy st nm qual ps) (eb : defBody st = [s1, .Return (some ee) rp])
    (hbody : ∀ (pu : Option Addr) (f : Addr) (cdv : Value) (A : Around) (outer : List Env) (s : Shared) (H : Hp) (E : XK), Room k (A.deeper (envOfC qual (defScope st) s.heap.objs.size f cdv)) →
      DS ⟨K, adr, pu⟩ WF (cxOf (L2N.CX P w) P w K mg base N qual (defScope st) f cdv A outer s H E) s1 m1 ∧ DF ⟨K, adr, pu⟩ WF (cxOf (L2N.CX P w) P w K mg base N qual (defScope st) f cdv A outer s H E) ee ml) : PrF P w K mg base adr key (k + 1) n (runF N.length m1 ml) := by
  obtain ⟨fd, F⟩ := D0.ex
  subst hn
  exact ⟨fd, ps, fn_F F S eb fun pu cdv A outer s H E hr => hbody pu _ cdv A outer s H E hr, F.binds hb, F.kp⟩
theorem pr_G (D0 : DefAt K adr key nm qual st) (S : FnScope N ps (defScope st)) (hn : ps.length = n) {nN kk : Nat} (hf : mf = runD nN (mNox mb)) (hN : N.length = nN) (hk : kk = k + 1) (hb : BindsBy st nm qual ps)
    (hbody : ∀ (pu : Option Addr) (f : Addr) (cdv : Value) (A : Around) (outer : List Env) (s : Shared) (H : Hp) (E : XK), (A.deeper (envOfC qual (defScope st) s.heap.objs.size f cdv)).guards = some [] → Room k (A.deeper (envOfC qual (defScope st) s.heap.objs.size f cdv)) →
      DSs ⟨K, adr, pu⟩ WF (cxOf (L2N.CX P w) P w K mg base N qual (defScope st) f cdv A outer s H E).nox (defBody st) mb) : PrG P w K mg base adr key kk n mf := by
  obtain ⟨fd, F⟩ := D0.ex
  subst hn hN hk
  rw [hf]
  exact ⟨fd, ps, fn_G F S fun pu cdv A outer s H E gd hr => ss_nox (hbody pu _ cdv A outer s H E gd hr), F.binds hb, F.kp⟩
end
section
variable {C : Cn} {X : Cx} {a b c e o : Expr} {es : List Expr} {p pos apos pp2 pos2 : Pos} {ma mb mc m : Ev → M D} {ms : Ev → M (List D)} {x y f nm cn key : Str} {k n j : Nat} {mf : List D → M D}
theorem x_call (F : Pr X.prog X.w X.K X.mg X.base C.adr key k n mf) (hK : X.K = C.K) (hr : Room k X.A) (hm : X.mg x = some (.ref (C.adr key)))
    (ha : DA C WF X (e :: es) ms) (hn : (e :: es).length = n := by rfl) (hg : Gl X x := by rfl) (hdb : (x == ("__debug__" : Str)) = false := by decide) (he : starEach (e :: es) X.env = (false, eval e X.env) :: starEach es X.env := by rfl) (hpl : (backTo pos (starEach es X.env)).any (·.1) = false := by rfl)
    (hlen : ∀ env P ds P', ms env P = .ok ds P' → ds.length = n) : DE C WF X (.Call (.Name x p) (e :: es) [] pos) (mUn ms mf) := by
  obtain ⟨fd, ps, F, hb, hk⟩ := F.ex
  exact e_call (C := C) (by rw [← hK]; exact F) hr hm hk hb takesF ha hn hg hdb he hpl hlen
theorem x_callG (F : PrG X.prog X.w X.K X.mg X.base C.adr key k n mf) (hK : X.K = C.K) (gd : X.A.guards = some []) (hr : Room k X.A) (hm : X.mg x = some (.ref (C.adr key)))
    (ha : DA C WF X (e :: es) ms) (hn : (e :: es).length = n := by rfl) (hg : Gl X x := by rfl) (hdb : (x == ("__debug__" : Str)) = false := by decide) (he : starEach (e :: es) X.env = (false, eval e X.env) :: starEach es X.env := by rfl) (hpl : (backTo pos (starEach es X.env)).any (·.1) = false := by rfl)
    (hlen : ∀ env P ds P', ms env P = .ok ds P' → ds.length = n) : DE C WF X (.Call (.Name x p) (e :: es) [] pos) (mUn ms mf) := by
  obtain ⟨fd, ps, F, hb, hk⟩ := F.ex
  exact e_callG (C := C) (by rw [← hK]; exact F) gd hr hm hk hb takesF ha hn hg hdb he hpl hlen
theorem x_callPu {mgg : List D → M (List D)} {kf : Str} (F : PrG X.prog X.w X.K X.mg X.base C.adr key k 1 mf) (G : PrF X.prog X.w X.K X.mg X.base C.adr kf j n mgg) (hK : X.K = C.K) (gd : X.A.guards = some []) (hr : Room k X.A) (hrj : Room j X.A) (hm : X.mg x = some (.ref (C.adr key))) (hmg : X.mg y = some (.ref (C.adr kf)))
    (ha : DA C WF X (e :: es) ms) (hlen : ∀ env P ds P', ms env P = .ok ds P' → ds.length = n) (hg : Gl X x := by rfl) (hgy : Gl X y := by rfl) (hdb : (x == ("__debug__" : Str)) = false := by decide) (hdy : (y == ("__debug__" : Str)) = false := by decide)
    (he : starEach (e :: es) X.env = (false, eval e X.env) :: starEach es X.env := by rfl) (hpl : (backTo pos2 (starEach es X.env)).any (·.1) = false := by rfl)
    (he2 : starEach [.Call (.Name y pp2) (e :: es) [] pos2] X.env = (false, eval (.Call (.Name y pp2) (e :: es) [] pos2) X.env) :: starEach [] X.env := by rfl) (hpl2 : (backTo pos (starEach [] X.env)).any (·.1) = false := by rfl) :
    DE C WF X (.Call (.Name x p) [.Call (.Name y pp2) (e :: es) [] pos2] [] pos) (mMkPu mgg mf ms) := by
  obtain ⟨fd, ps, F, hb, hk⟩ := F.ex
  obtain ⟨gd', qs, G, hbg, hkg⟩ := G.ex
  exact e_callPu (C := C) (by rw [← hK]; exact F) gd hr hm hk hb (by rw [← hK]; exact G) hrj hmg hkg hbg takesF ha hlen hg hgy hdb hdy he hpl he2 hpl2
theorem x_meth {pl : Sem Bool} (F : Pr X.prog X.w X.K X.mg X.base C.adr key k (n + 1) mf) (hK : X.K = C.K) (hr : Room k X.A) (hc : Cls X.K (C.adr cn)) (hm : Meth X.K (C.adr cn) nm (C.adr key)) (ho : DE C WF X o ma) (ha : DA C WF X (e :: es) ms) (hlen : ∀ env P ds P', ms env P = .ok ds P' → ds.length = n)
    (hst : starEach (e :: es) X.env = (false, eval e X.env) :: starEach es X.env := by rfl) (hpl : (backTo pos (starEach es X.env)).any (·.1) = false := by rfl)
    (ht : eval (.Call (.Attribute o nm apos) (e :: es) [] pos) X.env = (do
      let ov ← eval o X.env
      standAt apos.atName
      let (f, first) ← holding [ov] (getMethod ov nm pl)
      callWith pos f first (backTo pos (starEach (e :: es) X.env)) (backToKw pos (keywordEach [] X.env))) := by rfl) :
    DE C WF X (.Call (.Attribute o nm apos) (e :: es) [] pos) (mMeth cn nm mf ma ms) := by
  obtain ⟨fd, ps, F, hb, hk⟩ := F.ex
  rw [hK] at F
  exact e_meth (pl := pl) (C := C) ho hc hm (by rw [hK]; exact F) hr hb ha hlen (pe_meth pw hc hm (by rw [hK]; exact F) hr hb .nil passN aw hst hpl ht)
theorem x_meth0 {pl : Sem Bool} (F : Pr X.prog X.w X.K X.mg X.base C.adr key k 1 mf) (hK : X.K = C.K) (hr : Room k X.A) (hc : Cls X.K (C.adr cn)) (hm : Meth X.K (C.adr cn) nm (C.adr key)) (ho : DE C WF X o ma)
    (ht : eval (.Call (.Attribute o nm apos) [] [] pos) X.env = (do
      let ov ← eval o X.env
      standAt apos.atName
      let (f, first) ← holding [ov] (getMethod ov nm pl)
      callWith pos f first (backTo pos (starEach [] X.env)) (backToKw pos (keywordEach [] X.env))) := by rfl) :
    DE C WF X (.Call (.Attribute o nm apos) [] [] pos) (mMeth cn nm mf ma mNil) := by
  obtain ⟨fd, ps, F, hb, hk⟩ := F.ex
  rw [hK] at F
  exact e_meth0 (C := C) ho (pe_meth0 pw hc hm (by rw [hK]; exact F) hr hb .nil passN ht)
theorem x_prop {pa : Addr} (F : Pr X.prog X.w X.K X.mg X.base C.adr key k 1 mf) (hK : X.K = C.K) (hr : Room (k + 1) X.A) (hc : Cls X.K (C.adr cn)) (hp : PropOf X.K (C.adr cn) f pa (C.adr key)) (ho : DE C WF X o ma) (hab : attributeBase o f X.env (eval o X.env) = eval o X.env := by rfl) :
    DE C WF X (.Attribute o f pos) (mProp cn mf ma) := by
  obtain ⟨fd, ps, F, hb, hk⟩ := F.ex
  rw [hK] at F
  exact e_prop (C := C) ho (pe_prop pw hc hp (by rw [hK]; exact F) hr hb .nil passN hab)
theorem x_make (F : Pr X.prog X.w X.K X.mg X.base C.adr key k (n + 1) mf) (hK : X.K = C.K) (hr : Room (k + 1) X.A) (M0 : Mk X.K (C.adr cn) (C.adr key)) (hm : X.mg x = some (.ref (C.adr cn))) (ha : DA C WF X (e :: es) ms) (hlen : ∀ env P ds P', ms env P = .ok ds P' → ds.length = n)
    (hg : Gl X x := by rfl) (hdb : (x == ("__debug__" : Str)) = false := by decide) (he : starEach (e :: es) X.env = (false, eval e X.env) :: starEach es X.env := by rfl) (hpl : (backTo pos (starEach es X.env)).any (·.1) = false := by rfl) :
    DE C WF X (.Call (.Name x p) (e :: es) [] pos) (mMake cn mf ms) := by
  obtain ⟨fd, ps, F, hb, hk⟩ := F.ex
  rw [hK] at F
  exact e_make (C := C) ha hlen (pe_make M0 (by rw [hK]; exact F) hr hg hm hb .nil passN aw hdb he hpl)
theorem x_makeL {i : Nat} (F : Pr X.prog X.w X.K X.mg X.base C.adr key k (n + 1) mf) (hK : X.K = C.K) (hr : Room (k + 1) X.A) (M0 : Mk X.K (C.adr cn) (C.adr key)) (hN : X.N[i]? = some x) (hv : Vis X.env.scope x) (ha : DA C WF X (e :: es) ms) (hlen : ∀ env P ds P', ms env P = .ok ds P' → ds.length = n)
    (hdb : (x == ("__debug__" : Str)) = false := by decide) (hcd : (x == ("__classdict__" : Str)) = false := by decide) (he : starEach (e :: es) X.env = (false, eval e X.env) :: starEach es X.env := by rfl) (hpl : (backTo pos (starEach es X.env)).any (·.1) = false := by rfl) :
    DE C WF X (.Call (.Name x p) (e :: es) [] pos) (mMakeL i cn mf ms) := by
  obtain ⟨fd, ps, F, hb, hk⟩ := F.ex
  rw [hK] at F
  exact e_makeL (C := C) M0 (by rw [hK]; exact F) hr hb hN hv ha hlen hdb hcd he hpl
theorem x_cmeth {mc : Value} {pa : Addr} {pl : Sem Bool} (F : Pr X.prog X.w X.K X.mg X.base C.adr key k (n + 1) mf) (hK : X.K = C.K) (hr : Room k X.A) (hm : X.mg x = some (.ref (C.adr cn))) (rd : CRead X.K (C.adr cn) mc) (cm : CMet X.K (C.adr cn) mc nm pa (C.adr key)) (ha : DA C WF X (e :: es) ms) (hlen : ∀ env P ds P', ms env P = .ok ds P' → ds.length = n)
    (hg : Gl X x := by rfl) (hd : (x == ("__debug__" : Str)) = false := by decide) (hst : starEach (e :: es) X.env = (false, eval e X.env) :: starEach es X.env := by rfl) (hpl : (backTo pos (starEach es X.env)).any (·.1) = false := by rfl)
    (ht : eval (.Call (.Attribute (.Name x p) nm apos) (e :: es) [] pos) X.env = (do
      let ov ← eval (.Name x p) X.env
      standAt apos.atName
      let (f, first) ← holding [ov] (getMethod ov nm pl)
      callWith pos f first (backTo pos (starEach (e :: es) X.env)) (backToKw pos (keywordEach [] X.env))) := by rfl) :
    DE C WF X (.Call (.Attribute (.Name x p) nm apos) (e :: es) [] pos) (mCmeth cn mf ms) := by
  obtain ⟨fd, ps, F, hb, hk⟩ := F.ex
  rw [hK] at F
  exact e_cmeth (pl := pl) (C := C) hm rd cm (by rw [hK]; exact F) hb hr ha hlen hg hd hst hpl ht
theorem x_makeK {ky : Str} {kp : Pos} (F : PrK ky X.prog X.w X.K X.mg X.base C.adr key k 2 mf) (hK : X.K = C.K) (hr : Room (k + 1) X.A) (M0 : Mk X.K (C.adr cn) (C.adr key)) (hm : X.mg x = some (.ref (C.adr cn)))
    (he : DE C WF X e m) (hg : Gl X x := by rfl)
    (hall : (backToKw pos (keywordEach [⟨some ky, e, kp⟩] X.env)).all (·.1.isSome) = true := by rfl) (hks : (backToKw pos (keywordEach [⟨some ky, e, kp⟩] X.env)).filterMap (·.1) = [ky] := by rfl) (hdb : (x == ("__debug__" : Str)) = false := by decide)
    (hpl : ((backTo pos (starEach [] X.env)).any (·.1) || (backToKw pos (keywordEach [⟨some ky, e, kp⟩] X.env)).any (·.1.isNone)) = false := by rfl) :
    DE C WF X (.Call (.Name x p) [] [⟨some ky, e, kp⟩] pos) (mMake cn mf (mCons m mNil)) := by
  obtain ⟨fd, ps, F, hb, hk, kb⟩ := F.ex
  rw [hK] at F
  exact e_makeK (C := C) M0 (by rw [hK]; exact F) hr hm kb he hg hall hks hdb hpl
theorem x_eq (F : Pr X.prog X.w X.K X.mg X.base C.adr key k 2 mf) (hK : X.K = C.K) (hr : Room k X.A) (hs : PySem.W.findIn X.K (.ref (C.adr cn)) "__eq__" = some (some (.ref (C.adr key)))) (hf : PySem.W.isFn X.K (.ref (C.adr key)) = true) : CmpOk C X .Eq (eqOwn cn mf) := by
  obtain ⟨fd, ps, F, hb, hk⟩ := F.ex
  rw [hK] at F
  exact c_eqOwn (C := C) (by rw [hK]; exact F) hr hb hs hf
end
end PD

set_option Elab.async false
set_option linter.all false
set_option maxRecDepth 100000
/-! PD17: isinstance, by a table. -/
namespace PD
open PySem PySem.Spec PyProof.Rows L2 RZ ClX
def tyS : D → Option String
  | .non => some "NoneType"
  | .bl _ => some "bool"
  | .int _ => some "int"
  | .str _ => some "str"
  | .tup _ => some "tuple"
  | .lst _ => some "list"
  | .scr _ => some "list"
  | .dic _ => some "dict"
  | _ => none
def asked (n : String) : Bool := ["int", "bool", "str", "tuple", "list", "dict"].contains n
def subS (t n : String) : Bool := t == n || (t == "bool" && n == "int")
/-- what the text's class must be for isinstance -/
structure IsiC (K : PySem.W.Frag) (C : Addr) : Prop where
  tc : TyC K C
  self : PySem.W.kitOne K (.ref C) (.ref C) = some true
  ty : ∀ n, asked n = true → PySem.W.kitOne K (.ref C) (.type n) = some false
  no : ∀ t, t ∈ ["NoneType", "bool", "int", "str", "tuple", "list", "dict"] → PySem.W.kitOne K (.type t) (.ref C) = some false
theorem sub_tab : ∀ t ∈ ["NoneType", "bool", "int", "str", "tuple", "list", "dict"], ∀ n ∈ ["int", "bool", "str", "tuple", "list", "dict"], kitB t n = some (subS t n) := by decide +kernel
/-- one class of the text -/
def isiQ (cn : Str) : List D → Option D
  | [.obj c _, .ty n] => if c = cn && asked n then some (.bl false) else none
  | [x, .ty n] => match tyS x with
    | some t => if asked n then some (.bl (subS t n)) else none
    | none => none
  | [.obj c _, .cls d] => if c = cn ∧ d = cn then some (.bl true) else none
  | [x, .cls d] => match tyS x with
    | some _ => if d = cn then some (.bl false) else none
    | none => none
  | _ => none
theorem tyS_mem {d : D} {t : String} (h : tyS d = some t) : t ∈ ["NoneType", "bool", "int", "str", "tuple", "list", "dict"] := by
  cases d <;> first | (cases h; done) | (cases h; decide)
theorem tyS_V {adr : Str → Addr} {cs : List Str} {d : D} {t : String} (h : tyS d = some t) : tyV adr cs d = some (.type t) := by
  cases d <;> first | (cases h; done) | (cases h; rfl)
section
variable {C : Cn} {X : Cx}
theorem isi_sub {cn : Str} (k : IsiC X.K (C.adr cn)) {ds : List D} {d : D} (h : isiQ cn ds = some d) : isiO X.K C.adr [cn] ds = some d := by
  have hn : ∀ {n : String}, asked n = true → n ∈ ["int", "bool", "str", "tuple", "list", "dict"] := fun {n} h => by unfold asked at h; simpa using h
  unfold isiQ at h
  split at h
  · rename_i c fs n
    split at h
    · rename_i z
      cases h
      simp only [Bool.and_eq_true, decide_eq_true_eq] at z
      obtain ⟨rfl, z⟩ := z
      show (match tyV C.adr [c] (.obj c fs), clV C.adr (.ty n) with | some t, some u => (PySem.W.kitOne X.K t u).map D.bl | _, _ => none) = _
      have e : tyV C.adr [c] (.obj c fs) = some (.ref (C.adr c)) := by simp [tyV]
      rw [e]
      show (PySem.W.kitOne X.K (.ref (C.adr c)) (.type n)).map D.bl = _
      rw [k.ty n z]; rfl
    · cases h
  · rename_i x n _
    split at h
    · rename_i t et
      split at h
      · rename_i z
        cases h
        show (match tyV C.adr [cn] x, clV C.adr (.ty n) with | some t, some u => (PySem.W.kitOne X.K t u).map D.bl | _, _ => none) = _
        rw [tyS_V et]
        show (PySem.W.kitOne X.K (.type t) (.type n)).map D.bl = _
        rw [kit_ty (sub_tab t (tyS_mem et) n (hn z))]; rfl
      · cases h
    · cases h
  · rename_i c fs d'
    split at h
    · rename_i z
      cases h
      obtain ⟨rfl, rfl⟩ := z
      show (match tyV C.adr [d'] (.obj d' fs), clV C.adr (.cls d') with | some t, some u => (PySem.W.kitOne X.K t u).map D.bl | _, _ => none) = _
      have e : tyV C.adr [d'] (.obj d' fs) = some (.ref (C.adr d')) := by simp [tyV]
      rw [e]
      show (PySem.W.kitOne X.K (.ref (C.adr d')) (.ref (C.adr d'))).map D.bl = _
      rw [k.self]; rfl
    · cases h
  · rename_i x d' _
    split at h
    · rename_i t et
      split at h
      · rename_i z
        cases h
        subst z
        show (match tyV C.adr [d'] x, clV C.adr (.cls d') with | some t, some u => (PySem.W.kitOne X.K t u).map D.bl | _, _ => none) = _
        rw [tyS_V et]
        show (PySem.W.kitOne X.K (.type t) (.ref (C.adr d'))).map D.bl = _
        rw [k.no t (tyS_mem et)]; rfl
      · cases h
    · cases h
  · cases h
theorem x_isi {cn : Str} (k : IsiC X.K (C.adr cn)) (hK : X.K = C.K := by rfl) : CallOk C X (.builtin "isinstance") (RD C) fun ds => optM (isiQ cn ds) := by
  obtain ⟨r, h1, h2⟩ := cl_isi (C := C) (X := X) (cs := [cn]) (fun c hc => by simp at hc; rw [hc]; exact k.tc) hK
  refine ⟨r, h1, fun W Hs Ha B H σ P vs ds Q hs s p rr q => h2 W Hs Ha B H σ P vs ds Q hs s p rr ?_⟩
  obtain ⟨d, e, q9⟩ := Post.opt (o := isiQ cn ds) q
  show Post C W σ B H (RD C Hs) (optM (isiO X.K C.adr [cn] ds) P) Q
  rw [isi_sub k e]
  exact q9
end
end PD

set_option Elab.async false
set_option linter.all false
set_option maxRecDepth 100000
/-! PD18: small rules that the printed walks use. -/
namespace PD
open PySem PySem.Spec PyProof.Rows L2 RZ ClX
section
variable {C : Cn} {W : WX} {X : Cx} {x : Str} {pos p1 : Pos}
theorem u64 {k : Nat} {A : Around} (hr : Room k A) : A.units + 64 < cLine := hr.units
theorem u65 {k : Nat} {A : Around} (hr : Room k A) : A.units + 65 < cLine := by have := hr.un; omega
theorem u1 {k : Nat} {A : Around} (hr : Room k A) : A.units + 1 < cLine := by have := hr.un; omega
theorem x_gstr {z : Str} (h : ∃ t, X.mg x = some (.str z t)) (hg : Gl X x := by rfl) (hd : (x == ("__debug__" : Str)) = false := by decide) : DE C W X (.Name x pos) (mC (.str z)) := by
  obtain ⟨t, h⟩ := h
  exact e_glob (v := .str z) h ⟨t, rfl⟩ (fun _ => .str z) hg hd
theorem x_gint {i : Int} (h : ∃ t, X.mg x = some (.int i t)) (hg : Gl X x := by rfl) (hd : (x == ("__debug__" : Str)) = false := by decide) : DE C W X (.Name x pos) (mC (.int i)) := by
  obtain ⟨t, h⟩ := h
  exact e_glob (v := .int i) h ⟨t, rfl⟩ (fun _ => .int i) hg hd
theorem x_neg1 {i : Int} {k : Nat} : PE X (.UnaryOp .USub (.Constant (.int i) k p1) pos) (fun _ H Q => Q (.int (-i)) H) := ⟨fun pins s σ H Q I h => (pe_un un_neg pe_int).run pins s σ H Q I ⟨i, rfl, h⟩⟩
def mPar3 (i j l : Nat) (m1 m2 m3 : Ev → M D) : Ev → M Out := fun env => M.bind (m1 env) fun s => M.bind (m2 env) fun t => M.bind (m3 env) fun u => M.ok (.next (((env.set i (.val s)).set j (.val t)).set l (.val u)))
end
section
variable {es : List Expr} {env : Env} {pos : Pos}
theorem st_const {c : Const} {k : Nat} : starEach (.Constant c k pos :: es) env = (false, eval (.Constant c k pos) env) :: starEach es env := by rfl
theorem st_name {x : Str} : starEach (.Name x pos :: es) env = (false, eval (.Name x pos) env) :: starEach es env := by rfl
theorem st_un {o : UnaryOp} {a : Expr} : starEach (.UnaryOp o a pos :: es) env = (false, eval (.UnaryOp o a pos) env) :: starEach es env := by rfl
theorem st_bin {o : Operator} {a b : Expr} : starEach (.BinOp a o b pos :: es) env = (false, eval (.BinOp a o b pos) env) :: starEach es env := by rfl
theorem st_bool {o : BoolOp} {a : List Expr} : starEach (.BoolOp o a pos :: es) env = (false, eval (.BoolOp o a pos) env) :: starEach es env := by rfl
theorem st_cmp {o : List CmpOp} {a : Expr} {b : List Expr} : starEach (.Compare a o b pos :: es) env = (false, eval (.Compare a o b pos) env) :: starEach es env := by rfl
theorem st_call {a : Expr} {b : List Expr} {k : List Keyword} : starEach (.Call a b k pos :: es) env = (false, eval (.Call a b k pos) env) :: starEach es env := by rfl
theorem st_tup {a : List Expr} {k : Nat} : starEach (.Tuple a k pos :: es) env = (false, eval (.Tuple a k pos) env) :: starEach es env := by rfl
theorem st_list {a : List Expr} : starEach (.List a pos :: es) env = (false, eval (.List a pos) env) :: starEach es env := by rfl
theorem st_sub {a b : Expr} : starEach (.Subscript a b pos :: es) env = (false, eval (.Subscript a b pos) env) :: starEach es env := by rfl
theorem st_attr {a : Expr} {x : Str} : starEach (.Attribute a x pos :: es) env = (false, eval (.Attribute a x pos) env) :: starEach es env := by rfl
theorem st_if {a b c : Expr} : starEach (.IfExp a b c pos :: es) env = (false, eval (.IfExp a b c pos) env) :: starEach es env := by rfl
theorem st_lc {a : Expr} {b : List Comprehension} {c : Scope} : starEach (.ListComp a b c pos :: es) env = (false, eval (.ListComp a b c pos) env) :: starEach es env := by rfl
variable {tg : Option Expr} {ln : Nat}
theorem sw_const {c : Const} {k : Nat} : swapsWith (.Constant c k pos) tg ln env = pure false := by rfl
theorem sw_name {x : Str} : swapsWith (.Name x pos) tg ln env = pure false := by rfl
theorem sw_un {o : UnaryOp} {a : Expr} : swapsWith (.UnaryOp o a pos) tg ln env = pure false := by rfl
theorem sw_bin {o : Operator} {a b : Expr} : swapsWith (.BinOp a o b pos) tg ln env = pure false := by rfl
theorem sw_bool {o : BoolOp} {a : List Expr} : swapsWith (.BoolOp o a pos) tg ln env = pure false := by rfl
theorem sw_cmp {o : List CmpOp} {a : Expr} {b : List Expr} : swapsWith (.Compare a o b pos) tg ln env = pure false := by rfl
theorem sw_call {a : Expr} {b : List Expr} {k : List Keyword} : swapsWith (.Call a b k pos) tg ln env = pure false := by rfl
theorem sw_tup {a : List Expr} {k : Nat} : swapsWith (.Tuple a k pos) tg ln env = pure false := by rfl
theorem sw_list {a : List Expr} : swapsWith (.List a pos) tg ln env = pure false := by rfl
theorem sw_sub {a b : Expr} : swapsWith (.Subscript a b pos) tg ln env = pure false := by rfl
theorem sw_attr {a : Expr} {x : Str} : swapsWith (.Attribute a x pos) tg ln env = pure false := by rfl
theorem sw_if {a b c : Expr} : swapsWith (.IfExp a b c pos) tg ln env = pure false := by rfl
end
end PD

set_option Elab.async false
set_option linter.all false
set_option maxRecDepth 100000
/-! PD19: from the facts of the head. -/
namespace PD
open PySem PySem.Spec PyProof.Rows L2 RZ ClX
def tab (l : List (Str × Addr)) (x : Str) : Addr := (l.lookup x).getD 0
section
variable {P : Program} {w : World} {K : PySem.W.Frag} {mg : Str → Option Value} {adr : Str → Addr} {key nm qual x : Str} {st : Stmt} {N : List Str} {k : Nat} {mb : Ev → M Out} {mf : List D → M D}
theorem law_of (D0 : DefAt K adr key nm qual st) (S : FnScope N [x] (defScope st)) {nN kk : Nat} (hf : mf = runD nN (mNox mb)) (hN : N.length = nN) (hk : kk = k + 1)
    (hb : ∀ (kV doc pm : Value) (an : Option Addr) (cdv ct u : Value), bindArgs (PySem.W.fnOf nm qual (defArgs st) (defBody st) (defScope st) .none kV doc pm an cdv ct) ⟨[u], []⟩ = pure [(x, u)])
    (hbody : ∀ (base : Heap) (pu : Option Addr) (f : Addr) (cdv : Value) (A : Around) (outer : List Env) (s : Shared) (H : Hp) (E : XK), (A.deeper (envOfC qual (defScope st) s.heap.objs.size f cdv)).guards = some [] → Room k (A.deeper (envOfC qual (defScope st) s.heap.objs.size f cdv)) →
      DSs ⟨K, adr, pu⟩ WF (cxOf (L2N.CX P w) P w K mg base N qual (defScope st) f cdv A outer s H E).nox (defBody st) mb) :
    ∃ fd : FuncData, (∀ (s : Shared) (u : Value), BindsTo s fd ⟨[u], []⟩ [(x, u)]) ∧ ∀ base : Heap, FnG P w K mg base (L2N.CX P w) kk (adr key) fd [x] (spD K adr 1 mf) := by
  obtain ⟨fd, F⟩ := D0.ex
  subst hN hk
  rw [hf]
  refine ⟨fd, fun s u => ?_, fun base => fn_G F S fun pu cdv A outer s H E gd hr => ss_nox (hbody base pu _ cdv A outer s H E gd hr)⟩
  obtain ⟨oc, od, kV, doc, pm, an, cdv, ct, osl, rfl, lk, hcd⟩ := F.ex
  exact .of_eq (hb kV doc pm an cdv ct u)
theorem def_mk {f : Addr} {oc : Value} {od an : Option Addr} {osl : Array (Option Value)} {kV doc pm cdv ct : Value} (e : adr key = f) (l : K.lookup f = some ⟨oc, od, .func (PySem.W.fnOf nm qual (defArgs st) (defBody st) (defScope st) .none kV doc pm an cdv ct), osl⟩)
    (c : PySem.W.codeIn K cdv qual = true) (kp : PySem.W.keepIn K (.ref f) = true) : DefAt K adr key nm qual st := ⟨_, by rw [e]; exact fun_mk l c kp⟩
theorem isi_mk {C : Addr} (tc : TyC K C) (cc : PySem.W.isClsIn K C = true) (tt : PySem.W.typeIn K (.ref C) = some (.type "type"))
    (a1 : PySem.W.subIn K (.ref C) (.type "int") = some false) (a2 : PySem.W.subIn K (.ref C) (.type "bool") = some false) (a3 : PySem.W.subIn K (.ref C) (.type "str") = some false) (a4 : PySem.W.subIn K (.ref C) (.type "tuple") = some false) (a5 : PySem.W.subIn K (.ref C) (.type "list") = some false) (a6 : PySem.W.subIn K (.ref C) (.type "dict") = some false)
    (b0 : PySem.W.subIn K (.type "NoneType") (.ref C) = some false) (b1 : PySem.W.subIn K (.type "bool") (.ref C) = some false) (b2 : PySem.W.subIn K (.type "int") (.ref C) = some false) (b3 : PySem.W.subIn K (.type "str") (.ref C) = some false) (b4 : PySem.W.subIn K (.type "tuple") (.ref C) = some false) (b5 : PySem.W.subIn K (.type "list") (.ref C) = some false) (b6 : PySem.W.subIn K (.type "dict") (.ref C) = some false) : IsiC K C := by
  have ne1 : ∀ n : String, ((Value.ref C == Value.type n) = true) = False := fun n => by
    apply propext
    refine Iff.intro (fun h => ?_) False.elim
    have h2 := eq_of_beq h
    cases h2
  have ne2 : ∀ n : String, ((Value.type n == Value.ref C) = true) = False := fun n => by
    apply propext
    refine Iff.intro (fun h => ?_) False.elim
    have h2 := eq_of_beq h
    cases h2
  have km : ∀ n : String, asked n = true → PySem.W.kitMeta n = true := fun n h => by
    unfold asked at h
    have h : n ∈ ["int", "bool", "str", "tuple", "list", "dict"] := by simpa using h
    have t : ∀ m ∈ ["int", "bool", "str", "tuple", "list", "dict"], PySem.W.kitMeta m = true := by decide +kernel
    exact t n h
  refine ⟨tc, ?_, fun n hn => ?_, fun t ht => ?_⟩
  · unfold PySem.W.kitOne
    rw [if_pos (beq_self_eq_true _)]
  · unfold PySem.W.kitOne
    rw [if_neg (by rw [ne1]; exact id)]
    show (if PySem.W.kitMeta n = true then PySem.W.subIn K (.ref C) (.type n) else none) = _
    rw [if_pos (km n hn)]
    have h : n ∈ ["int", "bool", "str", "tuple", "list", "dict"] := by unfold asked at hn; simpa using hn
    simp only [List.mem_cons, List.not_mem_nil, or_false] at h
    rcases h with rfl | rfl | rfl | rfl | rfl | rfl <;> assumption
  · unfold PySem.W.kitOne
    rw [if_neg (by rw [ne2]; exact id)]
    have h0 : ((PySem.W.clsIn K C).isSome && PySem.W.typeIn K (.ref C) == some (.type "type")) = true := by
      have : (PySem.W.clsIn K C).isSome = true := cc
      rw [this, tt]; rfl
    show (if ((PySem.W.clsIn K C).isSome && PySem.W.typeIn K (.ref C) == some (.type "type")) = true then PySem.W.subIn K (.type t) (.ref C) else none) = _
    rw [if_pos h0]
    simp only [List.mem_cons, List.not_mem_nil, or_false] at ht
    rcases ht with rfl | rfl | rfl | rfl | rfl | rfl | rfl <;> assumption
end
end PD

set_option Elab.async false
set_option linter.all false
set_option maxRecDepth 100000
/-! PD20: str of an own object, != of own objects, a class's method by name. -/
namespace PD
open PySem PySem.Spec PyProof.Rows L2 RZ ClX PySem.Builtin
section
variable {X : Cx} {C : Cn}
/-- a def is run, some calls of the machine further in -/
theorem run_at {A : Around} {k : Nat} {f : Addr} {fd : FuncData} {ps : List Str} {sp : Sp} {pins : List (Addr × Obj)} {σ : L2.St} {H : Hp} {s : Shared} {Q : VK} {us : List Value} {vs : List V} (F : FnOk X.prog X.w X.K X.mg X.base (L2N.CX X.prog X.w) k f fd ps sp)
    (hr : Room k A) (fr : A.frames = X.A.frames) (hb : Binds X.K fd ps []) (I : Inv X pins σ H s) (r : Vals vs us) (h : sp vs H Q E0) :
    wpAny (model X.prog X.w) A (call (.ref f) us) (fun w s' => ∃ z H', Inv X pins σ H' s' ∧ RelV z w ∧ Q z H') X.xe s := by
  have e0 : Env0 X.prog X.w X.K X.mg X.base A X.stack s H := by
    have e := I.env0
    exact ⟨by rw [fr]; exact e.frames, e.mod, e.bs, e.bsz, e.funs, e.frf, e.hok, e.bare⟩
  have hl : us.length = ps.length := by rw [← r.length]; exact F.len _ _ _ _ h
  have bnd := hb s us I.kIn (by simpa using hl)
  simp only [List.append_nil] at bnd
  refine wpAny_call (codeAny_mono (F.run A X.stack s H ⟨us, []⟩ us vs Q E0 hr e0 bnd r h) fun res s' ends => ?_)
  cases res with
  | error e => exact passN pins σ H s e s' I ends
  | ok fl =>
    cases fl with
    | ret w =>
      obtain ⟨z, H', I', rz, q⟩ := I.after ends
      exact ⟨z, H', I', rz, q⟩
    | next => exact False.elim ends
    | brk => exact False.elim ends
    | cont => exact False.elim ends
/-- what str asks of an own object -/
def rStrOwn (C : Cn) (cn : Str) (sp : Sp) : List V → Hp → VK → Prop := fun xs H Q => ∃ a dx fs, xs = [.ref a] ∧ H a = some (.ins (C.adr cn) dx fs) ∧ sp [.ref a] H (fun v H2 => (∃ z, v = .str z) ∧ Q v H2) E0
theorem call_strOwn {k : Nat} {g : Addr} {fd : FuncData} {ps : List Str} {sp : Sp} {cn : Str} (F : FnOk X.prog X.w X.K X.mg X.base (L2N.CX X.prog X.w) k g fd ps sp) (hr : Room (k + 2) X.A) (hb : Binds X.K fd ps [])
    (hs : PySem.W.findIn X.K (.ref (C.adr cn)) "__str__" = some (some (.ref g))) (hf : PySem.W.isFn X.K (.ref g) = true) : CallR X (.type "str") (rStrOwn C cn sp) := by
  intro pins s σ H xs us Q I r h
  obtain ⟨a, dx, fs, rfl, ha, q⟩ := h
  cases r with
  | cons r1 t =>
    cases t
    cases r1
    obtain ⟨mA, J, _⟩ := ins_get I.hok ha
    obtain ⟨od, J, _⟩ := J.look
    have hr2 : Room k X.A.in1.in1 := (hr.in1).in1
    refine PySem.W.kso_call (by have := hr2.un; omega) I.kIn J hs hf ?_
    refine wpAny_mono (run_at (us := [.ref a]) (vs := [.ref a]) F hr2 rfl hb I (.cons rfl .nil) q) (fun w s' z => ?_) fun _ _ x => x
    obtain ⟨z', H', I', rz, ⟨y, rfl⟩, qz⟩ := z
    obtain ⟨t, rfl⟩ := rz
    exact ⟨.str y, H', I', ⟨t, rfl⟩, qz⟩
/-- != by the class's own ==  -/
theorem ne_slot {prog : Program} {w : World} {A : Around} {E : Value → Shared → Prop} {s : Shared} {K : PySem.W.Frag} {x Cc f L : Addr} {b tb : Value} {h₀ : Heap} {m : Str → Option Value} {ox : Obj} {od : Option Obj} {Q : Value → Shared → Prop}
    (hu : A.in1.units < cLine) (X₀ : K.In s.heap) (I : PySem.W.InstAt s.heap x ox Cc od) (hob : PySem.W.mroIn K Cc (.type "object") = some true)
    (hs : PySem.W.findIn K (.ref Cc) "__eq__" = some (some (.ref f))) (hf : PySem.W.isFn K (.ref f) = true)
    (h : wpAny (model prog w) A.in1 (call (.ref f) [.ref x, b]) (fun v s' => ∃ c, v = .bool c ∧ Q (.bool (!c)) s') E s) : wpAny (model prog w) A (call (.builtin "object.__ne__") [.ref x, b]) Q E s := by
  refine wpAny_call (codeAny_call_builtin PySem.F.slot_object_ne.plain PySem.F.entry_object_ne (PySem.W.check_slot (i := "object.__ne__") (owner := "object") (n := "__ne__") (by decide +kernel) (by decide +kernel) (I.type.andThen (PySem.W.looks_mroIn X₀ hob)) (PySem.F.args_object_ne_2 _ _) ?_))
  unfold Builtin.«object.__ne__»
  refine wpAny_bind (m := slotArgs "__ne__" 1 _) (wpAny_pure ?_)
  refine wpAny_bind (m := cRoomFor _ _) (wpAny_cRoomFor hu ?_)
  refine wpAny_bind (m := callSpecialIfBound? (.ref x) (Str.ofString "__eq__") _) (PySem.W.ifBound_K X₀ I hs hf (wpAny_mono h (fun r s' hq => ?_) fun _ _ y => y))
  obtain ⟨c, rfl, hq⟩ := hq
  refine wpAny_bind (m := truthy (.bool c)) (wpAny_truthy_bool ?_)
  exact wpAny_pure hq
theorem if_slot {M : Model} {A : Around} {E : Value → Shared → Prop} {s : Shared} {K : PySem.W.Frag} {x Cc : Addr} {ox : Obj} {od : Option Obj} {name : Str} {id : String} {args : List Value} {Q : Option Value → Shared → Prop} (X0 : K.In s.heap) (I : PySem.W.InstAt s.heap x ox Cc od)
    (hs : PySem.W.findIn K (.ref Cc) name = some (some (.builtin id))) (hb : ∀ self, bindSpecial (.builtin id) self = pure (.builtin id, [self]))
    (h : wpAny M A (call (.builtin id) (.ref x :: args)) (fun v => Q (some v)) E s) : wpAny M A (callSpecialIfBound? (.ref x) name args) Q E s := by
  simp only [callSpecialIfBound?, bindSpecialIfBound?]
  refine wpAny_holding (wpAny_bind (wpAny_bind (wpAny_bind (I.type.here ((PySem.W.looks_findIn X0 hs).here ?_)))))
  refine wpAny_bind (wpAny_askSetting (wpAny_ite ?_))
  have last : wpAny M A (call (.builtin id) ([.ref x] ++ args) >>= fun v => pure (some v)) Q E s := wpAny_bind (wpAny_mono h (fun v s' h' => wpAny_pure h') fun _ _ h' => h')
  split
  · exact wpAny_bind ((PySem.W.Looks.of_pure (hb _)).here (wpAny_pure (by exact last)))
  · exact wpAny_tryCatch (wpAny_bind ((PySem.W.Looks.of_pure (hb _)).here (wpAny_pure (by exact last))))
theorem rc_ne {prog : Program} {w : World} {A : Around} {E : Value → Shared → Prop} {s : Shared} {K : PySem.W.Frag} {x y Cc f : Addr} {ox oy : Obj} {od od' : Option Obj} {Q : Value → Shared → Prop}
    (hu : A.in1.units < cLine) (hu0 : A.units < cLine) (X0 : K.In s.heap) (I : PySem.W.InstAt s.heap x ox Cc od) (J : PySem.W.InstAt s.heap y oy Cc od') (hob : PySem.W.mroIn K Cc (.type "object") = some true)
    (hn : PySem.W.findIn K (.ref Cc) "__ne__" = some (some (.builtin "object.__ne__"))) (hs : PySem.W.findIn K (.ref Cc) "__eq__" = some (some (.ref f))) (hf : PySem.W.isFn K (.ref f) = true)
    (h : wpAny (model prog w) A.in1 (call (.ref f) [.ref x, .ref y]) (fun v s' => ∃ c, v = .bool c ∧ Q (.bool (!c)) s') E s) : wpAny (model prog w) A (richCompare .NotEq (.ref x) (.ref y)) Q E s := by
  have one : wpAny (model prog w) A (tryCompare (.ref x) "__ne__" (.ref y)) (fun r s' => ∃ v, r = some v ∧ Q v s') E s := by
    unfold tryCompare
    refine wpAny_bind (if_slot X0 I hn (fun self => PySem.F.slot_object_ne.bind self) (ne_slot (tb := .ref Cc) (L := x) (h₀ := s.heap) (m := fun _ => none) hu X0 I hob hs hf (wpAny_mono h (fun v s' hv => ?_) fun _ _ e => e)))
    obtain ⟨c, rfl, hq⟩ := hv
    exact ⟨c, rfl, wpAny_pure ⟨_, rfl, hq⟩⟩
  unfold richCompare
  simp only [oneThing_ref]
  refine wpAny_holding (wpAny_bind (wpAny_cRoomFor hu0 ?_))
  refine wpAny_bind (I.type.here (wpAny_bind (J.type.here ?_)))
  rw [show (Value.ref Cc != Value.ref Cc) = false from by simp]
  simp only [Bool.false_eq_true, if_false]
  refine wpAny_bind (wpAny_pure ?_)
  simp only [Bool.false_eq_true, if_false]
  refine wpAny_bind (wpAny_mono one (fun r s' z => ?_) fun _ _ e => e)
  obtain ⟨v, rfl, hq⟩ := z
  exact wpAny_pure hq
/-- x != y of one own class -/
def rNotOwn (C : Cn) (cn : Str) (sp : Sp) : R2 := fun x y H Q => ∃ a b dx dy fs gs, x = .ref a ∧ y = .ref b ∧ H a = some (.ins (C.adr cn) dx fs) ∧ H b = some (.ins (C.adr cn) dy gs) ∧ sp [.ref a, .ref b] H (fun v H2 => ∃ c, v = .bl c ∧ Q (.bl (!c)) H2) E0
theorem op_ownN {k : Nat} {g : Addr} {fd : FuncData} {ps : List Str} {sp : Sp} {cn : Str} (F : FnOk X.prog X.w X.K X.mg X.base (L2N.CX X.prog X.w) k g fd ps sp) (hr : Room (k + 1) X.A) (hb : Binds X.K fd ps []) (hob : PySem.W.mroIn X.K (C.adr cn) (.type "object") = some true)
    (hn : PySem.W.findIn X.K (.ref (C.adr cn)) "__ne__" = some (some (.builtin "object.__ne__"))) (hs : PySem.W.findIn X.K (.ref (C.adr cn)) "__eq__" = some (some (.ref g))) (hf : PySem.W.isFn X.K (.ref g) = true) : OpR X (compareOp .NotEq) (rNotOwn C cn sp) := by
  intro pins s σ H x y v u Q I rx ry h
  obtain ⟨a, b, dx, dy, fs, gs, rfl, rfl, ha, hb', q⟩ := h
  cases rx
  cases ry
  obtain ⟨mA, J, _⟩ := ins_get I.hok ha
  obtain ⟨mB, J', _⟩ := ins_get I.hok hb'
  obtain ⟨od, J, _⟩ := J.look
  obtain ⟨od', J', _⟩ := J'.look
  have hr1 : Room k X.A.in1 := hr.in1
  show wpAny (model X.prog X.w) X.A (richCompare .NotEq (.ref a) (.ref b)) _ _ s
  refine rc_ne (by have := hr1.un; omega) hr.units0 I.kIn J J' hob hn hs hf ?_
  refine wpAny_mono (run_at (us := [.ref a, .ref b]) (vs := [.ref a, .ref b]) F hr1 rfl hb I (.cons rfl (.cons rfl .nil)) q) (fun w s' z => ?_) fun _ _ x => x
  obtain ⟨z', H', I', rz, c, rfl, qz⟩ := z
  cases rz
  exact ⟨c, rfl, .bl (!c), H', I', rfl, qz⟩
end
end PD

set_option Elab.async false
set_option linter.all false
set_option maxRecDepth 100000
/-! PD21: rules for str of an own object, != of own objects, methods called by name. -/
namespace PD
open PySem PySem.Spec PyProof.Rows L2 RZ ClX
section
variable {X : Cx} {C : Cn} {W : WX} {P : Pu}
def neOwn (cn : Str) (mf : List D → M D) (x y : D) : M Bool := M.bind (eqOwn cn mf x y) fun b => M.ok (!b)
theorem c_neOwn {k : Nat} {g : Addr} {fd : FuncData} {ps : List Str} {mf : List D → M D} {cn : Str} (F : FnOk X.prog X.w X.K X.mg X.base (L2N.CX X.prog X.w) k g fd ps (spD C.K C.adr 2 mf)) (hr : Room (k + 1) X.A) (hb : Binds X.K fd ps []) (hob : PySem.W.mroIn X.K (C.adr cn) (.type "object") = some true)
    (hn : PySem.W.findIn X.K (.ref (C.adr cn)) "__ne__" = some (some (.builtin "object.__ne__"))) (hs : PySem.W.findIn X.K (.ref (C.adr cn)) "__eq__" = some (some (.ref g))) (hf : PySem.W.isFn X.K (.ref g) = true) : CmpOk C X .NotEq (neOwn cn mf) := ⟨_, op_ownN F hr hb hob hn hs hf, fun W Ha Hb B H σ P x y a b Q s p ra rb q => by
  obtain ⟨k0, P0, e0, q7⟩ : ∃ k P', eqOwn cn mf a b P = .ok k P' ∧ Post C W σ B H (RB Ha) (.ok (!k) P') (fun k H' => Q (.bl k) H') := by
    cases e : eqOwn cn mf a b P with
    | stuck => unfold neOwn M.bind at q; rw [e] at q; exact q.elim
    | exc x P' =>
      exfalso
      unfold eqOwn M.bind at e
      cases e1 : optM (objO cn a) P with
      | stuck => rw [e1] at e; cases e
      | exc x P1 => cases h : objO cn a <;> rw [h] at e1 <;> cases e1
      | ok a' P1 =>
        rw [e1] at e
        cases e2 : optM (objO cn b) P1 with
        | stuck => simp only [e2] at e; cases e
        | exc x P2 => cases h : objO cn b <;> rw [h] at e2 <;> cases e2
        | ok b' P2 =>
          simp only [e2] at e
          unfold noexc at e
          split at e <;> cases e
    | ok k P' => exact ⟨k, P', rfl, by unfold neOwn M.bind at q; rw [e] at q; exact q⟩
  unfold eqOwn at e0
  obtain ⟨a', P1, e1, e0⟩ := bind_both e0
  obtain ⟨b', P2, e2, e0⟩ := bind_both e0
  have o1 : objO cn a = some a' ∧ P1 = P := by
    cases h : objO cn a with
    | none => rw [h] at e1; cases e1
    | some z => rw [h] at e1; cases e1; exact ⟨rfl, rfl⟩
  obtain ⟨o1, rfl⟩ := o1
  have o2 : objO cn b = some b' ∧ P2 = P1 := by
    cases h : objO cn b with
    | none => rw [h] at e2; cases e2
    | some z => rw [h] at e2; cases e2; exact ⟨rfl, rfl⟩
  obtain ⟨o2, rfl⟩ := o2
  obtain ⟨fs, rfl, rfl⟩ := objO_of o1
  obtain ⟨gs, rfl, rfl⟩ := objO_of o2
  have e3 : M.bind (mf [.obj cn fs, .obj cn gs]) (fun d => optM (blO d)) P2 = .ok k0 P0 := by
    unfold noexc at e0
    split at e0
    · cases e0
    · rename_i a9 P9 h9
      cases e0; exact h9
    · cases e0
  obtain ⟨d, P3, e4, e5⟩ := bind_both e3
  rcases ra with ra | ⟨_, _, _, w, _⟩
  · rcases rb with rb | ⟨_, _, _, w, _⟩
    · cases ra with
      | obj sa fa => cases rb with
        | obj sb fb =>
          refine ⟨_, _, _, _, _, _, rfl, rfl, s _ _ sa, s _ _ sb, rfl, C.pu, B, _, P2, .cons (.obj sa fa) (.cons (.obj sb fb) .nil), s, p, ?_⟩
          rw [e4]
          cases d with
          | bl k =>
            have e5 : Res.ok k P3 = .ok k0 P0 := e5
            cases e5
            exact fun v B' H' g1 p1 r1 => by cases r1; exact ⟨k0, rfl, q7 _ B' H' g1 p1 rfl⟩
          | _ => cases e5
    · cases w
  · cases w⟩
theorem x_ne {cn key : Str} {k : Nat} {mf : List D → M D} (F : Pr X.prog X.w X.K X.mg X.base C.adr key k 2 mf) (hK : X.K = C.K) (hr : Room (k + 1) X.A) (hn : PySem.W.mroIn X.K (C.adr cn) (.type "object") = some true ∧ PySem.W.findIn X.K (.ref (C.adr cn)) "__ne__" = some (some (.builtin "object.__ne__")))
    (hs : PySem.W.findIn X.K (.ref (C.adr cn)) "__eq__" = some (some (.ref (C.adr key)))) (hf : PySem.W.isFn X.K (.ref (C.adr key)) = true) : CmpOk C X .NotEq (neOwn cn mf) := by
  obtain ⟨fd, ps, F, hb, hk⟩ := F.ex
  rw [hK] at F
  exact c_neOwn (C := C) (by rw [hK]; exact F) hr hb hn.1 hn.2 hs hf
/-- str of an own object -/
def strD : D → M D
  | .str z => M.ok (.str z)
  | _ => M.stuck
def strOwn (cn : Str) (mf : List D → M D) : List D → M D
  | [d] => M.bind (optM (objO cn d)) fun d => noexc (M.bind (mf [d]) strD)
  | _ => M.stuck
theorem cl_strOwn {k : Nat} {g : Addr} {fd : FuncData} {ps : List Str} {mf : List D → M D} {cn : Str} (F : FnOk X.prog X.w X.K X.mg X.base (L2N.CX X.prog X.w) k g fd ps (spD C.K C.adr 1 mf)) (hr : Room (k + 2) X.A) (hb : Binds X.K fd ps [])
    (hs : PySem.W.findIn X.K (.ref (C.adr cn)) "__str__" = some (some (.ref g))) (hf : PySem.W.isFn X.K (.ref g) = true) : CallOk C X (.type "str") (RD C) (strOwn cn mf) := ⟨_, call_strOwn F hr hb hs hf, fun W Hs Ha B H σ P vs ds Q hss s p rr q => by
  match ds, rr, q with
  | [], _, q => exact q.elim
  | _ :: _ :: _, _, q => exact q.elim
  | [d], rr, q =>
    obtain ⟨v, rfl, r⟩ := rr.one
    obtain ⟨d', e1, q⟩ := Post.opt' q
    obtain ⟨fs, rfl, rfl⟩ := objO_of e1
    obtain ⟨z, P', e3, q3⟩ := noexc_post q
    obtain ⟨d, P1, e4, e5⟩ := bind_both e3
    rcases r with r | ⟨_, _, _, w, _⟩
    · cases r with
      | obj sa fa =>
        refine ⟨_, _, _, rfl, s _ _ sa, rfl, C.pu, B, _, P, .cons (.obj sa fa) .nil, s, p, ?_⟩
        rw [e4]
        cases d with
        | str y =>
          have e5 : Res.ok (D.str y) P1 = .ok z P' := e5
          cases e5
          exact fun v B' H' g1 p1 r1 => by
            have r2 := r1
            cases r1
            exact ⟨⟨_, rfl⟩, q3 _ B' H' g1 p1 r2⟩
        | _ => cases e5
    · cases w⟩
theorem x_strOwn {cn key : Str} {k : Nat} {mf : List D → M D} (F : Pr X.prog X.w X.K X.mg X.base C.adr key k 1 mf) (hK : X.K = C.K) (hr : Room (k + 2) X.A)
    (hs : PySem.W.findIn X.K (.ref (C.adr cn)) "__str__" = some (some (.ref (C.adr key))) ∧ PySem.W.isFn X.K (.ref (C.adr key)) = true) : CallOk C X (.type "str") (RD C) (strOwn cn mf) := by
  obtain ⟨fd, ps, F, hb, hk⟩ := F.ex
  rw [hK] at F
  exact cl_strOwn (C := C) (by rw [hK]; exact F) hr hb hs.1 hs.2
end
end PD

set_option Elab.async false
set_option linter.all false
set_option maxRecDepth 100000
/-! PD22: methods and classmethods called with their parameters by name. -/
namespace PD
open PySem PySem.Spec PyProof.Rows L2 RZ ClX
section
variable {C : Cn} {W : WX} {X : Cx} {e o : Expr} {kws : List Keyword} {p pos apos kpos : Pos} {m ma : Ev → M D} {ms : Ev → M (List D)} {x nm : Str}
/-- the values of the keywords -/
def wK (X : Cx) (kws : List Keyword) : TA := fun σ H Q => ∀ pos pins s, Inv X pins σ H s → wpAny (model X.prog X.w) X.A (evalAll ((backToKw pos (keywordEach kws X.env)).map (·.2))) (AP X pins σ Q) X.xe s
theorem kw : PK X kws (wK X kws) := ⟨fun pos pins s _ _ _ I h => h pos pins s I⟩
theorem wK_of {t : TA} {σ : L2.St} {H : Hp} {Q : List V → Hp → Prop} (h : PK X kws t) (r : t σ H Q) : wK X kws σ H Q := fun pos pins s I => h.run pos pins s _ _ _ I r
abbrev DK (C : Cn) (W : WX) (X : Cx) (kws : List Keyword) (m : Ev → M (List D)) : Prop := Do C W (wK X kws) (RDs C) m
theorem k_nil : DK C W X [] mNil := fun B0 H0 B H σ env P fr Q q => wK_of pk_nil (q.val' fr.g.sub fr.pur .nil)
theorem k_cons {n : Option Str} (h : DE C W X e m) (t : DK C W X kws ms) : DK C W X (⟨n, e, kpos⟩ :: kws) (mCons m ms) := fun B0 H0 B H σ env P fr Q q =>
  wK_of (pk_cons pw kw) (h B0 H0 B H σ env P fr _ (Post.bind q fun x P1 _ v B1 H1 g1 p1 r1 q =>
    t B0 H0 B1 H1 σ env P1 (fr.grow g1 p1) _ (Post.bind q fun xs P2 _ vs B2 H2 g2 p2 r2 q => q.val' g2.sub p2 (.cons (keepsD (Hs := B) r1 g2) r2))))
/-- the values in the order of the parameters -/
def pick {α : Type} (is : List Nat) (xs : List α) : List α := is.filterMap (xs[·]?)
theorem Reps.pickB {B : Hp} {vs : List V} {ds : List D} (r : Reps C B vs ds) : ∀ is : List Nat, Reps C B (PD.pick is vs) (PD.pick is ds)
  | [] => .nil
  | i :: is => by
    unfold PD.pick
    cases h : ds[i]? with
    | none =>
      have : vs[i]? = none := by
        rw [List.getElem?_eq_none_iff] at h ⊢
        rw [r.length]; exact h
      rw [List.filterMap_cons_none this, List.filterMap_cons_none h]
      exact Reps.pickB r is
    | some d =>
      obtain ⟨v, hv, rv⟩ := r.get h
      rw [List.filterMap_cons_some hv, List.filterMap_cons_some h]
      exact .cons rv (Reps.pickB r is)
theorem vals_pickB {vs : List V} {us : List Value} (r : Vals vs us) : ∀ is : List Nat, Vals (pick is vs) (pick is us)
  | [] => .nil
  | i :: is => by
    unfold pick
    cases h : vs[i]? with
    | none =>
      have : us[i]? = none := by
        rw [List.getElem?_eq_none_iff] at h ⊢
        rw [← r.length]; exact h
      rw [List.filterMap_cons_none this, List.filterMap_cons_none h]
      exact vals_pickB r is
    | some d =>
      obtain ⟨v, hv, rv⟩ := r.get h
      rw [List.filterMap_cons_some hv, List.filterMap_cons_some h]
      exact .cons rv (vals_pickB r is)
theorem kbn_pick {K : PySem.W.Frag} {nm qual : Str} {st : Stmt} {f : Addr} {fd : FuncData} {ps ks : List Str} {is : List Nat} (F : Fun K nm qual st f fd)
    (h : ∀ (kV doc pm : Value) (an : Option Addr) (cdv ct a : Value) (ws : List Value), ws.length = ks.length → bindArgs (PySem.W.fnOf nm qual (defArgs st) (defBody st) (defScope st) .none kV doc pm an cdv ct) ⟨[a], ks.zip ws⟩ = pure (ps.zip (a :: pick is ws))) : KBn K fd ps 1 ks (fun us ws => us ++ pick is ws) (fun vs zs => vs ++ pick is zs) := by
  obtain ⟨oc, od, kV, doc, pm, an, cdv, ct, osl, rfl, lk, hcd⟩ := F.ex
  refine ⟨fun s us ws _ l1 l2 => ?_, fun r1 r2 => r1.append (vals_pickB r2 is)⟩
  match us, l1 with
  | [a], _ => exact .of_eq (h kV doc pm an cdv ct a ws l2)
def mMethK (cn nm : Str) (is : List Nat) (mf : List D → M D) (mo : Ev → M D) (ms : Ev → M (List D)) : Ev → M D := fun env => M.bind (mo env) fun o => M.bind (optM (recvO cn nm o)) fun o => M.bind (ms env) fun ds => if (pick is ds).length = is.length ∧ ds.length = is.length then noexc (mf (o :: pick is ds)) else M.stuck
/-- o.m(k = v, ..) -/
def tMethKw (C : Addr) (m : Str) (n : Nat) (sp : Sp) (gV : List V → List V → List V) (E : XK) (ta : TE) (t : TA) : TE := fun σ H Q => ta σ H fun x H1 => ∃ a dx fs, x = .ref a ∧ H1 a = some (.ins C dx fs) ∧ fs.lookup m = none ∧ t σ H1 fun zs H2 => zs.length = n ∧ sp (gV [.ref a] zs) H2 Q E
theorem pe_methKw {CX : CXT} {k : Nat} {C1 f : Addr} {fd : FuncData} {ps ks : List Str} {sp : Sp} {E : XK} {ta : TE} {tk : TA} {g : List Value → List Value → List Value} {gV : List V → List V → List V} {pl : Sem Bool} (he : PE X o ta) (c : Cls X.K C1) (hm : Meth X.K C1 nm f) (F : FnOk X.prog X.w X.K X.mg X.base CX k f fd ps sp) (hr : Room k X.A) (hb : KBn X.K fd ps 1 ks g gV) (hx : Passes CX X E) (hkw : PK X kws tk)
    (hall : (backToKw pos (keywordEach kws X.env)).all (·.1.isSome) = true) (hks : (backToKw pos (keywordEach kws X.env)).filterMap (·.1) = ks)
    (hpl : ((backTo pos (starEach [] X.env)).any (·.1) || (backToKw pos (keywordEach kws X.env)).any (·.1.isNone)) = false)
    (ht : eval (.Call (.Attribute o nm apos) [] kws pos) X.env = (do
      let ov ← eval o X.env
      standAt apos.atName
      let (f, first) ← holding [ov] (getMethod ov nm pl)
      callWith pos f first (backTo pos (starEach [] X.env)) (backToKw pos (keywordEach kws X.env)))) :
    PE X (.Call (.Attribute o nm apos) [] kws pos) (tMethKw C1 nm ks.length sp gV E ta tk) := by
  refine ⟨fun pins s σ H Q I h => ?_⟩
  refine PySem.W.methodCall_KW (pl := pl) (thn (he.run pins s σ H _ I h) fun u s1 ⟨x, H1, I1, rx, a, dx, fs, ex, ea, l, q⟩ => ?_) ht
  subst ex
  obtain rfl : u = Value.ref a := rx
  refine getmeth_ok I1 ea c hm l ?_
  refine PySem.W.callWith_KW0 (first := [.ref a]) (h₀ := X.base) I1.ok.mod.kin hm.kp hall (thn (hkw.run pos pins s1 σ H1 _ I1 q) fun ws s2 ⟨zs, H2, I2, rz, l2, q2⟩ => ⟨I2.kIn, ?_⟩) hpl
  rw [hks]
  exact run_fnN (us := [.ref a]) (vs := [.ref a]) F hr hb hx I2 (.cons rfl .nil) rz rfl l2 q2
theorem e_methK {cn : Str} {is : List Nat} {ks : List Str} {mf : List D → M D} {mo : Ev → M D} (ho : DE C W X o mo) (hks : ks.length = is.length) (ha : DK C W X kws ms)
    (k0 : PE X (.Call (.Attribute o nm apos) [] kws pos) (tMethKw (C.adr cn) nm ks.length (spD C.K C.adr (is.length + 1) mf) (fun vs zs => vs ++ pick is zs) E0 (wE X o) (wK X kws))) :
    DE C W X (.Call (.Attribute o nm apos) [] kws pos) (mMethK cn nm is mf mo ms) := fun B0 H0 B H σ env P fr Q q =>
  wE_of k0 (ho B0 H0 B H σ env P fr _ (Post.bind q fun d P1 _ v B1 H1 g1 p1 r1 q => by
    obtain ⟨d', e1, q9⟩ := Post.opt' q
    obtain ⟨fs, rfl, rfl, l⟩ := recvO_of e1
    cases r1 with
    | obj s r =>
      refine ⟨_, _, _, rfl, g1.sub _ _ s, r.none l, ha B0 H0 B1 H1 σ env P1 (fr.grow g1 p1) _ (Post.bind q9 fun ds P2 em vs B2 H2 g2 p2 r2 q8 => ?_)⟩
      have r2' : Reps C B2 vs ds := r2
      by_cases hl : (pick is ds).length = is.length ∧ ds.length = is.length
      · rw [if_pos hl] at q8
        exact ⟨by rw [r2'.length, hks]; exact hl.2, spD_ok (W := W) (σ := σ) (Hs := H) (by rw [List.length_cons]; exact congrArg (· + 1) hl.1) (.cons ((Rep.obj s r).mono g2.bb) (Reps.pickB r2' is)) g2.sub p2 q8⟩
      · rw [if_neg hl] at q8
        exact q8.elim))
end
/-- a method that is called by its parameters' names in these orders, too -/
structure PrN (L : List (List Str × List Nat)) (P : Program) (w : World) (K : PySem.W.Frag) (mg : Str → Option Value) (base : Heap) (adr : Str → Addr) (key : Str) (k n : Nat) (mf : List D → M D) : Prop where
  ex : ∃ (fd : FuncData) (ps : List Str), FnOk P w K mg base (L2N.CX P w) k (adr key) fd ps (spD K adr n mf) ∧ Binds K fd ps [] ∧ PySem.W.keepIn K (.ref (adr key)) = true ∧ ∀ q ∈ L, KBn K fd ps 1 q.1 (fun us ws => us ++ pick q.2 ws) (fun vs zs => vs ++ pick q.2 zs)
theorem PrN.pr {L : List (List Str × List Nat)} {P : Program} {w : World} {K : PySem.W.Frag} {mg : Str → Option Value} {base : Heap} {adr : Str → Addr} {key : Str} {k n : Nat} {mf : List D → M D} (h : PrN L P w K mg base adr key k n mf) : Pr P w K mg base adr key k n mf := by
  obtain ⟨fd, ps, a, b, c, _⟩ := h.ex
  exact ⟨fd, ps, a, b, c⟩
section
variable {P : Program} {w : World} {K : PySem.W.Frag} {mg : Str → Option Value} {base : Heap} {adr : Str → Addr} {key nm qual : Str} {st : Stmt} {N ps : List Str} {k n : Nat} {mb : Ev → M Out} {mf : List D → M D}
theorem pr_N {L : List (List Str × List Nat)} (D0 : DefAt K adr key nm qual st) (S : FnScope N ps (defScope st)) (hn : ps.length = n) {nN kk : Nat} (hf : mf = runD nN (mNox mb)) (hN : N.length = nN) (hk : kk = k + 1) (hb : BindsBy st nm qual ps)
    (hkb : ∀ q ∈ L, ∀ (kV doc pm : Value) (an : Option Addr) (cdv ct a : Value) (ws : List Value), ws.length = q.1.length → bindArgs (PySem.W.fnOf nm qual (defArgs st) (defBody st) (defScope st) .none kV doc pm an cdv ct) ⟨[a], q.1.zip ws⟩ = pure (ps.zip (a :: pick q.2 ws)))
    (hbody : ∀ (pu : Option Addr) (f : Addr) (cdv : Value) (A : Around) (outer : List Env) (s : Shared) (H : Hp) (E : XK), Room k (A.deeper (envOfC qual (defScope st) s.heap.objs.size f cdv)) →
      DSs ⟨K, adr, pu⟩ WF (cxOf (L2N.CX P w) P w K mg base N qual (defScope st) f cdv A outer s H E).nox (defBody st) mb) : PrN L P w K mg base adr key kk n mf := by
  obtain ⟨fd, F⟩ := D0.ex
  subst hn hN hk
  rw [hf]
  exact ⟨fd, ps, fn_D F S fun pu cdv A outer s H E hr => ss_nox (hbody pu _ cdv A outer s H E hr), F.binds hb, F.kp, fun q hq => kbn_pick F (hkb q hq)⟩
end
section
variable {C : Cn} {X : Cx} {o : Expr} {kws : List Keyword} {pos apos : Pos} {mo : Ev → M D} {ms : Ev → M (List D)} {key nm cn : Str} {mf : List D → M D} {k : Nat}
theorem x_methK {L : List (List Str × List Nat)} {ks : List Str} {is : List Nat} {pl : Sem Bool} (F : PrN L X.prog X.w X.K X.mg X.base C.adr key k (is.length + 1) mf) (hK : X.K = C.K) (hr : Room k X.A) (hc : Cls X.K (C.adr cn)) (hm : Meth X.K (C.adr cn) nm (C.adr key)) (hq : (ks, is) ∈ L) (hl : ks.length = is.length) (ho : DE C WF X o mo) (ha : DK C WF X kws ms)
    (hall : (backToKw pos (keywordEach kws X.env)).all (·.1.isSome) = true := by rfl) (hks : (backToKw pos (keywordEach kws X.env)).filterMap (·.1) = ks := by rfl)
    (hpl : ((backTo pos (starEach [] X.env)).any (·.1) || (backToKw pos (keywordEach kws X.env)).any (·.1.isNone)) = false := by rfl)
    (ht : eval (.Call (.Attribute o nm apos) [] kws pos) X.env = (do
      let ov ← eval o X.env
      standAt apos.atName
      let (f, first) ← holding [ov] (getMethod ov nm pl)
      callWith pos f first (backTo pos (starEach [] X.env)) (backToKw pos (keywordEach kws X.env))) := by rfl) :
    DE C WF X (.Call (.Attribute o nm apos) [] kws pos) (mMethK cn nm is mf mo ms) := by
  obtain ⟨fd, ps, F, hb, hk, kb⟩ := F.ex
  rw [hK] at F kb
  exact e_methK (C := C) ho hl ha (pe_methKw (pl := pl) pw hc hm (by rw [hK]; exact F) hr (by rw [hK]; exact kb _ hq) passN kw hall hks hpl ht)
/-- C.m(k = v, ..), m a classmethod -/
def tCMethKw (C : Addr) (n : Nat) (sp : Sp) (gV : List V → List V → List V) (E : XK) (ta : TE) (t : TA) : TE := fun σ H Q => ta σ H fun x H1 => x = .ref C ∧ t σ H1 fun zs H2 => zs.length = n ∧ sp (gV [.ref C] zs) H2 Q E
theorem pe_cmethKw {CX : CXT} {k : Nat} {C1 f pa : Addr} {mc : Value} {fd : FuncData} {ps ks : List Str} {sp : Sp} {E : XK} {ta : TE} {tk : TA} {g : List Value → List Value → List Value} {gV : List V → List V → List V} {pl : Sem Bool} (he : PE X o ta) (rd : CRead X.K C1 mc) (cm : CMet X.K C1 mc nm pa f) (F : FnOk X.prog X.w X.K X.mg X.base CX k f fd ps sp) (hr : Room k X.A) (hb : KBn X.K fd ps 1 ks g gV) (hx : Passes CX X E) (hkw : PK X kws tk)
    (hall : (backToKw pos (keywordEach kws X.env)).all (·.1.isSome) = true) (hks : (backToKw pos (keywordEach kws X.env)).filterMap (·.1) = ks)
    (hpl : ((backTo pos (starEach [] X.env)).any (·.1) || (backToKw pos (keywordEach kws X.env)).any (·.1.isNone)) = false)
    (ht : eval (.Call (.Attribute o nm apos) [] kws pos) X.env = (do
      let ov ← eval o X.env
      standAt apos.atName
      let (f, first) ← holding [ov] (getMethod ov nm pl)
      callWith pos f first (backTo pos (starEach [] X.env)) (backToKw pos (keywordEach kws X.env)))) :
    PE X (.Call (.Attribute o nm apos) [] kws pos) (tCMethKw C1 ks.length sp gV E ta tk) := by
  refine ⟨fun pins s σ H Q I h => ?_⟩
  refine PySem.W.methodCall_KW (pl := pl) (thn (he.run pins s σ H _ I h) fun u s1 ⟨x, H1, I1, rx, ex, q⟩ => ?_) ht
  subst ex
  obtain rfl : u = Value.ref C1 := rx
  refine getmethcm_ok I1 rd cm fun s2 I2 => ?_
  refine PySem.W.callWith_of (P := PySem.W.MethP X.K s1.heap.objs.size f (.ref C1)) hpl (PySem.W.keeps_M cm.fi) (evalArgs_kw2_nil hall (thn (hkw.run pos _ s2 σ H1 _ I2 q) fun ws s3 ⟨zs, H2, I3, rz, l2, q2⟩ => ?_))
  refine ⟨⟨pin_at I3, I3.kIn⟩, ?_⟩
  rw [hks]
  have z : wpAny (model X.prog X.w) X.A (call (.ref s1.heap.objs.size) [] (ks.zip ws)) (EP X ((s1.heap.objs.size, PySem.W.methodObj (.ref f) (.ref C1)) :: pins) σ Q) X.xe s3 :=
    wpAny_call (PySem.W.method_call (pin_at I3) (by
      have r2 := hb.rel (vs := [.ref C1]) (us := [.ref C1]) (.cons rfl .nil) rz
      refine codeAny_mono (F.run X.A X.stack s3 H2 ⟨[.ref C1], ks.zip ws⟩ (g [.ref C1] ws) (gV [.ref C1] zs) Q E hr I3.env0 (hb.to s3 [.ref C1] ws I3.kIn rfl (rz.length.symm.trans l2)) r2 q2) fun r s' hq => ?_
      cases r with
      | error e => exact hx _ σ H2 s3 e s' I3 hq
      | ok fl =>
        cases fl with
        | ret u => exact I3.after hq
        | next => exact False.elim hq
        | brk => exact False.elim hq
        | cont => exact False.elim hq))
  exact thn z fun _ _ y => unpinE y
def mCmethK (cn : Str) (is : List Nat) (mf : List D → M D) (ms : Ev → M (List D)) : Ev → M D := fun env => M.bind (ms env) fun ds => if (pick is ds).length = is.length ∧ ds.length = is.length then noexc (mf (.cls cn :: pick is ds)) else M.stuck
theorem x_cmethK {L : List (List Str × List Nat)} {ks : List Str} {is : List Nat} {mc : Value} {pa : Addr} {pl : Sem Bool} {x : Str} {p : Pos} (F : PrN L X.prog X.w X.K X.mg X.base C.adr key k (is.length + 1) mf) (hK : X.K = C.K) (hr : Room k X.A) (hm : X.mg x = some (.ref (C.adr cn))) (rd : CRead X.K (C.adr cn) mc) (cm : CMet X.K (C.adr cn) mc nm pa (C.adr key)) (hq : (ks, is) ∈ L) (hl : ks.length = is.length) (ha : DK C WF X kws ms)
    (hg : Gl X x := by rfl) (hd : (x == ("__debug__" : Str)) = false := by decide)
    (hall : (backToKw pos (keywordEach kws X.env)).all (·.1.isSome) = true := by rfl) (hks : (backToKw pos (keywordEach kws X.env)).filterMap (·.1) = ks := by rfl)
    (hpl : ((backTo pos (starEach [] X.env)).any (·.1) || (backToKw pos (keywordEach kws X.env)).any (·.1.isNone)) = false := by rfl)
    (ht : eval (.Call (.Attribute (.Name x p) nm apos) [] kws pos) X.env = (do
      let ov ← eval (.Name x p) X.env
      standAt apos.atName
      let (f, first) ← holding [ov] (getMethod ov nm pl)
      callWith pos f first (backTo pos (starEach [] X.env)) (backToKw pos (keywordEach kws X.env))) := by rfl) :
    DE C WF X (.Call (.Attribute (.Name x p) nm apos) [] kws pos) (mCmethK cn is mf ms) := fun B0 H0 B H σ env P fr Q q => by
  obtain ⟨fd, ps, F, hb, hk, kb⟩ := F.ex
  rw [hK] at F kb
  refine wE_of (pe_cmethKw (pl := pl) (pe_glob (v := .ref (C.adr cn)) hg hm rfl hd) rd cm (by rw [hK]; exact F) hr (by rw [hK]; exact kb _ hq) passN kw hall hks hpl ht) ⟨rfl, ha B0 H0 B H σ env P fr _ (Post.bind q fun ds P1 em vs B1 H1 g1 p1 r1 q9 => ?_)⟩
  have r2' : Reps C B1 vs ds := r1
  by_cases hl2 : (pick is ds).length = is.length ∧ ds.length = is.length
  · rw [if_pos hl2] at q9
    exact ⟨by rw [r2'.length, hl]; exact hl2.2, spD_ok (W := WF) (σ := σ) (Hs := H) (by rw [List.length_cons]; exact congrArg (· + 1) hl2.1) (.cons (.cls cn) (Reps.pickB r2' is)) g1.sub p1 q9⟩
  · rw [if_neg hl2] at q9
    exact q9.elim
end
end PD

set_option Elab.async false
set_option linter.all false
set_option maxRecDepth 100000
/-! PD23: what is raised: raise C(e), C an own class whose __init__ keeps its one argument; calls that may raise; parts that do not. -/
namespace PD
open PySem PySem.Spec PyProof.Rows L2 RZ ClX
section
variable {C : Cn} {W : WX} {X : Cx} {a b c e o : Expr} {es : List Expr} {p pos pos' apos : Pos} {m ma mb : Ev → M D} {ms : Ev → M (List D)} {x nm : Str}
/-! ### parts that raise nothing -/
theorem up {α β : Type} {t : L2.St → Hp → (β → Hp → Prop) → Prop} {R : Hp → Hp → Hp → β → α → Prop} {n : Ev → M α} (h : Do C WF t R n) : Do C W t R (fun env => noexc (n env)) := fun B0 H0 B H σ env P fr Q q => by
  refine h B0 H0 B H σ env P fr Q ?_
  obtain ⟨a, P', e, q⟩ := noexc_post q
  rw [e]; exact q
def nx {α : Type} (n : Ev → M α) : Ev → M α := fun env => noexc (n env)
theorem e_up (h : DE C WF X e m) : DE C W X e (nx m) := up h
theorem t_up {n : Ev → M Bool} (h : DT C WF X e n) : DT C W X e (nx n) := up h
theorem a_up (h : DA C WF X es ms) : DA C W X es (nx ms) := up h
theorem f_up (h : DF C WF X e ms) : DF C W X e (nx ms) := up h
theorem r_up (h : DR C WF X e m) : DR C W X e (nx m) := up h
theorem x_up {n : Ev → M Sl} (h : DX C WF X e n) : DX C W X e (nx n) := up h
/-! ### calls that may raise -/
theorem x_callX {key : Str} {k n : Nat} {mf : List D → M D} (F : Pr X.prog X.w X.K X.mg X.base C.adr key k n mf) (hK : X.K = C.K) (tk : L2N.Takes X W) (hr : Room k X.A) (hm : X.mg x = some (.ref (C.adr key)))
    (ha : DA C W X (e :: es) ms) (hlen : ∀ env P ds P', ms env P = .ok ds P' → ds.length = n) (hn : (e :: es).length = n := by rfl) (hg : Gl X x := by rfl) (hdb : (x == ("__debug__" : Str)) = false := by decide) (he : starEach (e :: es) X.env = (false, eval e X.env) :: starEach es X.env := by rfl) (hpl : (backTo pos (starEach es X.env)).any (·.1) = false := by rfl) :
    DE C W X (.Call (.Name x p) (e :: es) [] pos) (mUn ms mf) := by
  obtain ⟨fd, ps, F, hb, hk⟩ := F.ex
  rw [hK] at F
  exact e_call (C := C) (by rw [hK]; exact F) hr hm hk hb tk ha hn hg hdb he hpl hlen
def mMethX (cn nm : Str) (mf : List D → M D) (mo : Ev → M D) (ms : Ev → M (List D)) : Ev → M D := fun env => M.bind (mo env) fun o => M.bind (optM (recvO cn nm o)) fun o => M.bind (ms env) fun ds => mf (o :: ds)
theorem x_methX {cn key : Str} {k n : Nat} {mf : List D → M D} {mo : Ev → M D} {pl : Sem Bool} (F : Pr X.prog X.w X.K X.mg X.base C.adr key k (n + 1) mf) (hK : X.K = C.K) (tk : L2N.Takes X W) (hr : Room k X.A) (hc : Cls X.K (C.adr cn)) (hm : Meth X.K (C.adr cn) nm (C.adr key)) (ho : DE C W X o mo) (ha : DA C W X (e :: es) ms) (hlen : ∀ env P ds P', ms env P = .ok ds P' → ds.length = n)
    (hst : starEach (e :: es) X.env = (false, eval e X.env) :: starEach es X.env := by rfl) (hpl : (backTo pos (starEach es X.env)).any (·.1) = false := by rfl)
    (ht : eval (.Call (.Attribute o nm apos) (e :: es) [] pos) X.env = (do
      let ov ← eval o X.env
      standAt apos.atName
      let (f, first) ← holding [ov] (getMethod ov nm pl)
      callWith pos f first (backTo pos (starEach (e :: es) X.env)) (backToKw pos (keywordEach [] X.env))) := by rfl) :
    DE C W X (.Call (.Attribute o nm apos) (e :: es) [] pos) (mMethX cn nm mf mo ms) := fun B0 H0 B H σ env P fr Q q pins s I => by
  obtain ⟨fd, ps, F, hb, hk⟩ := F.ex
  refine PySem.W.methodCall_KW (pl := pl) (thn (ho B0 H0 B H σ env P fr (fun x H1 => ∃ a dx fs, x = .ref a ∧ H1 a = some (.ins (C.adr cn) dx fs) ∧ fs.lookup nm = none ∧ wA X (e :: es) σ H1 (fun vs H2 => spD C.K C.adr (n + 1) mf (.ref a :: vs) H2 Q (WE W σ))) (Post.bind q fun d P1 _ v B1 H1 g1 p1 r1 q => ?_) pins s I) fun u s1 ⟨x, H1, I1, rx, a, dx, fs, ex, ea, l, q⟩ => ?_) ht
  · obtain ⟨d', e1, q9⟩ := Post.opt' q
    obtain ⟨fs, rfl, rfl, l⟩ := recvO_of e1
    cases r1 with
    | obj s r =>
      refine ⟨_, _, _, rfl, g1.sub _ _ s, r.none l, ha B0 H0 B1 H1 σ env P1 (fr.grow g1 p1) _ (Post.bind q9 fun ds P2 em vs B2 H2 g2 p2 r2 q8 => ?_)⟩
      exact ⟨by rw [List.length_cons, Reps.length (show Reps C B2 vs ds from r2), hlen _ _ _ _ em], C.pu, B2, _, P2, .cons ((Rep.obj s r).mono g2.bb) r2, g2.sub, p2, Post.toF (Hs := H1) q8⟩
  · subst ex
    obtain rfl : u = Value.ref a := rx
    refine getmeth_ok I1 ea hc hm l ?_
    refine PySem.W.callWith_K (first := [.ref a]) (h₀ := X.base) I1.ok.mod.kin hm.kp (thn (q _ pins s1 I1) fun us s2 ⟨vs, H2, I2, r, q2⟩ => ⟨I2.kIn, ?_⟩) hst hpl
    exact run_fnS (E := WE W) (us := .ref a :: us) (vs := .ref a :: vs) (by rw [hK]; rw [hK] at F; exact F) hr hb (L2N.passAt tk σ) I2 (.cons rfl r) q2
end
end PD

set_option Elab.async false
set_option linter.all false
set_option maxRecDepth 100000
/-! PD24: raise C(e), C an own class whose __init__ keeps its one argument under a name. -/
namespace PD
open PySem PySem.Spec PyProof.Rows L2 RZ ClX
/-- what such an __init__ promises -/
def spI (C : Addr) (f : Str) : Sp := fun vs H Q _ => ∃ a v, vs = [.ref a, v] ∧ H a = some (exo a C none) ∧ ∀ dx, H dx = none → dx ≠ a → Q .non (upd (upd H dx (exd dx [(f, v)])) a (exo a C (some dx)))
/-- an exception class with such an __init__ -/
structure Exc1 (P : Program) (w : World) (K : PySem.W.Frag) (mg : Str → Option Value) (base : Heap) (adr : Str → Addr) (c key f : Str) : Prop where
  oex : OexC K (adr c)
  ini : PySem.W.findIn K (.ref (adr c)) "__init__" = some (some (.ref (adr key)))
  tyI : PySem.W.typeIn K (.ref (adr key)) = some (.type "function")
  fn : ∃ (fd : FuncData) (ps : List Str), FnOk P w K mg base (L2N.CX P w) 1 (adr key) fd ps (spI (adr c) f) ∧ Binds K fd ps []
section
variable {P : Program} {w : World} {K : PySem.W.Frag} {mg : Str → Option Value} {base : Heap} {adr : Str → Addr} {key qual c f x0 x1 : Str} {st : Stmt}
theorem exc1_mk {q1 q2 q3 q4 : Pos} (D0 : DefAt K adr key "__init__" qual st) (S : FnScope [x0, x1] [x0, x1] (defScope st)) (eb : defBody st = [.Assign [.Attribute (.Name x0 q1) f q2] (.Name x1 q3) q4]) (hb : BindsBy st "__init__" qual [x0, x1])
    (oex : OexC K (adr c)) (ini : PySem.W.findIn K (.ref (adr c)) "__init__" = some (some (.ref (adr key)))) (tyI : PySem.W.typeIn K (.ref (adr key)) = some (.type "function")) (no : PySem.W.findIn K (.ref (adr c)) f = some none)
    (h0 : (defScope st).names.lookup x0 = some .local) (h1 : (defScope st).names.lookup x1 = some .local)
    (d0 : (x0 == ("__debug__" : Str)) = false := by decide) (d1 : (x1 == ("__debug__" : Str)) = false := by decide) (c0 : (x0 == ("__classdict__" : Str)) = false := by decide) (c1 : (x1 == ("__classdict__" : Str)) = false := by decide) : Exc1 P w K mg base adr c key f := by
  obtain ⟨fd, F⟩ := D0.ex
  refine ⟨oex, ini, tyI, fd, [x0, x1], fun_okN F S (fun vs H Q E h => by obtain ⟨a, v, rfl, _⟩ := h; rfl) fun cdv A outer s H vs Q E hr h => ?_, F.binds hb⟩
  obtain ⟨a, v, rfl, ea, q⟩ := h
  rw [eb]
  refine ⟨_, pss_one (ps_ost (pe_var (i := 0) rfl (.inl h0) d0 c0) (pe_var (i := 1) rfl (.inl h1) d1 c1) rfl), ?_⟩
  exact ⟨v, rfl, .ref a, rfl, a, adr c, rfl, oex, no, .inl ⟨ea, fun dx hdx ne => q dx hdx ne⟩⟩
end
section
variable {X : Cx} {e : Expr} {es : List Expr} {p pos : Pos} {ta : TA}
/-- C(e, ..) of an own error class with an __init__, where nothing is handled: its context is None -/
theorem pmk_errN {CT : CXT} {x : Str} {A fi : Addr} {k : Nat} {fd : FuncData} {ps : List Str} {sp : Sp} (T : OexC X.K A) (i1 : PySem.W.findIn X.K (.ref A) "__init__" = some (some (.ref fi))) (i2 : PySem.W.typeIn X.K (.ref fi) = some (.type "function"))
    (F : FnOk X.prog X.w X.K X.mg X.base CT k fi fd ps sp) (hr : Room (k + 1) X.A) (hb : Binds X.K fd ps []) (hx : Passes CT X (fun _ _ _ => False)) (hg : Gl X x) (hm : X.mg x = some (.ref A)) (ha : PA X (e :: es) ta)
    (h1 : (x == ("__debug__" : Str)) = false := by decide) (h2 : starEach (e :: es) X.env = (false, eval e X.env) :: starEach es X.env := by rfl) (h3 : (backTo pos (starEach es X.env)).any (·.1) = false := by rfl) :
    L2N.PMk X (.Call (.Name x p) (e :: es) [] pos) (tMkO A sp [] ta) := fun pins s σ H Q I h => by
  obtain ⟨_, _, _, _, bm, _, _, _, _, _, _, _, _, _, _, cA, cb⟩ := T.cls
  refine wpAny_Call_Name_kw (ld_glob I hg hm ?_ h1)
  refine PySem.W.callWith_K (h₀ := X.base) I.ok.mod.kin T.kC (thn (ha.run pos pins s σ H _ I h) fun ws z ⟨vs, G, J, rw1, zz, q⟩ => ⟨J.kIn, ?_⟩) h2 h3
  show wpAny _ _ (call (.ref A) ws) _ _ _
  obtain ⟨hp, ge, dr, tk, os⟩ := z
  have le1 : hp.objs.size ≤ hp.objs.size + 1 := by omega
  have q' := q (hp.objs.size + 1) (J.hok.fresh le1)
  rw [List.append_nil] at q'
  have stay : ∀ b o, hp.get? b = some o → ((hp.push (PySem.W.kdv_tup ws)).push (PySem.HandSPX.excO A hp.objs.size)).get? b = some o := fun b o y => Heap.get?_push_of_some _ (Heap.get?_push_of_some _ y)
  have got : ((hp.push (PySem.W.kdv_tup ws)).push (PySem.HandSPX.excO A hp.objs.size)).get? (hp.objs.size + 1) = some (PySem.HandSPX.excO A hp.objs.size) := by heap_get
  have J2 := J.laid (t' := tk) (a := hp.objs.size + 1) (o := exo (hp.objs.size + 1) A none) stay le1 (exo_ok got)
  have vv : Vals (V.ref (hp.objs.size + 1) :: vs) (Value.ref (hp.objs.size + 1) :: ws) := .cons rfl rw1
  have ln : (Value.ref (hp.objs.size + 1) :: ws ++ []).length = ps.length := by
    rw [List.append_nil, ← vv.length, F.len _ _ _ _ q']
  have b2 := hb _ (Value.ref (hp.objs.size + 1) :: ws) J2.kIn ln
  rw [List.append_nil] at b2
  refine wpAny_call (PySem.HandSPX.call_own PySem.F.excBase_ValueError (fun Y => PySem.HandSPX.refsVE_contains Y bm cb) (J.kIn _ _ cA) (PySem.W.looks_findIn J.kIn i1) (fun me => PySem.W.bind_fn J.kIn me i2) (by rw [← Paired.length rw1, sizeLine_eq]; omega)
    (codeAny_mono (F.run _ X.stack _ _ ⟨Value.ref (hp.objs.size + 1) :: ws, []⟩ (Value.ref (hp.objs.size + 1) :: ws) _ _ (fun _ _ _ => False) (hr.make A ws []) (J2.env0.make A ws []) b2 vv q') fun y s' hy => ?_))
  cases y with
  | error er => exact hx pins σ _ _ er s' J2 hy
  | ok fl =>
    cases fl with
    | next => exact hy.elim
    | brk => exact hy.elim
    | cont => exact hy.elim
    | ret u =>
      obtain ⟨v, G2, o2, ba, un, ok2, rv, rfl, d, fs, y1, y2, y3, q2⟩ := hy
      obtain ⟨h2', g2, d2, t2, o3⟩ := s'
      obtain ⟨t0, G3, J3, k3, g3, at3, na3⟩ := mk_end0 (d2 := d2) (t2 := t2) J le1 stay un ok2 o2 ba y1 y2 y3
      exact ⟨rv, hp.objs.size + 1, _, _, ⟨G3, g2, d2, t2, o3⟩, _, .ref A, some d, rfl, J3, k3, g3, at3, ⟨rfl, rfl, fun ws2 hv => by cases hv; rfl⟩, rfl, rfl, na3, rfl, ba, raises_own T.exC T.tyC, q2⟩
end
section
variable {C : Cn} {W : WX} {X : Cx} {e : Expr} {p pos pos' : Pos} {m : Ev → M D} {x : Str}
def mRaise1 (c f : Str) (m : Ev → M D) : Ev → M Out := fun env => M.bind (m env) fun d => M.exc (.exc c [(f, d)])
theorem s_raise1 {c key f : Str} (T : Exc1 X.prog X.w X.K X.mg X.base C.adr c key f) (hc : X.calm = true) (tk : L2N.Takes X W) (hr : Room 2 X.A) (hm : X.mg x = some (.ref (C.adr c))) (h : DE C W X e m) (hg : Gl X x := by rfl) (hdb : (x == ("__debug__" : Str)) = false := by decide)
    (he : starEach [e] X.env = (false, eval e X.env) :: starEach [] X.env := by rfl) : DS C W X (.Raise (some (.Call (.Name x p) [e] [] pos)) none pos') (mRaise1 c f m) := fun B0 H0 B H σ env P fr E q => by
  obtain ⟨fd, ps, F, hb⟩ := T.fn
  refine wS_of (L2N.ps_raise hc tk (pmk_errN T.oex T.ini T.tyI F hr hb passN hg hm aw hdb he rfl)) ?_
  refine (a_cons h a_nil he) B0 H0 B H σ env P fr _ ?_
  unfold mRaise1 M.bind at q
  unfold mCons M.bind
  cases em : m env P with
  | stuck => rw [em] at q; exact q.elim
  | exc y P1 =>
    rw [em] at q
    exact fun cls dd B' H' g p i => q cls dd σ B' H' (fr.g.trans g) p i
  | ok d P1 =>
    rw [em] at q
    intro vs B1 H1 g1 p1 r1
    have r1 : Reps C B1 vs [d] := r1
    cases r1 with
    | @cons v _ _ _ rv rt =>
      cases rt
      refine ⟨by simp, fun a ha => ⟨a, v, rfl, upd_same, fun dx hdx ne => ⟨rfl, dx, [(f, v)], upd_same, by rw [upd_ne ne, upd_same], ?_, ?_⟩⟩⟩
      · rw [upd_ne ne] at hdx; exact hdx
      · rw [upd_ne ne] at hdx
        have eq : upd (L2.del (upd (upd (upd H1 a (exo a (C.adr c) none)) dx (exd dx [(f, v)])) a (exo a (C.adr c) (some dx))) a) dx (.xd [(f, v)]) = upd H1 dx (.xd [(f, v)]) := by
          funext b
          unfold upd L2.del
          by_cases hb1 : b = dx
          · simp [hb1]
          · by_cases hb2 : b = a
            · subst hb2; simp [hb1, ha]
            · simp [hb1, hb2]
        rw [eq]
        have bdx : B1 dx = none := g1.sub.free hdx
        refine q (.ref (C.adr c)) (some dx) σ (upd B1 dx (.xd [(f, v)])) (upd H1 dx (.xd [(f, v)])) ((fr.g.trans g1).trans (Grow.new g1.sub hdx)) ?_ ⟨c, [(f, d)], rfl, rfl, .inr ⟨dx, [(f, v)], rfl, upd_same, .cons (rv.mono (Grow.new (C := C) g1.sub hdx).bb) .nil⟩⟩
        exact Pur.new p1 g1.sub hdx
end
end PD

set_option Elab.async false
set_option linter.all false
set_option maxRecDepth 100000
/-! PD25: try with one clause «except C as e», whose suite is x = ("word", e.f). -/
namespace PD
open PySem PySem.Spec PyProof.Rows L2 RZ ClX
/-- how a try's body ends: an exception leaves the frame as it was -/
def PostT (C : Cn) (W : WX) (σ : L2.St) (B0 H0 B H : Hp) (r : Res Out) (E : Ends) : Prop := match r with
  | .exc x P' => ∀ cls dd B' H', Grow C B H B' H' → Pur C B' H' P' → IsExc C B' cls dd x → W cls dd σ H'
  | r => PostS C W B0 H0 r E
def DST (C : Cn) (W : WX) (X : Cx) (body : List Stmt) (m : Ev → M Out) : Prop := ∀ B0 H0 B H σ env P, Fr C B0 H0 B H σ env P → ∀ E, PostT C W σ B0 H0 B H (m env P) E → wSs X body E σ H
theorem PostT.imp {C : Cn} {W W' : WX} {σ : L2.St} {B0 H0 B H B1 H1 : Hp} {r : Res Out} {E : Ends} (h : PostT C W σ B0 H0 B H r E) (g : Grow C B H B1 H1) : PostT C W σ B0 H0 B1 H1 r E := by
  cases r with
  | stuck => exact h
  | ok o P => exact h
  | exc x P => exact fun cls dd B' H' g' p i => h cls dd B' H' (g.trans g') p i
section
variable {C : Cn} {W : WX} {X : Cx} {e c : Expr} {s1 s2 : List Stmt} {pos : Pos} {m : Ev → M D} {m1 m2 : Ev → M Out} {x : Str}
theorem tr_set (i : Nat) {pos' : Pos} {mx : Ev → M Sl} (hx : DX C W X e mx) (hN : X.N.Nodup) (hi : X.N[i]? = some x := by rfl) (hl : Loc X.env.scope x := by first | exact Or.inl rfl | exact Or.inr rfl)
    (hs : swapsWith e (some (.Name x pos')) pos.line X.env = pure false := by rfl) (hf : X.fn x = true ∨ X.env.scope.names.lookup x = some .local := by first | exact .inl rfl | exact .inr rfl) : DST C W X [.Assign [.Name x pos'] e pos] (mSet i mx) := fun B0 H0 B H σ env P fr E q =>
  wSs_of (pss_one (ps_set hN hi hl pw hs hf)) (hx B0 H0 B H σ env P fr _ (by
    unfold mSet M.bind at q
    cases em : mx env P with
    | stuck => rw [em] at q; exact q.elim
    | exc y P1 => rw [em] at q; exact q
    | ok s P1 =>
      rw [em] at q
      exact fun v B' H' g p r => q _ B' H' ((fr.grow g p).store i r (fun l h => fr.g.there h) fun l h => fr.fresh h)))
theorem tr_if {nc : Ev → M Bool} (hc : DT C W X c nc) (h1 : DST C W X s1 m1) (h2 : DST C W X s2 m2) : DST C W X [.If c s1 s2 pos] (mIfS nc m1 m2) := fun B0 H0 B H σ env P fr E q =>
  wSs_of (pss_one (ps_if tw ssw ssw)) (hc B0 H0 B H σ env P fr _ (by
    unfold mIfS M.bind at q
    cases em : nc env P with
    | stuck => rw [em] at q; exact q.elim
    | exc y P1 => rw [em] at q; exact q
    | ok k P1 =>
      rw [em] at q
      intro y B' H' g p r
      have r' : y = k := r
      subst r'
      cases y with
      | true => exact iteT (h1 B0 H0 B' H' σ env P1 (fr.grow g p) E (PostT.imp (W' := W) (by simpa using q) g))
      | false => exact iteF (h2 B0 H0 B' H' σ env P1 (fr.grow g p) E (PostT.imp (W' := W) (by simpa using q) g))))
/-- a slot that holds nothing of ours may hold anything -/
theorem Fr.anyno {B0 H0 B H : Hp} {σ : L2.St} {env : Ev} {P : Pu} (f : Fr C B0 H0 B H σ env P) {i : Nat} (h : env[i]? = some .no) (v : Option V) : Fr C B0 H0 B H (σ.set i v) env P where
  g := f.g
  pur := f.pur
  len := by rw [List.length_set]; exact f.len
  val := fun j d e => by
    obtain ⟨u, a, b⟩ := f.val j d e
    have ne : i ≠ j := fun z => by subst z; rw [h] at e; cases e
    exact ⟨u, by rw [List.getElem?_set_ne ne]; exact a, b⟩
  own := fun j xs e => by
    obtain ⟨p, vs, a, b⟩ := f.own j xs e
    have ne : i ≠ j := fun z => by subst z; rw [h] at e; cases e
    exact ⟨p, vs, by rw [List.getElem?_set_ne ne]; exact a, b⟩
  inj := fun j k xs ys p e1 e2 a b => by
    have n1 : i ≠ j := fun z => by subst z; rw [h] at e1; cases e1
    have n2 : i ≠ k := fun z => by subst z; rw [h] at e2; cases e2
    rw [List.getElem?_set_ne n1] at a
    rw [List.getElem?_set_ne n2] at b
    exact f.inj j k xs ys p e1 e2 a b
end
/-- what the written part says of a class that is caught -/
structure XcF (K : PySem.W.Frag) (C : Addr) (f : Str) (cv : Value) : Prop where
  xf : XfC K C
  no : PySem.W.findIn K (.ref C) f = some none
  is : PySem.W.exmOne K (.ref C) cv = some true
def isNo : Option Sl → Bool
  | some .no => true
  | _ => false
theorem isNo_of {s : Option Sl} (h : isNo s = true) : s = some .no := by
  unfold isNo at h
  split at h
  · rfl
  · cases h
def mTryT (cs : List Str) (f w : Str) (i ix : Nat) (mb : Ev → M Out) : Ev → M Out := fun env P => match mb env P with
  | .exc (.exc c fs) P' => if cs.contains c = true ∧ isNo env[i]? = true ∧ i ≠ ix then (match fs.lookup f with
    | some d => .ok (.next (env.set ix (.val (.tup [.str w, d])))) P'
    | none => .stuck) else .stuck
  | .exc _ _ => .stuck
  | r => r
section
variable {C : Cn} {Wout : WX} {X : Cx} {x n y w f : Str} {cv : Value} {i ix : Nat} {body : List Stmt} {mb : Ev → M Out} {np yp cp ep fp tp ap pos pos' : Pos} {ck tk2 : Nat}
theorem s_tryT {cs : List Str} (hs : X.stack = X.env :: X.outer) (hf : X.env.frame = some X.env.locals) (hN : X.N.Nodup) (hi : X.N[i]? = some n) (hln : X.env.kindOf n = some .local) (hnm : Names X x cv) (tk : L2N.Takes X Wout)
    (hix : X.N[ix]? = some y) (hly : Loc X.env.scope y) (hfy : X.fn y = true ∨ X.env.scope.names.lookup y = some .local) (hvn : Vis X.env.scope n)
    (fac : ∀ c ∈ cs, XcF X.K (C.adr c) f cv)
    (hb : ∀ (W : WX) (pn : List (Addr × Obj)) (xe : Value → Shared → Prop), L2N.Takes (X.tr pn xe) W → PassesOwn (model X.prog X.w) X.A X.env xe → DST C W (X.tr pn xe) body mb)
    (hdn : (n == ("__debug__" : Str)) = false := by decide) (hcn : (n == ("__classdict__" : Str)) = false := by decide) :
    DS C Wout X (.Try body [.ExceptHandler (some (.Name x np)) (some n) [.Assign [.Name y yp] (.Tuple [.Constant (.str w) ck cp, .Attribute (.Name n ep) f fp] tk2 tp) ap] pos'] [] [] pos) (mTryT cs f w i ix mb) := fun B0 H0 B H σ env P fr E q => by
  refine wS_of (L2N.ps_try_as hs hf hN hi hln hnm tk (tb := fun W D σ H => ∀ (pn : List (Addr × Obj)) (xe : Value → Shared → Prop), L2N.Takes (X.tr pn xe) W → PassesOwn (model X.prog X.w) X.A X.env xe → wSs (X.tr pn xe) body D σ H)
    (ts := fun a cls d D σ H => ∀ (oe : Obj) (pn : List (Addr × Obj)), L2N.Zn cls d oe → (∃ vs, oe.data = .fields vs) → wSs (X.suite a ((a, oe) :: pn)) [.Assign [.Name y yp] (.Tuple [.Constant (.str w) ck cp, .Attribute (.Name n ep) f fp] tk2 tp) ap] D σ H)
    (fun W pn xe t po => ⟨fun pins s σ H D I h => h pn xe t po pins s I⟩) (fun a oe cls d pn hz hd => ⟨fun pins s σ H D I h => h oe pn hz hd pins s I⟩)) ?_
  intro pn xe t po
  refine hb _ pn xe t po B0 H0 B H σ env P fr E ?_
  unfold mTryT at q
  cases em : mb env P with
  | stuck => rw [em] at q; exact q.elim
  | ok o P1 =>
    rw [em] at q
    cases o with
    | next e => exact q
    | ret d => exact q
    | brk e => exact q
    | cont e => exact q
  | exc z P1 =>
    rw [em] at q
    cases z with
    | exc c fs =>
      have q : PostS C Wout B0 H0 (if cs.contains c = true ∧ isNo env[i]? = true ∧ i ≠ ix then (match fs.lookup f with
        | some d => .ok (.next (env.set ix (.val (.tup [.str w, d])))) P1
        | none => .stuck) else .stuck) E := q
      by_cases hc : cs.contains c = true ∧ isNo env[i]? = true ∧ i ≠ ix
      · rw [if_pos hc] at q
        obtain ⟨h1, h2, h3⟩ := hc
        have h2 := isNo_of h2
        have hm : c ∈ cs := by simpa using h1
        have F := fac c hm
        cases hl : fs.lookup f with
        | none => rw [hl] at q; exact q.elim
        | some d =>
          rw [hl] at q
          intro cls dd B' H' g p ⟨c', fs', e1, e2, e3⟩
          cases e1
          subst e2
          refine ⟨true, F.is, fun _ a ha => ?_, fun z => nomatch z⟩
          intro oe pn' hz hd
          rcases e3 with ⟨rfl, _⟩ | ⟨dx, vs, rfl, hb1, rf⟩
          · simp at hl
          obtain ⟨v, hv, rv⟩ := rf.look hl
          refine wSs_of (pss_one (ps_set (X := X.suite a ((a, oe) :: pn')) hN hix hly (pe_tup (pa_cons pe_str (pa_cons (pe_xf F.xf F.no hz.zc hd (pe_var (X := X.suite a ((a, oe) :: pn')) (i := i) hi hvn hdn hcn) rfl) pa_nil rfl) rfl)) rfl hfy)) ?_
          have fi : σ[i]? ≠ none := by
            rw [Ne, List.getElem?_eq_none_iff, fr.len]
            intro z
            rw [List.getElem?_eq_none z] at h2
            cases h2
          have hset : (σ.set i (some (.ref a)))[i]? = some (some (.ref a)) := by
            rw [List.getElem?_set_self']
            cases hh : σ[i]? with
            | none => exact absurd hh fi
            | some z => rfl
          refine ⟨.ref a, hset, rfl, rfl, dx, vs, v, rfl, g.sub _ _ hb1, hv, ?_⟩
          refine ⟨by simp; decide, fun l hl2 => ?_⟩
          have f1 := ((fr.grow g p).grow (Grow.new (C := C) (o := .tup [.str w, v]) g.sub hl2) (Pur.new (o := .tup [.str w, v]) p g.sub hl2)).anyno h2 (some (.ref a))
          have f2 := f1.set ix (d := .tup [.str w, d]) (v := .ref l) (.tup (.inl (.inl upd_same)) (.cons (.str w) (.cons (rv.mono (Grow.new (C := C) g.sub hl2).bb) .nil)))
          exact q _ _ _ (f2.anyno (i := i) (by rw [List.getElem?_set_ne (Ne.symm h3)]; exact h2) none)
      · rw [if_neg hc] at q; exact q.elim
    | _ => exact q.elim
end
end PD

set_option Elab.async false
set_option linter.all false
set_option maxRecDepth 100000
/-! PD26: defs that may raise; methods that may raise, called by name. -/
namespace PD
open PySem PySem.Spec PyProof.Rows L2 RZ ClX
section
variable {P : Program} {w : World} {K : PySem.W.Frag} {mg : Str → Option Value} {base : Heap} {adr : Str → Addr} {key nm qual : Str} {st : Stmt} {N ps : List Str} {k n : Nat} {mb : Ev → M Out} {mf : List D → M D}
theorem takes_cx {f : Addr} {cdv : Value} {A : Around} {outer : List Env} {s : Shared} {H : Hp} {E : XK} {scope : Scope} : L2N.Takes (cxOf (L2N.CX P w) P w K mg base N qual scope f cdv A outer s H E) (fun c d _ H => E c d H) := L2N.takes_of rfl rfl rfl rfl
theorem pr_X (D0 : DefAt K adr key nm qual st) (S : FnScope N ps (defScope st)) (hn : ps.length = n) {nN kk : Nat} (hf : mf = runD nN mb) (hN : N.length = nN) (hk : kk = k + 1) (hb : BindsBy st nm qual ps)
    (hbody : ∀ (pu : Option Addr) (f : Addr) (cdv : Value) (A : Around) (outer : List Env) (s : Shared) (H : Hp) (E : XK), Room k (A.deeper (envOfC qual (defScope st) s.heap.objs.size f cdv)) → L2N.Takes (cxOf (L2N.CX P w) P w K mg base N qual (defScope st) f cdv A outer s H E) (fun c d _ H => E c d H) →
      DSs ⟨K, adr, pu⟩ (fun c d _ H => E c d H) (cxOf (L2N.CX P w) P w K mg base N qual (defScope st) f cdv A outer s H E) (defBody st) mb) : Pr P w K mg base adr key kk n mf := by
  obtain ⟨fd, F⟩ := D0.ex
  subst hn hN hk
  rw [hf]
  exact ⟨fd, ps, fn_D F S fun pu cdv A outer s H E hr => hbody pu _ cdv A outer s H E hr takes_cx, F.binds hb, F.kp⟩
theorem pr_NX {L : List (List Str × List Nat)} (D0 : DefAt K adr key nm qual st) (S : FnScope N ps (defScope st)) (hn : ps.length = n) {nN kk : Nat} (hf : mf = runD nN mb) (hN : N.length = nN) (hk : kk = k + 1) (hb : BindsBy st nm qual ps)
    (hkb : ∀ q ∈ L, ∀ (kV doc pm : Value) (an : Option Addr) (cdv ct a : Value) (ws : List Value), ws.length = q.1.length → bindArgs (PySem.W.fnOf nm qual (defArgs st) (defBody st) (defScope st) .none kV doc pm an cdv ct) ⟨[a], q.1.zip ws⟩ = pure (ps.zip (a :: pick q.2 ws)))
    (hbody : ∀ (pu : Option Addr) (f : Addr) (cdv : Value) (A : Around) (outer : List Env) (s : Shared) (H : Hp) (E : XK), Room k (A.deeper (envOfC qual (defScope st) s.heap.objs.size f cdv)) → L2N.Takes (cxOf (L2N.CX P w) P w K mg base N qual (defScope st) f cdv A outer s H E) (fun c d _ H => E c d H) →
      DSs ⟨K, adr, pu⟩ (fun c d _ H => E c d H) (cxOf (L2N.CX P w) P w K mg base N qual (defScope st) f cdv A outer s H E) (defBody st) mb) : PrN L P w K mg base adr key kk n mf := by
  obtain ⟨fd, F⟩ := D0.ex
  subst hn hN hk
  rw [hf]
  exact ⟨fd, ps, fn_D F S fun pu cdv A outer s H E hr => hbody pu _ cdv A outer s H E hr takes_cx, F.binds hb, F.kp, fun q hq => kbn_pick F (hkb q hq)⟩
end
section
variable {C : Cn} {W : WX} {X : Cx} {o : Expr} {kws : List Keyword} {pos apos : Pos} {mo : Ev → M D} {ms : Ev → M (List D)} {key nm cn : Str} {mf : List D → M D} {k : Nat}
def mMethKX (cn nm : Str) (is : List Nat) (mf : List D → M D) (mo : Ev → M D) (ms : Ev → M (List D)) : Ev → M D := fun env => M.bind (mo env) fun o => M.bind (optM (recvO cn nm o)) fun o => M.bind (ms env) fun ds => if (pick is ds).length = is.length ∧ ds.length = is.length then mf (o :: pick is ds) else M.stuck
theorem x_methKX {L : List (List Str × List Nat)} {ks : List Str} {is : List Nat} {pl : Sem Bool} (F : PrN L X.prog X.w X.K X.mg X.base C.adr key k (is.length + 1) mf) (hK : X.K = C.K) (tk : L2N.Takes X W) (hr : Room k X.A) (hc : Cls X.K (C.adr cn)) (hm : Meth X.K (C.adr cn) nm (C.adr key)) (hq : (ks, is) ∈ L) (hl : ks.length = is.length) (ho : DE C W X o mo) (ha : DK C W X kws ms)
    (hall : (backToKw pos (keywordEach kws X.env)).all (·.1.isSome) = true := by rfl) (hks : (backToKw pos (keywordEach kws X.env)).filterMap (·.1) = ks := by rfl)
    (hpl : ((backTo pos (starEach [] X.env)).any (·.1) || (backToKw pos (keywordEach kws X.env)).any (·.1.isNone)) = false := by rfl)
    (ht : eval (.Call (.Attribute o nm apos) [] kws pos) X.env = (do
      let ov ← eval o X.env
      standAt apos.atName
      let (f, first) ← holding [ov] (getMethod ov nm pl)
      callWith pos f first (backTo pos (starEach [] X.env)) (backToKw pos (keywordEach kws X.env))) := by rfl) :
    DE C W X (.Call (.Attribute o nm apos) [] kws pos) (mMethKX cn nm is mf mo ms) := fun B0 H0 B H σ env P fr Q q pins s I => by
  obtain ⟨fd, ps, F, hb, hk, kb⟩ := F.ex
  have kb := kb _ hq
  refine PySem.W.methodCall_KW (pl := pl) (thn (ho B0 H0 B H σ env P fr (fun x H1 => ∃ a dx fs, x = .ref a ∧ H1 a = some (.ins (C.adr cn) dx fs) ∧ fs.lookup nm = none ∧ wK X kws σ H1 (fun vs H2 => vs.length = ks.length ∧ spD C.K C.adr (is.length + 1) mf ([.ref a] ++ pick is vs) H2 Q (WE W σ))) (Post.bind q fun d P1 _ v B1 H1 g1 p1 r1 q => ?_) pins s I) fun u s1 ⟨x, H1, I1, rx, a, dx, fs, ex, ea, l, q⟩ => ?_) ht
  · obtain ⟨d', e1, q9⟩ := Post.opt' q
    obtain ⟨fs, rfl, rfl, l⟩ := recvO_of e1
    cases r1 with
    | obj s r =>
      refine ⟨_, _, _, rfl, g1.sub _ _ s, r.none l, ha B0 H0 B1 H1 σ env P1 (fr.grow g1 p1) _ (Post.bind q9 fun ds P2 em vs B2 H2 g2 p2 r2 q8 => ?_)⟩
      have r2' : Reps C B2 vs ds := r2
      by_cases hl3 : (pick is ds).length = is.length ∧ ds.length = is.length
      · rw [if_pos hl3] at q8
        refine ⟨by rw [r2'.length, hl]; exact hl3.2, ?_, C.pu, B2, _, P2, .cons ((Rep.obj s r).mono g2.bb) (Reps.pickB r2' is), g2.sub, p2, Post.toF (Hs := H1) q8⟩
        show (V.ref _ :: pick is vs).length = _
        rw [List.length_cons, (Reps.pickB r2' is).length, hl3.1]
      · rw [if_neg hl3] at q8
        exact q8.elim
  · subst ex
    obtain rfl : u = Value.ref a := rx
    refine getmeth_ok I1 ea hc hm l ?_
    refine PySem.W.callWith_KW0 (first := [.ref a]) (h₀ := X.base) I1.ok.mod.kin hm.kp hall (thn (q pos pins s1 I1) fun ws s2 ⟨zs, H2, I2, rz, l2, q2⟩ => ⟨I2.kIn, ?_⟩) hpl
    rw [hks]
    have r2 := kb.rel (vs := [.ref a]) (us := [.ref a]) (.cons rfl .nil) rz
    refine wpAny_call (codeAny_mono (F.run X.A X.stack s2 H2 ⟨[.ref a], ks.zip ws⟩ _ _ Q (WE W σ) hr I2.env0 (kb.to s2 [.ref a] ws I2.kIn rfl (rz.length.symm.trans l2)) r2 (by rw [hK]; exact q2)) fun r s' hq => ?_)
    cases r with
    | error e => exact L2N.passAt tk σ _ H2 s2 e s' I2 hq
    | ok fl =>
      cases fl with
      | ret u => exact I2.after hq
      | next => exact False.elim hq
      | brk => exact False.elim hq
      | cont => exact False.elim hq
end
end PD

set_option Elab.async false
set_option linter.all false
set_option maxRecDepth 100000
/-! PD27: dicts of flat values: {}, {k: v}; repr of what holds dicts and no list. -/
namespace PD
open PySem PySem.Spec PyProof.Rows L2 RZ ClX
def flatP : D → Option PyData
  | .non => some .none
  | .bl b => some (.bool b)
  | .int i => some (.int i)
  | .str x => some (.str x)
  | _ => none
def keyP : Key → PyData
  | .inl i => .int i
  | .inr x => .str x
def toPyP : List (Key × D) → Option (List (PyData × PyData))
  | [] => some []
  | (k, d) :: r => match flatP d, toPyP r with
    | some p, some ps => some ((keyP k, p) :: ps)
    | _, _ => none
mutual
def toPyK : D → Option PyData
  | .non => some .none
  | .bl b => some (.bool b)
  | .int i => some (.int i)
  | .str x => some (.str x)
  | .tup xs => (toPysK xs).map .tuple
  | .dic kvs => (toPyP kvs).map .dict
  | _ => none
def toPysK : List D → Option (List PyData)
  | [] => some []
  | x :: xs => match toPyK x, toPysK xs with
    | some p, some ps => some (p :: ps)
    | _, _ => none
end
section
variable {X : Cx} {C : Cn} {pins : List (Addr × Obj)} {σ : L2.St} {H B : Hp} {s : Shared}
theorem flat_reads {h : Heap} : ∀ {v : V} {d : D} {p : PyData} {u : Value}, Rep C B v d → flatP d = some p → RelV v u → Reads h u p []
  | _, _, _, _, .non, e, r => by cases e; cases r; exact .none
  | _, _, _, _, .bl b, e, r => by cases e; cases r; exact .bool b
  | _, _, _, _, .int i, e, r => by cases e; obtain ⟨t, rfl⟩ := r; exact .int i t
  | _, _, _, _, .str x, e, r => by cases e; obtain ⟨t, rfl⟩ := r; exact .str x t
  | _, _, _, _, .tup _ _, e, _ => by cases e
  | _, _, _, _, .lst _ _, e, _ => by cases e
  | _, _, _, _, .scr _ _, e, _ => by cases e
  | _, _, _, _, .dic _ _, e, _ => by cases e
  | _, _, _, _, .obj _ _, e, _ => by cases e
  | _, _, _, _, .pur _, e, _ => by cases e
  | _, _, _, _, .cls _, e, _ => by cases e
  | _, _, _, _, .ty _, e, _ => by cases e
theorem pairs_reads {P : Program} {w : World} {h : Heap} {es : List DictEntry} {vs : List (Key × Value)} {kvs : List (Key × V)} (q : Pairs (mixKind P w) es vs) (kv : KV kvs vs) : ∀ {ds : List (Key × D)} {ps : List (PyData × PyData)}, RepK C B kvs ds → toPyP ds = some ps →
    ReadsAll h (es.map (·.key)) (ps.map (·.1)) [] ∧ ReadsAll h (es.map (·.val)) (ps.map (·.2)) [] := by
  induction kv generalizing es with
  | nil =>
    intro ds ps r e
    cases r
    cases e
    cases q
    exact ⟨.nil, .nil⟩
  | @cons p1 p2 l1 l2 hk _ ih =>
    intro ds ps r e
    obtain ⟨k1, v1⟩ := p1
    obtain ⟨k2, v2⟩ := p2
    obtain ⟨rfl, rv⟩ := hk
    cases r with
    | @cons _ _ _ d ds2 rd rt =>
      unfold toPyP at e
      cases h1 : flatP d with
      | none => rw [h1] at e; cases e
      | some p => cases h2 : toPyP ds2 with
        | none => rw [h1, h2] at e; cases e
        | some ps2 =>
          rw [h1, h2] at e; cases e
          cases q with
          | cons hkey hval qr =>
            obtain ⟨i1, i2⟩ := ih qr rt h2
            have rk : ∀ z : Value, keyIs k1 z = true → Reads h z (keyP k1) [] := fun z hz => by
              rcases keyIs_shape hz with ⟨i, t, e1, e2⟩ | ⟨x, t, e1, e2⟩
              · have e1 : k1 = .inl i := e1
                subst e1
                rw [e2]; exact .int i t
              · have e1 : k1 = .inr x := e1
                subst e1
                rw [e2]; exact .str x t
            refine ⟨.cons (rk _ hkey) i1, ?_⟩
            rw [List.map_cons, hval]
            exact .cons (flat_reads rd h1 rv) i2
mutual
theorem reads_K (I : Inv X pins σ H s) (sm : Same B H) (hK : X.K = C.K) : ∀ {v : V} {d : D} {p : PyData} {u : Value}, Rep C B v d → toPyK d = some p → RelV v u → ∃ as, Reads s.heap u p as ∧ ∀ a ∈ as, a ≠ sysModules
  | _, _, _, _, .non, e, r => by cases e; cases r; exact ⟨[], .none, by simp⟩
  | _, _, _, _, .bl b, e, r => by cases e; cases r; exact ⟨[], .bool b, by simp⟩
  | _, _, _, _, .int i, e, r => by cases e; obtain ⟨t, rfl⟩ := r; exact ⟨[], .int i t, by simp⟩
  | _, _, _, _, .str x, e, r => by cases e; obtain ⟨t, rfl⟩ := r; exact ⟨[], .str x t, by simp⟩
  | _, _, _, _, .tup (ds := ds) sq rs, e, r => by
    unfold toPyK at e
    cases h : toPysK ds with
    | none => rw [h] at e; cases e
    | some ps =>
      rw [h] at e; cases e
      cases r
      have sq2 := sqT_mono sm sq
      rw [← hK] at sq2
      obtain ⟨its, rv, ⟨o, ho, hc, n, hd⟩, _⟩ := I.tuple sq2
      obtain ⟨as, hr, hs⟩ := reads_Ks I sm hK rs h rv
      exact ⟨as, Reads.tuple ho hc hd hr, hs⟩
  | _, _, _, _, .lst _ _, e, _ => by cases e
  | _, _, _, _, .scr _ _, e, _ => by cases e
  | _, _, _, _, .dic (ds := ds) hb rk, e, r => by
    unfold toPyK at e
    cases h : toPyP ds with
    | none => rw [h] at e; cases e
    | some ps =>
      rw [h] at e; cases e
      cases r
      obtain ⟨_, hne, vs, kv, o, es, ep, ho, hx, hd, _, hp, _⟩ := dk_of I.hok (sm _ _ hb)
      obtain ⟨i1, i2⟩ := pairs_reads (h := s.heap) hp kv rk h
      refine ⟨_, Reads.dict ho hx.1 hd i1 i2, fun a ha => ?_⟩
      simp only [List.cons_append, List.append_nil, List.mem_cons, List.not_mem_nil, or_false] at ha
      subst ha
      simpa using hne
  | _, _, _, _, .obj _ _, e, _ => by cases e
  | _, _, _, _, .pur _, e, _ => by cases e
  | _, _, _, _, .cls _, e, _ => by cases e
  | _, _, _, _, .ty _, e, _ => by cases e
theorem reads_Ks (I : Inv X pins σ H s) (sm : Same B H) (hK : X.K = C.K) : ∀ {vs : List V} {ds : List D} {ps : List PyData} {us : List Value}, Reps C B vs ds → toPysK ds = some ps → Vals vs us → ∃ as, ReadsAll s.heap us ps as ∧ ∀ a ∈ as, a ≠ sysModules
  | _, _, _, _, .nil, e, r => by cases e; cases r; exact ⟨[], .nil, by simp⟩
  | _, _, _, _, .cons (d := d) (ds := ds) r1 rt, e, r => by
    unfold toPysK at e
    cases h : toPyK d with
    | none => rw [h] at e; cases e
    | some p => cases h2 : toPysK ds with
      | none => rw [h, h2] at e; cases e
      | some ps =>
        rw [h, h2] at e; cases e
        cases r with
        | cons ra rb =>
          obtain ⟨as, q1, n1⟩ := reads_K I sm hK r1 h ra
          obtain ⟨bs, q2, n2⟩ := reads_Ks I sm hK rt h2 rb
          exact ⟨_, ReadsAll.cons q1 q2, fun a ha => (List.mem_append.mp ha).elim (n1 a) (n2 a)⟩
end
/-- repr of tuples, lists of flat things, and of what holds dicts but no list -/
def reprK : List D → Option D
  | [.tup xs] => match toPyK (.tup xs) with
    | some d => if (d.showable && decide (d.depth ≤ 40) && decide (d.shown.length ≤ cap)) = true then some (.str d.shown) else none
    | none => none
  | _ => none
def reprX (ds : List D) : Option D := match reprO ds with
  | some d => some d
  | none => reprK ds
theorem cl_reprX (gd : X.A.guards = some []) (hu : X.A.units + 64 < cLine) (hK : X.K = C.K := by rfl) : CallOk C X (.builtin "repr") (RD C) fun ds => optM (reprX ds) := ⟨fun xs H Q => ∀ pins s σ us, Inv X pins σ H s → Vals xs us → wpAny (model X.prog X.w) X.A (call (.builtin "repr") us) (EP X pins σ Q) X.xe s, fun pins s σ H xs us Q I r h => h pins s σ us I r, fun W Hs Ha B H σ P vs ds Q hs sm p rr q pins s σ2 us I rv => by
    obtain ⟨d, e, q⟩ := Post.opt (o := reprX ds) q
    unfold reprX at e
    cases h0 : reprO ds with
    | some d0 =>
      rw [h0] at e; cases e
      obtain ⟨r0, hr0, hr1⟩ := cl_repr (C := C) gd hu hK
      refine hr0 pins s σ2 H vs us Q I rv (hr1 W Hs Ha B H σ P vs ds Q hs sm p rr ?_)
      show Post C W σ B H (RD C Hs) (optM (reprO ds) P) Q
      rw [h0]; exact q
    | none =>
      rw [h0] at e
      have e : reprK ds = some d := e
      match ds, rr, e with
      | [.tup xs], rr, e =>
        unfold reprK at e
        obtain ⟨v, rfl, r⟩ := rr.one
        cases h1 : toPyK (.tup xs) with
        | none => simp only [h1] at e; cases e
        | some d2 =>
          simp only [h1] at e
          split at e
          · rename_i hc
            cases e
            simp only [Bool.and_eq_true, decide_eq_true_eq] at hc
            rcases r with r | ⟨_, _, _, w, _⟩
            · cases rv with
              | cons rv1 rt =>
                cases rt
                obtain ⟨as, rd, hn⟩ := reads_K I sm hK r h1 rv1
                cases r with
                | tup _ _ =>
                  cases rv1
                  exact repr_of_reads' (h₀ := s.heap) rd hc.1.1 (fun _ z => hn _ z rfl) gd (by have := hc.1.2; omega) (fun _ _ z => z) (fun h' u tk hk => ⟨.str d2.shown, H, I.kept hk, ⟨_, rfl⟩, Post.val (R := RD C Hs) q sm p (.str _)⟩) (cap_le hc.2)
            · cases w
          · cases e⟩
end
end PD

set_option Elab.async false
set_option linter.all false
set_option maxRecDepth 100000
/-! PD28: {} and {k: v} of written ints. -/
namespace PD
open PySem PySem.Spec PyProof.Rows L2 RZ ClX
section
variable {C : Cn} {W : WX} {X : Cx} {pos : Pos}
theorem e_dic0 : DE C W X (.Dict [] [] pos) (mC (.dic [])) := fun B0 H0 B H σ env P fr Q q =>
  wE_of pe_dnewK fun p hp => q (.ref p) _ _ (Grow.new fr.g.sub hp) (Pur.new fr.pur fr.g.sub hp) (.dic upd_same .nil)
theorem e_dic1 {k v : Int} {ke ve : Expr} (hk : PE X ke (tC (.int k))) (hv : PE X ve (tC (.int v))) : DE C W X (.Dict [some ke] [ve] pos) (mC (.dic [(.inl k, .int v)])) := fun B0 H0 B H σ env P fr Q q => by
  refine wE_of (pe_disp (pps_cons hk hv pps_nil) rfl rfl (by simp) (by simp)) fun p hp => ?_
  refine ⟨upd_same, [(.inl k, .int v)], rfl, by simp, ?_⟩
  have e : upd (upd H p (.dK [])) p (.dK (mergeK [] [(.inl k, .int v)])) = upd H p (.dK [(.inl k, .int v)]) := by
    rw [upd_upd]; rfl
  rw [e]
  exact q (.ref p) _ _ (Grow.new fr.g.sub hp) (Pur.new fr.pur fr.g.sub hp) (.dic upd_same (.cons (.int v) .nil))
end
section
variable {pos : Pos} {es : List Expr} {env : Env}
theorem st_dict {ks : List (Option Expr)} {vs : List Expr} : starEach (.Dict ks vs pos :: es) env = (false, eval (.Dict ks vs pos) env) :: starEach es env := by rfl
end
end PD

set_option Elab.async false
set_option linter.all false
set_option maxRecDepth 100000
/-! PD29: try with several clauses «except C as e», loops in defs that may raise. -/
namespace PD
open PySem PySem.Spec PyProof.Rows L2 RZ ClX
/-- a clause: the class asked for, the slot of its name, what its suite does -/
abbrev Cls1 := Value × Nat × (Addr → Value → Option Addr → TS)
def ebk (i : Nat) (D : Ends) : Ends where
  nx := fun σ H => D.nx (σ.set i none) H
  rt := D.rt
  bk := fun σ H => D.bk (σ.set i none) H
  ct := fun σ H => D.ct (σ.set i none) H
def wCls (K : PySem.W.Frag) (Wo : WX) (D : Ends) : List Cls1 → WX
  | [] => Wo
  | (c, i, ts) :: r => fun cls d σ H => ∃ b, PySem.W.exmOne K cls c = some b ∧ (b = true → ∀ a, H a = none → ts a cls d (ebk i D) (σ.set i (some (.ref a))) H) ∧ (b = false → wCls K Wo D r cls d σ H)
inductive ClsOk (X : Cx) : List ExceptHandler → List Cls1 → Prop
  | nil : ClsOk X [] []
  | cons {x n : Str} {c : Value} {i : Nat} {ts : Addr → Value → Option Addr → TS} {b0 : Stmt} {su : List Stmt} {np pp : Pos} {hds : List ExceptHandler} {r : List Cls1} (hi : X.N[i]? = some n) (hl : X.env.kindOf n = some .local) (hc : Names X x c)
      (hsu : ∀ (a : Addr) (oe : Obj) (cls : Value) (d : Option Addr) (pn : List (Addr × Obj)), Zc cls d oe → (∃ vs, oe.data = .fields vs) → PSs (X.suite a ((a, oe) :: pn)) (b0 :: su) (ts a cls d)) (t : ClsOk X hds r) :
      ClsOk X (.ExceptHandler (some (.Name x np)) (some n) (b0 :: su) pp :: hds) ((c, i, ts) :: r)
section
variable {X : Cx} {body : List Stmt} {k0 : ExceptHandler} {ks : List ExceptHandler} {l : List Cls1} {pos : Pos} {tb : WX → TS} {Wo : WX}
theorem ps_tryCls (hs : X.stack = X.env :: X.outer) (hf : X.env.frame = some X.env.locals) (hN : X.N.Nodup) (tk : Takes X Wo)
    (hb : ∀ (W : WX) (pn : List (Addr × Obj)) (xe : Value → Shared → Prop), Takes (X.tr pn xe) W → PassesOwn (model X.prog X.w) X.A X.env xe → PSs (X.tr pn xe) body (tb W)) (hk : ClsOk X (k0 :: ks) l) :
    PS X (.Try body (k0 :: ks) [] [] pos) (fun D σ H => tb (wCls X.K Wo D l) D σ H) := ⟨fun pins s σ H D I h => by
  have okX := I.ok
  have fX : X.A.frames = some (X.env :: X.outer) := by rw [okX.frames, hs]
  refine wpAny_Try_except (wpAny_mono ((hb (wCls X.K Wo D l) (X.pn ++ pins) (fun e z1 => wpAny (model X.prog X.w) X.A (noteFrame e X.env) (fun _ z2 => wpAny (model X.prog X.w) X.A (setFlight e none)
    (fun _ z3 => wpAny (model X.prog X.w) X.A (handleBy e X.env (k0 :: ks)) (SP X pins D) X.xe z3) X.xe z2) X.xe z1) (fun u s' xx => ?_) PassesOwn.looking).run [] s σ H D (I.toTry _) h) (fun fl z1 sp => ?_) fun _ _ q => q)
  rotate_left
  · cases fl with
    | ret u =>
      obtain ⟨v, τ, G, J, r, q⟩ := sp
      exact ⟨v, τ, G, J.ofTry okX, r, q⟩
    | next =>
      obtain ⟨τ, G, J, q⟩ := sp
      exact wpAny_execs_nil ⟨τ, G, J.ofTry okX, q⟩
    | brk =>
      obtain ⟨τ, G, J, q⟩ := sp
      exact ⟨τ, G, J.ofTry okX, q⟩
    | cont =>
      obtain ⟨τ, G, J, q⟩ := sp
      exact ⟨τ, G, J.ofTry okX, q⟩
  obtain ⟨a, B, sI, pins', τ, G, cls, d, rfl, J0, nb, up, sky, na, os, ag, w⟩ := xx
  have J := J0.ofTry (pins := pins) okX
  rw [show (X.tr (X.pn ++ pins) _).stack = X.env :: X.outer from hs] at sky
  refine Sky.land Zc.steady fX hf sky fun ha fa upa => ?_
  have JA : Inv X pins τ G { s' with heap := ha } := J.landed nb fa.1 (up.trans upa) os ag
  obtain ⟨oa, va, ea, za, da⟩ := fa.there
  have away : a ∉ frs (X.env :: X.outer) := fun z => by
    obtain ⟨_, o2, e2, n2⟩ := fa.2.2.1.mem z
    rw [ea] at e2
    cases e2
    exact n2 _ da
  have aL : a ≠ X.env.locals := fun z => away (List.mem_filterMap.mpr ⟨X.env, by simp, by rw [hf, z]⟩)
  have aF : a ∉ X.fs := fun z => by
    obtain ⟨e, m1, m2⟩ := List.mem_filterMap.mp z
    exact away (List.mem_filterMap.mpr ⟨e, by simp [m1], m2⟩)
  have SA := JA.suite ea da na aL aF
  have along : ∀ {hds : List ExceptHandler} {r : List Cls1}, ClsOk X hds r → wCls X.K Wo D r cls d τ G → wpAny (model X.prog X.w) X.A (handleBy (.ref a) X.env hds) (SP X pins D) X.xe { s' with heap := ha } := by
    intro hds r ck
    induction ck with
    | nil =>
      intro w
      refine wpAny_handleBy_nil ?_
      obtain ⟨q1, q2, q3, o3, w3, T, oT, tT, e3, z3, d3, t3, r3⟩ := id fa
      unfold PySem.passOn
      refine wpAny_bind (wpAny_field e3 d3 t3 ?_)
      rw [if_neg (show ¬ ((Value.ref T == Value.none) = true) by simp)]
      have lift : wpAny (model X.prog X.w) X.A (setFlight (.ref a) X.env.frame) (fun _ z4 => wpAny (model X.prog X.w) X.A (throw (.ref a) : Sem Flow) (SP X pins D) X.xe z4) X.xe { s' with heap := ha } := by
        rw [hf]
        exact HandSPX.setFlight_upZ fa fun hu hh upu => wpAny_throw (tk _ _ ⟨a, B, sI, pins, τ, G, cls, d, rfl, J, nb, (up.trans upa).trans upu, .inr (.inr (by rw [hs]; exact hh)), na, os, ag, w⟩)
      first
        | exact wpAny_bind (wpAny_pure (wpAny_bind lift))
        | exact wpAny_bind lift
    | @cons x n c i ts b0 su np pp hds2 r2 hi hl hc hsu t ih =>
      intro w
      obtain ⟨b, eb, wy, wn⟩ := w
      refine wpAny_handleBy_cons (codeAny_handlers_test ?_) (by intro z; cases z)
      have lt : PySem.W.Looks (model X.prog X.w) ha (typeOf (.ref a)) cls := fun A Q E z kz q => wpAny_typeOf_ref (kz _ _ ea) (by rw [za.1]; exact q)
      have asks : ∀ {Q E : Value → Shared → Prop}, Q c { s' with heap := ha } → wpAny (model X.prog X.w) (X.A.mark (some (.ref a))) (eval (.Name x np) X.env) Q E { s' with heap := ha } := fun {Q E} q => by
        obtain ⟨g1, g2, g3 | ⟨g3, g4, g5⟩⟩ := hc
        · exact ld_glob SA g1 g3 q g2
        · exact ld_blt SA g1 g3 g4 q g5 g2
      refine asks ((PySem.W.exm_one (M := model X.prog X.w) (JA.kIn) lt eb).here ?_)
      cases b with
      | false => exact ih (wn rfl)
      | true =>
        refine codeAny_handlers_suite_as (HandSPX.lands_againZ fa fun hb fb upb => ?_)
        have JB : Inv X pins τ G { s' with heap := hb } := J.landed nb fb.1 ((up.trans upa).trans upb) os ag
        obtain ⟨ob, vb, eb2, zb, db⟩ := fb.there
        refine store_ok (X := X.suite a ((a, ob) :: (X.pn ++ pins))) (v := .ref a) (JB.suite eb2 db na aL aF) hN hi (.inl hl) rfl (fun z5 S5 => ?_) (.inr hl)
        refine wpAny_mono ((hsu a ob cls d (X.pn ++ pins) zb ⟨_, db⟩).run [] z5 _ G _ S5 (wy rfl a na)) (fun fl z6 sp => ?_) (fun _ _ z => z.elim)
        have over : ∀ {τ6 : L2.St} {G6 : Hp} {Q : Shared → Prop}, Inv (X.suite a ((a, ob) :: (X.pn ++ pins))) [] τ6 G6 z6 → (∀ z7, Inv X pins (τ6.set i none) G6 z7 → Q z7) →
            wpAny (model X.prog X.w) X.A (do bindName X.env n .none; unbindBehindTheSuite X.env n pp) (fun _ z7 => Q z7) X.xe z6 := fun S6 q6 => gone_ok (S6.unsuite okX) hN hi hl q6
        cases fl with
        | ret u =>
          obtain ⟨v6, τ6, G6, S6, r6, q6⟩ := sp
          exact over S6 fun z7 J7 => ⟨_, _, _, J7, r6, q6⟩
        | next =>
          obtain ⟨τ6, G6, S6, q6⟩ := sp
          exact over S6 fun z7 J7 => ⟨_, _, J7, q6⟩
        | brk =>
          obtain ⟨τ6, G6, S6, q6⟩ := sp
          exact over S6 fun z7 J7 => ⟨_, _, J7, q6⟩
        | cont =>
          obtain ⟨τ6, G6, S6, q6⟩ := sp
          exact over S6 fun z7 J7 => ⟨_, _, J7, q6⟩
  exact along hk w⟩
end
section
variable {P : Program} {w : World} {K : PySem.W.Frag} {mg : Str → Option Value} {base : Heap}
theorem passes_cx {N : List Str} {qual : Str} {scope : Scope} {f : Addr} {cdv : Value} {A : Around} {outer : List Env} {s : Shared} {H : Hp} {E : XK} :
    PassesOwn (model P w) (cxOf (L2N.CX P w) P w K mg base N qual scope f cdv A outer s H E).A (cxOf (L2N.CX P w) P w K mg base N qual scope f cdv A outer s H E).env (cxOf (L2N.CX P w) P w K mg base N qual scope f cdv A outer s H E).xe := passes_of rfl
end
end PD

set_option Elab.async false
set_option linter.all false
set_option maxRecDepth 100000
/-! PD30: C(..) of an own class whose __init__ may raise. -/
namespace PD
open PySem PySem.Spec PyProof.Rows L2 RZ ClX
def mMakeX (cn : Str) (mf : List D → M D) (ms : Ev → M (List D)) : Ev → M D := fun env => M.bind (ms env) fun ds => fun P => if noPurs ds = true then (match mf (.pur :: ds) (.slf cn []) with
  | .ok .non (.slf c fs) => if c = cn ∧ noPurF fs = true then .ok (.obj cn fs) P else .stuck
  | .exc (.exc c fs) _ => if noPurF fs = true then .exc (.exc c fs) P else .stuck
  | _ => .stuck) else .stuck
section
variable {C : Cn} {W : WX} {X : Cx} {e : Expr} {es : List Expr} {p pos : Pos} {ms : Ev → M (List D)} {x : Str}
theorem makeX_ok {vs : List V} {ds : List D} {B H : Hp} {σ : L2.St} {P : Pu} {n : Nat} {cn : Str} {mf : List D → M D} {Q : VK} {Hs : Hp} (hn : ds.length = n) (r : Reps C B vs ds) (s : Same B H) (p : Pur C B H P)
    (q : Post C W σ B H (RD C Hs) (if noPurs ds = true then (match mf (.pur :: ds) (.slf cn []) with
      | .ok .non (.slf c fs) => if c = cn ∧ noPurF fs = true then .ok (.obj cn fs) P else .stuck
      | .exc (.exc c fs) _ => if noPurF fs = true then .exc (.exc c fs) P else .stuck
      | _ => .stuck) else .stuck) Q) :
    ∀ x dx, H x = none → H dx = none → dx ≠ x → spD C.K C.adr (n + 1) mf (.ref x :: vs) (upd (upd H dx (.own x)) x (.ins (C.adr cn) dx [])) (fun v H2 => v = .non ∧ Q (.ref x) H2) (WE W σ) := by
  intro x dx hx hdx ne
  by_cases hp : noPurs ds = true
  · rw [if_pos hp] at q
    have bx : B x = none := s.free hx
    have bdx : B dx = none := s.free hdx
    have nx : ∀ {a : Addr}, H a ≠ none → a ≠ x := fun {a} h z => h (by rw [z]; exact hx)
    have nd : ∀ {a : Addr}, H a ≠ none → a ≠ dx := fun {a} h z => h (by rw [z]; exact hdx)
    have up : ∀ {c : Str} {a : Addr}, H a ≠ none → (upd (upd H dx (.own x)) x (.ins (C.adr c) dx [])) a = H a := fun {c a} h => by rw [upd_ne (nx h), upd_ne (nd h)]
    have s2 : ∀ {c : Str}, Same B (upd (upd H dx (.own x)) x (.ins (C.adr c) dx [])) := fun {c} a o e => by
      have h := s a o e
      rw [up (by rw [h]; simp)]; exact h
    cases em : mf (.pur :: ds) (.slf cn []) with
    | stuck => rw [em] at q; exact q.elim
    | exc y P' =>
      rw [em] at q
      cases y with
      | exc c fs =>
        have q : Post C W σ B H (RD C Hs) (if noPurF fs = true then .exc (.exc c fs) P else .stuck) Q := q
        by_cases hf : noPurF fs = true
        · rw [if_pos hf] at q
          refine ⟨by rw [List.length_cons, r.length, hn], some x, B, .pur :: ds, .slf cn [], .cons (.pur rfl) (Reps.cn (C := C) (p := some x) hp r), s2, fun a e => ?_, ?_⟩
          · cases e
            exact ⟨⟨_, upd_same, dx, [], rfl, .nil⟩, bx⟩
          · rw [em]
            intro cls dd B3 H3 g3 p3 i3
            refine q cls dd B3 H3 ⟨g3.bb, g3.sub, fun a u e n => ?_, fun a h k => ?_⟩ (fun a e => ?_) ?_
            · have hn : H a ≠ none := by rw [e]; simp
              exact g3.hh a u (by rw [up hn]; exact e) (fun z => nx hn (by cases z; rfl))
            · exact g3.nb a h (by rw [up k]; exact k)
            · obtain ⟨⟨o, ho', hh⟩, ba⟩ := p a e
              have hna : H a ≠ none := by rw [ho']; simp
              exact ⟨⟨o, g3.hh a o (by rw [up hna]; exact ho') (fun z => nx hna (by cases z; rfl)), hh.mono g3.bb⟩, (g3.nb a ba (by rw [up hna]; exact hna)).1⟩
            · obtain ⟨c', fs', e1, e2, e3⟩ := i3
              cases e1
              refine ⟨c, fs, rfl, e2, ?_⟩
              rcases e3 with e3 | ⟨d, vs', h1, h2, h3⟩
              · exact .inl e3
              · exact .inr ⟨d, vs', h1, h2, RepF.cn (C := ⟨C.K, C.adr, some x⟩) (p := C.pu) hf h3⟩
        · rw [if_neg hf] at q; exact q.elim
      | _ => exact q.elim
    | ok d P' =>
      rw [em] at q
      cases P' with
      | pl l => cases d <;> exact q.elim
      | slf c fs =>
        cases d with
        | non =>
          have q : Post C W σ B H (RD C Hs) (if c = cn ∧ noPurF fs = true then .ok (.obj cn fs) P else .stuck) Q := q
          by_cases hc : c = cn ∧ noPurF fs = true
          · rw [if_pos hc] at q
            obtain ⟨rfl, hf⟩ := hc
            refine ⟨by rw [List.length_cons, r.length, hn], some x, B, .pur :: ds, .slf c [], .cons (.pur rfl) (Reps.cn (C := C) (p := some x) hp r), s2, fun a e => ?_, ?_⟩
            · cases e
              exact ⟨⟨_, upd_same, dx, [], rfl, .nil⟩, bx⟩
            · rw [em]
              intro v B3 H3 g3 p3 r3
              cases r3
              obtain ⟨⟨o, ho, hh⟩, b3⟩ := p3 x rfl
              obtain ⟨dx', fv, rfl, rf⟩ := hh
              have rf' : RepF C B3 fv fs := RepF.cn (C := ⟨C.K, C.adr, some x⟩) (p := C.pu) hf rf
              have gg : Grow C B H (upd B3 x (.ins (C.adr c) dx' fv)) H3 := by
                refine ⟨fun a u e => ?_, fun a u e => ?_, fun a u e n => ?_, fun a h k => ?_⟩
                · have h := g3.bb a u e
                  rw [upd_ne (ne_of_none h b3)]; exact h
                · by_cases h : a = x
                  · subst h; rw [upd_same] at e; cases e; exact ho
                  · rw [upd_ne h] at e; exact g3.sub a u e
                · have hn : H a ≠ none := by rw [e]; simp
                  exact g3.hh a u (by rw [up hn]; exact e) (fun z => nx hn (by cases z; rfl))
                · obtain ⟨z1, z2⟩ := g3.nb a h (by rw [up k]; exact k)
                  exact ⟨by rw [upd_ne (nx k)]; exact z1, z2⟩
              have sm : Same B3 (upd B3 x (.ins (C.adr c) dx' fv)) := Same.fz b3
              refine ⟨rfl, q (.ref x) _ H3 gg (fun a e => ?_) (.obj upd_same (rf'.mono sm))⟩
              obtain ⟨⟨o, ho', hh⟩, ba⟩ := p a e
              have hna : H a ≠ none := by rw [ho']; simp
              exact ⟨⟨o, g3.hh a o (by rw [up hna]; exact ho') (fun z => nx hna (by cases z; rfl)), (hh.mono g3.bb).mono sm⟩, (gg.nb a ba hna).1⟩
          · rw [if_neg hc] at q; exact q.elim
        | _ => exact q.elim
  · rw [if_neg hp] at q; exact q.elim
theorem x_makeX {cn key : Str} {k n : Nat} {mf : List D → M D} (F : Pr X.prog X.w X.K X.mg X.base C.adr key k (n + 1) mf) (hK : X.K = C.K) (tk : L2N.Takes X W) (hr : Room (k + 1) X.A) (M0 : Mk X.K (C.adr cn) (C.adr key)) (hm : X.mg x = some (.ref (C.adr cn)))
    (ha : DA C W X (e :: es) ms) (hlen : ∀ env P ds P', ms env P = .ok ds P' → ds.length = n) (hg : Gl X x := by rfl) (hdb : (x == ("__debug__" : Str)) = false := by decide)
    (he : starEach (e :: es) X.env = (false, eval e X.env) :: starEach es X.env := by rfl) (hpl : (backTo pos (starEach es X.env)).any (·.1) = false := by rfl) :
    DE C W X (.Call (.Name x p) (e :: es) [] pos) (mMakeX cn mf ms) := fun B0 H0 B H σ env P fr Q q pins s I => by
  obtain ⟨fd, ps, F, hb, hk⟩ := F.ex
  refine wpAny_Call_Name_kw (ld_glob I hg hm ?_ hdb)
  refine PySem.W.callWith_K (h₀ := X.base) I.ok.mod.kin M0.kp (thn (ha B0 H0 B H σ env P fr (fun vs H1 => ∀ x dx, H1 x = none → H1 dx = none → dx ≠ x → spD C.K C.adr (n + 1) mf (.ref x :: vs) (upd (upd H1 dx (.own x)) x (.ins (C.adr cn) dx [])) (fun v H2 => v = .non ∧ Q (.ref x) H2) (WE W σ))
    (Post.bind q fun ds P1 em vs B1 H1 g1 p1 r1 q9 => makeX_ok (Hs := H) (hlen _ _ _ _ em) r1 g1.sub p1 q9) pos pins s I) fun us s1 ⟨vs, H1, I1, r, q1⟩ => ⟨I1.kIn, ?_⟩) he hpl
  have hq := q1 (s1.heap.objs.size + 1) s1.heap.objs.size (I1.hok.fresh (Nat.le_succ _)) (I1.hok.fresh (Nat.le_refl _)) (Nat.ne_of_lt (Nat.lt_succ_self _))
  have I2 := Inv.made (C := C.adr cn) I1
  have r2 : Vals (V.ref (s1.heap.objs.size + 1) :: vs) (Value.ref (s1.heap.objs.size + 1) :: us) := .cons rfl r
  rw [← hK] at hq
  have hl : ((Value.ref (s1.heap.objs.size + 1) :: us) ++ ([] : List Value)).length = ps.length := by
    rw [List.append_nil, ← r2.length]
    exact F.len _ _ _ _ hq
  have b := hb _ (Value.ref (s1.heap.objs.size + 1) :: us) I2.kIn hl
  rw [List.append_nil] at b
  refine wpAny_call (make_map (f := C.adr key) I1.kIn M0.makes M0.init (beq_iff_eq.mp M0.fn) (codeAny_mono (F.run _ X.stack _ _ ⟨Value.ref (s1.heap.objs.size + 1) :: us, []⟩ (Value.ref (s1.heap.objs.size + 1) :: us) _ _ (WE W σ) (hr.make (C.adr cn) us []) (I2.env0.make (C.adr cn) us []) b r2 hq) fun z s' hz => ?_))
  cases z with
  | error e => exact L2N.passAt tk σ _ _ _ e s' I2 hz
  | ok fl =>
    cases fl with
    | ret u =>
      obtain ⟨v, H', I3, rv, ev, q3⟩ := I2.after hz
      subst ev
      exact ⟨rv, V.ref (s1.heap.objs.size + 1), H', I3, rfl, q3⟩
    | next => exact False.elim hz
    | brk => exact False.elim hz
    | cont => exact False.elim hz
end
end PD

set_option Elab.async false
set_option linter.all false
set_option maxRecDepth 100000
/-! PD31: the clauses of a try, as data: what each lets into the slot ix. -/
namespace PD
open PySem PySem.Spec PyProof.Rows L2 RZ ClX
section
variable {C : Cn} {W : WX} {X : Cx} {o : Expr} {pos : Pos} {ma : Ev → M D} {key f cn : Str} {mf : List D → M D} {k : Nat}
theorem x_propX {pa : Addr} (F : Pr X.prog X.w X.K X.mg X.base C.adr key k 1 mf) (hK : X.K = C.K) (hr : Room (k + 1) X.A) (hc : Cls X.K (C.adr cn)) (hp : PropOf X.K (C.adr cn) f pa (C.adr key)) (ho : DE C W X o ma) (hab : attributeBase o f X.env (eval o X.env) = eval o X.env := by rfl) :
    DE C W X (.Attribute o f pos) (mProp cn mf ma) := by
  obtain ⟨fd, ps, F, hb, hk⟩ := F.ex
  rw [hK] at F
  exact e_prop (C := C) ho (pe_prop pw hc hp (by rw [hK]; exact F) hr hb .nil passN hab)
end
/-- the classes that a clause takes, those it lets by, the slot of its name, what it makes of the fields -/
abbrev Cla := List Str × List Str × Nat × (List (Str × D) → Option D)
def pickC : List Cla → Str → Option (Nat × (List (Str × D) → Option D))
  | [], _ => none
  | (y, n, i, h) :: r, c => if y.contains c = true then some (i, h) else if n.contains c = true then pickC r c else none
def mTryC (cl : List Cla) (ix : Nat) (mb : Ev → M Out) : Ev → M Out := fun env P => match mb env P with
  | .exc (.exc c fs) P' => (match pickC cl c with
    | some (i, h) => if isNo env[i]? = true ∧ i ≠ ix then (match h fs with
      | some d => .ok (.next (env.set ix (.val d))) P'
      | none => .stuck) else .stuck
    | none => .stuck)
  | .exc _ _ => .stuck
  | r => r
def hFld (w f : Str) : List (Str × D) → Option D := fun fs => match fs.lookup f with
  | some d => some (.tup [.str w, d])
  | none => none
def hCst (d : D) : List (Str × D) → Option D := fun _ => some d
/-- what the suite of a clause does: d goes into the slot ix -/
def SuD (C : Cn) (X : Cx) (i ix : Nat) (su : List Stmt) (c : Str) (h : List (Str × D) → Option D) : Prop :=
  ∀ (a : Addr) (oe : Obj) (pn : List (Addr × Obj)) (fs : List (Str × D)) (dd : Option Addr) (d : D) (B0 H0 B H : Hp) (σ : L2.St) (env : Ev) (P : Pu) (E : Ends), Zc (.ref (C.adr c)) dd oe → (∃ vs, oe.data = .fields vs) → h fs = some d → Fr C B0 H0 B H σ env P →
    IsExc C B (.ref (C.adr c)) dd (.exc c fs) → env[i]? = some .no → i ≠ ix → (∀ σ' B' H', Fr C B0 H0 B' H' σ' (env.set ix (.val d)) P → E.nx σ' H') → wSs (X.suite a ((a, oe) :: pn)) su (ebk i E) (σ.set i (some (.ref a))) H
section
variable {C : Cn} {X : Cx} {n y w f : Str} {cv : Value} {i ix : Nat} {c : Str} {yp cp ep fp tp ap pos : Pos} {ck tk2 : Nat}
theorem σ_set {B0 H0 B H : Hp} {σ : L2.St} {env : Ev} {P : Pu} {v : Option V} (fr : Fr C B0 H0 B H σ env P) (h : env[i]? = some .no) : (σ.set i v)[i]? = some v := by
  have hl : i < σ.length := by
    rw [fr.len]
    exact (List.getElem?_eq_some_iff.mp h).1
  rw [List.getElem?_set_self hl]
/-- y = ("w", e.f) -/
theorem su_fld (F : XcF X.K (C.adr c) f cv) (hN : X.N.Nodup) (hi : X.N[i]? = some n) (hix : X.N[ix]? = some y) (hly : Loc X.env.scope y) (hfy : X.fn y = true ∨ X.env.scope.names.lookup y = some .local) (hvn : Vis X.env.scope n)
    (hdn : (n == ("__debug__" : Str)) = false := by decide) (hcn : (n == ("__classdict__" : Str)) = false := by decide) :
    SuD C X i ix [.Assign [.Name y yp] (.Tuple [.Constant (.str w) ck cp, .Attribute (.Name n ep) f fp] tk2 tp) ap] c (hFld w f) := fun a oe pn fs dd d B0 H0 B H σ env P E hz hd he fr ie h2 h3 q => by
  obtain ⟨c', fs', e1, e2, e3⟩ := ie
  cases e1
  unfold hFld at he
  cases hl : fs.lookup f with
  | none => rw [hl] at he; cases he
  | some v0 =>
    rw [hl] at he
    cases he
    rcases e3 with ⟨rfl, _⟩ | ⟨dx, vs, rfl, hb1, rf⟩
    · simp at hl
    obtain ⟨v, hv, rv⟩ := rf.look hl
    refine wSs_of (pss_one (ps_set (X := X.suite a ((a, oe) :: pn)) hN hix hly (pe_tup (pa_cons pe_str (pa_cons (pe_xf F.xf F.no hz hd (pe_var (X := X.suite a ((a, oe) :: pn)) (i := i) hi hvn hdn hcn) rfl) pa_nil rfl) rfl)) rfl hfy)) ?_
    refine ⟨.ref a, σ_set fr h2, rfl, rfl, dx, vs, v, rfl, fr.g.sub _ _ hb1, hv, ?_⟩
    refine ⟨by simp; decide, fun l hl2 => ?_⟩
    have g1 := Grow.new (C := C) (o := .tup [.str w, v]) fr.g.sub hl2
    have f1 := (fr.grow g1 (Pur.new (o := .tup [.str w, v]) fr.pur fr.g.sub hl2)).anyno h2 (some (.ref a))
    have f2 := f1.set ix (d := .tup [.str w, v0]) (v := .ref l) (.tup (.inl (.inl upd_same)) (.cons (.str w) (.cons (rv.mono g1.bb) .nil)))
    exact q _ _ _ (f2.anyno (i := i) (by rw [List.getElem?_set_ne (Ne.symm h3)]; exact h2) none)
/-- y = a value that asks nothing of the heap's data -/
theorem su_cst {e : Expr} {m : Ev → M D} {d0 : D} (he : ∀ (a : Addr) (pn : List (Addr × Obj)), DE C WF (X.suite a pn) e m) (hm : ∀ env P, m env P = .ok d0 P) (hN : X.N.Nodup) (hix : X.N[ix]? = some y) (hly : Loc X.env.scope y) (hfy : X.fn y = true ∨ X.env.scope.names.lookup y = some .local)
    (hs : ∀ pos', swapsWith e (some (.Name y yp)) pos' X.env = pure false := by intro _; rfl) : SuD C X i ix [.Assign [.Name y yp] e ap] c (hCst d0) := fun a oe pn fs dd d B0 H0 B H σ env P E hz hd h1 fr ie h2 h3 q => by
  cases h1
  refine wSs_of (pss_one (ps_set (X := X.suite a ((a, oe) :: pn)) hN hix hly pw (hs _) hfy)) ?_
  have f1 := fr.anyno h2 (some (.ref a))
  refine he a ((a, oe) :: pn) B0 H0 B H _ env P f1 _ ?_
  rw [hm]
  intro v B' H' g p r
  have f2 := (f1.grow g p).set ix (d := d0) (v := v) r
  have f3 := f2.anyno (i := i) (by rw [List.getElem?_set_ne (Ne.symm h3)]; exact h2) none
  exact q _ _ _ f3
end
section
variable {C : Cn} {X : Cx} {body : List Stmt} {k0 : ExceptHandler} {ks : List ExceptHandler} {pos : Pos} {mb : Ev → M Out} {ix : Nat} {Wo : WX}
/-- a clause as it is written, and as data -/
inductive ClaOk (C : Cn) (X : Cx) (ix : Nat) : List ExceptHandler → List Cla → Prop
  | nil : ClaOk C X ix [] []
  | cons {x n : Str} {cv : Value} {b0 : Stmt} {su : List Stmt} {np pp : Pos} {hds : List ExceptHandler} {y no : List Str} {i : Nat} {h : List (Str × D) → Option D} {r : List Cla} (hi : X.N[i]? = some n) (hl : X.env.kindOf n = some .local) (hc : Names X x cv)
      (hy : ∀ c ∈ y, PySem.W.exmOne X.K (.ref (C.adr c)) cv = some true ∧ SuD C X i ix (b0 :: su) c h) (hn : ∀ c ∈ no, PySem.W.exmOne X.K (.ref (C.adr c)) cv = some false) (t : ClaOk C X ix hds r) :
      ClaOk C X ix (.ExceptHandler (some (.Name x np)) (some n) (b0 :: su) pp :: hds) ((y, no, i, h) :: r)
end
end PD

set_option Elab.async false
set_option linter.all false
set_option maxRecDepth 100000
/-! PD32: the rule for such a try. -/
namespace PD
open PySem PySem.Spec PyProof.Rows L2 RZ ClX
section
variable {C : Cn} {X : Cx} {body : List Stmt} {k0 : ExceptHandler} {ks : List ExceptHandler} {pos : Pos} {mb : Ev → M Out} {ix : Nat} {Wo : WX}
theorem cla_run {hds : List ExceptHandler} {cl : List Cla} (ck : ClaOk C X ix hds cl) : ∃ l, ClsOk X hds l ∧ ∀ (Wo : WX) (E : Ends) (c : Str) (fs : List (Str × D)) (dd : Option Addr) (d : D) (i : Nat) (h : List (Str × D) → Option D) (B0 H0 B H : Hp) (σ : L2.St) (env : Ev) (P : Pu),
    pickC cl c = some (i, h) → h fs = some d → Fr C B0 H0 B H σ env P → IsExc C B (.ref (C.adr c)) dd (.exc c fs) → env[i]? = some .no → i ≠ ix → (∀ σ' B' H', Fr C B0 H0 B' H' σ' (env.set ix (.val d)) P → E.nx σ' H') → wCls X.K Wo E l (.ref (C.adr c)) dd σ H := by
  induction ck with
  | nil => exact ⟨[], .nil, fun Wo E c fs dd d i h B0 H0 B H σ env P e => nomatch e⟩
  | @cons x n cv b0 su np pp hds y no i h r hi hl hc hy hn t ih =>
    obtain ⟨l, ok, run⟩ := ih
    refine ⟨(cv, i, fun a cls d D σ H => ∀ (oe : Obj) (pn : List (Addr × Obj)), Zc cls d oe → (∃ vs, oe.data = .fields vs) → wSs (X.suite a ((a, oe) :: pn)) (b0 :: su) D σ H) :: l,
      .cons hi hl hc (fun a oe cls d pn hz hd => ⟨fun pins s σ H D I q => q oe pn hz hd pins s I⟩) ok, fun Wo E c fs dd d i' h' B0 H0 B H σ env P e1 e2 fr ie e3 e4 q => ?_⟩
    unfold pickC at e1
    by_cases k1 : y.contains c = true
    · rw [if_pos k1] at e1
      cases e1
      have m : c ∈ y := by simpa using k1
      exact ⟨true, (hy c m).1, fun _ a ha oe pn hz hd => (hy c m).2 a oe pn fs dd d B0 H0 B H σ env P E hz hd e2 fr ie e3 e4 q, fun z => nomatch z⟩
    · rw [if_neg k1] at e1
      by_cases k2 : no.contains c = true
      · rw [if_pos k2] at e1
        have m : c ∈ no := by simpa using k2
        exact ⟨false, hn c m, (fun z => nomatch z), fun _ => run Wo E c fs dd d i' h' B0 H0 B H σ env P e1 e2 fr ie e3 e4 q⟩
      · rw [if_neg k2] at e1; cases e1
theorem s_tryC {cl : List Cla} (hs : X.stack = X.env :: X.outer) (hf : X.env.frame = some X.env.locals) (hN : X.N.Nodup) (tk : Takes X Wo) (ck : ClaOk C X ix (k0 :: ks) cl)
    (hb : ∀ (W : WX) (pn : List (Addr × Obj)) (xe : Value → Shared → Prop), Takes (X.tr pn xe) W → PassesOwn (model X.prog X.w) X.A X.env xe → DST C W (X.tr pn xe) body mb) :
    DS C Wo X (.Try body (k0 :: ks) [] [] pos) (mTryC cl ix mb) := fun B0 H0 B H σ env P fr E q => by
  obtain ⟨l, ok, run⟩ := cla_run ck
  refine wS_of (ps_tryCls hs hf hN tk (tb := fun W D σ H => ∀ (pn : List (Addr × Obj)) (xe : Value → Shared → Prop), Takes (X.tr pn xe) W → PassesOwn (model X.prog X.w) X.A X.env xe → wSs (X.tr pn xe) body D σ H)
    (fun W pn xe t po => ⟨fun pins s σ H D I h => h pn xe t po pins s I⟩) ok) ?_
  intro pn xe t po
  refine hb _ pn xe t po B0 H0 B H σ env P fr E ?_
  unfold mTryC at q
  cases em : mb env P with
  | stuck => rw [em] at q; exact q.elim
  | ok o P1 =>
    rw [em] at q
    cases o with
    | next e => exact q
    | ret d => exact q
    | brk e => exact q
    | cont e => exact q
  | exc z P1 =>
    rw [em] at q
    cases z with
    | exc c fs =>
      cases hp : pickC cl c with
      | none => simp only [hp] at q; exact q.elim
      | some ih =>
        obtain ⟨i, h⟩ := ih
        simp only [hp] at q
        by_cases hc : isNo env[i]? = true ∧ i ≠ ix
        · rw [if_pos hc] at q
          cases hh : h fs with
          | none => rw [hh] at q; exact q.elim
          | some d =>
            rw [hh] at q
            intro cls dd B' H' g p ie
            obtain ⟨c', fs', e1, e2, e3⟩ := id ie
            cases e1
            subst e2
            exact run Wo E c fs dd d i h B0 H0 B' H' σ env P1 hp hh (fr.grow g p) ie (isNo_of hc.1) hc.2 q
        · rw [if_neg hc] at q; exact q.elim
    | _ => exact q.elim
end
end PD

set_option Elab.async false
set_option linter.all false
set_option maxRecDepth 100000
/-! PD33: does the class that a clause names take an error. -/
namespace PD
open PySem PySem.Spec PyProof.Rows L2 RZ ClX
theorem exm_of {K : PySem.W.Frag} {S G : Addr} {b : Bool} (he : PySem.W.subIn K (.ref G) (.type "BaseException") = some true) (hi : PySem.W.isClsIn K G = true) (ht : PySem.W.typeIn K (.ref G) = some (.type "type")) (hs : PySem.W.subIn K (.ref S) (.ref G) = some b) : PySem.W.exmOne K (.ref S) (.ref G) = some b := by
  unfold PySem.W.exmOne PySem.W.kitCls
  unfold PySem.W.isClsIn at hi
  simp [he, hi, ht, hs]
theorem refs_one {a : Addr} : PySem.HandSPX.refsVE [.ref a, .type "ValueError", .type "Exception", .type "BaseException", .type "object"] = true := by rfl
end PD

set_option Elab.async false
set_option linter.all false
set_option maxRecDepth 100000
/-! PD34: an __init__ that may raise. -/
namespace PD
open PySem PySem.Spec PyProof.Rows L2 RZ ClX
section
variable {P : Program} {w : World} {K : PySem.W.Frag} {mg : Str → Option Value} {base : Heap} {adr : Str → Addr} {key nm qual : Str} {st : Stmt} {N ps : List Str} {k n : Nat} {mb : Ev → M Out} {mf : List D → M D}
theorem pr_KX {ky : Str} (D0 : DefAt K adr key nm qual st) (S : FnScope N ps (defScope st)) (hn : ps.length = n) {nN kk : Nat} (hf : mf = runD nN mb) (hN : N.length = nN) (hk : kk = k + 1) (hb : BindsBy st nm qual ps)
    (hkb : ∀ (kV doc pm : Value) (an : Option Addr) (cdv ct a b : Value), bindArgs (PySem.W.fnOf nm qual (defArgs st) (defBody st) (defScope st) .none kV doc pm an cdv ct) ⟨[a], [(ky, b)]⟩ = pure (ps.zip [a, b]))
    (hbody : ∀ (pu : Option Addr) (f : Addr) (cdv : Value) (A : Around) (outer : List Env) (s : Shared) (H : Hp) (E : XK), Room k (A.deeper (envOfC qual (defScope st) s.heap.objs.size f cdv)) → L2N.Takes (cxOf (L2N.CX P w) P w K mg base N qual (defScope st) f cdv A outer s H E) (fun c d _ H => E c d H) →
      DSs ⟨K, adr, pu⟩ (fun c d _ H => E c d H) (cxOf (L2N.CX P w) P w K mg base N qual (defScope st) f cdv A outer s H E) (defBody st) mb) : PrK ky P w K mg base adr key kk n mf := by
  obtain ⟨fd, F⟩ := D0.ex
  subst hn hN hk
  rw [hf]
  exact ⟨fd, ps, fn_D F S fun pu cdv A outer s H E hr => hbody pu _ cdv A outer s H E hr takes_cx, F.binds hb, F.kp, kbn_one F hkb⟩
end
end PD

set_option Elab.async false
set_option linter.all false
set_option maxRecDepth 100000
/-! PD35: raise C() of an own class without __init__; more of a try's body. -/
namespace PD
open PySem PySem.Spec PyProof.Rows L2 RZ ClX
/-- an own exception class without __init__, below a built-in one -/
structure Exc0 (K : PySem.W.Frag) (C : Addr) : Prop where
  ex : ∃ B newId initId bmB, PySem.ExcBaseFacts B newId initId bmB ∧ PySem.W.excIn K C bmB newId = true
  kp : PySem.W.keepIn K (.ref C) = true
  sub : PySem.W.subIn K (.ref C) (.type "BaseException") = some true
  ty : PySem.W.typeIn K (.ref C) = some (.type "type")
section
variable {C : Cn} {W : WX} {X : Cx} {p pos pos' : Pos} {x : Str}
theorem pmk_bare {A : Addr} (T : Exc0 X.K A) (hm : X.mg x = some (.ref A)) (hg : Gl X x) (hdb : (x == ("__debug__" : Str)) = false := by decide) : L2N.PMk X (.Call (.Name x p) [] [] pos) (fun _ H Q => Q (.ref A) none H) := by
  intro pins s σ H Q I q
  obtain ⟨B, newId, initId, bmB, F, e⟩ := T.ex
  refine wpAny_Call_Name_kw (ld_glob I hg hm ?_ hdb)
  refine PySem.W.callWith_K0 (first := []) I.kIn T.kp ?_
  obtain ⟨_, _, _, _, _, _, _, _, _, _, _, _, _, _, _, _, _, hC, hN, hi, tl⟩ := exc_obj I.kIn e
  exact wpAny_call_exc_subT F tl hC hN hi (fun h' a hx => L2N.mk_of I hx (raises_own T.sub T.ty) q (I.hok.gone hx.new)) (Nat.zero_le _)
def mRaise0 (c : Str) : Ev → M Out := fun _ => M.exc (.exc c [])
theorem s_raise0 {c : Str} (T : Exc0 X.K (C.adr c)) (hc : X.calm = true) (tk : L2N.Takes X W) (hm : X.mg x = some (.ref (C.adr c))) (hg : Gl X x := by rfl) (hdb : (x == ("__debug__" : Str)) = false := by decide) :
    DS C W X (.Raise (some (.Call (.Name x p) [] [] pos)) none pos') (mRaise0 c) := fun B0 H0 B H σ env P fr E q =>
  wS_of (L2N.ps_raise hc tk (pmk_bare T hm hg hdb)) (q (.ref (C.adr c)) none σ B H fr.g fr.pur ⟨c, [], rfl, rfl, .inl ⟨rfl, rfl⟩⟩)
end
end PD

set_option Elab.async false
set_option linter.all false
set_option maxRecDepth 100000
/-! PD36: a try's body of several statements: the first may raise, those behind it raise nothing. -/
namespace PD
open PySem PySem.Spec PyProof.Rows L2 RZ ClX
def DT1 (C : Cn) (W : WX) (X : Cx) (st : Stmt) (m : Ev → M Out) : Prop := ∀ B0 H0 B H σ env P, Fr C B0 H0 B H σ env P → ∀ E, PostT C W σ B0 H0 B H (m env P) E → wS X st E σ H
section
variable {C : Cn} {W : WX} {X : Cx} {e : Expr} {st : Stmt} {sts : List Stmt} {pos : Pos} {m : Ev → M D} {m1 m2 : Ev → M Out} {x : Str}
theorem t1_set (i : Nat) {pos' : Pos} {mx : Ev → M Sl} (hx : DX C W X e mx) (hN : X.N.Nodup) (hi : X.N[i]? = some x := by rfl) (hl : Loc X.env.scope x := by first | exact Or.inl rfl | exact Or.inr rfl)
    (hs : swapsWith e (some (.Name x pos')) pos.line X.env = pure false := by rfl) (hf : X.fn x = true ∨ X.env.scope.names.lookup x = some .local := by first | exact .inl rfl | exact .inr rfl) : DT1 C W X (.Assign [.Name x pos'] e pos) (mSet i mx) := fun B0 H0 B H σ env P fr E q =>
  wS_of (ps_set hN hi hl pw hs hf) (hx B0 H0 B H σ env P fr _ (by
    unfold mSet M.bind at q
    cases em : mx env P with
    | stuck => rw [em] at q; exact q.elim
    | exc y P1 => rw [em] at q; exact q
    | ok s P1 =>
      rw [em] at q
      exact fun v B' H' g p r => q _ B' H' ((fr.grow g p).store i r (fun l h => fr.g.there h) fun l h => fr.fresh h)))
theorem t1_expr (h : DE C W X e m) (hs : swapsWith e none pos.line X.env = pure false := by rfl) : DT1 C W X (.Expr e pos) (mDrop m) := fun B0 H0 B H σ env P fr E q =>
  wS_of (ps_expr pw hs) (h B0 H0 B H σ env P fr _ (by
    unfold mDrop M.bind at q
    cases em : m env P with
    | stuck => rw [em] at q; exact q.elim
    | exc y P1 => rw [em] at q; exact q
    | ok s P1 =>
      rw [em] at q
      exact fun v B' H' g p r => q _ B' H' (fr.grow g p)))
theorem tr_one (h : DT1 C W X st m1) : DST C W X [st] m1 := fun B0 H0 B H σ env P fr E q => wSs_of (pss_one sw) (h B0 H0 B H σ env P fr E q)
theorem tr_more (h : DT1 C W X st m1) (k : DSs C W X sts m2) : DST C W X (st :: sts) (mSeq m1 (mNox m2)) := fun B0 H0 B H σ env P fr E q =>
  wSs_of (pss_cons sw ssw) (h B0 H0 B H σ env P fr _ (by
    unfold mSeq M.bind at q
    cases em : m1 env P with
    | stuck => rw [em] at q; exact q.elim
    | exc y P1 => rw [em] at q; exact q
    | ok o P1 =>
      rw [em] at q
      cases o with
      | next e2 =>
        intro σ' B' H' fr'
        refine k B0 H0 B' H' σ' e2 P1 fr' E ?_
        have q : PostT C W σ B0 H0 B H (mNox m2 e2 P1) E := q
        unfold mNox noexc at q
        cases e3 : m2 e2 P1 with
        | stuck => rw [e3] at q; exact q
        | exc y P2 => rw [e3] at q; exact q.elim
        | ok o P2 =>
          rw [e3] at q
          cases o <;> exact q
      | ret d => exact q
      | brk e2 => exact q
      | cont e2 => exact q))
end
end PD

set_option Elab.async false
set_option linter.all false
set_option maxRecDepth 100000
/-! PD37: a tuple of anything == (); C(k = e) of an own class whose __init__ may raise. -/
namespace PD
open PySem PySem.Spec PyProof.Rows L2 RZ ClX
def eqE : D → D → M Bool
  | .tup xs, .tup [] => M.ok xs.isEmpty
  | _, _ => M.stuck
def rEqE (K : PySem.W.Frag) : R2 := fun x y H Q => ∃ a b xs, x = .ref a ∧ y = .ref b ∧ SqT K H a xs ∧ SqT K H b [] ∧ Q (.bl xs.isEmpty) H
theorem op_eqE {X : Cx} (hu : X.A.units + 64 < cLine) : OpR X (compareOp .Eq) (rEqE X.K) := by
  intro pins s σ H x y v u Q I rx ry h
  obtain ⟨a, b, xs, rfl, rfl, ha, hb, q⟩ := h
  obtain rfl : v = .ref a := rx
  obtain rfl : u = .ref b := ry
  obtain ⟨is1, r1, p1, _⟩ := I.tuple ha
  obtain ⟨is2, r2, p2, _⟩ := I.tuple hb
  cases r2
  refine SeqAt.eq_tupleAt (e := fun _ => true) (show s.heap.IsTuple a is1.toArray from p1) (show s.heap.IsTuple b ([] : List Value).toArray from p2) (by omega) (fun j _ h2 => absurd h2 (by simp)) ⟨.bl xs.isEmpty, H, I, ?_, q⟩
  cases r1 with
  | nil => rfl
  | cons => rfl
section
variable {C : Cn} {W : WX} {X : Cx}
theorem c_eqE (hu : X.A.units + 64 < cLine) (hK : X.K = C.K := by rfl) : CmpOk C X .Eq eqE := ⟨_, op_eqE hu, fun W Ha Hb B H σ P x y a b Q s p ra rb q => by
  unfold eqE at q
  split at q
  · rename_i xs
    obtain ⟨l, us, rfl, r1, h1⟩ := ra.tup s
    obtain ⟨m, ws, rfl, r2, h2⟩ := rb.tup s
    cases r2
    refine ⟨l, m, us, rfl, rfl, by rw [hK]; exact h1, by rw [hK]; exact h2, ?_⟩
    have e : us.isEmpty = xs.isEmpty := by
      cases r1 with
      | nil => rfl
      | cons => rfl
    rw [e]
    exact q.val s p rfl
  · exact q.elim⟩
end
section
variable {C : Cn} {W : WX} {X : Cx} {e : Expr} {p pos kp : Pos} {m : Ev → M D} {x ky : Str}
theorem x_makeKX {cn key : Str} {k : Nat} {mf : List D → M D} (F : PrK ky X.prog X.w X.K X.mg X.base C.adr key k 2 mf) (hK : X.K = C.K) (tk : L2N.Takes X W) (hr : Room (k + 1) X.A) (M0 : Mk X.K (C.adr cn) (C.adr key)) (hm : X.mg x = some (.ref (C.adr cn)))
    (he : DE C W X e m) (hg : Gl X x := by rfl) (hall : (backToKw pos (keywordEach [⟨some ky, e, kp⟩] X.env)).all (·.1.isSome) = true := by rfl) (hks : (backToKw pos (keywordEach [⟨some ky, e, kp⟩] X.env)).filterMap (·.1) = [ky] := by rfl)
    (hdb : (x == ("__debug__" : Str)) = false := by decide) (hpl : ((backTo pos (starEach [] X.env)).any (·.1) || (backToKw pos (keywordEach [⟨some ky, e, kp⟩] X.env)).any (·.1.isNone)) = false := by rfl) :
    DE C W X (.Call (.Name x p) [] [⟨some ky, e, kp⟩] pos) (mMakeX cn mf (mCons m mNil)) := fun B0 H0 B H σ env P fr Q q pins s I => by
  obtain ⟨fd, ps, F, hb, hk, kb⟩ := F.ex
  refine wpAny_Call_Name_kw (ld_glob I hg hm ?_ hdb)
  refine PySem.W.callWith_KW0 (first := []) (h₀ := X.base) I.ok.mod.kin M0.kp hall (thn ((k_cons he k_nil) B0 H0 B H σ env P fr (fun zs H1 => zs.length = 1 ∧ ∀ x dx, H1 x = none → H1 dx = none → dx ≠ x → spD C.K C.adr (1 + 1) mf (.ref x :: zs) (upd (upd H1 dx (.own x)) x (.ins (C.adr cn) dx [])) (fun v H2 => v = .non ∧ Q (.ref x) H2) (WE W σ))
    (Post.bind q fun ds P1 em zs B1 H1 g1 p1 r1 q9 => ?_) pos pins s I) fun ws s1 ⟨zs, H1, I1, rz, l2, q1⟩ => ⟨I1.kIn, ?_⟩) hpl
  · have r1' : Reps C B1 zs ds := r1
    have hl : ds.length = 1 := mCons_len mNil_len env P ds P1 em
    exact ⟨by rw [r1'.length, hl], makeX_ok (Hs := H) hl r1' g1.sub p1 q9⟩
  rw [hks]
  have hq := q1 (s1.heap.objs.size + 1) s1.heap.objs.size (I1.hok.fresh (Nat.le_succ _)) (I1.hok.fresh (Nat.le_refl _)) (Nat.ne_of_lt (Nat.lt_succ_self _))
  have I2 := Inv.made (C := C.adr cn) I1
  rw [← hK] at hq
  have r2 := kb.rel (vs := [V.ref (s1.heap.objs.size + 1)]) (us := [Value.ref (s1.heap.objs.size + 1)]) (.cons rfl .nil) rz
  have hw : ws.length = [ky].length := by rw [← rz.length, l2]; rfl
  have b := kb.to _ [Value.ref (s1.heap.objs.size + 1)] ws I2.kIn rfl hw
  refine wpAny_call (make_map (f := C.adr key) I1.kIn M0.makes M0.init (beq_iff_eq.mp M0.fn) (codeAny_mono (F.run _ X.stack _ _ ⟨[Value.ref (s1.heap.objs.size + 1)], [ky].zip ws⟩ ([Value.ref (s1.heap.objs.size + 1)] ++ ws) _ _ (WE W σ) (hr.make (C.adr cn) [] ([ky].zip ws)) (I2.env0.make (C.adr cn) [] ([ky].zip ws)) b r2 hq) fun z s' hz => ?_))
  cases z with
  | error e => exact L2N.passAt tk σ _ _ _ e s' I2 hz
  | ok fl =>
    cases fl with
    | ret u =>
      obtain ⟨v, H', I3, rv, ev, q3⟩ := I2.after hz
      subst ev
      exact ⟨rv, V.ref (s1.heap.objs.size + 1), H', I3, rfl, q3⟩
    | next => exact False.elim hz
    | brk => exact False.elim hz
    | cont => exact False.elim hz
end
end PD

set_option Elab.async false
set_option linter.all false
set_option maxRecDepth 100000
/-! PD38: several written tuples, f-strings, removeprefix, in on tuples, several fields set at once. -/
namespace PD
open PySem PySem.Spec PyProof.Rows L2 RZ ClX
section
variable {C : Cn} {W : WX} {X : Cx} {a b c e o : Expr} {es : List Expr} {p pos apos : Pos} {ma mb mc m : Ev → M D} {ms : Ev → M (List D)} {x f nm : Str}

/-! ### several written tuples, told apart by their names -/
def lookT : List (Str × List Str) → Str → Option (List Str)
  | [], _ => none
  | (k, ys) :: r, c => if k = c then some ys else lookT r c
def KTs (C : Cn) (tbl : List (Str × List Str)) : Prop := ∀ c ys, lookT tbl c = some ys → KTup C c ys
theorem kts_nil : KTs C [] := fun _ _ e => by cases e
theorem kts_cons {k : Str} {ys : List Str} {tbl : List (Str × List Str)} (h : KTup C k ys) (t : KTs C tbl) : KTs C ((k, ys) :: tbl) := fun d zs e => by
  unfold lookT at e
  by_cases hq : k = d
  · rw [if_pos hq] at e; cases e; subst hq; exact h
  · rw [if_neg hq] at e; exact t d zs e
def ktT (tbl : List (Str × List Str)) : D → Option D
  | .cls c => (lookT tbl c).map fun ys => .tup (ys.map .str)
  | _ => none
theorem e_ktT {tbl : List (Str × List Str)} (kt : KTs C tbl) (h : DE C W X e m) : DE C W X e (mUn m fun d => optM (ktT tbl d)) := fun B0 H0 B H σ env P fr Q q =>
  h B0 H0 B H σ env P fr _ (Post.bind q fun d P1 _ v B1 H1 g1 p1 r1 q => by
    obtain ⟨z, e1, q9⟩ := Post.opt (o := ktT tbl d) q
    cases d with
    | cls c =>
      have e1 : (lookT tbl c).map (fun ys => D.tup (ys.map .str)) = some z := e1
      cases hc : lookT tbl c with
      | none => rw [hc] at e1; cases e1
      | some ys =>
        rw [hc] at e1; cases e1
        cases r1
        exact Post.val (R := RD C H) q9 g1.sub p1 (.tup ((kt c ys hc).sq B1) (Reps.strs ys))
    | _ => cases e1)
def kiT (tbl : List (Str × List Str)) : D → Option (List Str)
  | .cls c => lookT tbl c
  | _ => none
def mTIndexT (tbl : List (Str × List Str)) (ma mb : Ev → M D) : Ev → M D := fun env => M.bind (ma env) fun x => M.bind (optM (kiT tbl x)) fun ys => M.bind (mb env) fun y => optM (indexO (ys.map .str) y)
theorem strs_inj : ∀ {a b : List Str}, a.map D.str = b.map D.str → a = b := fun {a} => by
  induction a with
  | nil => intro b h; cases b with
    | nil => rfl
    | cons _ _ => cases h
  | cons x xs ih => intro b h; cases b with
    | nil => cases h
    | cons y ys => injection h with h1 h2; injection h1 with h1; rw [h1, ih h2]
theorem e_tindexT {tbl : List (Str × List Str)} (kt : KTs C tbl) (ha : DE C W X a ma) (hb : DE C W X b mb) (hs2 : starEach (b :: []) X.env = (false, eval b X.env) :: starEach [] X.env := by rfl) (hbase : attributeBase a "index" X.env (eval a X.env) = eval a X.env := by rfl) (hline : (apos.endLine == pos.line) = true := by rfl)
    (hfew : ((backTo pos (starEach [b] X.env)).all (fun x => !x.1) && (backToKw pos (keywordEach [] X.env)).all (fun x => x.1.isSome) && decide ([b].length + ([] : List Keyword).length + (if ([] : List Keyword).isEmpty then 0 else 1) < 30)) = true := by rfl)
    (hs : starEach [b] X.env = [(false, eval b X.env)] := by rfl) (hpl : (backTo pos (starEach [] X.env)).any (·.1) = false := by rfl) (hK : X.K = C.K := by rfl) :
    DE C W X (.Call (.Attribute a "index" apos) [b] [] pos) (mTIndexT tbl ma mb) := fun B0 H0 B H σ env P fr Q q =>
  wE_of (pe_bm PySem.F.plainAttrs_tuple PySem.F.slot_tuple_index PySem.F.type_tuple_index mt_tup_index pw (pa_cons pw (pa_nil (X := X)) hs2) hbase hfew hline hs2 hpl) (ha B0 H0 B H σ env P fr _ (Post.bind q fun x P1 ex v B1 H1 g1 p1 r1 q => by
    obtain ⟨ys, e1, q9⟩ := Post.opt' q
    cases x with
    | cls c =>
      have e1 : lookT tbl c = some ys := e1
      cases r1
      have k1 := kt c ys e1
      obtain ⟨o, its, n, h1, h2, h3, _⟩ := k1.at_
      refine ⟨.inr (.inl ⟨rfl, o, by rw [hK]; exact h1, h2, h3⟩), hb B0 H0 B1 H1 σ env P1 (fr.grow g1 p1) _ (Post.bind q9 fun y P2 ey u B2 H2 g2 p2 r2 q => ?_)⟩
      obtain ⟨z, e2, q⟩ := Post.opt (o := indexO (ys.map .str) y) q
      unfold indexO at e2
      split at e2
      · rename_i zz
        cases r2
        cases e3 : txts (ys.map .str) with
        | none => rw [e3] at e2; cases e2
        | some ys2 =>
          rw [e3] at e2
          cases e4 : firstS zz ys2 0 with
          | none => simp only [e4] at e2; cases e2
          | some j =>
            simp only [e4] at e2
            cases e2
            obtain ⟨i, e5, h1, h2⟩ := firstS_of e4
            have e6 : j = i := by omega
            subst e6
            have e8 : ys = ys2 := strs_inj (strs_eq e3)
            subst e8
            exact ⟨_, ys, zz, j, rfl, rfl, by rw [hK]; exact k1.sq _, h1, h2, Post.val (R := RD C H) q g2.sub p2 (.int _)⟩
      · cases e2
    | _ => cases e1))

/-! ### texts with fields -/
def fmtO : D → Option D
  | .str y => if y.length ≤ cap then some (.str y) else none
  | .int i => if i.natAbs.log2 < 1920 then some (.str (toString i)) else none
  | _ => none
theorem e_fmt (h : DE C W X e m) : DE C W X (.FormattedValue e (-1) none pos) (mUn m fun d => optM (fmtO d)) := fun B0 H0 B H σ env P fr Q q =>
  wE_of (pe_fmt pw) (h B0 H0 B H σ env P fr _ (Post.bind q fun d P1 _ v B1 H1 g1 p1 r1 q => by
    obtain ⟨z, e1, q9⟩ := Post.opt (o := fmtO d) q
    cases d with
    | str y =>
      have e1 : (if y.length ≤ cap then some (D.str y) else none) = some z := e1
      by_cases hc : y.length ≤ cap
      · rw [if_pos hc] at e1; cases e1
        cases r1
        exact .inl ⟨y, rfl, cap_le hc, Post.val (R := RD C H) q9 g1.sub p1 (.str y)⟩
      · rw [if_neg hc] at e1; cases e1
    | int i =>
      have e1 : (if i.natAbs.log2 < 1920 then some (D.str (toString i)) else none) = some z := e1
      by_cases hc : i.natAbs.log2 < 1920
      · rw [if_pos hc] at e1; cases e1
        cases r1
        exact .inr ⟨i, rfl, hc, Post.val (R := RD C H) q9 g1.sub p1 (.str _)⟩
      · rw [if_neg hc] at e1; cases e1
    | _ => cases e1))
def RS : Hp → Hp → Hp → Str → Str → Prop := fun _ _ _ b c => b = c
def DJ (C : Cn) (W : WX) (X : Cx) (es : List Expr) (ml : Ev → Str → M Str) : Prop := ∀ acc, Do C W (fun σ H Q => tJs (es.map (wE X)) acc σ H Q) RS (fun env => ml env acc)
def mJn : Ev → Str → M Str := fun _ acc => M.ok acc
def catO (acc : Str) : D → Option Str
  | .str y => if (acc ++ y).length ≤ cap then some (acc ++ y) else none
  | _ => none
def mJc (m : Ev → M D) (ml : Ev → Str → M Str) : Ev → Str → M Str := fun env acc => M.bind (m env) fun d => M.bind (optM (catO acc d)) fun z => ml env z
theorem j_nil : DJ C W X [] mJn := fun acc B0 H0 B H σ env P fr Q q => q.val' fr.g.sub fr.pur rfl
theorem j_cons {ml : Ev → Str → M Str} (h : DE C W X e m) (t : DJ C W X es ml) : DJ C W X (e :: es) (mJc m ml) := fun acc B0 H0 B H σ env P fr Q q =>
  h B0 H0 B H σ env P fr _ (Post.bind q fun d P1 _ v B1 H1 g1 p1 r1 q => by
    obtain ⟨z, e1, q9⟩ := Post.opt' q
    cases d with
    | str y =>
      have e1 : (if (acc ++ y).length ≤ cap then some (acc ++ y) else none) = some z := e1
      by_cases hc : (acc ++ y).length ≤ cap
      · rw [if_pos hc] at e1; cases e1
        cases r1
        exact ⟨y, rfl, cap_le hc, t (acc ++ y) B0 H0 B1 H1 σ env P1 (fr.grow g1 p1) Q q9⟩
      · rw [if_neg hc] at e1; cases e1
    | _ => cases e1)
theorem pj_all (X : Cx) : ∀ es : List Expr, PJ X es (es.map (wE X))
  | [] => .nil
  | _ :: es => .cons pw (pj_all X es)
def mJoin (ml : Ev → Str → M Str) : Ev → M D := fun env => M.bind (ml env Str.empty) fun s => M.ok (.str s)
theorem e_fstr {v1 v2 : Expr} {rest : List Expr} {ml : Ev → Str → M Str} (h : DJ C W X (v1 :: v2 :: rest) ml) : DE C W X (.JoinedStr (v1 :: v2 :: rest) pos) (mJoin ml) := fun B0 H0 B H σ env P fr Q q =>
  wE_of (pe_joined (pj_all X _)) (h Str.empty B0 H0 B H σ env P fr _ (Post.bind q fun s P1 _ v B1 H1 g1 p1 r1 q => by
    have r1 : v = s := r1
    subst r1
    exact Post.val (R := RD C H) q g1.sub p1 (.str v)))

/-! ### removeprefix -/
def rmpreO (x y : D) : Option D := match x, y with
  | .str x, .str y => if x.length ≤ cap then some (.str (Txt.removeprefix x y)) else none
  | _, _ => none
theorem e_rmpre {apos : Pos} (ha : DR C W X a ma) (hb : DR C W X b mb) (hs : starEach [b] X.env = [(false, eval b X.env)] := by rfl) (hbase : attributeBase a "removeprefix" X.env (eval a X.env) = eval a X.env := by rfl) (hline : (apos.endLine == pos.line) = true := by rfl) :
    DE C W X (.Call (.Attribute a "removeprefix" apos) [b] [] pos) (mM1 rmpreO ma mb) :=
  do_m1 (R := RD C) F.slot_str_removeprefix F.type_str_removeprefix mt_removeprefix (fun x y d h => by
    unfold rmpreO at h
    split at h
    · exact ⟨_, rfl⟩
    · cases h) (fun Hs Ha Hb B H σ P v u x y d Q hs s p ra rb e q => by
    unfold rmpreO at e
    split at e
    · split at e
      · rename_i h
        cases e
        exact ⟨_, _, ra.str, by rw [rb.str], cap_le h, q.val s p (.str _)⟩
      · cases e
    · cases e) ha hb hs hbase hline

/-! ### x in a tuple of data of any depth -/
def rInT (K : PySem.W.Frag) : R2 := fun x y H Q => ∃ d ds, Dp K H x d ∧ Dp K H y (.tuple ds) ∧ SeqAt.shaped d = true ∧ SeqAt.shaped (.list ds) = true ∧ SeqAt.shaped (.tuple ds) = true ∧ Q (.bl (ds.any fun z => PyData.eqv z d)) H
theorem op_inT (hu : X.A.units + 65 < cLine) : OpR X (compareOp .In) (rInT X.K) := by
  intro pins s σ H x y v u Q I rx ry h
  obtain ⟨d, ds, hd, he, sd, sl, se, q⟩ := h
  obtain ⟨as, r1⟩ := Dp.reads I d x v hd rx
  obtain ⟨bs, r2⟩ := Dp.reads I (.tuple ds) y u he ry
  exact SeqAt.in_tuple_reads r2 r1 (SeqAt.canLay_of_shaped sl) (SeqAt.canLay_of_shaped sd) (room_in_shaped sd hu) ⟨.bl _, H, I, rfl, q⟩
def inTO (x y : D) : Option Bool := match y with
  | .tup ys => match toPy x, toPys ys with
    | some d, some ds => if (SeqAt.shaped d && SeqAt.shaped (.list ds)) && SeqAt.shaped (.tuple ds) then some (ds.any fun z => PyData.eqv z d) else none
    | _, _ => none
  | _ => none
def inTD (x y : D) : M Bool := optM (inTO x y)
theorem c_inT (hu : X.A.units + 65 < cLine) (hK : X.K = C.K := by rfl) : CmpOk C X .In inTD := ⟨_, op_inT hu, fun W Ha Hb B H σ P x y a b Q s p ra rb q => by
  unfold inTD at q
  cases e : inTO a b with
  | none => rw [e] at q; exact q.elim
  | some k =>
    rw [e] at q
    have q := q.val' s p rfl
    unfold inTO at e
    split at e
    · rename_i ys
      split at e
      · rename_i d ds e1 e2
        split at e
        · rename_i h
          cases e
          obtain ⟨h0, h3⟩ := Bool.and_eq_true_iff.mp h
          obtain ⟨h1, h2⟩ := Bool.and_eq_true_iff.mp h0
          exact ⟨d, ds, by rw [hK]; exact ra.dp s e1, by rw [hK]; exact rb.dp (d := .tup ys) s (by unfold toPy; rw [e2]; rfl), h1, h2, h3, q⟩
        · cases e
      · cases e
    · cases e⟩

/-! ### self.a, self.b, self.c = a triple -/
def gFld (K : PySem.W.Frag) (to : TE) (f : Str) : TG := fun v σ H Q => to σ H fun x H1 => ∃ a Cc dx fs, x = .ref a ∧ H1 a = some (.ins Cc dx fs) ∧ Cls K Cc ∧ NoAttr K Cc f ∧ fs.length < 1000 ∧ Q σ (upd H1 a (.ins Cc dx (putF f v fs)))
theorem pg_fld {to : TE} (ho : PE X o to) : PG X (.Attribute o f pos) (gFld X.K to f) := by
  refine ⟨fun pins s σ H v u Q I r h => ?_⟩
  rw [assign_Attribute]
  refine wpAny_bind (wpAny_holding (thn (ho.run pins s σ H _ I h) fun ov s1 ⟨x, H1, I1, r1, a, Cc, dx, fs, ex, ea, hc, hn, hl, q1⟩ => ?_))
  subst ex
  obtain rfl : ov = Value.ref a := r1
  refine wpAny_bind (wpAny_standAt (wpAny_bind (wpAny_holding (setattr_ok I1 ea hc hn hl r fun s3 I3 => ?_))))
  exact wpAny_release ⟨σ, _, I3, q1⟩
def setFM (cn f : Str) (s d : D) : M Unit := fun P => match s, P with
  | .pur, .slf c fs => if c = cn ∧ fs.length < 1000 then .ok () (.slf c (putD f d fs)) else .stuck
  | _, _ => .stuck
theorem fld_do {cn : Str} {B0 H0 B H : Hp} {σ : L2.St} {env : Ev} {P : Pu} {v : V} {d : D} {E : Ends} {k : Unit → M Out} {Q : L2.St → Hp → Prop} (hc : Cls X.K (C.adr cn)) (hn : NoAttr X.K (C.adr cn) f) (ha : DE C W X a ma) (fr : Fr C B0 H0 B H σ env P) (r1 : Rep C B v d)
    (q : PostS C W B0 H0 (M.bind (ma env) (fun s => M.bind (setFM cn f s d) k) P) E) (kk : ∀ P' B' H', Fr C B0 H0 B' H' σ env P' → Same B B' → PostS C W B0 H0 (k () P') E → Q σ H') : gFld X.K (wE X a) f v σ H Q :=
  ha B0 H0 B H σ env P fr _ (PostS.bind fr q fun s P2 u B2 H2 g2 p2 fr2 r2 q => by
      cases r2 with
      | @pur ad e =>
        obtain ⟨⟨o, ho, hh⟩, bo⟩ := p2 _ e
        cases P2 with
        | pl l => exact q.elim
        | slf c fs =>
          obtain ⟨dx, vs, rfl, r⟩ := hh
          have q9 : PostS C W B0 H0 (M.bind (fun P => if c = cn ∧ fs.length < 1000 then .ok () (.slf c (putD f d fs)) else .stuck) k (.slf c fs)) E := q
          by_cases hcn : c = cn ∧ fs.length < 1000
          · have q8 : PostS C W B0 H0 (k () (.slf c (putD f d fs))) E := by
              unfold M.bind at q9
              rw [if_pos hcn] at q9
              exact q9
            obtain ⟨rfl, hl⟩ := hcn
            refine ⟨_, _, dx, vs, rfl, ho, hc, hn, by rw [r.length]; exact hl, kk _ B2 _ ?_ g2.bb q8⟩
            have ne : ∀ {q : Addr}, C.pu ≠ some q → q ≠ ad := fun {q} n z => n (z ▸ e)
            have r1' := r1.mono g2.bb
            refine ⟨⟨fr2.g.bb, fun q u z => ?_, fun q u z n => ?_, fun q h k => ?_⟩, fun q eq => ?_, fr2.len, fr2.val, fun i xs z => ?_, fr2.inj⟩
            · have n : q ≠ ad := fun w => by rw [w, bo] at z; cases z
              rw [upd_ne n]; exact fr2.g.sub q u z
            · rw [upd_ne (ne n)]; exact fr2.g.hh q u z n
            · obtain ⟨z1, z2⟩ := fr2.g.nb q h k
              refine ⟨z1, ?_⟩
              by_cases n : q = ad
              · rw [n, upd_same]; simp
              · rw [upd_ne n]; exact z2
            · rw [e] at eq; cases eq
              exact ⟨⟨_, upd_same, dx, _, rfl, RepF.put r1' r⟩, bo⟩
            · obtain ⟨l, ws, s1, hl, bl, h0, np, rr⟩ := fr2.own i xs z
              exact ⟨l, ws, s1, by rw [upd_ne (ne np)]; exact hl, bl, h0, np, rr⟩
          · unfold M.bind at q9
            rw [if_neg hcn] at q9; exact q9.elim
      | _ => exact q.elim)
def tripO : D → Option (D × D × D)
  | .tup [x, y, z] => some (x, y, z)
  | _ => none
def mSetF3 (cn f1 f2 f3 : Str) (ma m : Ev → M D) : Ev → M Out := fun env => M.bind (m env) fun d => M.bind (optM (tripO d)) fun t =>
  M.bind (ma env) fun s => M.bind (setFM cn f1 s t.1) fun _ => M.bind (ma env) fun s => M.bind (setFM cn f2 s t.2.1) fun _ => M.bind (ma env) fun s => M.bind (setFM cn f3 s t.2.2) fun _ => M.ok (.next env)
theorem s_setF3 {cn f1 f2 f3 : Str} (hc : Cls X.K (C.adr cn)) (n1 : NoAttr X.K (C.adr cn) f1) (n2 : NoAttr X.K (C.adr cn) f2) (n3 : NoAttr X.K (C.adr cn) f3) {st : Stmt} (h : DE C W X e m) (ha : DE C W X a ma) (hb : DE C W X b ma) (hd : DE C W X c ma)
    (k : PS X st (tAsg (wE X e) (gTup X.K 3 (gCons (gFld X.K (wE X a) f1) (gCons (gFld X.K (wE X b) f2) (gCons (gFld X.K (wE X c) f3) gNil)))))) (hK : X.K = C.K := by rfl) : DS C W X st (mSetF3 cn f1 f2 f3 ma m) := fun B0 H0 B H σ env P fr E q =>
  wS_of k (h B0 H0 B H σ env P fr _ (PostS.bind fr q fun d P1 v B1 H1 g1 p1 fr1 r1 q1 => by
    obtain ⟨⟨x, y, z⟩, e1, q2⟩ := optS q1
    have ed : d = .tup [x, y, z] := by
      unfold tripO at e1
      split at e1
      · cases e1; rfl
      · cases e1
    subst ed
    cases r1 with
    | tup s1 rr =>
      cases rr with
      | cons ra rr => cases rr with
        | cons rb rr => cases rr with
          | cons rc rr =>
            cases rr
            refine ⟨_, _, rfl, by rw [hK]; exact sqT_mono g1.sub s1, rfl, _, _, rfl, ?_⟩
            refine fld_do hc n1 ha fr1 ra q2 fun P2 B2 H2 fr2 sm2 q3 => ⟨_, _, rfl, ?_⟩
            refine fld_do hc n2 hb fr2 (rb.mono sm2) q3 fun P3 B3 H3 fr3 sm3 q4 => ⟨_, _, rfl, ?_⟩
            refine fld_do hc n3 hd fr3 ((rc.mono sm2).mono sm3) q4 fun P4 B4 H4 fr4 sm4 q5 => ⟨rfl, ?_⟩
            exact q5 _ B4 H4 fr4))
end
end PD

set_option Elab.async false
set_option linter.all false
set_option maxRecDepth 100000
/-! PD39: comprehensions with two clauses. -/
namespace PD
open PySem PySem.Spec PyProof.Rows L2 RZ ClX
section
variable {C : Cn} {W : WX} {X : Cx} {a b c e tg elt iter tg1 iter1 : Expr} {es : List Expr} {p pos : Pos} {ma mb mc m : Ev → M D} {ms : Ev → M (List D)}

def lc2M (t : D → Ev → Option Ev) (mi1 : Ev → M (List D)) (vs1 : List Nat) (t1 : D → Ev → Option Ev) (te : Ev → M D) (env : Ev) : List D → M (List D)
  | [] => M.ok []
  | x :: xs => M.bind (optM (t x env)) fun env1 => M.bind (noexc (mi1 env1)) fun es => if es.length ≤ 1000 then M.bind (lcM t1 mTrue te (wipeE env1 vs1) es) fun ys => M.bind (lc2M t mi1 vs1 t1 te env xs) fun zs => M.ok (ys ++ zs) else M.stuck
def mLc2 (own : List Nat) (t : D → Ev → Option Ev) (mi : Ev → M (List D)) (vs1 : List Nat) (t1 : D → Ev → Option Ev) (mi1 : Ev → M (List D)) (te : Ev → M D) : Ev → M (List D) := fun env => M.bind (mi env) fun ds => if ds.length ≤ 1000 then lc2M t mi1 vs1 t1 te (wipeE env own) ds else M.stuck
theorem lc2M_step {t : D → Ev → Option Ev} {mi1 : Ev → M (List D)} {vs1 : List Nat} {t1 : D → Ev → Option Ev} {te : Ev → M D} {env : Ev} {x : D} {xs : List D} {β : Type} {K : List D → M β} {P : Pu} : M.bind (lc2M t mi1 vs1 t1 te env (x :: xs)) K P = match t x env with
    | none => .stuck
    | some env1 => match mi1 env1 P with
      | .ok es P2 => if es.length ≤ 1000 then M.bind (lcM t1 mTrue te (wipeE env1 vs1) es) (fun ys => M.bind (lc2M t mi1 vs1 t1 te env xs) fun zs => K (ys ++ zs)) P2 else .stuck
      | .stuck => .stuck
      | .exc _ _ => .stuck := by
  rw [lc2M, bind_assoc]
  cases t x env with
  | none => rfl
  | some env1 =>
    show M.bind (M.bind (noexc (mi1 env1)) _) K P = _
    rw [bind_assoc, noexc_bind]
    cases h1 : mi1 env1 P with
    | stuck => simp only [h1]
    | exc x P2 => simp only [h1]
    | ok es P2 =>
      simp only [h1]
      by_cases hz : es.length ≤ 1000
      · rw [if_pos hz, if_pos hz, bind_assoc]
        have e : (fun a => M.bind (M.bind (lc2M t mi1 vs1 t1 te env xs) fun zs => M.ok (a ++ zs)) K) = fun ys => M.bind (lc2M t mi1 vs1 t1 te env xs) fun zs => K (ys ++ zs) := by
          funext ys
          rw [bind_assoc]
          rfl
        rw [e]
      · rw [if_neg hz, if_neg hz]; rfl
theorem keep_put {B1 H1 B H : Hp} {Dl : Addr} {o : HO} (g : Grow C B1 H1 B H) (hD : H1 Dl = none) (bl : B Dl = none) : Grow C B1 H1 B (upd H Dl o) := by
  have ne : ∀ {a : Addr}, H1 a ≠ none → a ≠ Dl := fun {a} z e => z (by rw [e]; exact hD)
  refine ⟨g.bb, fun a u e => ?_, fun a u e n => ?_, fun a h k => ?_⟩
  · have n : a ≠ Dl := fun z => by rw [z, bl] at e; cases e
    rw [upd_ne n]; exact g.sub a u e
  · rw [upd_ne (ne (by rw [e]; simp))]; exact g.hh a u e n
  · rw [upd_ne (ne k)]; exact g.nb a h k
theorem lc2_do {g g1 : TG} {te : TE} {wi1 : TI} {vs vs1 is is1 : List Nat} {t t1 : D → Ev → Option Ev} {mte : Ev → M D} {mi mi1 : Ev → M (List D)} (hi : DI C W X false tg iter mi) (hg : TgRun C g is t)
    (hi1 : ∀ B0 H0 B H σ env P, Fr C B0 H0 B H σ env P → ∀ R, PostI C WF true σ B H (mi1 env P) R → wi1 σ H R) (hg1 : TgRun C g1 is1 t1) (hte : Do C WF te (RD C) mte) (hin : ∀ i ∈ is, i ∈ vs) (hin1 : ∀ i ∈ is1, i ∈ vs1)
    (hto : ∀ d env env1, t d env = some env1 → ∀ (j : Nat) xs, env1[j]? = some (.own xs) → j ∉ is ∧ env[j]? = some (.own xs)) :
    Do C W (tLc2 (wI X tg iter) g tYes wi1 g1 tYes te vs vs1) (RF C) (mLc2 vs t mi vs1 t1 mi1 mte) := fun B0 H0 B H σ env P fr Q q => by
  refine hi B0 H0 B H σ env P fr _ ?_
  unfold mLc2 M.bind at q
  cases em : mi env P with
  | stuck => rw [em] at q; exact q
  | exc x P1 => rw [em] at q; exact q
  | ok ds P1 =>
    rw [em] at q
    intro J B1 H1 Hs g1' p1 hs1 _ it Dl hD
    have hz : ds.length ≤ 1000 := by
      by_cases h : ds.length ≤ 1000
      · exact h
      · simp only [if_neg h] at q; exact q.elim
    simp only [if_pos hz] at q
    have q := q.grow g1'
    have fr1 := fr.grow g1' p1
    have hD0 : H0 Dl = none := fr1.g.there hD
    have hDs : H Dl = none := g1'.there hD
    have bD1 : B1 Dl = none := g1'.sub.free hD
    have npD : C.pu ≠ some Dl := fun e => by obtain ⟨⟨o, h, _⟩, _⟩ := p1 Dl e; rw [hD] at h; cases h
    have newD : ∀ (j : Nat) xs, (wipeE env vs)[j]? = some (.own xs) → (wipe σ vs)[j]? ≠ some (some (.ref Dl)) := (fr1.wipe vs).fresh hD
    refine ⟨fun i m H' => i + m = ds.length ∧ ∃ B' P' accV acc, Fr C B0 H0 B' H' (wipe σ vs) (wipeE env vs) P' ∧ Grow C B1 H1 B' H' ∧ H' Dl = some (.lst accV) ∧ B' Dl = none ∧ Reps C B' accV acc ∧ acc.length ≤ 1000 * i ∧
      Post C W σ B1 H1 (RF C H) (M.bind (lc2M t mi1 vs1 t1 mte (wipeE env vs) (ds.drop i)) (fun ys => M.ok (acc ++ ys)) P') Q, ?_, ?_⟩
    · refine ⟨ds.length, by omega, B1, P1, [], [], ?_, Grow.loose g1'.sub hD, upd_same, bD1, .nil, Nat.le_refl _, ?_⟩
      · exact (fr1.grow (Grow.loose g1'.sub hD) (p1.loose g1'.sub hD)).wipe vs
      · have e : M.bind (lc2M t mi1 vs1 t1 mte (wipeE env vs) (ds.drop 0)) (fun ys => M.ok ([] ++ ys)) P1 = lc2M t mi1 vs1 t1 mte (wipeE env vs) ds P1 := by
          rw [List.drop_zero]
          unfold M.bind
          cases lc2M t mi1 vs1 t1 mte (wipeE env vs) ds P1 <;> rfl
        rw [e]; exact q
    · rintro i m H' ⟨hn, B', P', accV, acc, fr', g', hl, bl, r, ha, q'⟩
      obtain ⟨i1, i2⟩ := it B' H' g'.bb g'.sub fun a o e n => g'.hh a o (hs1 a o e) n
      cases hd : ds[i]? with
      | none =>
        have hl1 : ds.length ≤ i := List.getElem?_eq_none_iff.mp hd
        have hl2 : i = ds.length := by omega
        subst hl2
        rw [List.drop_length] at q'
        refine .inl ⟨i2, q' (.ref Dl) B' H' g' fr'.pur ⟨Dl, accV, rfl, hDs, hl, bl, npD, by rw [List.append_nil]; exact r⟩⟩
      | some d =>
        obtain ⟨go, yl⟩ := i1 i d hd
        have hlt : i < ds.length := (List.getElem?_eq_some_iff.mp hd).1
        have ed : ds.drop i = d :: ds.drop (i + 1) := by
          rw [List.drop_eq_getElem_cons hlt]
          have := (List.getElem?_eq_some_iff.mp hd).2
          rw [this]
        rw [ed] at q'
        rw [lc2M_step] at q'
        cases et : t d (wipeE env vs) with
        | none => rw [et] at q'; exact q'.elim
        | some env1 =>
          rw [et] at q'
          refine .inr ⟨go, fun H2 => ∃ B2 P2 accV acc, Fr C B0 H0 B2 H2 (wipe σ vs) (wipeE env vs) P2 ∧ Grow C B1 H1 B2 H2 ∧ H2 Dl = some (.lst accV) ∧ B2 Dl = none ∧ Reps C B2 accV acc ∧ acc.length ≤ 1000 * (i + 1) ∧
            Post C W σ B1 H1 (RF C H) (M.bind (lc2M t mi1 vs1 t1 mte (wipeE env vs) (ds.drop (i + 1))) (fun ys => M.ok (acc ++ ys)) P2) Q,
            fun H2 z => ⟨m - 1, by omega, by omega, z⟩, fun x H2 y => ?_⟩
          obtain ⟨B2, g2, pu2, rx⟩ := yl x H2 y
          have fr2 := fr'.grow g2 (fr'.pur.up g2 pu2)
          refine hg d (wipeE env vs) env1 et B0 H0 B2 H2 (wipe σ vs) P' x _ fr2 rx fun ws fr3 => ⟨wipe_setAll hin, ?_⟩
          rw [tYes, if_pos rfl]
          have hl2 := g2.hh _ _ hl npD
          have bl2 := (g2.nb Dl bl (by rw [hl]; simp)).1
          have r2 := r.mono g2.bb
          have g12 := g'.trans g2
          have newIn : ∀ (j : Nat) xs, (wipeE env1 vs1)[j]? = some (.own xs) → (wipe (setAll is ws (wipe σ vs)) vs1)[j]? ≠ some (some (.ref Dl)) := fun j xs hj hs => by
            rcases wipeE_get hj with z | ⟨z, n1⟩
            · cases z
            · obtain ⟨n2, z2⟩ := hto d _ _ et j xs z
              rw [wipe_get, if_neg (fun q => n1 q.1), setAll_get n2] at hs
              exact newD j xs z2 hs
          refine hi1 B0 H0 B2 H2 _ env1 P' fr3 _ ?_
          cases ei : mi1 env1 P' with
          | stuck => simp only [ei] at q'; exact q'.elim
          | exc x P2 => simp only [ei] at q'; exact q'.elim
          | ok es P2 =>
            simp only [ei] at q'
            intro J1 B4 H4 Hk g4 p4 hk4 hst it1
            have hz1 : es.length ≤ 1000 := by
              by_cases h : es.length ≤ 1000
              · exact h
              · rw [if_neg h] at q'; exact q'.elim
            rw [if_pos hz1] at q'
            have hl4 := g4.hh _ _ hl2 npD
            have bl4 := (g4.nb Dl bl2 (by rw [hl2]; simp)).1
            have hkD : Hk Dl = none := by
              cases hc : Hk Dl with
              | none => rfl
              | some o =>
                rcases hst rfl Dl (by rw [hc]; simp) with z | z
                · rw [hl2] at z; cases z
                · exact absurd bl4 z
            refine ⟨fun j k H' => j + k = es.length ∧ ∃ B' P' accV acc, Fr C B0 H0 B' H' (wipe σ vs) (wipeE env vs) P' ∧ Fr C B0 H0 B' H' (wipe (setAll is ws (wipe σ vs)) vs1) (wipeE env1 vs1) P' ∧ Grow C B1 H1 B' H' ∧ Same B4 B' ∧ (∀ a o, H4 a = some o → a ≠ Dl → C.pu ≠ some a → H' a = some o) ∧
              H' Dl = some (.lst accV) ∧ B' Dl = none ∧ Reps C B' accV acc ∧ acc.length ≤ 1000 * i + j ∧
              Post C W σ B1 H1 (RF C H) (M.bind (lcM t1 mTrue mte (wipeE env1 vs1) (es.drop j)) (fun ys => M.bind (lc2M t mi1 vs1 t1 mte (wipeE env vs) (ds.drop (i + 1))) fun zs => M.ok (acc ++ (ys ++ zs))) P') Q, ?_, ?_⟩
            · refine ⟨es.length, by omega, B4, P2, accV, acc, fr2.grow g4 p4, (fr3.grow g4 p4).wipe vs1, g12.trans g4, Same.refl B4, fun a o e _ _ => e, hl4, bl4, r2.mono g4.bb, by omega, ?_⟩
              rw [List.drop_zero]; exact q'
            · rintro j k H5 ⟨hjk, B5, P5, acc5V, acc5, frO, frI, g5, sm5, kp5, hl5, bl5, r5, ha5, q5⟩
              obtain ⟨j1, j2⟩ := it1 B5 H5 sm5 frI.g.sub fun a o e n => kp5 a o (hk4 a o e) (fun z => by rw [z, hkD] at e; cases e) n
              cases hd1 : es[j]? with
              | none =>
                have hl1 : es.length ≤ j := List.getElem?_eq_none_iff.mp hd1
                have hl2' : j = es.length := by omega
                subst hl2'
                rw [List.drop_length] at q5
                exact .inl ⟨j2, B5, P5, acc5V, acc5, frO, g5, hl5, bl5, r5, by omega, q5⟩
              | some d1 =>
                obtain ⟨go1, yl1⟩ := j1 j d1 hd1
                have hlt1 : j < es.length := (List.getElem?_eq_some_iff.mp hd1).1
                have ed1 : es.drop j = d1 :: es.drop (j + 1) := by
                  rw [List.drop_eq_getElem_cons hlt1]
                  have := (List.getElem?_eq_some_iff.mp hd1).2
                  rw [this]
                rw [ed1] at q5
                rw [lcM_step] at q5
                cases et1 : t1 d1 (wipeE env1 vs1) with
                | none => rw [et1] at q5; exact q5.elim
                | some env2 =>
                  rw [et1] at q5
                  refine .inr ⟨go1, fun H6 => ∃ B' P' accV acc, Fr C B0 H0 B' H6 (wipe σ vs) (wipeE env vs) P' ∧ Fr C B0 H0 B' H6 (wipe (setAll is ws (wipe σ vs)) vs1) (wipeE env1 vs1) P' ∧ Grow C B1 H1 B' H6 ∧ Same B4 B' ∧ (∀ a o, H4 a = some o → a ≠ Dl → C.pu ≠ some a → H6 a = some o) ∧
                    H6 Dl = some (.lst accV) ∧ B' Dl = none ∧ Reps C B' accV acc ∧ acc.length ≤ 1000 * i + (j + 1) ∧
                    Post C W σ B1 H1 (RF C H) (M.bind (lcM t1 mTrue mte (wipeE env1 vs1) (es.drop (j + 1))) (fun ys => M.bind (lc2M t mi1 vs1 t1 mte (wipeE env vs) (ds.drop (i + 1))) fun zs => M.ok (acc ++ (ys ++ zs))) P') Q,
                    fun H6 z => ⟨k - 1, by omega, by omega, z⟩, fun x1 H6 y1 => ?_⟩
                  obtain ⟨B6, g6, pu6, rx1⟩ := yl1 x1 H6 y1
                  have frI6 := frI.grow g6 (frI.pur.up g6 pu6)
                  have frO6 := frO.grow g6 (frO.pur.up g6 pu6)
                  refine hg1 d1 (wipeE env1 vs1) env2 et1 B0 H0 B6 H6 (wipe (setAll is ws (wipe σ vs)) vs1) P5 x1 _ frI6 rx1 fun ws1 fr7 => ⟨wipe_setAll hin1, ?_⟩
                  rw [tYes, if_pos rfl]
                  refine hte B0 H0 B6 H6 _ env2 P5 fr7 _ ?_
                  simp only [mTrue, M.ok, if_pos] at q5
                  cases ete : mte env2 P5 with
                  | stuck => simp only [ete] at q5; exact q5.elim
                  | exc x P3 => simp only [ete] at q5; exact q5.elim
                  | ok y P3 =>
                    intro v B8 H8 g8 p8 rv
                    simp only [ete] at q5
                    have g68 := g6.trans g8
                    have hl8 := g68.hh _ _ hl5 npD
                    have bl8 := (g68.nb Dl bl5 (by rw [hl5]; simp)).1
                    have r8 := r5.mono g68.bb
                    have g58 := g5.trans g68
                    have frO8 := frO6.grow g8 p8
                    have frI8 := frI6.grow g8 p8
                    have newI : ∀ (j : Nat) xs, (wipeE env1 vs1)[j]? = some (.own xs) → (wipe (setAll is ws (wipe σ vs)) vs1)[j]? ≠ some (some (.ref Dl)) := newIn
                    refine ⟨acc5V, hl8, cap_lt (by rw [r8.length]; have : cap = 1000000 := rfl; omega), B8, P3, acc5V ++ [v], acc5 ++ [y], frO8.upd (by rw [hl8]; simp) bl8 hD0 npD newD, frI8.upd (by rw [hl8]; simp) bl8 hD0 npD newI, keep_put g58 hD bl8, sm5.trans g68.bb, fun a o e n np => ?_, upd_same, bl8, r8.append (.cons rv .nil), by simp; omega, ?_⟩
                    · rw [upd_ne n]; exact g68.hh a o (kp5 a o e n np) np
                    · have e : (fun ys => M.bind (lc2M t mi1 vs1 t1 mte (wipeE env vs) (ds.drop (i + 1))) fun zs => M.ok ((acc5 ++ [y]) ++ (ys ++ zs)) : List D → M (List D)) = fun ys => M.bind (lc2M t mi1 vs1 t1 mte (wipeE env vs) (ds.drop (i + 1))) fun zs => M.ok (acc5 ++ ((y :: ys) ++ zs)) := by
                        funext ys
                        congr 1
                        funext zs
                        rw [List.append_assoc]; rfl
                      rw [e]; exact q5
theorem tgN_own {i : Nat} : ∀ d env env1, tgN i d env = some env1 → ∀ (j : Nat) xs, env1[j]? = some (.own xs) → j ∉ [i] ∧ env[j]? = some (.own xs) := fun d env env1 e j xs h => by
  cases e
  by_cases hj : i = j
  · subst hj
    by_cases hl : i < env.length
    · rw [List.getElem?_set_self hl] at h; cases h
    · rw [List.getElem?_eq_none (by rw [List.length_set]; omega)] at h; cases h
  · rw [List.getElem?_set_ne hj] at h
    exact ⟨fun z => hj (List.mem_singleton.mp z).symm, h⟩
def wIb (X : Cx) (scope : Scope) (tg iter : Expr) : TI := fun σ H R => ∀ (s : Shared) (H' : Hp) (c : Addr) (cl : List (Str × Addr)) (fp : List Addr), wI (X.blk s H' scope (compEnvC scope cl c X.env) fp) tg iter σ H R
theorem f_lc2 {scope : Scope} (own : List (Str × Nat)) (vs1 : List Nat) {is is1 : List Nat} {g g1 : TG} {t t1 : D → Ev → Option Ev} {mte : Ev → M D} {mi mi1 : Ev → M (List D)} (hi : DI C W X false tg iter mi) (hN : X.N.Nodup) (ok : blkC X.N X.env.scope scope own = true)
    (ht : ∀ (s : Shared) (H : Hp) (c : Addr) (cl : List (Str × Addr)) (fp : List Addr), PG (X.blk s H scope (compEnvC scope cl c X.env) fp) tg g) (hr : TgRun C g is t) (hto : ∀ d env env1, t d env = some env1 → ∀ (j : Nat) xs, env1[j]? = some (.own xs) → j ∉ is ∧ env[j]? = some (.own xs))
    (hi1 : ∀ (s : Shared) (H : Hp) (c : Addr) (cl : List (Str × Addr)) (fp : List Addr), DI C WF (X.blk s H scope (compEnvC scope cl c X.env) fp) true tg1 iter1 mi1)
    (ht1 : ∀ (s : Shared) (H : Hp) (c : Addr) (cl : List (Str × Addr)) (fp : List Addr), PG (X.blk s H scope (compEnvC scope cl c X.env) fp) tg1 g1) (hr1 : TgRun C g1 is1 t1)
    (he : ∀ (s : Shared) (H : Hp) (c : Addr) (cl : List (Str × Addr)) (fp : List Addr), DE C WF (X.blk s H scope (compEnvC scope cl c X.env) fp) elt mte)
    (hin : ∀ i ∈ is, i ∈ own.map (·.2) := by decide) (hin1 : ∀ i ∈ is1, i ∈ vs1 := by decide) (hv : ∀ i ∈ vs1, i ∈ own.map (·.2) := by decide) (hc : X.calm = true := by rfl) (hs : ∀ x, foldedSetIterable iter X.env x = pure x := by intro _; rfl) (hs1 : ∀ env x, foldedSetIterable iter1 env x = pure x := by intro _ _; rfl) :
    DF C W X (.ListComp elt [⟨tg, iter, [], 0⟩, ⟨tg1, iter1, [], 0⟩] scope pos) (mLc2 (own.map (·.2)) t mi vs1 t1 mi1 mte) := fun B0 H0 B H σ env P fr Q q =>
  wE_of (pe_lc2 (own := own) (g := g) (g1 := g1) (tt := tYes) (tt1 := tYes) (te := wEb X scope elt) (wi1 := wIb X scope tg1 iter1) hc hN iw (blkOk_by ok) hv ht (fun s H c cl fp => pts_nil) (fun s H c cl fp => ⟨fun pins s' σ H' Q I h => h s H c cl fp pins s' I⟩) ht1 (fun s H c cl fp => pts_nil) (fun s H c cl fp => ⟨fun pins s' σ H' Q I h => h s H c cl fp pins s' I⟩) hs hs1)
    (lc2_do hi hr (fun B0 H0 B H σ env P fr R q s H' c cl fp => hi1 s H' c cl fp B0 H0 B H σ env P fr R q) hr1 (fun B0 H0 B H σ env P fr Q q s H' c cl fp => he s H' c cl fp B0 H0 B H σ env P fr Q q) hin hin1 hto B0 H0 B H σ env P fr Q q)
end
end PD

set_option Elab.async false
set_option linter.all false
set_option maxRecDepth 100000
/-! PD40: defs with defaults. -/
namespace PD
open PySem PySem.Spec PyProof.Rows L2 RZ ClX
/-- a def with defaults, as the top has made it; dds: the defaults as data -/
structure DefAtD (K : PySem.W.Frag) (adr : Str → Addr) (key nm qual : Str) (st : Stmt) (dds : List D) : Prop where
  ex : ∃ (fd : FuncData) (dvs : List V), dvs ≠ [] ∧ (∀ pu B, Reps ⟨K, adr, pu⟩ B dvs dds) ∧ FunD K nm qual (defArgs st) (defBody st) (defScope st) dvs [] (adr key) fd
section
variable {P : Program} {w : World} {K : PySem.W.Frag} {mg : Str → Option Value} {base : Heap} {adr : Str → Addr} {key nm qual : Str} {st : Stmt} {N ps : List Str} {k n : Nat} {mb : Ev → M Out} {mf : List D → M D}
theorem fn_Dd {f : Addr} {fd : FuncData} {dvs : List V} (F : FunD K nm qual (defArgs st) (defBody st) (defScope st) dvs [] f fd) (S : FnScope N ps (defScope st))
    (hbody : ∀ (pu : Option Addr) (cdv : Value) (A : Around) (outer : List Env) (s : Shared) (H : Hp) (E : XK), Room k (A.deeper (envOfC qual (defScope st) s.heap.objs.size f cdv)) →
      DSs ⟨K, adr, pu⟩ (fun c d _ H => E c d H) (cxOf (L2N.CX P w) P w K mg base N qual (defScope st) f cdv A outer s H E) (defBody st) mb) : FnOk P w K mg base (L2N.CX P w) (k + 1) f fd ps (spD K adr ps.length (runD N.length mb)) := by
  refine F.ok S (fun vs H Q E h => h.1) fun cdv A outer s H vs Q E hr h => ?_
  obtain ⟨hl, pu, B, ds, Pp, r, sm, p, q⟩ := h
  have hpl : ps.length ≤ N.length := by
    have := congrArg List.length S.pre
    rw [List.length_take] at this; omega
  exact ⟨_, ssw, hbody pu cdv A outer s H E hr B H B H (L2.start N vs) (envOf N.length ds) Pp (Fr.start (by omega) r sm p) _ (PostF.toS q)⟩
/-- all parameters are given -/
abbrev BindsByD (st : Stmt) (nm qual : Str) (ps : List Str) (nd : Nat) : Prop := ∀ (T : Addr) (kV doc pm : Value) (an : Option Addr) (cdv ct : Value) (us its : List Value), us.length = ps.length → its.length = nd →
  ∃ k, bindArgs (PySem.W.fnOf nm qual (defArgs st) (defBody st) (defScope st) (.ref T) kV doc pm an cdv ct) ⟨us, []⟩ = seqItems? (.ref T) >>= k ∧ k (some its.toArray) = pure (ps.zip us)
theorem Reps.len_eq {C : Cn} {B : Hp} {vs : List V} {ds : List D} (r : Reps C B vs ds) : vs.length = ds.length := r.length
theorem binds_all {fd : FuncData} {f : Addr} {dvs : List V} {nd : Nat} (F : FunD K nm qual (defArgs st) (defBody st) (defScope st) dvs [] f fd) (hd : dvs ≠ []) (hl : dvs.length = nd) (hb : BindsByD st nm qual ps nd) : Binds K fd ps [] := by
  obtain ⟨ds, rv, hB⟩ := F.binds1 (ps := ps) ps.length dvs.length hd (by omega) fun T kV doc pm an cdv ct us its l1 l2 => by
    obtain ⟨k, e1, e2⟩ := hb T kV doc pm an cdv ct us its l1 (l2.trans hl)
    refine ⟨k, e1, ?_⟩
    rw [e2, List.drop_eq_nil_of_le (by omega), List.append_nil]
  rw [List.drop_eq_nil_of_le (Nat.le_refl _)] at rv
  cases rv
  exact hB
theorem pr_Dd {dds : List D} {nd : Nat} (D0 : DefAtD K adr key nm qual st dds) (hnd : dds.length = nd) (S : FnScope N ps (defScope st)) (hn : ps.length = n) {nN kk : Nat} (hf : mf = runD nN (mNox mb)) (hN : N.length = nN) (hk : kk = k + 1) (hb : BindsByD st nm qual ps nd)
    (hbody : ∀ (pu : Option Addr) (f : Addr) (cdv : Value) (A : Around) (outer : List Env) (s : Shared) (H : Hp) (E : XK), Room k (A.deeper (envOfC qual (defScope st) s.heap.objs.size f cdv)) →
      DSs ⟨K, adr, pu⟩ WF (cxOf (L2N.CX P w) P w K mg base N qual (defScope st) f cdv A outer s H E).nox (defBody st) mb) : Pr P w K mg base adr key kk n mf := by
  obtain ⟨fd, dvs, hd, hr, F⟩ := D0.ex
  subst hn hN hk
  rw [hf]
  exact ⟨fd, ps, fn_Dd F S fun pu cdv A outer s H E hr => ss_nox (hbody pu _ cdv A outer s H E hr), binds_all F hd ((hr none (fun _ => none)).length.trans hnd) hb, F.kp⟩
theorem def_mkD2 {a T e0 : Addr} {oc oT : Value} {od dT de an : Option Addr} {kV doc pm cdv ct : Value} {osl slT sl0 : Array (Option Value)} {nT n0 : Nat} (ha : adr key = a) (hl : K.lookup a = some ⟨oc, od, .func (PySem.W.fnOf nm qual (defArgs st) (defBody st) (defScope st) (.ref T) kV doc pm an cdv ct), osl⟩) (hc : PySem.W.codeIn K cdv qual = true) (hk : PySem.W.keepIn K (.ref a) = true)
    (hT : K.lookup T = some ⟨oT, dT, .seq #[.ref e0, .none] nT, slT⟩) (he : K.lookup e0 = some ⟨.type "tuple", de, .seq #[] n0, sl0⟩) : DefAtD K adr key nm qual st [.tup [], .non] := by
  subst ha
  refine ⟨_, [.ref e0, .non], by simp, fun pu B => .cons (.tup (.inr ⟨_, #[], n0, he, rfl, rfl, by show 0 ≤ sizeLine; exact Nat.zero_le _, .nil⟩) .nil) (.cons .non .nil), ⟨_, _, _, _, _, _, _, _, _, _, rfl, hl, hc, .inr ⟨by simp, T, _, [.ref e0, .none], nT, rfl, hT, rfl, .cons rfl (.cons rfl .nil)⟩, .inl rfl⟩, hk⟩
end
end PD

set_option Elab.async false
set_option linter.all false
set_option maxRecDepth 100000
/-! PD41: zip of a list and a tuple; texts with fields as arguments. -/
namespace PDE
open PySem PySem.Spec PyProof.Rows L2
/-- the list at a beside the tuple at b, two items in a new pair -/
def ItzM (K : PySem.W.Frag) (a b : Addr) : It :=
  ⟨fun i H => ∃ (xs ys : List V) (x y : V), SqL K H a xs ∧ SqT K H b ys ∧ xs[i]? = some x ∧ ys[i]? = some y,
    fun i H v H' => ∃ T x y, v = .ref T ∧ H T = none ∧ H' = upd H T (.tup [x, y]) ∧ (∀ xs, SqL K H a xs → xs[i]? = some x) ∧ ∀ ys, SqT K H b ys → ys[i]? = some y,
    fun i H => ∃ xs ys : List V, SqL K H a xs ∧ SqT K H b ys ∧ i ≤ xs.length ∧ i ≤ ys.length ∧ (i = xs.length ∨ i = ys.length)⟩
theorem turn_zipM {P : Program} {w : World} {K : PySem.W.Frag} {elts : List Expr} {kk : Nat} {tpos : Pos} {a b zz TI TO j1 j2 : Addr} (S : ZipSep2 zz TI TO j1 j2 [j1, a] [j2, b]) (na : a ≠ j1) (nb : b ≠ j2) :
    Turn P w K (.Tuple elts kk tpos) (ItzM K a b) [zz, TI, TO, j1, j2] zz (fun i h => IsZip h zz TI TO .none ∧ IsTupOf2 h TI (.ref j1) (.ref j2) ∧ (∃ x y, IsTupOf2 h TO x y) ∧ h.IsListIter j1 a i ∧ h.IsTupleIter j2 b i) where
  mem := by simp
  obj := fun i h st c hc => by
    obtain ⟨k1, k2, ⟨x, y, k3⟩, ⟨o1, e1, _, d1⟩, ⟨o2, e2, _, d2⟩⟩ := st
    have five : c = zz ∨ c = TI ∨ c = TO ∨ c = j1 ∨ c = j2 := by simpa using hc
    rcases five with r | r | r | r | r
    · rw [r]; exact ⟨_, k1, fun v q => nomatch q⟩
    · rw [r]; exact ⟨_, k2, fun v q => nomatch q⟩
    · rw [r]; exact ⟨_, k3, fun v q => nomatch q⟩
    · rw [r]; exact ⟨o1, e1, fun v q => by rw [d1] at q; cases q⟩
    · rw [r]; exact ⟨o2, e2, fun v q => by rw [d2] at q; cases q⟩
  keep := fun i h h' st k => by
    obtain ⟨k1, k2, ⟨x, y, k3⟩, m1, m2⟩ := st
    exact ⟨k zz (by simp) _ k1, k TI (by simp) _ k2, ⟨x, y, k TO (by simp) _ k3⟩, m1.at fun o r => k j1 (by simp) o r, m2.at fun o r => k j2 (by simp) o r⟩
  item := by
    intro X hP hw hK hc i pins s σ H E I hf st hg
    subst hP hw hK
    obtain ⟨k1, k2, ⟨x0, y0, k3⟩, m1, m2⟩ := st
    obtain ⟨xs, ys, x, y, qx, qy, ex, ey⟩ := hg
    obtain ⟨its, rv, p1, _⟩ := I.list qx
    obtain ⟨jts, rw1, p2, _⟩ := I.tuple qy
    obtain ⟨u, hu, ru⟩ := rv.get ex
    obtain ⟨t, ht, rt⟩ := rw1.get ey
    have zlt : zz < s.heap.objs.size := Heap.lt_size k1
    have l1 : i < its.toArray.size := by simpa using (List.getElem?_eq_some_iff.mp hu).1
    have l2 : i < jts.toArray.size := by simpa using (List.getElem?_eq_some_iff.mp ht).1
    refine wpAny_pyNext_zipD2_item S (Draws.list (A := X.A.in1) (I.ok.hd hc) j1 a na its.toArray) (Draws.tuple (A := X.A.in1) (I.ok.hd hc) j2 b nb jts.toArray) k1 k2 k3 ⟨m1, p1.isList⟩ ⟨m2, p2⟩ l1 l2 fun v1 v2 h' tk e1 e2 z' TO' n1 n2 hT hsz hk => ?_
    have hv1 : v1 = u := by
      have e1 : its.toArray[i]? = some v1 := e1
      rw [List.getElem?_toArray, hu] at e1
      exact (Option.some.inj e1).symm
    have hv2 : v2 = t := by
      have e2 : jts.toArray[i]? = some v2 := e2
      rw [List.getElem?_toArray, ht] at e2
      exact (Option.some.inj e2).symm
    subst hv1 hv2
    refine ⟨_, rfl, wpAny_letOwnedTupleGo_zip (s := { s with heap := h', toks := tk }) z' fun h'' z'' sb => ?_⟩
    have hT2 : h''.get? s.heap.objs.size = some { cls := .type "tuple", data := .seq #[v1, v2] } := (sb.2 _ (Nat.ne_of_gt zlt)).trans hT
    have nw : ObjOk X.prog X.w (upd H s.heap.objs.size (.tup [x, y])) h'' s.heap.objs.size (.tup [x, y]) :=
      ⟨by show 2 ≤ sizeLine; decide, [v1, v2], .cons ru (.cons rt .nil), ⟨_, hT2, rfl, _, rfl⟩⟩
    have I1 : Inv X pins σ (upd H s.heap.objs.size (.tup [x, y])) { s with heap := h'', toks := tk } :=
      I.turnedNew (t' := tk) (ch := [zz, TI, TO, j1, j2]) (fun c o hb q => (sb.2 c (fun w => hb (by simp [w]))).trans (hk c o (fun w => hb (by simp [w])) (fun w => hb (by simp [w])) (fun w => hb (by simp [w])) (fun w => hb (by simp [w])) q)) hf (Nat.le_refl _) nw
    refine ⟨.ref s.heap.objs.size, _, I1, rfl, ⟨_, x, y, rfl, I.hok.fresh (Nat.le_refl _), rfl, fun l hl => by rw [I.list_inj hl qx]; exact ex, fun l hl => by rw [I.tuple_inj hl qy]; exact ey⟩, ⟨z'', ?_, ⟨v1, v2, ?_⟩, ?_, ?_⟩, fun c hcm => ?_⟩
    · exact (sb.2 _ S.TIz).trans (hk _ _ S.TIz S.TITO S.TIi1 S.TIi2 k2)
    · exact (sb.2 _ S.TOz).trans TO'
    · exact n1.1.at fun o q => (sb.2 _ (Ne.symm S.zi1)).trans q
    · exact n2.1.at fun o q => (sb.2 _ (Ne.symm S.zi2)).trans q
    · have hlt : c < s.heap.objs.size := by
        have five : c = zz ∨ c = TI ∨ c = TO ∨ c = j1 ∨ c = j2 := by simpa using hcm
        rcases five with r | r | r | r | r
        · rw [r]; exact zlt
        · rw [r]; exact Heap.lt_size k2
        · rw [r]; exact Heap.lt_size k3
        · rw [r]; obtain ⟨_, e1, _⟩ := m1; exact Heap.lt_size e1
        · rw [r]; obtain ⟨_, e1, _⟩ := m2; exact Heap.lt_size e1
      rw [upd_ne (Nat.ne_of_lt hlt)]
      exact (hf c hcm).1
  done := by
    intro X hP hw hK hc i pins s σ H E I hf st hg
    subst hP hw hK
    obtain ⟨k1, k2, ⟨x0, y0, k3⟩, m1, m2⟩ := st
    obtain ⟨xs, ys, qx, qy, b1, b2, hend⟩ := hg
    obtain ⟨its, rv, p1, _⟩ := I.list qx
    obtain ⟨jts, rw1, p2, _⟩ := I.tuple qy
    have l1 := rv.length
    have l2 := rw1.length
    have s1 : its.toArray.size = xs.length := by simpa using l1.symm
    have s2 : jts.toArray.size = ys.length := by simpa using l2.symm
    exact wpAny_pyNext_zipD2_end S (Draws.list (A := X.A.in1) (I.ok.hd hc) j1 a na its.toArray) (Draws.tuple (A := X.A.in1) (I.ok.hd hc) j2 b nb jts.toArray) k1 k2 k3 ⟨m1, p1.isList⟩ ⟨m2, p2⟩ (by rw [s1]; exact b1) (by rw [s2]; exact b2) (by rw [s1, s2]; exact hend) fun h' tk hk =>
      ⟨rfl, I.turnedL (t' := tk) (ch := [zz, TI, TO, j1, j2]) (fun c o hb q => hk c o (fun w => hb (by simp [w])) (fun w => hb (by simp [w])) (fun w => hb (by simp [w])) (fun w => hb (by simp [w])) q) hf⟩
  self := fun A i s Q E st h => wpAny_pyIter_zip st.1 h
def iZipM (K : PySem.W.Frag) (ta : TA) : TI := fun σ H R => ta σ H fun vs H1 => ∃ a b xs ys, vs = [.ref a, .ref b] ∧ SqL K H1 a xs ∧ SqT K H1 b ys ∧ R (ItzM K a b) H1
theorem pi_zipM {X : Cx} {e e2 : Expr} {ta : TA} {p pos tpos : Pos} {elts : List Expr} {kk : Nat} (hg : Gl X "zip") (hm : X.mg "zip" = none) (ha : PA X [e, e2] ta)
    (hs : starEach [e, e2] X.env = (false, eval e X.env) :: starEach [e2] X.env := by rfl) (hp : (backTo pos (starEach [e2] X.env)).any (·.1) = false := by rfl) :
    PI X (.Tuple elts kk tpos) (.Call (.Name "zip" p) [e, e2] [] pos) (iZipM X.K ta) := by
  refine ⟨fun pins s σ H R I hh => ?_⟩
  refine Call_ (ld_blt I hg hm boot_zip (PyProof.Rows.callWith_type1 (thn (ha.run pos pins s σ H _ I hh) fun us sa ⟨vs, H1, I1, r1, q1⟩ => ?_) hs hp))
  obtain ⟨a, b, xs, ys, ex, qx, qy, q⟩ := q1
  subst ex
  cases r1 with
  | cons r rr =>
    cases rr with
    | cons r' rr =>
      cases rr
      cases r
      cases r'
      obtain ⟨its, rv, p1, _⟩ := I1.list qx
      obtain ⟨jts, rw1, p2, _⟩ := I1.tuple qy
      obtain ⟨o2, ho2, _⟩ := id p2
      have la : a < sa.heap.objs.size := p1.lt
      have lb : b < sa.heap.objs.size := Heap.lt_size ho2
      refine zip_begins2 (begins_list a its.toArray) (begins_tuple b jts.toArray) p1.isList p2 fun h' hz hTI hTO g1 g2 hsz hk => wpAny_pyIter_zip hz ?_
      have I2 : Inv X pins σ H1 { sa with heap := h' } := I1.kept (t' := sa.toks) hk
      refine ⟨sa.heap.objs.size + 4, [sa.heap.objs.size + 4, sa.heap.objs.size + 2, sa.heap.objs.size + 3, sa.heap.objs.size, sa.heap.objs.size + 1], _, _, H1, rfl, I2,
        turn_zipM (zip_sep2 (fp1 := [a]) (fp2 := [b]) (fun c hc => by rw [List.mem_singleton.mp hc]; exact la) (fun c hc => by rw [List.mem_singleton.mp hc]; exact lb)) (Nat.ne_of_lt la) (Nat.ne_of_lt (Nat.lt_succ_of_lt lb)), ⟨hz, hTI, ⟨_, _, hTO⟩, ⟨_, g1, rfl, rfl⟩, ⟨_, g2, rfl, rfl⟩⟩, fun c hcm => ?_, q⟩
      have hle : sa.heap.objs.size ≤ c := by
        have five : c = sa.heap.objs.size + 4 ∨ c = sa.heap.objs.size + 2 ∨ c = sa.heap.objs.size + 3 ∨ c = sa.heap.objs.size ∨ c = sa.heap.objs.size + 1 := by simpa using hcm
        rcases five with w | w | w | w | w
        · rw [w]; exact Nat.le_add_right _ _
        · rw [w]; exact Nat.le_add_right _ _
        · rw [w]; exact Nat.le_add_right _ _
        · rw [w]; exact Nat.le_refl _
        · rw [w]; exact Nat.le_add_right _ _
      exact I1.fpOk hle (I1.hok.fresh hle)
end PDE
namespace PD
open PySem PySem.Spec PyProof.Rows L2 RZ ClX
section
variable {C : Cn} {W : WX} {X : Cx} {a b : Expr} {p pos : Pos} {ms : Ev → M (List D)}
theorem it_zipM {K : PySem.W.Frag} {l k : Addr} {vs ws : List V} {xs ys : List D} {B Hk : Hp} (r : Reps C B vs xs) (r2 : Reps C B ws ys) (h : ∀ B1 H1, Same B B1 → Same B1 H1 → SqL K H1 l vs ∧ SqT K H1 k ws) : ItOk C (PDE.ItzM K l k) B Hk (zipD xs ys) := fun B1 H1 s1 s2 s3 => by
  obtain ⟨hl, hk⟩ := h B1 H1 s1 s2
  refine ⟨fun i d e => ?_, vs, ws, hl, hk, ?_⟩
  · obtain ⟨x, y, e1, e2, rfl⟩ := zipD_get e
    obtain ⟨v, hv, rv⟩ := r.get e1
    obtain ⟨w, hw, rw'⟩ := r2.get e2
    refine ⟨⟨vs, ws, v, w, hl, hk, hv, hw⟩, fun z H2 yy => ?_⟩
    obtain ⟨T, x', y', rfl, hT, rfl, q1, q2⟩ := yy
    have q1 := q1 vs hl; rw [hv] at q1; cases q1
    have q2 := q2 ws hk; rw [hw] at q2; cases q2
    exact pair_new s2 (rv.mono s1) (rw'.mono s1) hT
  · rw [zipD_len, r.length, r2.length] <;> omega
def zipMO : List D → Option (List D)
  | [.lst xs, .tup ys] => some (zipD xs ys)
  | _ => none
theorem i_zipM {st : Bool} {elts : List Expr} {kk : Nat} {tpos : Pos} (h : DA C W X [a, b] ms) (hm : X.mg "zip" = none) (k : PI X (.Tuple elts kk tpos) (.Call (.Name "zip" p) [a, b] [] pos) (PDE.iZipM X.K (wA X [a, b]))) (hK : X.K = C.K := by rfl) : DI C W X st (.Tuple elts kk tpos) (.Call (.Name "zip" p) [a, b] [] pos) (mUn ms fun ds => optM (zipMO ds)) := fun B0 H0 B H σ env P fr R q =>
  wI_of k (h B0 H0 B H σ env P fr _ (PostI.bind q fun ds P1 vs B1 H1 g p r q => by
    obtain ⟨xs, e1, q⟩ := PostI.opt q
    unfold zipMO at e1
    split at e1
    · cases e1
      cases r with | cons r t => cases t with | cons r2 t => cases t; cases r with | lst s1 r => cases r2 with | tup s2 r2 =>
        exact ⟨_, _, _, _, rfl, SqL.of (g.sub _ _ s1), by rw [hK]; exact sqT_mono g.sub s2, q _ B1 H1 B1 g p g.sub (fun _ a z => .inr z) (it_zipM r r2 fun B2 H2 z1 z2 => ⟨SqL.of (z2 _ _ (z1 _ _ s1)), by rw [hK]; exact sqT_mono (z1.trans z2) s2⟩)⟩
    · cases e1))
end
section
variable {es : List Expr} {env : Env} {pos : Pos}
theorem st_js {a : List Expr} : starEach (.JoinedStr a pos :: es) env = (false, eval (.JoinedStr a pos) env) :: starEach es env := by rfl
variable {tg : Option Expr} {ln : Nat}
theorem sw_js {a : List Expr} : swapsWith (.JoinedStr a pos) tg ln env = pure false := by rfl
end
end PD

set_option Elab.async false
set_option linter.all false
set_option maxRecDepth 100000
/-! PD42: an own class whose __init__ has defaults: fewer arguments, arguments by name. -/
namespace PD
open PySem PySem.Spec PyProof.Rows L2 RZ ClX
/-- L: the orders in which all parameters are given by name; dds: the defaults -/
structure PrD (L : List (List Str × List Nat)) (dds : List D) (P : Program) (w : World) (K : PySem.W.Frag) (mg : Str → Option Value) (base : Heap) (adr : Str → Addr) (key : Str) (k n : Nat) (mf : List D → M D) : Prop where
  ex : ∃ (fd : FuncData) (ps : List Str) (dvs : List V), (∀ pu B, Reps ⟨K, adr, pu⟩ B dvs dds) ∧ FnOk P w K mg base (L2N.CX P w) k (adr key) fd ps (spD K adr n mf) ∧ PySem.W.keepIn K (.ref (adr key)) = true ∧
    (∀ j, j ≤ dds.length → ∃ ds, Vals (dvs.drop j) ds ∧ Binds K fd ps ds) ∧ ∀ q ∈ L, KBn K fd ps 1 q.1 (fun us ws => us ++ pick q.2 ws) (fun vs zs => vs ++ pick q.2 zs)
theorem PrD.pr {L : List (List Str × List Nat)} {dds : List D} {P : Program} {w : World} {K : PySem.W.Frag} {mg : Str → Option Value} {base : Heap} {adr : Str → Addr} {key : Str} {k n : Nat} {mf : List D → M D} (h : PrD L dds P w K mg base adr key k n mf) : Pr P w K mg base adr key k n mf := by
  obtain ⟨fd, ps, dvs, hr, a, c, hb, _⟩ := h.ex
  obtain ⟨ds, rv, hB⟩ := hb dds.length (Nat.le_refl _)
  rw [List.drop_eq_nil_of_le (by rw [(hr none (fun _ => none)).length]; exact Nat.le_refl _)] at rv
  cases rv
  exact ⟨fd, ps, a, hB, c⟩
section
variable {P : Program} {w : World} {K : PySem.W.Frag} {mg : Str → Option Value} {base : Heap} {adr : Str → Addr} {key nm qual : Str} {st : Stmt} {N ps : List Str} {k n : Nat} {mb : Ev → M Out} {mf : List D → M D}
/-- how fewer arguments are bound -/
abbrev BindsLess (st : Stmt) (nm qual : Str) (ps : List Str) (nd : Nat) : Prop := ∀ j, j ≤ nd → ∀ (T : Addr) (kV doc pm : Value) (an : Option Addr) (cdv ct : Value) (us its : List Value), us.length = ps.length - (nd - j) → its.length = nd →
  ∃ k, bindArgs (PySem.W.fnOf nm qual (defArgs st) (defBody st) (defScope st) (.ref T) kV doc pm an cdv ct) ⟨us, []⟩ = seqItems? (.ref T) >>= k ∧ k (some its.toArray) = pure (ps.zip (us ++ its.drop j))
abbrev BindsKw (st : Stmt) (nm qual : Str) (ps : List Str) (nd : Nat) (q : List Str × List Nat) : Prop := ∀ (T : Addr) (kV doc pm : Value) (an : Option Addr) (cdv ct : Value) (us its ws : List Value), us.length = 1 → its.length = nd → ws.length = q.1.length →
  ∃ k, bindArgs (PySem.W.fnOf nm qual (defArgs st) (defBody st) (defScope st) (.ref T) kV doc pm an cdv ct) ⟨us, q.1.zip ws⟩ = seqItems? (.ref T) >>= k ∧ k (some its.toArray) = pure (ps.zip (us ++ pick q.2 ws))
theorem pr_DD {L : List (List Str × List Nat)} {dds : List D} {nd : Nat} (D0 : DefAtD K adr key nm qual st dds) (hnd : dds.length = nd) (S : FnScope N ps (defScope st)) (hn : ps.length = n) {nN kk : Nat} (hf : mf = runD nN (mNox mb)) (hN : N.length = nN) (hk : kk = k + 1) (hle : nd ≤ ps.length)
    (hb : BindsLess st nm qual ps nd) (hkb : ∀ q ∈ L, BindsKw st nm qual ps nd q)
    (hbody : ∀ (pu : Option Addr) (f : Addr) (cdv : Value) (A : Around) (outer : List Env) (s : Shared) (H : Hp) (E : XK), Room k (A.deeper (envOfC qual (defScope st) s.heap.objs.size f cdv)) →
      DSs ⟨K, adr, pu⟩ WF (cxOf (L2N.CX P w) P w K mg base N qual (defScope st) f cdv A outer s H E).nox (defBody st) mb) : PrD L dds P w K mg base adr key kk n mf := by
  obtain ⟨fd, dvs, hd, hr, F⟩ := D0.ex
  have hl : dvs.length = nd := (hr none (fun _ => none)).length.trans hnd
  subst hn hN hk
  rw [hf]
  refine ⟨fd, ps, dvs, hr, fn_Dd F S fun pu cdv A outer s H E hr => ss_nox (hbody pu _ cdv A outer s H E hr), F.kp, fun j hj => ?_, fun q hq => ?_⟩
  · exact F.binds1 (ps := ps) (ps.length - (nd - j)) j hd (by omega) fun T kV doc pm an cdv ct us its l1 l2 => hb j (by omega) T kV doc pm an cdv ct us its (by omega) (l2.trans hl)
  · obtain ⟨its, kb⟩ := F.kbindsD (ps := ps) 1 q.1 (fun us _ ws => us ++ pick q.2 ws) hd (fun r1 _ r3 => r1.append (vals_pickB r3 q.2)) fun T kV doc pm an cdv ct us its ws l1 l2 l3 => hkb q hq T kV doc pm an cdv ct us its ws l1 (l2.trans hl) l3
    exact kb
end
section
variable {C : Cn} {X : Cx} {e : Expr} {es : List Expr} {kws : List Keyword} {p pos : Pos} {ms : Ev → M (List D)} {x cn key : Str} {k n : Nat} {mf : List D → M D}
def makeK (cn : Str) (mf : List D → M D) : List D → M D := fun ds P => if noPurs ds = true then (match mf (.pur :: ds) (.slf cn []) with
    | .ok .non (.slf c fs) => if c = cn ∧ noPurF fs = true then .ok (.obj cn fs) P else .stuck
    | _ => .stuck) else .stuck
/-- the defaults fill up -/
def mWith (ms : Ev → M (List D)) (xs : List D) : Ev → M (List D) := fun env => M.bind (ms env) fun ds => M.ok (ds ++ xs)
theorem x_makeD {L : List (List Str × List Nat)} {dds : List D} {m : Nat} (j : Nat) (F : PrD L dds X.prog X.w X.K X.mg X.base C.adr key k (n + 1) mf) (hj : j ≤ dds.length) (hn : m + (dds.length - j) = n) (hK : X.K = C.K) (hr : Room (k + 1) X.A) (M0 : Mk X.K (C.adr cn) (C.adr key)) (hm : X.mg x = some (.ref (C.adr cn))) (ha : DA C WF X (e :: es) ms) (hlen : ∀ env P ds P', ms env P = .ok ds P' → ds.length = m)
    (hg : Gl X x := by rfl) (hdb : (x == ("__debug__" : Str)) = false := by decide) (he : starEach (e :: es) X.env = (false, eval e X.env) :: starEach es X.env := by rfl) (hpl : (backTo pos (starEach es X.env)).any (·.1) = false := by rfl) :
    DE C WF X (.Call (.Name x p) (e :: es) [] pos) (mMake cn mf (mWith ms (dds.drop j))) := by
  obtain ⟨fd, ps, dvs, hrp, F, hk, hb, _⟩ := F.ex
  obtain ⟨ds, rv, hB⟩ := hb j hj
  rw [hK] at F
  have hrp' : ∀ B, Reps C B (dvs.drop j) (dds.drop j) := fun B => by
    have h := hrp C.pu B
    rw [hK] at h
    exact h.drop j
  refine fun B0 H0 B H σ env P fr Q q => wE_of (pe_make M0 (by rw [hK]; exact F) hr hg hm hB rv passN aw hdb he hpl) ?_
  have q : Post C WF σ B H (RD C H) (M.bind (M.bind (ms env) fun ds => M.ok (ds ++ dds.drop j)) (makeK cn mf) P) Q := q
  rw [bind_assoc] at q
  refine ha B0 H0 B H σ env P fr _ (Post.bind q fun ds1 P1 em vs B1 H1 g1 p1 r1 q9 => ?_)
  exact make_ok (n := n) (Hs := H) (by rw [List.length_append, List.length_drop, hlen _ _ _ _ em]; exact hn) (Reps.append r1 (hrp' B1)) g1.sub p1 q9
/-- all by name -/
def mPick (is : List Nat) (ms : Ev → M (List D)) : Ev → M (List D) := fun env => M.bind (ms env) fun ds => if (pick is ds).length = is.length ∧ ds.length = is.length then M.ok (pick is ds) else M.stuck
theorem x_makeKs {L : List (List Str × List Nat)} {dds : List D} {ks : List Str} {is : List Nat} (F : PrD L dds X.prog X.w X.K X.mg X.base C.adr key k (is.length + 1) mf) (hq : (ks, is) ∈ L) (hki : ks.length = is.length) (hK : X.K = C.K) (hr : Room (k + 1) X.A) (M0 : Mk X.K (C.adr cn) (C.adr key)) (hm : X.mg x = some (.ref (C.adr cn))) (hkw : DK C WF X kws ms)
    (hg : Gl X x := by rfl) (hall : (backToKw pos (keywordEach kws X.env)).all (·.1.isSome) = true := by rfl) (hks : (backToKw pos (keywordEach kws X.env)).filterMap (·.1) = ks := by rfl) (hdb : (x == ("__debug__" : Str)) = false := by decide)
    (hpl : ((backTo pos (starEach [] X.env)).any (·.1) || (backToKw pos (keywordEach kws X.env)).any (·.1.isNone)) = false := by rfl) :
    DE C WF X (.Call (.Name x p) [] kws pos) (mMake cn mf (mPick is ms)) := by
  obtain ⟨fd, ps, dvs, hrp, F, hk, _, hb⟩ := F.ex
  have kb := hb _ hq
  rw [hK] at F
  refine fun B0 H0 B H σ env P fr Q q => wE_of (pe_makeK0 M0 (by rw [hK]; exact F) hr hg hm kb passN kw hall hks hdb hpl) ?_
  have q : Post C WF σ B H (RD C H) (M.bind (M.bind (ms env) fun ds => if (pick is ds).length = is.length ∧ ds.length = is.length then M.ok (pick is ds) else M.stuck) (makeK cn mf) P) Q := q
  rw [bind_assoc] at q
  refine hkw B0 H0 B H σ env P fr _ (Post.bind q fun ds1 P1 em vs B1 H1 g1 p1 r1 q9 => ?_)
  have r1' : Reps C B1 vs ds1 := r1
  by_cases hl : (pick is ds1).length = is.length ∧ ds1.length = is.length
  · rw [if_pos hl] at q9
    exact ⟨rfl, by rw [r1'.length, hki]; exact hl.2, make_ok (n := is.length) (Hs := H) hl.1 (Reps.pickB r1' is) g1.sub p1 q9⟩
  · rw [if_neg hl] at q9
    exact q9.elim
end
end PD
namespace PD
open PySem PySem.Spec PyProof.Rows L2 RZ ClX
section
variable {e : Expr} {es : List Expr} {env : Env} {pos : Pos}
theorem pl_nil : (backTo pos (starEach [] env)).any (·.1) = false := by rfl
theorem pl_cons (hs : starEach (e :: es) env = (false, eval e env) :: starEach es env) (h : (backTo pos (starEach es env)).any (·.1) = false) : (backTo pos (starEach (e :: es) env)).any (·.1) = false := by
  rw [hs]
  generalize hx : starEach es env = xs at h
  generalize eval e env = v
  have key : ∀ ys : List (Bool × Sem Value), (backTo pos ys).any (·.1) = ys.any (·.1) := fun ys => by
    unfold backTo
    cases ys with
    | nil => rfl
    | cons y ys => simp [List.any_map, Function.comp_def]
  rw [key] at h ⊢
  simpa using h
end
end PD

set_option Elab.async false
set_option linter.all false
set_option maxRecDepth 100000
/-! PD43 (over L2N alone): try with a clause that names several classes and raises C(e) from None; classmethods that raise so; cls(..) that may raise. -/
namespace PD
open PySem PySem.Spec PyProof.Rows L2 RZ ClX
/-! ### an error whose context is None is an error -/
theorem takesN {X : Cx} {W : WX} (t : L2.Takes X W) : L2N.Takes X W := fun u s' ⟨a, B, sI, pins, σ, H, cls, d, e, I, nb, up, sky, na, os, ag, w⟩ => by
  refine t u s' ⟨a, B, sI, pins, σ, H, cls, d, e, I, nb, up, ?_, na, os, ag, w⟩
  have im : ∀ {h : Heap} {fl : Value}, HandSPX.TracedZ h B a (L2N.Zn cls d) fl → HandSPX.TracedZ h B a (L2.Zc cls d) fl := fun x => L2H.tracedZ_imp (fun _ z => z.zc) x
  rcases sky with ⟨z1, z2, z3, oe, vs, z4, z5, z6⟩ | ⟨z1, z2, z3, z4⟩ | ⟨z1, z2, z3, z4⟩
  · exact .inl ⟨z1, z2, z3, oe, vs, z4, z5.zc, z6⟩
  · exact .inr (.inl ⟨z1, z2, z3, im z4⟩)
  · exact .inr (.inr ⟨z1, z2, z3, im z4⟩)
theorem takesFZ {X : Cx} : L2.Takes X WF := fun u s' h => by
  obtain ⟨_, _, _, _, _, _, _, _, h⟩ := h
  exact absurd h (by
    intro z
    obtain ⟨_, _, _, _, _, _, _, z⟩ := z
    first
      | exact z
      | (obtain ⟨_, z⟩ := z; exact z)
      | (obtain ⟨_, _, z⟩ := z; exact z))
/-! ### a statement that raises nothing -/
theorem ps_nox {X : Cx} {st : Stmt} {t : TS} (q : PS X.nox st t) : PS X st t := by
  constructor
  intro pins s σ H D I red
  have J : Inv X.nox pins σ H s := I.wish _
  exact wpAny_mono (q.run pins s σ H D J red) (fun _ _ e => SP.unwish e) (fun _ _ e => e.elim)
theorem s_nox {C : Cn} {W : WX} {X : Cx} {st : Stmt} {m1 : Ev → M Out} (h : DS C WF X.nox st m1) : DS C W X st (mNox m1) := fun B0 H0 B H σ env P fr E q => wS_of (ps_nox (sw (X := X.nox) (st := st))) <| h B0 H0 B H σ env P fr E (by
  unfold mNox noexc at q
  cases em : m1 env P with
  | stuck => rw [em] at q; exact q.elim
  | exc x P1 => rw [em] at q; exact q.elim
  | ok o P1 => rw [em] at q; cases o <;> exact q)
/-! ### is (not) with a truth value on the right -/
theorem op_isB {X : Cx} : OpR X (compareOp .Is) (fun x y H Q => ∃ m n, x = .bl m ∧ y = .bl n ∧ Q (.bl (decide (m = n))) H) := by
  intro pins s σ H x y v u Q I rx ry h
  obtain ⟨m, n, rfl, rfl, q⟩ := h
  cases (show v = Value.bool m from rx)
  cases (show u = Value.bool n from ry)
  by_cases e : m = n
  · subst e
    exact wpAny_is_self rfl ⟨.bl true, H, I, rfl, by simpa using q⟩
  · exact wpAny_is_other rfl (fun z => e (Value.bool.inj z)) ⟨.bl false, H, I, rfl, by simpa [e] using q⟩
theorem op_isNotB {X : Cx} : OpR X (compareOp .IsNot) (fun x y H Q => ∃ m n, x = .bl m ∧ y = .bl n ∧ Q (.bl (!decide (m = n))) H) := by
  intro pins s σ H x y v u Q I rx ry h
  obtain ⟨m, n, rfl, rfl, q⟩ := h
  cases (show v = Value.bool m from rx)
  cases (show u = Value.bool n from ry)
  by_cases e : m = n
  · subst e
    exact wpAny_isNot_self rfl ⟨.bl false, H, I, rfl, by simpa using q⟩
  · exact wpAny_isNot_other rfl (fun z => e (Value.bool.inj z)) ⟨.bl true, H, I, rfl, by simpa [e] using q⟩
def isBD (x y : D) : M Bool := match x, y with
  | .bl m, .bl n => M.ok (decide (m = n))
  | _, _ => M.stuck
def isNotBD (x y : D) : M Bool := match x, y with
  | .bl m, .bl n => M.ok (!decide (m = n))
  | _, _ => M.stuck
theorem RR.bool {C : Cn} {Hs B H : Hp} {v : V} {b : Bool} (r : RR C Hs B H v (.bl b)) : v = .bl b := by
  rcases r with r | ⟨xs, p, vs, e, _⟩
  · cases r; rfl
  · cases e
theorem c_isB {C : Cn} {X : Cx} : CmpOk C X .Is isBD := ⟨_, op_isB, fun W Ha Hb B H σ P x y a b Q s p ra rb q => by
  unfold isBD at q
  split at q
  · exact ⟨_, _, ra.bool, rb.bool, q.val' s p rfl⟩
  · exact q.elim⟩
theorem c_isNotB {C : Cn} {X : Cx} : CmpOk C X .IsNot isNotBD := ⟨_, op_isNotB, fun W Ha Hb B H σ P x y a b Q s p ra rb q => by
  unfold isNotBD at q
  split at q
  · exact ⟨_, _, ra.bool, rb.bool, q.val' s p rfl⟩
  · exact q.elim⟩
/-! ### the clause -/
inductive NamesL (X : Cx) : List Expr → List Value → Prop
  | nil : NamesL X [] []
  | cons {x : Str} {c : Value} {p : Pos} {es : List Expr} {cs : List Value} : Names X x c → NamesL X es cs → NamesL X (.Name x p :: es) (c :: cs)
/-- what the machine answers for a tuple of these classes -/
def TupM (K : PySem.W.Frag) (cs : List Value) : Prop := ∀ (M : Model) (cls : Value) (tp e : Addr) (b : Bool) (h : Heap), K.In h → PySem.W.Looks M h (typeOf (.ref e)) cls → h.get? tp = some { cls := .type "tuple", data := .seq cs.toArray } → PySem.W.exmAny K cls cs = some b → PySem.W.Looks M h (excMatches (.ref e) (.ref tp)) b
theorem tupM2 {K : PySem.W.Frag} {a b : Value} : TupM K [a, b] := fun _ _ _ _ _ _ x l g m => PySem.W.exm_tup2 x l g m
theorem tupM4 {K : PySem.W.Frag} {a b c d : Value} : TupM K [a, b, c, d] := fun _ _ _ _ _ _ x l g m => PySem.W.exm_tup4 x l g m
theorem any_cons {K : PySem.W.Frag} {cls c : Value} {r : List Value} {b d : Bool} (h : PySem.W.exmOne K cls c = some b) (t : PySem.W.exmAny K cls r = some d) : PySem.W.exmAny K cls (c :: r) = some (b || d) := by
  unfold PySem.W.exmAny
  rw [h, t]
theorem any_nil {K : PySem.W.Frag} {cls : Value} : PySem.W.exmAny K cls [] = some false := rfl
section
variable {X : Cx} {σ : L2.St} {H : Hp} {s : Shared}
theorem names_eval {a : Addr} {pn pins : List (Addr × Obj)} {es : List Expr} {cs : List Value} (n : NamesL X es cs) : ∀ {pos : Pos} {Q : List Value → Shared → Prop} {E : Value → Shared → Prop}, Inv (X.suite a pn) pins σ H s → Q cs s → wpAny (model X.prog X.w) (X.A.mark (some (.ref a))) (spliced (backTo pos (starEach es X.env))) Q E s := by
  induction n with
  | nil => exact fun _ q => wpAny_items_nil q
  | @cons x c p es cs h t ih =>
    intro pos Q E I q
    refine wpAny_items_cons ?_
    have nxt : wpAny (model X.prog X.w) (X.A.mark (some (.ref a))) (spliced (backTo pos (starEach es X.env))) (fun vs s2 => Q (c :: vs) s2) E s := ih I q
    obtain ⟨g1, g2, g3 | ⟨g3, g4, g5⟩⟩ := h
    · exact ld_glob (X := X.suite a pn) I g1 g3 nxt g2
    · exact ld_blt (X := X.suite a pn) I g1 g3 g4 nxt g5 g2
def wTup (K : PySem.W.Frag) (cs : List Value) (ts : Addr → Value → Option Addr → TS) (D : Ends) : WX := fun cls d σ H => PySem.W.exmAny K cls cs = some true ∧ ∀ a, H a = none → ts a cls d D σ H
theorem traced_keep {h h' B : Heap} {a : Addr} {Z : Obj → Prop} {fl : Value} (k : ∀ b o, h.get? b = some o → h'.get? b = some o) (x : HandSPX.TracedZ h B a Z fl) : HandSPX.TracedZ h' B a Z fl := by
  obtain ⟨oe, vs, T, oT, ts, x1, x2, x3, x4, x5, x6, x7, x8⟩ := x
  exact ⟨oe, vs, T, oT, ts, k _ _ x1, x2, x3, x4, x5, x6, k _ _ x7, x8⟩
theorem flying_keep {h h' B : Heap} {l : List Env} {a : Addr} {Z : Obj → Prop} (k : ∀ b o, h.get? b = some o → h'.get? b = some o) (x : HandSPX.FlyingZ B l a Z h) : HandSPX.FlyingZ B l a Z h' :=
  ⟨fun b o q => k b o (x.1 b o q), x.2.1, x.2.2.1.of_keeps fun b o q _ => ⟨o, k b o q, rfl⟩, traced_keep k x.2.2.2⟩
end
section
variable {X : Cx} {es : List Expr} {cs : List Value} {body suite : List Stmt} {b0 : Stmt} {kk : Nat} {tp pos pos' : Pos} {tb : WX → TS} {ts : Addr → Value → Option Addr → TS} {Wo : WX}
theorem ps_tryTup (hs : X.stack = X.env :: X.outer) (hf : X.env.frame = some X.env.locals) (nl : NamesL X es cs) (tm : TupM X.K cs) (hl : cs.length ≤ 8) (hpa : ∀ hd : Option Value, PassesOwnAt (model X.prog X.w) (X.A.mark hd) X.A X.env X.xe) (tk : L2.Takes X Wo)
    (hb : ∀ (W : WX) (pn : List (Addr × Obj)) (xe : Value → Shared → Prop), L2N.Takes (X.tr pn xe) W → PassesOwn (model X.prog X.w) X.A X.env xe → PSs (X.tr pn xe) body (tb W))
    (hsu : ∀ (a : Addr) (oe : Obj) (cls : Value) (d : Option Addr) (pn : List (Addr × Obj)), L2.Takes (L2H.suiteX X a ((a, oe) :: pn)) Wo → L2H.HotC (L2H.suiteX X a ((a, oe) :: pn)) → PSs (L2H.suiteX X a ((a, oe) :: pn)) (b0 :: suite) (ts a cls d)) :
    PS X (.Try body [.ExceptHandler (some (.Tuple es kk tp)) none (b0 :: suite) pos'] [] [] pos) (fun D σ H => tb (wTup X.K cs ts D) D σ H) := ⟨fun pins s σ H D I h => by
  have okX := I.ok
  have fX : X.A.frames = some (X.env :: X.outer) := by rw [okX.frames, hs]
  refine wpAny_Try_except (wpAny_mono ((hb (wTup X.K cs ts D) (X.pn ++ pins) (fun e z1 => wpAny (model X.prog X.w) X.A (noteFrame e X.env) (fun _ z2 => wpAny (model X.prog X.w) X.A (setFlight e none)
    (fun _ z3 => wpAny (model X.prog X.w) X.A (handleBy e X.env [.ExceptHandler (some (.Tuple es kk tp)) none (b0 :: suite) pos']) (SP X pins D) X.xe z3) X.xe z2) X.xe z1) (fun u s' xx => ?_) PassesOwn.looking).run [] s σ H D (I.toTry _) h) (fun fl z1 sp => ?_) fun _ _ q => q)
  rotate_left
  · cases fl with
    | ret u =>
      obtain ⟨v, τ, G, J, r, q⟩ := sp
      exact ⟨v, τ, G, J.ofTry okX, r, q⟩
    | next =>
      obtain ⟨τ, G, J, q⟩ := sp
      exact wpAny_execs_nil ⟨τ, G, J.ofTry okX, q⟩
    | brk =>
      obtain ⟨τ, G, J, q⟩ := sp
      exact ⟨τ, G, J.ofTry okX, q⟩
    | cont =>
      obtain ⟨τ, G, J, q⟩ := sp
      exact ⟨τ, G, J.ofTry okX, q⟩
  obtain ⟨a, B, sI, pins', τ, G, cls, d, rfl, J0, nb, up, sky, na, os, ag, w1, w2⟩ := xx
  have J := J0.ofTry (pins := pins) okX
  rw [show (X.tr (X.pn ++ pins) _).stack = X.env :: X.outer from hs] at sky
  refine L2N.Sky.land L2N.Zn.steady fX hf sky fun ha fa upa => ?_
  have JA : Inv X pins τ G { s' with heap := ha } := J.landed nb fa.1 (up.trans upa) os ag
  obtain ⟨oa, va, ea, za, da⟩ := fa.there
  have away : a ∉ frs (X.env :: X.outer) := fun z => by
    obtain ⟨_, o2, e2, n2⟩ := fa.2.2.1.mem z
    rw [ea] at e2
    cases e2
    exact n2 _ da
  have aL : a ≠ X.env.locals := fun z => away (List.mem_filterMap.mpr ⟨X.env, by simp, by rw [hf, z]⟩)
  have aF : a ∉ X.fs := fun z => by
    obtain ⟨e, m1, m2⟩ := List.mem_filterMap.mp z
    exact away (List.mem_filterMap.mpr ⟨e, by simp [m1], m2⟩)
  have SA := JA.suite ea da na aL aF
  refine wpAny_handleBy_cons (codeAny_handlers_test ?_) (by intro z; cases z)
  refine wpAny_Tuple (names_eval nl SA ⟨Nat.le_trans hl (by decide), ?_⟩)
  have kp : ∀ q o, ha.get? q = some o → (ha.push { cls := .type "tuple", data := .seq cs.toArray }).get? q = some o := fun _ _ z => Heap.get?_push_of_some _ z
  have lt : PySem.W.Looks (model X.prog X.w) (ha.push { cls := .type "tuple", data := .seq cs.toArray }) (typeOf (.ref a)) cls := fun A Q E z kz q => wpAny_typeOf_ref (kz _ _ (kp _ _ ea)) (by rw [za.1]; exact q)
  refine (tm _ _ _ _ true _ (JA.kIn.keeps kp) lt (Heap.get?_push_size ha rfl) w1).here ?_
  have fp := flying_keep kp fa
  have upp : ha.UpToSlots (ha.push { cls := .type "tuple", data := .seq cs.toArray }) := Heap.UpToSlots.of_keeps kp
  refine codeAny_handlers_suite (HandSPX.lands_againZ fp fun hb fb upb => ?_)
  have JB : Inv X pins τ G { s' with heap := hb } := J.landed nb fb.1 (((up.trans upa).trans upp).trans upb) os ag
  obtain ⟨ob, vb, eb, zb, db⟩ := fb.there
  have SB := JB.suite eb db na aL aF
  have tkS : L2.Takes (L2H.suiteX X a ((a, ob) :: (X.pn ++ pins))) Wo := fun u2 s2 ⟨a2, B2, sI2, pn2, σ2, H2, cls2, d2, e2, I2, nb2, up2, sky2, na2, os2, ag2, w3⟩ =>
    tk u2 s2 ⟨a2, B2, sI2, pins, σ2, H2, cls2, d2, e2, L2H.unsuiteX I2 okX, nb2, up2, sky2, na2, os2, ag2, w3⟩
  refine wpAny_mono ((hsu a ob cls d (X.pn ++ pins) tkS ⟨(a, ob), ⟨rfl, vb, db, zb.2.2 vb db⟩, by simp⟩).run [] _ _ G _ (L2H.suiteX_of SB) (w2 a na)) (fun fl z6 sp => ?_) (fun e6 z6 z => hpa (some (.ref a)) e6 z6 z)
  cases fl with
  | ret u =>
    obtain ⟨v6, τ6, G6, S6, r6, q6⟩ := sp
    exact ⟨v6, τ6, G6, L2H.unsuiteX S6 okX, r6, q6⟩
  | next =>
    obtain ⟨τ6, G6, S6, q6⟩ := sp
    exact ⟨τ6, G6, L2H.unsuiteX S6 okX, q6⟩
  | brk =>
    obtain ⟨τ6, G6, S6, q6⟩ := sp
    exact ⟨τ6, G6, L2H.unsuiteX S6 okX, q6⟩
  | cont =>
    obtain ⟨τ6, G6, S6, q6⟩ := sp
    exact ⟨τ6, G6, L2H.unsuiteX S6 okX, q6⟩⟩
end
/-- the clause takes the classes ys; its suite is m2 -/
def mTryH (ys : List Str) (m2 mb : Ev → M Out) : Ev → M Out := fun env P => match mb env P with
  | .exc (.exc c _) P' => if ys.contains c = true then m2 env P' else .stuck
  | .exc _ _ => .stuck
  | r => r
section
variable {C : Cn} {Wo : WX} {X : Cx} {es : List Expr} {cs : List Value} {body su : List Stmt} {b0 : Stmt} {kk : Nat} {tp pos pos' : Pos} {mb m2 : Ev → M Out} {ys : List Str}
theorem s_tryH (hs : X.stack = X.env :: X.outer) (hf : X.env.frame = some X.env.locals) (nl : NamesL X es cs) (tm : TupM X.K cs) (hl : cs.length ≤ 8) (hpa : ∀ hd : Option Value, PassesOwnAt (model X.prog X.w) (X.A.mark hd) X.A X.env X.xe) (tk : L2.Takes X Wo)
    (fac : ∀ c ∈ ys, PySem.W.exmAny X.K (.ref (C.adr c)) cs = some true)
    (hb : ∀ (W : WX) (pn : List (Addr × Obj)) (xe : Value → Shared → Prop), L2N.Takes (X.tr pn xe) W → PassesOwn (model X.prog X.w) X.A X.env xe → DST C W (X.tr pn xe) body mb)
    (hsu : ∀ (a : Addr) (pn : List (Addr × Obj)), L2.Takes (L2H.suiteX X a pn) Wo → L2H.HotC (L2H.suiteX X a pn) → DSs C Wo (L2H.suiteX X a pn) (b0 :: su) m2) :
    DS C Wo X (.Try body [.ExceptHandler (some (.Tuple es kk tp)) none (b0 :: su) pos'] [] [] pos) (mTryH ys m2 mb) := fun B0 H0 B H σ env P fr E q => by
  refine wS_of (ps_tryTup hs hf nl tm hl hpa tk (tb := fun W D σ H => ∀ (pn : List (Addr × Obj)) (xe : Value → Shared → Prop), L2N.Takes (X.tr pn xe) W → PassesOwn (model X.prog X.w) X.A X.env xe → wSs (X.tr pn xe) body D σ H)
    (ts := fun a cls d D σ H => ∀ (pn : List (Addr × Obj)), L2.Takes (L2H.suiteX X a pn) Wo → L2H.HotC (L2H.suiteX X a pn) → wSs (L2H.suiteX X a pn) (b0 :: su) D σ H)
    (fun W pn xe t po => ⟨fun pins s σ H D I h => h pn xe t po pins s I⟩) (fun a oe cls d pn t hot => ⟨fun pins s σ H D I h => h _ t hot pins s I⟩)) ?_
  intro pn xe t po
  refine hb _ pn xe t po B0 H0 B H σ env P fr E ?_
  unfold mTryH at q
  cases em : mb env P with
  | stuck => rw [em] at q; exact q.elim
  | ok o P1 =>
    rw [em] at q
    cases o with
    | next e => exact q
    | ret d => exact q
    | brk e => exact q
    | cont e => exact q
  | exc z P1 =>
    rw [em] at q
    cases z with
    | exc c fs =>
      have q : PostS C Wo B0 H0 (if ys.contains c = true then m2 env P1 else .stuck) E := q
      by_cases hc : ys.contains c = true
      · rw [if_pos hc] at q
        intro cls dd B' H' g p ⟨c', fs', e1, e2, e3⟩
        cases e1
        subst e2
        refine ⟨fac c (by simpa using hc), fun a ha pn' t' hot => ?_⟩
        exact hsu a pn' t' hot B0 H0 B' H' σ env P1 (fr.grow g p) E q
      · rw [if_neg hc] at q; exact q.elim
    | _ => exact q.elim
end
/-! ### raise C(e) from None in such a suite -/
structure Exc1H (P : Program) (w : World) (K : PySem.W.Frag) (mg : Str → Option Value) (base : Heap) (adr : Str → Addr) (c key f : Str) : Prop where
  oex : OexC K (adr c)
  ini : PySem.W.findIn K (.ref (adr c)) "__init__" = some (some (.ref (adr key)))
  tyI : PySem.W.typeIn K (.ref (adr key)) = some (.type "function")
  fn : ∃ (fd : FuncData) (ps : List Str), L2H.FnH P w K mg base (L2.CX P w) 1 (adr key) fd ps (spI (adr c) f) ∧ Binds K fd ps []
section
variable {P : Program} {w : World} {K : PySem.W.Frag} {mg : Str → Option Value} {base : Heap} {adr : Str → Addr} {key qual c f x0 x1 : Str} {st : Stmt}
theorem exc1H_mk {q1 q2 q3 q4 : Pos} (D0 : DefAt K adr key "__init__" qual st) (S : FnScope [x0, x1] [x0, x1] (defScope st)) (eb : defBody st = [.Assign [.Attribute (.Name x0 q1) f q2] (.Name x1 q3) q4]) (hb : BindsBy st "__init__" qual [x0, x1])
    (oex : OexC K (adr c)) (ini : PySem.W.findIn K (.ref (adr c)) "__init__" = some (some (.ref (adr key)))) (tyI : PySem.W.typeIn K (.ref (adr key)) = some (.type "function")) (no : PySem.W.findIn K (.ref (adr c)) f = some none)
    (h0 : (defScope st).names.lookup x0 = some .local) (h1 : (defScope st).names.lookup x1 = some .local)
    (d0 : (x0 == ("__debug__" : Str)) = false := by decide) (d1 : (x1 == ("__debug__" : Str)) = false := by decide) (c0 : (x0 == ("__classdict__" : Str)) = false := by decide) (c1 : (x1 == ("__classdict__" : Str)) = false := by decide) : Exc1H P w K mg base adr c key f := by
  obtain ⟨fd, F⟩ := D0.ex
  have hB := F.binds hb
  obtain ⟨_, _, _, _, _, _, _, _, _, rfl, lk, hc⟩ := F.ex
  refine ⟨oex, ini, tyI, _, [x0, x1], L2H.fn_ofH lk hc S (fun vs H Q E h => by obtain ⟨a, v, rfl, _⟩ := h; rfl) fun A outer s H vs Q E p hot hr h => ?_, hB⟩
  obtain ⟨a, v, rfl, ea, q⟩ := h
  rw [eb]
  refine ⟨_, pss_one (ps_ost (pe_var (i := 0) rfl (.inl h0) d0 c0) (pe_var (i := 1) rfl (.inl h1) d1 c1) rfl), ?_⟩
  exact ⟨v, rfl, .ref a, rfl, a, adr c, rfl, oex, no, .inl ⟨ea, fun dx hdx ne => q dx hdx ne⟩⟩
end
section
variable {C : Cn} {W : WX} {X : Cx} {e : Expr} {p pos pos' : Pos} {m : Ev → M D} {x : Str}
theorem s_raise1H {c key f : Str} {j : Nat} {cpos : Pos} (T : Exc1H X.prog X.w X.K X.mg X.base C.adr c key f) (hot : L2H.HotC X) (tk : L2.Takes X W) (hr : L2H.RoomH 2 X.A) (hm : X.mg x = some (.ref (C.adr c))) (h : DE C W X e m) (hg : Gl X x := by rfl) (hdb : (x == ("__debug__" : Str)) = false := by decide)
    (he : starEach [e] X.env = (false, eval e X.env) :: starEach [] X.env := by rfl) : DS C W X (.Raise (some (.Call (.Name x p) [e] [] pos)) (some (.Constant .none j cpos)) pos') (mRaise1 c f m) := fun B0 H0 B H σ env P fr E q => by
  obtain ⟨fd, ps, F, hb⟩ := T.fn
  refine wS_of (L2H.ps_raiseHN hot tk (L2H.pmk5_oexH T.oex T.ini T.tyI F hr hot hb passL hg hm aw hdb he rfl)) ?_
  refine (a_cons h a_nil he) B0 H0 B H σ env P fr _ ?_
  unfold mRaise1 M.bind at q
  unfold mCons M.bind
  cases em : m env P with
  | stuck => rw [em] at q; exact q.elim
  | exc y P1 =>
    rw [em] at q
    exact fun cls dd B' H' g p i => q cls dd σ B' H' (fr.g.trans g) p i
  | ok d P1 =>
    rw [em] at q
    intro vs B1 H1 g1 p1 r1
    have r1 : Reps C B1 vs [d] := r1
    cases r1 with
    | @cons v _ _ _ rv rt =>
      cases rt
      refine ⟨by simp, fun a ha => ⟨a, v, rfl, upd_same, fun dx hdx ne => ⟨rfl, dx, [(f, v)], upd_same, by rw [upd_ne ne, upd_same], ?_, ?_⟩⟩⟩
      · rw [upd_ne ne] at hdx; exact hdx
      · rw [upd_ne ne] at hdx
        have eq : upd (L2.del (upd (upd (upd H1 a (exo a (C.adr c) none)) dx (exd dx [(f, v)])) a (exo a (C.adr c) (some dx))) a) dx (.xd [(f, v)]) = upd H1 dx (.xd [(f, v)]) := by
          funext b
          unfold upd L2.del
          by_cases hb1 : b = dx
          · simp [hb1]
          · by_cases hb2 : b = a
            · subst hb2; simp [hb1, ha]
            · simp [hb1, hb2]
        rw [eq]
        have bdx : B1 dx = none := g1.sub.free hdx
        refine q (.ref (C.adr c)) (some dx) σ (upd B1 dx (.xd [(f, v)])) (upd H1 dx (.xd [(f, v)])) ((fr.g.trans g1).trans (Grow.new g1.sub hdx)) ?_ ⟨c, [(f, d)], rfl, rfl, .inr ⟨dx, [(f, v)], rfl, upd_same, .cons (rv.mono (Grow.new (C := C) g1.sub hdx).bb) .nil⟩⟩
        exact Pur.new p1 g1.sub hdx
end
/-! ### defs whose errors may have a context -/
structure PrNZ (L : List (List Str × List Nat)) (P : Program) (w : World) (K : PySem.W.Frag) (mg : Str → Option Value) (base : Heap) (adr : Str → Addr) (key : Str) (k n : Nat) (mf : List D → M D) : Prop where
  ex : ∃ (fd : FuncData) (ps : List Str), FnOk P w K mg base (L2.CX P w) k (adr key) fd ps (spD K adr n mf) ∧ Binds K fd ps [] ∧ PySem.W.keepIn K (.ref (adr key)) = true ∧ ∀ q ∈ L, KBn K fd ps 1 q.1 (fun us ws => us ++ pick q.2 ws) (fun vs zs => vs ++ pick q.2 zs)
section
variable {P : Program} {w : World} {K : PySem.W.Frag} {mg : Str → Option Value} {base : Heap} {adr : Str → Addr} {key nm qual : Str} {st : Stmt} {N ps : List Str} {k n : Nat} {mb : Ev → M Out} {mf : List D → M D}
theorem takes_cxZ {f : Addr} {cdv : Value} {A : Around} {outer : List Env} {s : Shared} {H : Hp} {E : XK} {scope : Scope} : L2.Takes (cxOf (L2.CX P w) P w K mg base N qual scope f cdv A outer s H E) (fun c d _ H => E c d H) := L2.takes_of rfl rfl rfl rfl
theorem passes_cxZ {f : Addr} {cdv : Value} {A : Around} {outer : List Env} {s : Shared} {H : Hp} {E : XK} {scope : Scope} (hd : Option Value) : PassesOwnAt (model P w) ((cxOf (L2.CX P w) P w K mg base N qual scope f cdv A outer s H E).A.mark hd) (cxOf (L2.CX P w) P w K mg base N qual scope f cdv A outer s H E).A (cxOf (L2.CX P w) P w K mg base N qual scope f cdv A outer s H E).env (cxOf (L2.CX P w) P w K mg base N qual scope f cdv A outer s H E).xe :=
  L2H.passesAt_of (X := cxOf (L2.CX P w) P w K mg base N qual scope f cdv A outer s H E) rfl hd
theorem fn_DZ {x : Str} {f : Addr} {fd : FuncData} (F : Fun K x qual st f fd) (S : FnScope N ps (defScope st))
    (hbody : ∀ (pu : Option Addr) (cdv : Value) (A : Around) (outer : List Env) (s : Shared) (H : Hp) (E : XK), Room k (A.deeper (envOfC qual (defScope st) s.heap.objs.size f cdv)) →
      DSs ⟨K, adr, pu⟩ (fun c d _ H => E c d H) (cxOf (L2.CX P w) P w K mg base N qual (defScope st) f cdv A outer s H E) (defBody st) mb) : FnOk P w K mg base (L2.CX P w) (k + 1) f fd ps (spD K adr ps.length (runD N.length mb)) := by
  refine F.okX S (fun vs H Q E h => h.1) fun cdv A outer s H vs Q E hr h => ?_
  obtain ⟨hl, pu, B, ds, Pp, r, sm, p, q⟩ := h
  have hpl : ps.length ≤ N.length := by
    have := congrArg List.length S.pre
    rw [List.length_take] at this; omega
  exact ⟨_, ssw, hbody pu cdv A outer s H E hr B H B H (L2.start N vs) (envOf N.length ds) Pp (Fr.start (by omega) r sm p) _ (PostF.toS q)⟩
theorem pr_NZ {L : List (List Str × List Nat)} (D0 : DefAt K adr key nm qual st) (S : FnScope N ps (defScope st)) (hn : ps.length = n) {nN kk : Nat} (hf : mf = runD nN mb) (hN : N.length = nN) (hk : kk = k + 1) (hb : BindsBy st nm qual ps)
    (hkb : ∀ q ∈ L, ∀ (kV doc pm : Value) (an : Option Addr) (cdv ct a : Value) (ws : List Value), ws.length = q.1.length → bindArgs (PySem.W.fnOf nm qual (defArgs st) (defBody st) (defScope st) .none kV doc pm an cdv ct) ⟨[a], q.1.zip ws⟩ = pure (ps.zip (a :: pick q.2 ws)))
    (hbody : ∀ (pu : Option Addr) (f : Addr) (cdv : Value) (A : Around) (outer : List Env) (s : Shared) (H : Hp) (E : XK), Room k (A.deeper (envOfC qual (defScope st) s.heap.objs.size f cdv)) → L2.Takes (cxOf (L2.CX P w) P w K mg base N qual (defScope st) f cdv A outer s H E) (fun c d _ H => E c d H) →
      DSs ⟨K, adr, pu⟩ (fun c d _ H => E c d H) (cxOf (L2.CX P w) P w K mg base N qual (defScope st) f cdv A outer s H E) (defBody st) mb) : PrNZ L P w K mg base adr key kk n mf := by
  obtain ⟨fd, F⟩ := D0.ex
  subst hn hN hk
  rw [hf]
  exact ⟨fd, ps, fn_DZ F S fun pu cdv A outer s H E hr => hbody pu _ cdv A outer s H E hr takes_cxZ, F.binds hb, F.kp, fun q hq => kbn_pick F (hkb q hq)⟩
end
section
variable {P : Program} {w : World} {K : PySem.W.Frag} {mg : Str → Option Value} {base : Heap} {adr : Str → Addr} {key nm qual : Str} {st : Stmt} {N ps : List Str} {k n : Nat} {mb : Ev → M Out} {mf : List D → M D}
/-- a def with defaults that may raise; all parameters are given -/
theorem pr_DdX {dds : List D} {nd : Nat} (D0 : DefAtD K adr key nm qual st dds) (hnd : dds.length = nd) (S : FnScope N ps (defScope st)) (hn : ps.length = n) {nN kk : Nat} (hf : mf = runD nN mb) (hN : N.length = nN) (hk : kk = k + 1) (hb : BindsByD st nm qual ps nd)
    (hbody : ∀ (pu : Option Addr) (f : Addr) (cdv : Value) (A : Around) (outer : List Env) (s : Shared) (H : Hp) (E : XK), Room k (A.deeper (envOfC qual (defScope st) s.heap.objs.size f cdv)) → L2N.Takes (cxOf (L2N.CX P w) P w K mg base N qual (defScope st) f cdv A outer s H E) (fun c d _ H => E c d H) →
      DSs ⟨K, adr, pu⟩ (fun c d _ H => E c d H) (cxOf (L2N.CX P w) P w K mg base N qual (defScope st) f cdv A outer s H E) (defBody st) mb) : Pr P w K mg base adr key kk n mf := by
  obtain ⟨fd, dvs, hd, hr, F⟩ := D0.ex
  subst hn hN hk
  rw [hf]
  exact ⟨fd, ps, fn_Dd F S fun pu cdv A outer s H E hr => hbody pu _ cdv A outer s H E hr takes_cx, binds_all F hd ((hr none (fun _ => none)).length.trans hnd) hb, F.kp⟩
end
section
variable {C : Cn} {W : WX} {X : Cx} {e : Expr} {es : List Expr} {kws : List Keyword} {p pos apos : Pos} {ms : Ev → M (List D)} {x nm cn key : Str} {mf : List D → M D} {k n : Nat}
/-- C.m(e, ..), m a classmethod that may raise -/
def mCmethX (cn : Str) (mf : List D → M D) (ms : Ev → M (List D)) : Ev → M D := fun env => M.bind (ms env) fun ds => mf (.cls cn :: ds)
theorem x_cmethX {L : List (List Str × List Nat)} {mc : Value} {pa : Addr} {pl : Sem Bool} (F : PrNZ L X.prog X.w X.K X.mg X.base C.adr key k (n + 1) mf) (hK : X.K = C.K) (tk : L2.Takes X W) (hr : Room k X.A) (hm : X.mg x = some (.ref (C.adr cn))) (rd : CRead X.K (C.adr cn) mc) (cm : CMet X.K (C.adr cn) mc nm pa (C.adr key)) (ha : DA C W X (e :: es) ms) (hlen : ∀ env P ds P', ms env P = .ok ds P' → ds.length = n)
    (hg : Gl X x := by rfl) (hd : (x == ("__debug__" : Str)) = false := by decide)
    (hst : starEach (e :: es) X.env = (false, eval e X.env) :: starEach es X.env := by rfl) (hpl : (backTo pos (starEach es X.env)).any (·.1) = false := by rfl)
    (ht : eval (.Call (.Attribute (.Name x p) nm apos) (e :: es) [] pos) X.env = (do
      let ov ← eval (.Name x p) X.env
      standAt apos.atName
      let (f, first) ← holding [ov] (getMethod ov nm pl)
      callWith pos f first (backTo pos (starEach (e :: es) X.env)) (backToKw pos (keywordEach [] X.env))) := by rfl) :
    DE C W X (.Call (.Attribute (.Name x p) nm apos) (e :: es) [] pos) (mCmethX cn mf ms) := fun B0 H0 B H σ env P fr Q q pins s I => by
  obtain ⟨fd, ps, F, hb, hk, _⟩ := F.ex
  refine PySem.W.methodCall_KW (pl := pl) (thn ((pe_glob (v := .ref (C.adr cn)) hg hm rfl hd).run pins s σ H (fun z H1 => z = .ref (C.adr cn) ∧ H1 = H) I ⟨rfl, rfl⟩) fun u s1 ⟨z, H1, I1, rx, ez, eH⟩ => ?_) ht
  subst ez
  subst eH
  obtain rfl : u = Value.ref (C.adr cn) := rx
  refine getmethcm_ok I1 rd cm fun s2 I2 => ?_
  refine callwith_cm I2 (base_none I1 (Nat.le_refl _)) cm.fi (thn (aw.run pos _ s2 σ _ (fun vs H2 => spD C.K C.adr (n + 1) mf (.ref (C.adr cn) :: vs) H2 Q (WE W σ)) I2 (ha B0 H0 B _ σ env P fr _ (Post.bind q fun ds P1 em vs B1 H3 g1 p1 r1 q9 =>
    ⟨by rw [List.length_cons, Reps.length (show Reps C B1 vs ds from r1), hlen _ _ _ _ em], C.pu, B1, _, P1, .cons (.cls cn) r1, g1.sub, p1, Post.toF (Hs := H3) q9⟩))) fun us s3 ⟨vs, H2, I3, rv, q2⟩ => ⟨⟨pin_at I3, I3.kIn⟩, ?_⟩) hst hpl
  have q3 : spD X.K C.adr (n + 1) mf (.ref (C.adr cn) :: vs) H2 Q (WE W σ) := by rw [hK]; exact q2
  have ln : (Value.ref (C.adr cn) :: us).length = ps.length := by
    have l1 := F.len _ _ _ _ q3
    rw [List.length_cons] at l1 ⊢
    rw [← rv.length]; exact l1
  have b := hb s3 (Value.ref (C.adr cn) :: us) I3.kIn (by rw [List.append_nil]; exact ln)
  rw [List.append_nil] at b
  have z : wpAny (model X.prog X.w) X.A (call (.ref s1.heap.objs.size) us) (EP X ((s1.heap.objs.size, PySem.W.methodObj (.ref (C.adr key)) (.ref (C.adr cn))) :: pins) σ Q) X.xe s3 :=
    wpAny_call (PySem.W.method_call (pin_at I3) (codeAny_mono (F.run X.A X.stack s3 H2 ⟨.ref (C.adr cn) :: us, []⟩ (.ref (C.adr cn) :: us) (.ref (C.adr cn) :: vs) Q (WE W σ) hr I3.env0 b (.cons rfl rv) q3) fun r s' hq => by
      cases r with
      | error er => exact L2.passAt tk σ _ H2 s3 er s' I3 hq
      | ok fl =>
        cases fl with
        | ret v => exact I3.after hq
        | next => exact False.elim hq
        | brk => exact False.elim hq
        | cont => exact False.elim hq))
  exact thn z fun _ _ y => unpinE y
/-- cls(e, ..), cls the first parameter of a classmethod -/
def mMakeLX (i : Nat) (cn : Str) (mf : List D → M D) (ms : Ev → M (List D)) : Ev → M D := fun env => M.bind (optM ((env[i]?).bind (clsO cn))) fun _ => mMakeX cn mf ms env
theorem x_makeLX {i : Nat} (F : Pr X.prog X.w X.K X.mg X.base C.adr key k (n + 1) mf) (hK : X.K = C.K) (tk : L2N.Takes X W) (hr : Room (k + 1) X.A) (M0 : Mk X.K (C.adr cn) (C.adr key)) (hN : X.N[i]? = some x) (hv : Vis X.env.scope x)
    (ha : DA C W X (e :: es) ms) (hlen : ∀ env P ds P', ms env P = .ok ds P' → ds.length = n) (hdb : (x == ("__debug__" : Str)) = false := by decide) (hcd : (x == ("__classdict__" : Str)) = false := by decide)
    (he : starEach (e :: es) X.env = (false, eval e X.env) :: starEach es X.env := by rfl) (hpl : (backTo pos (starEach es X.env)).any (·.1) = false := by rfl) :
    DE C W X (.Call (.Name x p) (e :: es) [] pos) (mMakeLX i cn mf ms) := fun B0 H0 B H σ env P fr Q q pins s I => by
  obtain ⟨_, e1, q⟩ := Post.opt' q
  have hs : σ[i]? = some (some (.ref (C.adr cn))) := by
    cases e2 : env[i]? with
    | none => rw [e2] at e1; cases e1
    | some sl =>
      rw [e2] at e1
      cases sl with
      | val d =>
        cases d with
        | cls c =>
          have e1 : (if c = cn then some () else none) = some _ := e1
          by_cases z : c = cn
          · subst z
            obtain ⟨v, h1, h2⟩ := fr.val i _ e2
            cases h2
            exact h1
          · rw [if_neg z] at e1; cases e1
        | _ => cases e1
      | _ => cases e1
  obtain ⟨fd, ps, F, hb, hk⟩ := F.ex
  refine wpAny_Call_Name_kw (thn ((pe_var (pos := p) hN hv hdb hcd).run pins s σ H (fun v H1 => v = .ref (C.adr cn) ∧ H1 = H) I ⟨.ref (C.adr cn), hs, rfl, rfl⟩) fun u s1 ⟨v, H1, I1, r1, q1⟩ => ?_)
  obtain ⟨rfl, rfl⟩ := q1
  cases r1
  refine PySem.W.callWith_K (h₀ := X.base) I.ok.mod.kin M0.kp (thn (ha B0 H0 B _ σ env P fr (fun vs H1 => ∀ x dx, H1 x = none → H1 dx = none → dx ≠ x → spD C.K C.adr (n + 1) mf (.ref x :: vs) (upd (upd H1 dx (.own x)) x (.ins (C.adr cn) dx [])) (fun v H2 => v = .non ∧ Q (.ref x) H2) (WE W σ))
    (Post.bind q fun ds P1 em vs B1 H2 g1 p1 r1 q9 => makeX_ok (Hs := H2) (hlen _ _ _ _ em) r1 g1.sub p1 q9) pos pins s1 I1) fun us s2 ⟨vs, H2, I2, r, q1⟩ => ⟨I2.kIn, ?_⟩) he hpl
  have hq := q1 (s2.heap.objs.size + 1) s2.heap.objs.size (I2.hok.fresh (Nat.le_succ _)) (I2.hok.fresh (Nat.le_refl _)) (Nat.ne_of_lt (Nat.lt_succ_self _))
  have I3 := Inv.made (C := C.adr cn) I2
  have r2 : Vals (V.ref (s2.heap.objs.size + 1) :: vs) (Value.ref (s2.heap.objs.size + 1) :: us) := .cons rfl r
  rw [← hK] at hq
  have hl : ((Value.ref (s2.heap.objs.size + 1) :: us) ++ ([] : List Value)).length = ps.length := by
    rw [List.append_nil, ← r2.length]
    exact F.len _ _ _ _ hq
  have b := hb _ (Value.ref (s2.heap.objs.size + 1) :: us) I3.kIn hl
  rw [List.append_nil] at b
  refine wpAny_call (make_map (f := C.adr key) I2.kIn M0.makes M0.init (beq_iff_eq.mp M0.fn) (codeAny_mono (F.run _ X.stack _ _ ⟨Value.ref (s2.heap.objs.size + 1) :: us, []⟩ (Value.ref (s2.heap.objs.size + 1) :: us) _ _ (WE W σ) (hr.make (C.adr cn) us []) (I3.env0.make (C.adr cn) us []) b r2 hq) fun z s' hz => ?_))
  cases z with
  | error e => exact L2N.passAt tk σ _ _ _ e s' I3 hz
  | ok fl =>
    cases fl with
    | ret u =>
      obtain ⟨v, H', I4, rv, ev, q3⟩ := I3.after hz
      subst ev
      exact ⟨rv, V.ref (s2.heap.objs.size + 1), H', I4, rfl, q3⟩
    | next => exact False.elim hz
    | brk => exact False.elim hz
    | cont => exact False.elim hz
end
/-! ### three names at once, the middle one a list of its own -/
def mPar3M (i j l : Nat) (m1 : Ev → M D) (m2 : Ev → M Sl) (m3 : Ev → M D) : Ev → M Out := fun env => M.bind (m1 env) fun s => M.bind (m2 env) fun t => M.bind (m3 env) fun u => M.ok (.next (((env.set j t).set i (.val s)).set l (.val u)))
theorem s_par3M {C : Cn} {W : WX} {X : Cx} {a b c : Expr} {pos : Pos} (i j l : Nat) {x y z : Str} {px py pz pt : Pos} {kt k2 pt2} {m1 m3 : Ev → M D} {m2 : Ev → M Sl} (ha : DE C W X a m1) (hb : DX C W X b m2) (hcc : DE C W X c m3)
    (k : PS X (.Assign [.Tuple [.Name x px, .Name y py, .Name z pz] kt pt] (.Tuple [a, b, c] k2 pt2) pos) (tPar3 i j l (tCons (wE X a) (tCons (wE X b) (tCons (wE X c) tNil))))) (hij : i ≠ j := by decide) :
    DS C W X (.Assign [.Tuple [.Name x px, .Name y py, .Name z pz] kt pt] (.Tuple [a, b, c] k2 pt2) pos) (mPar3M i j l m1 m2 m3) := fun B0 H0 B H σ env P fr E q =>
  wS_of k (ha B0 H0 B H σ env P fr _ (PostS.bind fr q fun s P1 v B1 H1 g1 p1 fr1 r1 q =>
    hb B0 H0 B1 H1 σ env P1 fr1 _ (PostS.bind fr1 q fun t P2 u B2 H2 g2 p2 fr2 r2 q =>
      hcc B0 H0 B2 H2 σ env P2 fr2 _ (PostS.bind fr2 q fun z P3 w B3 H3 g3 p3 fr3 r3 q => by
        refine ⟨v, u, w, rfl, ?_⟩
        have f1 := fr3.store j (keepsX r2 g3) (fun l h => fr1.g.there h) fun l h => fr1.fresh h
        have f2 := (f1.set i (Rep.mono (g2.trans g3).bb r1)).set l r3
        rw [List.set_comm _ _ (Ne.symm hij)] at f2
        exact q _ B3 H3 f2))))
end PD

set_option Elab.async false
set_option linter.all false
set_option maxRecDepth 100000
set_option maxHeartbeats 4000000
namespace K13
open PySem PySem.Spec PyProof.Rows L2 RZ ClX PD
def top (i : Nat) : Stmt := PySem.Challenge.pw_shapetallies_k13_whole_bounded_shapes.main.body.getD i (.Pass ⟨0, 0, 0, 0⟩)
def ws_SIZES : List Str := [("s" : Str), ("t" : Str)]
def ws_WORDS : List Str := [("s" : Str), ("t" : Str), ("" : Str)]
def ws_PLACES : List Str := [("x" : Str), ("y" : Str)]
def tb_words : List (Str × List Str) := [("WORDS", ws_WORDS), ("PLACES", ws_PLACES)]
abbrev st_is_integer : Stmt := top 12
abbrev st_is_between : Stmt := top 13
abbrev st_is_move : Stmt := top 27
abbrev st_is_corner : Stmt := top 28
abbrev st_check_corners : Stmt := top 29
abbrev st_check_least : Stmt := top 30
abbrev st_check_factors : Stmt := top 31
abbrev st_is_colour : Stmt := top 32
abbrev st_differences : Stmt := top 33
abbrev st_is_bounded : Stmt := top 34
abbrev st_text_of_sizes : Stmt := top 36
abbrev st_join_of : Stmt := top 17
abbrev st_text_of_sum : Stmt := top 16
abbrev st_text_of_move : Stmt := top 35
abbrev st_text_of : Stmt := top 37
abbrev st_Shape___init__ : Stmt := inClass (top 41) 0
abbrev st_least_of_text : Stmt := top 38
abbrev st_number_of : Stmt := top 14
abbrev st_summand_of : Stmt := top 18
abbrev st_sum_of_text : Stmt := top 19
abbrev st_corner_of_text : Stmt := top 39
abbrev st_colour_of_text : Stmt := top 40
abbrev st_Shape_read : Stmt := inClass (top 41) 1
abbrev st__law_sum : Stmt := top 46
abbrev st__law_dot_text : Stmt := top 50
abbrev st__law_figure_text : Stmt := top 51
abbrev st__law_told : Stmt := top 52
abbrev st__law_purse : Stmt := top 44
abbrev st__law_take : Stmt := top 45
abbrev st__law_dot : Stmt := top 47
abbrev st__law_alike : Stmt := top 48
abbrev st__law_tint : Stmt := top 49
abbrev st__law_right : Stmt := top 53
abbrev st__law_cell : Stmt := top 43
abbrev st_law : Stmt := top 54
abbrev st_InvalidColour___init__ : Stmt := inClass (top 4) 0
abbrev st_InvalidText___init__ : Stmt := inClass (top 3) 0
structure Tx (K : PySem.W.Frag) (mg : Str → Option Value) (adr : Str → Addr) : Prop where
  isi_Shape : IsiC K (adr "Shape")
  n_tuple : mg "tuple" = none
  n_isinstance : mg "isinstance" = none
  n_enumerate : mg "enumerate" = none
  c_MOST_CORNERS : ∃ t, mg "MOST_CORNERS" = some (.int 4 t)
  n_len : mg "len" = none
  n_int : mg "int" = none
  n_bool : mg "bool" = none
  g_is_integer : mg "is_integer" = some (.ref (adr "is_integer"))
  c_DISTANCE : ∃ t, mg "DISTANCE" = some (.int 5 t)
  g_is_between : mg "is_between" = some (.ref (adr "is_between"))
  c_FACTOR : ∃ t, mg "FACTOR" = some (.int 2 t)
  g_is_move : mg "is_move" = some (.ref (adr "is_move"))
  g_is_corner : mg "is_corner" = some (.ref (adr "is_corner"))
  g_check_corners : mg "check_corners" = some (.ref (adr "check_corners"))
  kt_SIZES : ∀ pu, KTup ⟨K, adr, pu⟩ "SIZES" ws_SIZES
  g_SIZES : mg "SIZES" = some (.ref (adr "SIZES"))
  g_check_least : mg "check_least" = some (.ref (adr "check_least"))
  n_range : mg "range" = none
  n_any : mg "any" = none
  g_check_factors : mg "check_factors" = some (.ref (adr "check_factors"))
  c_MOST_COLOURS : ∃ t, mg "MOST_COLOURS" = some (.int 4 t)
  n_all : mg "all" = none
  g_is_colour : mg "is_colour" = some (.ref (adr "is_colour"))
  g_InvalidColour : mg "InvalidColour" = some (.ref (adr "InvalidColour"))
  d_InvalidColour___init__ : DefAt K adr "InvalidColour.__init__" "__init__" "InvalidColour.__init__" st_InvalidColour___init__
  oex_InvalidColour : OexC K (adr "InvalidColour")
  ini_InvalidColour : PySem.W.findIn K (.ref (adr "InvalidColour")) "__init__" = some (some (.ref (adr "InvalidColour.__init__"))) ∧ PySem.W.typeIn K (.ref (adr "InvalidColour.__init__")) = some (.type "function") ∧ PySem.W.findIn K (.ref (adr "InvalidColour")) "given" = some none
  n_zip : mg "zip" = none
  g_differences : mg "differences" = some (.ref (adr "differences"))
  n_abs : mg "abs" = none
  g_is_bounded : mg "is_bounded" = some (.ref (adr "is_bounded"))
  g_Unbounded : mg "Unbounded" = some (.ref (adr "Unbounded"))
  ex0_Unbounded : Exc0 K (adr "Unbounded")
  cl_Shape : Cls K (adr "Shape")
  na_Shape_points : NoAttr K (adr "Shape") "points"
  na_Shape_starts : NoAttr K (adr "Shape") "starts"
  na_Shape_dye : NoAttr K (adr "Shape") "dye"
  g_text_of_sizes : mg "text_of_sizes" = some (.ref (adr "text_of_sizes"))
  kt_PLACES : ∀ pu, KTup ⟨K, adr, pu⟩ "PLACES" ws_PLACES
  kt_WORDS : ∀ pu, KTup ⟨K, adr, pu⟩ "WORDS" ws_WORDS
  n_str : mg "str" = none
  g_join_of : mg "join_of" = some (.ref (adr "join_of"))
  g_WORDS : mg "WORDS" = some (.ref (adr "WORDS"))
  g_text_of_sum : mg "text_of_sum" = some (.ref (adr "text_of_sum"))
  g_text_of_move : mg "text_of_move" = some (.ref (adr "text_of_move"))
  g_PLACES : mg "PLACES" = some (.ref (adr "PLACES"))
  g_text_of : mg "text_of" = some (.ref (adr "text_of"))
  na_Shape_words : NoAttr K (adr "Shape") "words"
  mk_Shape : Mk K (adr "Shape") (adr "Shape.__init__")
  g_Shape : mg "Shape" = some (.ref (adr "Shape"))
  g_InvalidText : mg "InvalidText" = some (.ref (adr "InvalidText"))
  d_InvalidText___init__ : DefAt K adr "InvalidText.__init__" "__init__" "InvalidText.__init__" st_InvalidText___init__
  oex_InvalidText : OexC K (adr "InvalidText")
  ini_InvalidText : PySem.W.findIn K (.ref (adr "InvalidText")) "__init__" = some (some (.ref (adr "InvalidText.__init__"))) ∧ PySem.W.typeIn K (.ref (adr "InvalidText.__init__")) = some (.type "function") ∧ PySem.W.findIn K (.ref (adr "InvalidText")) "given" = some none
  xis_Unbounded__Unbounded : PySem.W.exmOne K (.ref (adr "Unbounded")) (.ref (adr "Unbounded")) = some true
  xno_InvalidText__Unbounded : PySem.W.exmOne K (.ref (adr "InvalidText")) (.ref (adr "Unbounded")) = some false
  g_least_of_text : mg "least_of_text" = some (.ref (adr "least_of_text"))
  c_DIGITS : ∃ t, mg "DIGITS" = some (.str "0123456789" t)
  g_number_of : mg "number_of" = some (.ref (adr "number_of"))
  g_summand_of : mg "summand_of" = some (.ref (adr "summand_of"))
  g_sum_of_text : mg "sum_of_text" = some (.ref (adr "sum_of_text"))
  g_corner_of_text : mg "corner_of_text" = some (.ref (adr "corner_of_text"))
  g_colour_of_text : mg "colour_of_text" = some (.ref (adr "colour_of_text"))
  g_InvalidCorners : mg "InvalidCorners" = some (.ref (adr "InvalidCorners"))
  g_InvalidLeast : mg "InvalidLeast" = some (.ref (adr "InvalidLeast"))
  xno_Unbounded__InvalidColour : PySem.W.exmOne K (.ref (adr "Unbounded")) (.ref (adr "InvalidColour")) = some false
  xno_Unbounded__InvalidLeast : PySem.W.exmOne K (.ref (adr "Unbounded")) (.ref (adr "InvalidLeast")) = some false
  xno_Unbounded__InvalidCorners : PySem.W.exmOne K (.ref (adr "Unbounded")) (.ref (adr "InvalidCorners")) = some false
  g__law_sum : mg "_law_sum" = some (.ref (adr "_law_sum"))
  g__law_dot_text : mg "_law_dot_text" = some (.ref (adr "_law_dot_text"))
  g__law_figure_text : mg "_law_figure_text" = some (.ref (adr "_law_figure_text"))
  rd_Shape_read : CRead K (adr "Shape") (.type "type") ∧ CMet K (adr "Shape") (.type "type") "read" (adr "Shape.read#") (adr "Shape.read")
  xis_InvalidText__InvalidText : PySem.W.exmOne K (.ref (adr "InvalidText")) (.ref (adr "InvalidText")) = some true
  xno_Unbounded__InvalidText : PySem.W.exmOne K (.ref (adr "Unbounded")) (.ref (adr "InvalidText")) = some false
  g__law_told : mg "_law_told" = some (.ref (adr "_law_told"))
  n_repr : mg "repr" = none
  n_min : mg "min" = none
  n_max : mg "max" = none
  n_divmod : mg "divmod" = none
  g__law_take : mg "_law_take" = some (.ref (adr "_law_take"))
  g__law_dot : mg "_law_dot" = some (.ref (adr "_law_dot"))
  g__law_alike : mg "_law_alike" = some (.ref (adr "_law_alike"))
  g__law_tint : mg "_law_tint" = some (.ref (adr "_law_tint"))
  g__law_cell : mg "_law_cell" = some (.ref (adr "_law_cell"))
  g__law_right : mg "_law_right" = some (.ref (adr "_law_right"))
  g__law_purse : mg "_law_purse" = some (.ref (adr "_law_purse"))
  d_is_integer : DefAt K adr "is_integer" "is_integer" "is_integer" st_is_integer
  d_is_between : DefAt K adr "is_between" "is_between" "is_between" st_is_between
  d_is_move : DefAt K adr "is_move" "is_move" "is_move" st_is_move
  d_is_corner : DefAt K adr "is_corner" "is_corner" "is_corner" st_is_corner
  d_check_corners : DefAt K adr "check_corners" "check_corners" "check_corners" st_check_corners
  d_check_least : DefAt K adr "check_least" "check_least" "check_least" st_check_least
  d_check_factors : DefAt K adr "check_factors" "check_factors" "check_factors" st_check_factors
  d_is_colour : DefAt K adr "is_colour" "is_colour" "is_colour" st_is_colour
  d_differences : DefAt K adr "differences" "differences" "differences" st_differences
  d_is_bounded : DefAt K adr "is_bounded" "is_bounded" "is_bounded" st_is_bounded
  d_text_of_sizes : DefAt K adr "text_of_sizes" "text_of_sizes" "text_of_sizes" st_text_of_sizes
  d_join_of : DefAt K adr "join_of" "join_of" "join_of" st_join_of
  d_text_of_sum : DefAt K adr "text_of_sum" "text_of_sum" "text_of_sum" st_text_of_sum
  d_text_of_move : DefAt K adr "text_of_move" "text_of_move" "text_of_move" st_text_of_move
  d_text_of : DefAt K adr "text_of" "text_of" "text_of" st_text_of
  d_Shape___init__ : DefAtD K adr "Shape.__init__" "__init__" "Shape.__init__" st_Shape___init__ [.tup [], .non]
  d_least_of_text : DefAt K adr "least_of_text" "least_of_text" "least_of_text" st_least_of_text
  d_number_of : DefAt K adr "number_of" "number_of" "number_of" st_number_of
  d_summand_of : DefAt K adr "summand_of" "summand_of" "summand_of" st_summand_of
  d_sum_of_text : DefAt K adr "sum_of_text" "sum_of_text" "sum_of_text" st_sum_of_text
  d_corner_of_text : DefAt K adr "corner_of_text" "corner_of_text" "corner_of_text" st_corner_of_text
  d_colour_of_text : DefAt K adr "colour_of_text" "colour_of_text" "colour_of_text" st_colour_of_text
  d_Shape_read : DefAt K adr "Shape.read" "read" "Shape.read" st_Shape_read
  d__law_sum : DefAt K adr "_law_sum" "_law_sum" "_law_sum" st__law_sum
  d__law_dot_text : DefAt K adr "_law_dot_text" "_law_dot_text" "_law_dot_text" st__law_dot_text
  d__law_figure_text : DefAt K adr "_law_figure_text" "_law_figure_text" "_law_figure_text" st__law_figure_text
  d__law_told : DefAt K adr "_law_told" "_law_told" "_law_told" st__law_told
  d__law_purse : DefAt K adr "_law_purse" "_law_purse" "_law_purse" st__law_purse
  d__law_take : DefAt K adr "_law_take" "_law_take" "_law_take" st__law_take
  d__law_dot : DefAt K adr "_law_dot" "_law_dot" "_law_dot" st__law_dot
  d__law_alike : DefAt K adr "_law_alike" "_law_alike" "_law_alike" st__law_alike
  d__law_tint : DefAt K adr "_law_tint" "_law_tint" "_law_tint" st__law_tint
  d__law_right : DefAt K adr "_law_right" "_law_right" "_law_right" st__law_right
  d__law_cell : DefAt K adr "_law_cell" "_law_cell" "_law_cell" st__law_cell
  d_law : DefAt K adr "law" "law" "law" st_law
  g_law : mg "law" = some (.ref (adr "law"))
section
variable {P : Program} {w : World} {K : PySem.W.Frag} {mg : Str → Option Value} {base : Heap} {adr : Str → Addr}
theorem sc_InvalidColour___init__ : FnScope ["self", "given"] ["self", "given"] (defScope st_InvalidColour___init__) := ⟨rfl, rfl, rfl, by decide +kernel, rfl, by decide +kernel, by decide +kernel⟩
theorem y_InvalidColour (T : Tx K mg adr) : Exc1 P w K mg base adr "InvalidColour" "InvalidColour.__init__" "given" :=
  exc1_mk T.d_InvalidColour___init__ sc_InvalidColour___init__ rfl (fun _ _ _ _ _ _ us hl => match us, hl with | [_, _], _ => rfl) T.oex_InvalidColour T.ini_InvalidColour.1 T.ini_InvalidColour.2.1 T.ini_InvalidColour.2.2 (by decide +kernel) (by decide +kernel)
theorem sc_InvalidText___init__ : FnScope ["self", "given"] ["self", "given"] (defScope st_InvalidText___init__) := ⟨rfl, rfl, rfl, by decide +kernel, rfl, by decide +kernel, by decide +kernel⟩
theorem y_InvalidText (T : Tx K mg adr) : Exc1 P w K mg base adr "InvalidText" "InvalidText.__init__" "given" :=
  exc1_mk T.d_InvalidText___init__ sc_InvalidText___init__ rfl (fun _ _ _ _ _ _ us hl => match us, hl with | [_, _], _ => rfl) T.oex_InvalidText T.ini_InvalidText.1 T.ini_InvalidText.2.1 T.ini_InvalidText.2.2 (by decide +kernel) (by decide +kernel)
theorem yh_InvalidText (T : Tx K mg adr) : Exc1H P w K mg base adr "InvalidText" "InvalidText.__init__" "given" :=
  exc1H_mk T.d_InvalidText___init__ sc_InvalidText___init__ rfl (fun _ _ _ _ _ _ us hl => match us, hl with | [_, _], _ => rfl) T.oex_InvalidText T.ini_InvalidText.1 T.ini_InvalidText.2.1 T.ini_InvalidText.2.2 (by decide +kernel) (by decide +kernel)
theorem sc_is_integer : FnScope ["value"] ["value"] (defScope st_is_integer) := ⟨rfl, rfl, rfl, by decide +kernel, rfl, by decide +kernel, by decide +kernel⟩
def b_is_integer : Ev → M Out := (mRet (mAndV (mUn (mCons (mVarR 0) (mCons (mC (.ty "int")) mNil)) fun ds => optM ((isiQ "Shape") ds)) (mUn (mUn (mCons (mVarR 0) (mCons (mC (.ty "bool")) mNil)) fun ds => optM ((isiQ "Shape") ds)) notD)))
def f_is_integer : List D → M D := runD 1 (mNox b_is_integer)
theorem p_is_integer (T : Tx K mg adr) : Pr P w K mg base adr "is_integer" 1 1 f_is_integer :=
  pr_D (mb := b_is_integer) T.d_is_integer sc_is_integer rfl rfl rfl rfl (fun _ _ _ _ _ _ us hl => match us, hl with | [_], _ => rfl) fun pu f cdv A outer s H E hr => by
    have nd := sc_is_integer.nd
    refine s_one ?_
    refine s_ret ?_
    refine e_and ?_ ?_
    · refine do_callB (x_isi T.isi_Shape) ?_ T.n_isinstance
      refine ar_cons (r_var 0) ?_ (hs := st_name)
      exact (ar_cons (r_e (e_ty T.n_int (by decide +kernel))) ar_nil (hs := st_name))
    refine e_one ?_
    refine e_not ?_
    refine do_callB (x_isi T.isi_Shape) ?_ T.n_isinstance
    refine ar_cons (r_var 0) ?_ (hs := st_name)
    exact (ar_cons (r_e (e_ty T.n_bool (by decide +kernel))) ar_nil (hs := st_name))
theorem sc_is_between : FnScope ["value", "low", "high"] ["value", "low", "high"] (defScope st_is_between) := ⟨rfl, rfl, rfl, by decide +kernel, rfl, by decide +kernel, by decide +kernel⟩
def b_is_between : Ev → M Out := (mRet (mAndV (mUn (mCons (mVar 0) mNil) f_is_integer) (mAndV (mBi (mVarR 0) (mVarR 1) fun x y => blM (geD x y)) (mOrV (mBi (mVarR 2) (mC .non) fun x y => blM (isD x y)) (mBi (mVarR 0) (mVarR 2) fun x y => blM (leD x y))))))
def f_is_between : List D → M D := runD 3 (mNox b_is_between)
theorem p_is_between (T : Tx K mg adr) : Pr P w K mg base adr "is_between" 2 3 f_is_between :=
  pr_D (mb := b_is_between) T.d_is_between sc_is_between rfl rfl rfl rfl (fun _ _ _ _ _ _ us hl => match us, hl with | [_, _, _], _ => rfl) fun pu f cdv A outer s H E hr => by
    have nd := sc_is_between.nd
    refine s_one ?_
    refine s_ret ?_
    refine e_and ?_ ?_
    · refine x_call (C := ⟨K, adr, pu⟩) (p_is_integer T) rfl (hr.mono (j := 1) (by decide)) T.g_is_integer ?_ (hlen := (mCons_len mNil_len))
      exact (a_cons (e_var 0) a_nil (hs := st_name))
    refine e_and ?_ ?_
    · exact (e_cmp c_ge (r_var 0) (r_var 1))
    refine e_one ?_
    exact (e_or (e_cmp c_is (r_var 2) (r_e e_non)) (e_one (e_cmp c_le (r_var 0) (r_var 2))))
theorem sc_is_move : FnScope ["value"] ["value"] (defScope st_is_move) := ⟨rfl, rfl, rfl, by decide +kernel, rfl, by decide +kernel, by decide +kernel⟩
def b_is_move : Ev → M Out := (mSeq (mIfS (mOr (mNot (mT (mUn (mCons (mVarR 0) (mCons (mC (.ty "tuple")) mNil)) fun ds => optM ((isiQ "Shape") ds)))) (mOr (mBi (mUn (mCons (mVarR 0) mNil) fun ds => optM (lenO ds)) (mC (.int 3)) neD) (mNot (mT (mUn (mCons (mIx (mVarR 0) (mC (.int 0))) (mCons (mUn (mC (.int 5)) negD) (mCons (mC (.int 5)) mNil))) f_is_between))))) (mRet (mC (.bl false))) mSkip) (mRet (mAndV (mUn (mCons (mIx (mVarR 0) (mC (.int 1))) (mCons (mUn (mC (.int 2)) negD) (mCons (mC (.int 2)) mNil))) f_is_between) (mUn (mCons (mIx (mVarR 0) (mC (.int 2))) (mCons (mUn (mC (.int 2)) negD) (mCons (mC (.int 2)) mNil))) f_is_between))))
def f_is_move : List D → M D := runD 1 (mNox b_is_move)
theorem p_is_move (T : Tx K mg adr) : Pr P w K mg base adr "is_move" 3 1 f_is_move :=
  pr_D (mb := b_is_move) T.d_is_move sc_is_move rfl rfl rfl rfl (fun _ _ _ _ _ _ us hl => match us, hl with | [_], _ => rfl) fun pu f cdv A outer s H E hr => by
    have nd := sc_is_move.nd
    refine s_cons ?_ ?_
    · refine s_if ?_ (s_one (s_ret e_bl)) s_nil
      refine t_w ?_
      refine w_or ?_ ?_
      · refine t_not ?_
        refine t_val ?_
        refine do_callB (x_isi T.isi_Shape) ?_ T.n_isinstance
        refine ar_cons (r_var 0) ?_ (hs := st_name)
        exact (ar_cons (r_e (e_ty T.n_tuple (by decide +kernel))) ar_nil (hs := st_name))
      refine w_or ?_ ?_
      · refine t_cmp (c_ne (u64 hr)) ?_ (r_e e_int)
        exact (r_e (do_callB cl_len (ar_cons (r_var 0) ar_nil (hs := st_name)) T.n_len))
      refine w_or1 ?_
      refine t_not ?_
      refine t_val ?_
      refine x_call (C := ⟨K, adr, pu⟩) (p_is_between T) rfl (hr.mono (j := 2) (by decide)) T.g_is_between ?_ (hlen := (mCons_len (mCons_len (mCons_len mNil_len))))
      refine a_cons (e_ix (r_var 0) e_int) ?_ (hs := st_sub)
      refine a_cons ?_ ?_ (hs := st_un)
      · exact (e_neg (x_gint T.c_DISTANCE))
      exact (a_cons (x_gint T.c_DISTANCE) a_nil (hs := st_name))
    refine s_one ?_
    refine s_ret ?_
    refine e_and ?_ ?_
    · refine x_call (C := ⟨K, adr, pu⟩) (p_is_between T) rfl (hr.mono (j := 2) (by decide)) T.g_is_between ?_ (hlen := (mCons_len (mCons_len (mCons_len mNil_len))))
      refine a_cons (e_ix (r_var 0) e_int) ?_ (hs := st_sub)
      refine a_cons ?_ ?_ (hs := st_un)
      · exact (e_neg (x_gint T.c_FACTOR))
      exact (a_cons (x_gint T.c_FACTOR) a_nil (hs := st_name))
    refine e_one ?_
    refine x_call (C := ⟨K, adr, pu⟩) (p_is_between T) rfl (hr.mono (j := 2) (by decide)) T.g_is_between ?_ (hlen := (mCons_len (mCons_len (mCons_len mNil_len))))
    refine a_cons (e_ix (r_var 0) e_int) ?_ (hs := st_sub)
    refine a_cons ?_ ?_ (hs := st_un)
    · exact (e_neg (x_gint T.c_FACTOR))
    exact (a_cons (x_gint T.c_FACTOR) a_nil (hs := st_name))
theorem sc_is_corner : FnScope ["value"] ["value"] (defScope st_is_corner) := ⟨rfl, rfl, rfl, by decide +kernel, rfl, by decide +kernel, by decide +kernel⟩
def b_is_corner : Ev → M Out := (mRet (mAndV (mUn (mCons (mVarR 0) (mCons (mC (.ty "tuple")) mNil)) fun ds => optM ((isiQ "Shape") ds)) (mAndV (mBi (mUn (mCons (mVarR 0) mNil) fun ds => optM (lenO ds)) (mC (.int 2)) fun x y => blM (eqD x y)) (mAndV (mUn (mCons (mIx (mVarR 0) (mC (.int 0))) mNil) f_is_move) (mUn (mCons (mIx (mVarR 0) (mC (.int 1))) mNil) f_is_move)))))
def f_is_corner : List D → M D := runD 1 (mNox b_is_corner)
theorem p_is_corner (T : Tx K mg adr) : Pr P w K mg base adr "is_corner" 4 1 f_is_corner :=
  pr_D (mb := b_is_corner) T.d_is_corner sc_is_corner rfl rfl rfl rfl (fun _ _ _ _ _ _ us hl => match us, hl with | [_], _ => rfl) fun pu f cdv A outer s H E hr => by
    have nd := sc_is_corner.nd
    refine s_one ?_
    refine s_ret ?_
    refine e_and ?_ ?_
    · refine do_callB (x_isi T.isi_Shape) ?_ T.n_isinstance
      refine ar_cons (r_var 0) ?_ (hs := st_name)
      exact (ar_cons (r_e (e_ty T.n_tuple (by decide +kernel))) ar_nil (hs := st_name))
    refine e_and ?_ ?_
    · refine e_cmp (c_eq (u64 hr)) ?_ (r_e e_int)
      exact (r_e (do_callB cl_len (ar_cons (r_var 0) ar_nil (hs := st_name)) T.n_len))
    refine e_and ?_ ?_
    · refine x_call (C := ⟨K, adr, pu⟩) (p_is_move T) rfl (hr.mono (j := 3) (by decide)) T.g_is_move ?_ (hlen := (mCons_len mNil_len))
      exact (a_cons (e_ix (r_var 0) e_int) a_nil (hs := st_sub))
    refine e_one ?_
    refine x_call (C := ⟨K, adr, pu⟩) (p_is_move T) rfl (hr.mono (j := 3) (by decide)) T.g_is_move ?_ (hlen := (mCons_len mNil_len))
    exact (a_cons (e_ix (r_var 0) e_int) a_nil (hs := st_sub))
theorem sc_check_corners : FnScope ["corners", "at", "corner"] ["corners"] (defScope st_check_corners) := ⟨rfl, rfl, rfl, by decide +kernel, rfl, by decide +kernel, by decide +kernel⟩
def b_check_corners : Ev → M Out := (mSeq (mIfS (mOr (mNot (mT (mUn (mCons (mVarR 0) (mCons (mC (.ty "tuple")) mNil)) fun ds => optM ((isiQ "Shape") ds)))) (mBi (mVarR 0) (mTup mNil) eqD)) mNever mSkip) (mFor (mUn (mCons (mVar 0) mNil) fun ds => optM (enumO ds)) (unpD [1, 2]) (mIfS (mOr (mBi (mVarR 1) (mC (.int 4)) eqD) (mOr (mNot (mT (mUn (mCons (mVar 2) mNil) f_is_corner))) (mBi (mVarR 2) (mSl slO (mVarR 0) mONone (mOSome (mVar 1))) inTD))) mNever mSkip)))
def f_check_corners : List D → M D := runD 3 (mNox b_check_corners)
theorem p_check_corners (T : Tx K mg adr) : Pr P w K mg base adr "check_corners" 5 1 f_check_corners :=
  pr_D (mb := b_check_corners) T.d_check_corners sc_check_corners rfl rfl rfl rfl (fun _ _ _ _ _ _ us hl => match us, hl with | [_], _ => rfl) fun pu f cdv A outer s H E hr => by
    have nd := sc_check_corners.nd
    refine s_cons ?_ ?_
    · refine s_if ?_ ss_never s_nil
      refine t_w ?_
      refine w_or ?_ ?_
      · refine t_not ?_
        refine t_val ?_
        refine do_callB (x_isi T.isi_Shape) ?_ T.n_isinstance
        refine ar_cons (r_var 0) ?_ (hs := st_name)
        exact (ar_cons (r_e (e_ty T.n_tuple (by decide +kernel))) ar_nil (hs := st_name))
      exact (w_or1 (t_cmp (c_eq (u64 hr)) (r_var 0) (r_e (e_tup a_nil))))
    refine s_one ?_
    refine s_for ?_ (tr_tup [1, 2]) ?_ (ps_for PassesOwn.never rfl iw (pg_tup rfl (pgs_cons (pg_name (i := 1) nd rfl (by first | exact Or.inl rfl | exact Or.inr rfl)) (pgs_cons (pg_name (i := 2) nd rfl (by first | exact Or.inl rfl | exact Or.inr rfl)) pgs_nil))) ssw)
    · exact (i_enumT (a_cons (e_var 0) a_nil (hs := st_name)) T.n_enumerate)
    refine s_one ?_
    refine s_if ?_ ss_never s_nil
    refine t_w ?_
    refine w_or ?_ ?_
    · exact (t_cmp (c_eq (u64 hr)) (r_var 1) (r_e (x_gint T.c_MOST_CORNERS)))
    refine w_or ?_ ?_
    · refine t_not ?_
      refine t_val ?_
      refine x_call (C := ⟨K, adr, pu⟩) (p_is_corner T) rfl (hr.mono (j := 4) (by decide)) T.g_is_corner ?_ (hlen := (mCons_len mNil_len))
      exact (a_cons (e_var 2) a_nil (hs := st_name))
    refine w_or1 ?_
    exact (t_cmp (c_inT (u65 hr)) (r_var 2) (r_e (e_sl (r_var 0) o_none (o_some (e_var 1)))))
theorem sc_check_least : FnScope ["least", "at", "value"] ["least"] (defScope st_check_least) := ⟨rfl, rfl, rfl, by decide +kernel, rfl, by decide +kernel, by decide +kernel⟩
def b_check_least : Ev → M Out := (mSeq (mIfS (mNot (mT (mUn (mCons (mVarR 0) (mCons (mC (.ty "tuple")) mNil)) fun ds => optM ((isiQ "Shape") ds)))) mNever mSkip) (mFor (mUn (mCons (mVar 0) mNil) fun ds => optM (enumO ds)) (unpD [1, 2]) (mIfS (mOr (mBi (mVarR 1) (mUn (mCons (mUn (mC (.cls "SIZES")) fun d => optM (ktO "SIZES" ws_SIZES d)) mNil) fun ds => optM (lenO ds)) eqD) (mNot (mT (mUn (mCons (mVar 2) (mCons (mC (.int 0)) (mCons (mC (.int 1)) mNil))) f_is_between)))) mNever mSkip)))
def f_check_least : List D → M D := runD 3 (mNox b_check_least)
theorem p_check_least (T : Tx K mg adr) : Pr P w K mg base adr "check_least" 3 1 f_check_least :=
  pr_D (mb := b_check_least) T.d_check_least sc_check_least rfl rfl rfl rfl (fun _ _ _ _ _ _ us hl => match us, hl with | [_], _ => rfl) fun pu f cdv A outer s H E hr => by
    have nd := sc_check_least.nd
    refine s_cons ?_ ?_
    · refine s_if ?_ ss_never s_nil
      refine t_not ?_
      refine t_val ?_
      refine do_callB (x_isi T.isi_Shape) ?_ T.n_isinstance
      refine ar_cons (r_var 0) ?_ (hs := st_name)
      exact (ar_cons (r_e (e_ty T.n_tuple (by decide +kernel))) ar_nil (hs := st_name))
    refine s_one ?_
    refine s_for ?_ (tr_tup [1, 2]) ?_ (ps_for PassesOwn.never rfl iw (pg_tup rfl (pgs_cons (pg_name (i := 1) nd rfl (by first | exact Or.inl rfl | exact Or.inr rfl)) (pgs_cons (pg_name (i := 2) nd rfl (by first | exact Or.inl rfl | exact Or.inr rfl)) pgs_nil))) ssw)
    · exact (i_enumT (a_cons (e_var 0) a_nil (hs := st_name)) T.n_enumerate)
    refine s_one ?_
    refine s_if ?_ ss_never s_nil
    refine t_w ?_
    refine w_or ?_ ?_
    · refine t_cmp (c_eq (u64 hr)) (r_var 1) ?_
      refine r_e ?_
      refine do_callB cl_len ?_ T.n_len
      refine ar_cons ?_ ar_nil (hs := st_name)
      exact (r_e (e_kt (T.kt_SIZES pu) (e_cls (C := ⟨K, adr, pu⟩) T.g_SIZES)))
    refine w_or1 ?_
    refine t_not ?_
    refine t_val ?_
    refine x_call (C := ⟨K, adr, pu⟩) (p_is_between T) rfl (hr.mono (j := 2) (by decide)) T.g_is_between ?_ (hlen := (mCons_len (mCons_len (mCons_len mNil_len))))
    refine a_cons (e_var 2) ?_ (hs := st_name)
    exact (a_cons e_int (a_cons e_int a_nil (hs := st_const)) (hs := st_const))
theorem sc_check_factors : FnScope ["corners", "many", "at", "corner", "move", "size"] ["corners", "many"] (defScope st_check_factors) := ⟨rfl, rfl, rfl, by decide +kernel, rfl, by decide +kernel, by decide +kernel⟩
def b_check_factors : Ev → M Out := (mFor (mUn (mCons (mVar 0) mNil) fun ds => optM (enumO ds)) (unpD [2, 3]) (mIfS (mT (mUn (mCons (mFz (mLc2 [4, 5] (tgN 4) (mUn (mVar 3) fun d => optM (seqO d)) [5] (tgN 5) (mUn (mCons (mVarR 1) (mCons (mUn (mCons (mUn (mC (.cls "SIZES")) fun d => optM (ktO "SIZES" ws_SIZES d)) mNil) fun ds => optM (lenO ds)) mNil)) fun ds => optM (rng2O ds)) (mBi (mIx (mVarR 4) (mBi (mC (.int 1)) (mVar 5) addD)) (mC (.int 0)) fun x y => blM (neD x y)))) mNil) fun ds => optM (anyO ds))) mNever mSkip))
def f_check_factors : List D → M D := runD 6 (mNox b_check_factors)
theorem p_check_factors (T : Tx K mg adr) : Pr P w K mg base adr "check_factors" 1 2 f_check_factors :=
  pr_D (mb := b_check_factors) T.d_check_factors sc_check_factors rfl rfl rfl rfl (fun _ _ _ _ _ _ us hl => match us, hl with | [_, _], _ => rfl) fun pu f cdv A outer s H E hr => by
    have nd := sc_check_factors.nd
    refine s_one ?_
    refine s_for ?_ (tr_tup [2, 3]) ?_ (ps_for PassesOwn.never rfl iw (pg_tup rfl (pgs_cons (pg_name (i := 2) nd rfl (by first | exact Or.inl rfl | exact Or.inr rfl)) (pgs_cons (pg_name (i := 3) nd rfl (by first | exact Or.inl rfl | exact Or.inr rfl)) pgs_nil))) ssw)
    · exact (i_enumT (a_cons (e_var 0) a_nil (hs := st_name)) T.n_enumerate)
    refine s_one ?_
    refine s_if ?_ ss_never s_nil
    refine t_val ?_
    refine do_callB cl_any ?_ T.n_any
    refine ar_cons ?_ ar_nil (hs := st_lc)
    refine r_f ?_
    refine f_lc2 [("move", 4), ("size", 5)] [5] (i_e (e_var 3)) nd (by first | (show blkC ["corners", "many", "at", "corner", "move", "size"] (defScope st_check_factors) _ _ = true; decide +kernel) | kernel_rfl) (fun _ _ _ _ _ => (pg_name (i := 4) nd rfl (by first | exact Or.inl rfl | exact Or.inr rfl))) (tr_name 4) tgN_own ?_ (fun _ _ _ _ _ => (pg_name (i := 5) nd rfl (by first | exact Or.inl rfl | exact Or.inr rfl))) (tr_name 5) ?_
    · intro _ _ _ _ _
      refine i_rng2 ?_ T.n_range
      refine ar_cons (r_var 1) ?_ (hs := st_name)
      refine ar_cons ?_ ar_nil (hs := st_call)
      refine r_e ?_
      refine do_callB cl_len ?_ T.n_len
      refine ar_cons ?_ ar_nil (hs := st_name)
      exact (r_e (e_kt (T.kt_SIZES pu) (e_cls (C := ⟨K, adr, pu⟩) T.g_SIZES)))
    intro _ _ _ _ _
    exact (e_cmp (c_ne (u64 hr)) (r_e (e_ix (r_var 4) (e_add e_int (e_var 5)))) (r_e e_int))
theorem sc_is_colour : FnScope ["value", "at"] ["value"] (defScope st_is_colour) := ⟨rfl, rfl, rfl, by decide +kernel, rfl, by decide +kernel, by decide +kernel⟩
def b_is_colour : Ev → M Out := (mSeq (mIfS (mOr (mNot (mT (mUn (mCons (mVarR 0) (mCons (mC (.ty "tuple")) mNil)) fun ds => optM ((isiQ "Shape") ds)))) (mOr (mBi (mUn (mCons (mVarR 0) mNil) fun ds => optM (lenO ds)) (mC (.int 4)) neD) (mNot (mT (mUn (mCons (mIx (mVarR 0) (mC (.int 2))) (mCons (mC (.int 2)) (mCons (mC (.int 4)) mNil))) f_is_between))))) (mRet (mC (.bl false))) mSkip) (mSeq (mIfS (mNot (mT (mUn (mCons (mFz (mLc [1] (tgN 1) mTrue (mUn (mCons (mIx (mVarR 0) (mVar 1)) (mCons (mC (.int 0)) (mCons (mBi (mIx (mVarR 0) (mC (.int 2))) (mC (.int 1)) subD) mNil))) f_is_between) (mLst (mCons (mC (.int 0)) (mCons (mC (.int 1)) (mCons (mC (.int 3)) mNil)))))) mNil) fun ds => optM (allO ds)))) (mRet (mC (.bl false))) mSkip) (mRet (mBi (mSl slO (mVarR 0) mONone (mOSome (mC (.int 2)))) (mTup (mCons (mC (.int 0)) (mCons (mC (.int 0)) mNil))) fun x y => blM (neD x y)))))
def f_is_colour : List D → M D := runD 2 (mNox b_is_colour)
theorem p_is_colour (T : Tx K mg adr) : Pr P w K mg base adr "is_colour" 3 1 f_is_colour :=
  pr_D (mb := b_is_colour) T.d_is_colour sc_is_colour rfl rfl rfl rfl (fun _ _ _ _ _ _ us hl => match us, hl with | [_], _ => rfl) fun pu f cdv A outer s H E hr => by
    have nd := sc_is_colour.nd
    refine s_cons ?_ ?_
    · refine s_if ?_ (s_one (s_ret e_bl)) s_nil
      refine t_w ?_
      refine w_or ?_ ?_
      · refine t_not ?_
        refine t_val ?_
        refine do_callB (x_isi T.isi_Shape) ?_ T.n_isinstance
        refine ar_cons (r_var 0) ?_ (hs := st_name)
        exact (ar_cons (r_e (e_ty T.n_tuple (by decide +kernel))) ar_nil (hs := st_name))
      refine w_or ?_ ?_
      · refine t_cmp (c_ne (u64 hr)) ?_ (r_e e_int)
        exact (r_e (do_callB cl_len (ar_cons (r_var 0) ar_nil (hs := st_name)) T.n_len))
      refine w_or1 ?_
      refine t_not ?_
      refine t_val ?_
      refine x_call (C := ⟨K, adr, pu⟩) (p_is_between T) rfl (hr.mono (j := 2) (by decide)) T.g_is_between ?_ (hlen := (mCons_len (mCons_len (mCons_len mNil_len))))
      refine a_cons (e_ix (r_var 0) e_int) ?_ (hs := st_sub)
      exact (a_cons e_int (a_cons (x_gint T.c_MOST_COLOURS) a_nil (hs := st_name)) (hs := st_const))
    refine s_cons ?_ ?_
    · refine s_if ?_ (s_one (s_ret e_bl)) s_nil
      refine t_not ?_
      refine t_val ?_
      refine do_callB cl_all ?_ T.n_all
      refine ar_cons ?_ ar_nil (hs := st_lc)
      refine r_f ?_
      refine f_lc [("at", 1)] ?_ nd (by first | (show blkC ["value", "at"] (defScope st_is_colour) _ _ = true; decide +kernel) | kernel_rfl) (fun _ _ _ _ _ => (pg_name (i := 1) nd rfl (by first | exact Or.inl rfl | exact Or.inr rfl))) (tr_name 1) ?_
      · refine i_f ?_
        refine f_lst ?_
        refine a_cons e_int ?_ (hs := st_const)
        exact (a_cons e_int (a_cons e_int a_nil (hs := st_const)) (hs := st_const))
      intro _ _ _ _ _
      refine x_call (C := ⟨K, adr, pu⟩) (p_is_between T) rfl (hr.mono (j := 2) (by decide)) T.g_is_between ?_ (hlen := (mCons_len (mCons_len (mCons_len mNil_len))))
      refine a_cons ?_ ?_ (hs := st_sub)
      · exact (e_ix (r_var 0) (e_var 1))
      refine a_cons e_int ?_ (hs := st_const)
      exact (a_cons (e_sub (e_ix (r_var 0) e_int) e_int) a_nil (hs := st_bin))
    refine s_one ?_
    refine s_ret ?_
    refine e_cmp (c_ne (u64 hr)) ?_ ?_
    · exact (r_e (e_sl (r_var 0) o_none (o_some e_int)))
    exact (r_e (e_tup (a_cons e_int (a_cons e_int a_nil (hs := st_const)) (hs := st_const))))
theorem sc_differences : FnScope ["corners", "found", "corner", "mine", "first"] ["corners"] (defScope st_differences) := ⟨rfl, rfl, rfl, by decide +kernel, rfl, by decide +kernel, by decide +kernel⟩
def b_differences : Ev → M Out := (mSeq (mSet 1 (mOwn (mLst mNil))) (mSeq (mFor (mUn (mSl slO (mVarR 0) (mOSome (mC (.int 1))) mONone) fun d => optM (seqO d)) (tgN 2) (mFor (mUn (mCons (mVar 2) (mCons (mIx (mVarR 0) (mC (.int 0))) mNil)) fun ds => optM (zipO ds)) (unpD [3, 4]) (mApp 1 (mTup (mCons (mBi (mIx (mVarR 3) (mC (.int 1))) (mIx (mVarR 4) (mC (.int 1))) subD) (mCons (mBi (mIx (mVarR 3) (mC (.int 2))) (mIx (mVarR 4) (mC (.int 2))) subD) mNil)))))) (mFreeze 1 (mRet (mVar 1)))))
def f_differences : List D → M D := runD 5 (mNox b_differences)
theorem p_differences (T : Tx K mg adr) : Pr P w K mg base adr "differences" 1 1 f_differences :=
  pr_D (mb := b_differences) T.d_differences sc_differences rfl rfl rfl rfl (fun _ _ _ _ _ _ us hl => match us, hl with | [_], _ => rfl) fun pu f cdv A outer s H E hr => by
    have nd := sc_differences.nd
    refine s_cons ?_ ?_
    · exact (s_set 1 (x_f (f_lst a_nil)) nd (hs := sw_list))
    refine s_cons ?_ ?_
    · refine s_for ?_ (tr_name 2) ?_ (ps_for PassesOwn.never rfl iw (pg_name (i := 2) nd rfl (by first | exact Or.inl rfl | exact Or.inr rfl)) ssw)
      · exact (i_e (e_sl (r_var 0) (o_some e_int) o_none))
      refine s_one ?_
      refine s_for ?_ (tr_tup [3, 4]) ?_ (ps_for PassesOwn.never rfl iw (pg_tup rfl (pgs_cons (pg_name (i := 3) nd rfl (by first | exact Or.inl rfl | exact Or.inr rfl)) (pgs_cons (pg_name (i := 4) nd rfl (by first | exact Or.inl rfl | exact Or.inr rfl)) pgs_nil))) ssw)
      · refine i_zip ?_ T.n_zip (pi_zipA rfl T.n_zip aw)
        exact (a_cons (e_var 2) (a_cons (e_ix (r_var 0) e_int) a_nil (hs := st_sub)) (hs := st_name))
      refine s_one ?_
      refine s_app 1 ?_ (pe_bm PySem.F.plainAttrs_list PySem.F.slot_list_append PySem.F.type_list_append mt_append (pv 1) (pa_cons pw pa_nil))
      refine e_tup ?_
      refine a_cons ?_ ?_ (hs := st_bin)
      · exact (e_sub (e_ix (r_var 3) e_int) (e_ix (r_var 4) e_int))
      exact (a_cons (e_sub (e_ix (r_var 3) e_int) (e_ix (r_var 4) e_int)) a_nil (hs := st_bin))
    exact (s_freeze 1 (s_one (s_ret (e_var 1))))
theorem sc_is_bounded : FnScope ["corners", "many", "rows", "ways", "way", "first", "second"] ["corners", "many"] (defScope st_is_bounded) := ⟨rfl, rfl, rfl, by decide +kernel, rfl, by decide +kernel, by decide +kernel⟩
def b_is_bounded : Ev → M Out := (mSeq (mSet 2 (mVal (mUn (mCons (mVar 0) mNil) f_differences))) (mSeq (mSet 3 (mOwn (mSl slF (mFz (mLst (mCons (mTup (mCons (mC (.int 1)) (mCons (mC (.int 0)) mNil))) (mCons (mTup (mCons (mC (.int 0)) (mCons (mC (.int 1)) mNil))) mNil)))) mONone (mOSome (mVar 1))))) (mSeq (mIfS (mBi (mVarR 1) (mUn (mCons (mUn (mC (.cls "SIZES")) fun d => optM (ktO "SIZES" ws_SIZES d)) mNil) fun ds => optM (lenO ds)) eqD) (mSet 3 (mOwn (mBi (mVarR 3) (mFz (mLc [5, 6] (unpD [5, 6]) (mBi (mBi (mVar 5) (mVar 6) mulD) (mC (.int 0)) ltD) (mTup (mCons (mUn (mCons (mVarR 6) mNil) fun ds => optM (absO ds)) (mCons (mUn (mCons (mVarR 5) mNil) fun ds => optM (absO ds)) mNil))) (mUn (mVar 2) fun d => optM (seqO d)))) catF))) mSkip) (mFreeze 3 (mRet (mUn (mUn (mCons (mFz (mLc [4] (tgN 4) mTrue (mUn (mCons (mFz (mLc [5, 6] (unpD [5, 6]) mTrue (mBi (mBi (mBi (mVar 5) (mIx (mVarR 4) (mC (.int 0))) mulD) (mBi (mVar 6) (mIx (mVarR 4) (mC (.int 1))) mulD) addD) (mC (.int 0)) fun x y => blM (eqD x y)) (mUn (mVar 2) fun d => optM (seqO d)))) mNil) fun ds => optM (allO ds)) (mUn (mVar 3) fun d => optM (seqO d)))) mNil) fun ds => optM (anyO ds)) notD))))))
def f_is_bounded : List D → M D := runD 7 (mNox b_is_bounded)
theorem p_is_bounded (T : Tx K mg adr) : Pr P w K mg base adr "is_bounded" 2 2 f_is_bounded :=
  pr_D (mb := b_is_bounded) T.d_is_bounded sc_is_bounded rfl rfl rfl rfl (fun _ _ _ _ _ _ us hl => match us, hl with | [_, _], _ => rfl) fun pu f cdv A outer s H E hr => by
    have nd := sc_is_bounded.nd
    refine s_cons ?_ ?_
    · refine s_set 2 ?_ ?_ (hs := sw_call)
      · refine x_e ?_
        refine x_call (C := ⟨K, adr, pu⟩) (p_differences T) rfl (hr.mono (j := 1) (by decide)) T.g_differences ?_ (hlen := (mCons_len mNil_len))
        exact (a_cons (e_var 0) a_nil (hs := st_name))
      exact nd
    refine s_cons ?_ ?_
    · refine s_set 3 ?_ ?_ (hs := sw_sub)
      · refine x_f ?_
        refine f_sl ?_ o_none (o_some (e_var 1))
        refine r_f ?_
        refine f_lst ?_
        refine a_cons ?_ ?_ (hs := st_tup)
        · exact (e_tup (a_cons e_int (a_cons e_int a_nil (hs := st_const)) (hs := st_const)))
        refine a_cons ?_ a_nil (hs := st_tup)
        exact (e_tup (a_cons e_int (a_cons e_int a_nil (hs := st_const)) (hs := st_const)))
      exact nd
    refine s_cons ?_ ?_
    · refine s_if ?_ ?_ s_nil
      · refine t_cmp (c_eq (u64 hr)) (r_var 1) ?_
        refine r_e ?_
        refine do_callB cl_len ?_ T.n_len
        refine ar_cons ?_ ar_nil (hs := st_name)
        exact (r_e (e_kt (T.kt_SIZES pu) (e_cls (C := ⟨K, adr, pu⟩) T.g_SIZES)))
      refine s_one ?_
      refine s_set 3 ?_ ?_ (hs := sw_bin)
      · refine x_f ?_
        refine f_cat (r_var 3) ?_
        refine r_f ?_
        refine f_lcif [("first", 5), ("second", 6)] (i_e (e_var 2)) nd (by first | (show blkC ["corners", "many", "rows", "ways", "way", "first", "second"] (defScope st_is_bounded) _ _ = true; decide +kernel) | kernel_rfl) (fun _ _ _ _ _ => (pg_tup rfl (pgs_cons (pg_name (i := 5) nd rfl (by first | exact Or.inl rfl | exact Or.inr rfl)) (pgs_cons (pg_name (i := 6) nd rfl (by first | exact Or.inl rfl | exact Or.inr rfl)) pgs_nil)))) (tr_tup [5, 6]) ?_ ?_
        · intro _ _ _ _ _
          exact (t_cmp c_lt (r_e (e_mul (e_var 5) (e_var 6))) (r_e e_int))
        intro _ _ _ _ _
        refine e_tup ?_
        refine a_cons ?_ ?_ (hs := st_call)
        · exact (do_callB cl_abs (ar_cons (r_var 6) ar_nil (hs := st_name)) T.n_abs)
        refine a_cons ?_ a_nil (hs := st_call)
        exact (do_callB cl_abs (ar_cons (r_var 5) ar_nil (hs := st_name)) T.n_abs)
      exact nd
    refine s_freeze 3 ?_
    refine s_one ?_
    refine s_ret ?_
    refine e_not ?_
    refine do_callB cl_any ?_ T.n_any
    refine ar_cons ?_ ar_nil (hs := st_lc)
    refine r_f ?_
    refine f_lc [("way", 4)] (i_e (e_var 3)) nd (by first | (show blkC ["corners", "many", "rows", "ways", "way", "first", "second"] (defScope st_is_bounded) _ _ = true; decide +kernel) | kernel_rfl) (fun _ _ _ _ _ => (pg_name (i := 4) nd rfl (by first | exact Or.inl rfl | exact Or.inr rfl))) (tr_name 4) ?_
    intro _ _ _ _ _
    refine do_callB cl_all ?_ T.n_all
    refine ar_cons ?_ ar_nil (hs := st_lc)
    refine r_f ?_
    refine f_lc [("first", 5), ("second", 6)] (i_e (e_var 2)) nd (by first | (show blkC ["corners", "many", "rows", "ways", "way", "first", "second"] (defScope st_is_bounded) _ _ = true; decide +kernel) | kernel_rfl) (fun _ _ _ _ _ => (pg_tup rfl (pgs_cons (pg_name (i := 5) nd rfl (by first | exact Or.inl rfl | exact Or.inr rfl)) (pgs_cons (pg_name (i := 6) nd rfl (by first | exact Or.inl rfl | exact Or.inr rfl)) pgs_nil)))) (tr_tup [5, 6]) ?_
    intro _ _ _ _ _
    refine e_cmp (c_eq (u64 hr)) ?_ (r_e e_int)
    refine r_e ?_
    exact (e_add (e_mul (e_var 5) (e_ix (r_var 4) e_int)) (e_mul (e_var 6) (e_ix (r_var 4) e_int)))
theorem sc_text_of_sizes : FnScope ["least", "told", "word", "value"] ["least"] (defScope st_text_of_sizes) := ⟨rfl, rfl, rfl, by decide +kernel, rfl, by decide +kernel, by decide +kernel⟩
def b_text_of_sizes : Ev → M Out := (mSeq (mSet 1 (mOwn (mLc [2, 3] (unpD [2, 3]) mTrue (mJoin (mJc (mUn (mVar 2) fun d => optM (fmtO d)) (mJc (mC (.str " from ")) (mJc (mUn (mVar 3) fun d => optM (fmtO d)) mJn)))) (mUn (mCons (mUn (mC (.cls "SIZES")) fun d => optM (ktO "SIZES" ws_SIZES d)) (mCons (mVar 0) mNil)) fun ds => optM (zipO ds))))) (mRet (mBi (mC (.str "sizes ")) (mIf (mBi (mVarR 1) (mFz (mLst mNil)) neD) (mM1 joinO (mC (.str ", ")) (mVarR 1)) (mC (.str "none"))) addD)))
def f_text_of_sizes : List D → M D := runD 4 (mNox b_text_of_sizes)
theorem p_text_of_sizes (T : Tx K mg adr) : Pr P w K mg base adr "text_of_sizes" 1 1 f_text_of_sizes :=
  pr_D (mb := b_text_of_sizes) T.d_text_of_sizes sc_text_of_sizes rfl rfl rfl rfl (fun _ _ _ _ _ _ us hl => match us, hl with | [_], _ => rfl) fun pu f cdv A outer s H E hr => by
    have nd := sc_text_of_sizes.nd
    refine s_cons ?_ ?_
    · refine s_setLc 1 [("word", 2), ("value", 3)] ?_ nd (by first | (show blkC ["least", "told", "word", "value"] (defScope st_text_of_sizes) _ _ = true; decide +kernel) | kernel_rfl) (fun _ _ _ _ _ => (pg_tup rfl (pgs_cons (pg_name (i := 2) nd rfl (by first | exact Or.inl rfl | exact Or.inr rfl)) (pgs_cons (pg_name (i := 3) nd rfl (by first | exact Or.inl rfl | exact Or.inr rfl)) pgs_nil)))) (tr_tup [2, 3]) ?_ rfl
      · refine i_zip ?_ T.n_zip (pi_zipA rfl T.n_zip aw)
        refine a_cons ?_ ?_ (hs := st_name)
        · exact (e_kt (T.kt_SIZES pu) (e_cls (C := ⟨K, adr, pu⟩) T.g_SIZES))
        exact (a_cons (e_var 0) a_nil (hs := st_name))
      intro _ _ _ _ _
      exact (e_fstr (j_cons (e_fmt (e_var 2)) (j_cons e_str (j_cons (e_fmt (e_var 3)) j_nil))))
    refine s_one ?_
    refine s_ret ?_
    refine e_add e_str ?_
    refine e_if ?_ ?_ e_str
    · exact (t_cmp (c_ne (u64 hr)) (r_var 1) (r_f (f_lst a_nil)))
    exact (e_join (r_e e_str) (r_var 1))
theorem sc_join_of : FnScope ["text", "factor"] ["text", "factor"] (defScope st_join_of) := ⟨rfl, rfl, rfl, by decide +kernel, rfl, by decide +kernel, by decide +kernel⟩
def b_join_of : Ev → M Out := (mSeq (mIfS (mBi (mVarR 0) (mC (.str "")) eqD) (mRet (mIf (mBi (mVarR 1) (mC (.int 0)) ltD) (mC (.str "-")) (mC (.str "")))) mSkip) (mRet (mIf (mBi (mVarR 1) (mC (.int 0)) ltD) (mC (.str " - ")) (mC (.str " + ")))))
def f_join_of : List D → M D := runD 2 (mNox b_join_of)
theorem p_join_of (T : Tx K mg adr) : Pr P w K mg base adr "join_of" 1 2 f_join_of :=
  pr_D (mb := b_join_of) T.d_join_of sc_join_of rfl rfl rfl rfl (fun _ _ _ _ _ _ us hl => match us, hl with | [_, _], _ => rfl) fun pu f cdv A outer s H E hr => by
    have nd := sc_join_of.nd
    refine s_cons ?_ ?_
    · refine s_if ?_ ?_ s_nil
      · exact (t_cmp (c_eq (u64 hr)) (r_var 0) (r_e e_str))
      exact (s_one (s_ret (e_if (t_cmp c_lt (r_var 1) (r_e e_int)) e_str e_str)))
    exact (s_one (s_ret (e_if (t_cmp c_lt (r_var 1) (r_e e_int)) e_str e_str)))
theorem sc_text_of_sum : FnScope ["factors", "words", "text", "factor", "word", "size"] ["factors", "words"] (defScope st_text_of_sum) := ⟨rfl, rfl, rfl, by decide +kernel, rfl, by decide +kernel, by decide +kernel⟩
def b_text_of_sum : Ev → M Out := (mSeq (mSet 2 (mVal (mC (.str "")))) (mSeq (mFor (mUn (mCons (mVar 0) (mCons (mUn (mVar 1) fun d => optM (ktT tb_words d)) mNil)) fun ds => optM (zipO ds)) (unpD [3, 4]) (mIfS (mBi (mVarR 3) (mC (.int 0)) neD) (mSeq (mSet 5 (mVal (mIf (mAnd (mBi (mUn (mCons (mVarR 3) mNil) fun ds => optM (absO ds)) (mC (.int 1)) eqD) (mBi (mVarR 4) (mC (.str "")) neD)) (mC (.str "")) (mUn (mCons (mUn (mCons (mVarR 3) mNil) fun ds => optM (absO ds)) mNil) fun ds => optM (strO ds))))) (mSet 2 (mVal (mBi (mBi (mBi (mVar 2) (mUn (mCons (mVar 2) (mCons (mVar 3) mNil)) f_join_of) addD) (mVar 5) addD) (mVar 4) addD)))) mSkip)) (mRet (mIf (mBi (mVarR 2) (mC (.str "")) neD) (mVar 2) (mC (.str "0"))))))
def f_text_of_sum : List D → M D := runD 6 (mNox b_text_of_sum)
theorem p_text_of_sum (T : Tx K mg adr) : Pr P w K mg base adr "text_of_sum" 2 2 f_text_of_sum :=
  pr_D (mb := b_text_of_sum) T.d_text_of_sum sc_text_of_sum rfl rfl rfl rfl (fun _ _ _ _ _ _ us hl => match us, hl with | [_, _], _ => rfl) fun pu f cdv A outer s H E hr => by
    have nd := sc_text_of_sum.nd
    refine s_cons ?_ ?_
    · exact (s_set 2 (x_e e_str) nd (hs := sw_const))
    refine s_cons ?_ ?_
    · refine s_for ?_ (tr_tup [3, 4]) ?_ (ps_for PassesOwn.never rfl iw (pg_tup rfl (pgs_cons (pg_name (i := 3) nd rfl (by first | exact Or.inl rfl | exact Or.inr rfl)) (pgs_cons (pg_name (i := 4) nd rfl (by first | exact Or.inl rfl | exact Or.inr rfl)) pgs_nil))) ssw)
      · refine i_zip ?_ T.n_zip (pi_zipA rfl T.n_zip aw)
        refine a_cons (e_var 0) ?_ (hs := st_name)
        refine a_cons ?_ a_nil (hs := st_name)
        exact (e_ktT (kts_cons (T.kt_WORDS pu) (kts_cons (T.kt_PLACES pu) kts_nil)) (e_var 1))
      refine s_one ?_
      refine s_if ?_ ?_ s_nil
      · exact (t_cmp (c_ne (u64 hr)) (r_var 3) (r_e e_int))
      refine s_cons ?_ ?_
      · refine s_set 5 ?_ ?_ (hs := sw_if)
        · refine x_e ?_
          refine e_if ?_ e_str ?_
          · refine t_w ?_
            refine w_and ?_ ?_
            · refine t_cmp (c_eq (u64 hr)) ?_ (r_e e_int)
              exact (r_e (do_callB cl_abs (ar_cons (r_var 3) ar_nil (hs := st_name)) T.n_abs))
            exact (w_and1 (t_cmp (c_ne (u64 hr)) (r_var 4) (r_e e_str)))
          refine do_callTy cl_str ?_ T.n_str
          refine ar_cons ?_ ar_nil (hs := st_call)
          exact (r_e (do_callB cl_abs (ar_cons (r_var 3) ar_nil (hs := st_name)) T.n_abs))
        exact nd
      refine s_one ?_
      refine s_set 2 ?_ ?_ (hs := sw_bin)
      · refine x_e ?_
        refine e_add ?_ (e_var 4)
        refine e_add ?_ (e_var 5)
        refine e_add (e_var 2) ?_
        refine x_call (C := ⟨K, adr, pu⟩) (p_join_of T) rfl (hr.mono (j := 1) (by decide)) T.g_join_of ?_ (hlen := (mCons_len (mCons_len mNil_len)))
        exact (a_cons (e_var 2) (a_cons (e_var 3) a_nil (hs := st_name)) (hs := st_name))
      exact nd
    exact (s_one (s_ret (e_if (t_cmp (c_ne (u64 hr)) (r_var 2) (r_e e_str)) (e_var 2) e_str)))
theorem sc_text_of_move : FnScope ["move"] ["move"] (defScope st_text_of_move) := ⟨rfl, rfl, rfl, by decide +kernel, rfl, by decide +kernel, by decide +kernel⟩
def b_text_of_move : Ev → M Out := (mRet (mUn (mCons (mTup (mCons (mIx (mVarR 0) (mC (.int 1))) (mCons (mIx (mVarR 0) (mC (.int 2))) (mCons (mIx (mVarR 0) (mC (.int 0))) mNil)))) (mCons (mC (.cls "WORDS")) mNil)) f_text_of_sum))
def f_text_of_move : List D → M D := runD 1 (mNox b_text_of_move)
theorem p_text_of_move (T : Tx K mg adr) : Pr P w K mg base adr "text_of_move" 3 1 f_text_of_move :=
  pr_D (mb := b_text_of_move) T.d_text_of_move sc_text_of_move rfl rfl rfl rfl (fun _ _ _ _ _ _ us hl => match us, hl with | [_], _ => rfl) fun pu f cdv A outer s H E hr => by
    have nd := sc_text_of_move.nd
    refine s_one ?_
    refine s_ret ?_
    refine x_call (C := ⟨K, adr, pu⟩) (p_text_of_sum T) rfl (hr.mono (j := 2) (by decide)) T.g_text_of_sum ?_ (hlen := (mCons_len (mCons_len mNil_len)))
    refine a_cons ?_ ?_ (hs := st_tup)
    · refine e_tup ?_
      refine a_cons (e_ix (r_var 0) e_int) ?_ (hs := st_sub)
      refine a_cons (e_ix (r_var 0) e_int) ?_ (hs := st_sub)
      exact (a_cons (e_ix (r_var 0) e_int) a_nil (hs := st_sub))
    exact (a_cons (e_cls (C := ⟨K, adr, pu⟩) T.g_WORDS) a_nil (hs := st_name))
theorem sc_text_of : FnScope ["corners", "least", "colour", "rows", "across", "up"] ["corners", "least", "colour"] (defScope st_text_of) := ⟨rfl, rfl, rfl, by decide +kernel, rfl, by decide +kernel, by decide +kernel⟩
def b_text_of : Ev → M Out := (mSeq (mSet 3 (mOwn (mLst (mCons (mUn (mCons (mVar 1) mNil) f_text_of_sizes) mNil)))) (mSeq (mFor (mUn (mVar 0) fun d => optM (seqO d)) (unpD [4, 5]) (mApp 3 (mJoin (mJc (mC (.str "corner ")) (mJc (mUn (mUn (mCons (mVar 4) mNil) f_text_of_move) fun d => optM (fmtO d)) (mJc (mC (.str ", ")) (mJc (mUn (mUn (mCons (mVar 5) mNil) f_text_of_move) fun d => optM (fmtO d)) mJn))))))) (mSeq (mIfS (mBi (mVarR 2) (mC .non) isNotD) (mApp 3 (mJoin (mJc (mC (.str "colour ")) (mJc (mUn (mUn (mCons (mSl slO (mVarR 2) mONone (mOSome (mC (.int 2)))) (mCons (mC (.cls "PLACES")) mNil)) f_text_of_sum) fun d => optM (fmtO d)) (mJc (mC (.str " leaves ")) (mJc (mUn (mIx (mVarR 2) (mC (.int 3))) fun d => optM (fmtO d)) (mJc (mC (.str " by ")) (mJc (mUn (mIx (mVarR 2) (mC (.int 2))) fun d => optM (fmtO d)) mJn)))))))) mSkip) (mRet (mM1 joinO (mC (.str "\n")) (mVarR 3))))))
def f_text_of : List D → M D := runD 6 (mNox b_text_of)
theorem p_text_of (T : Tx K mg adr) : Pr P w K mg base adr "text_of" 4 3 f_text_of :=
  pr_D (mb := b_text_of) T.d_text_of sc_text_of rfl rfl rfl rfl (fun _ _ _ _ _ _ us hl => match us, hl with | [_, _, _], _ => rfl) fun pu f cdv A outer s H E hr => by
    have nd := sc_text_of.nd
    refine s_cons ?_ ?_
    · refine s_set 3 ?_ ?_ (hs := sw_list)
      · refine x_f ?_
        refine f_lst ?_
        refine a_cons ?_ a_nil (hs := st_call)
        refine x_call (C := ⟨K, adr, pu⟩) (p_text_of_sizes T) rfl (hr.mono (j := 1) (by decide)) T.g_text_of_sizes ?_ (hlen := (mCons_len mNil_len))
        exact (a_cons (e_var 1) a_nil (hs := st_name))
      exact nd
    refine s_cons ?_ ?_
    · refine s_for (i_e (e_var 0)) (tr_tup [4, 5]) ?_ (ps_for PassesOwn.never rfl iw (pg_tup rfl (pgs_cons (pg_name (i := 4) nd rfl (by first | exact Or.inl rfl | exact Or.inr rfl)) (pgs_cons (pg_name (i := 5) nd rfl (by first | exact Or.inl rfl | exact Or.inr rfl)) pgs_nil))) ssw)
      refine s_one ?_
      refine s_app 3 ?_ (pe_bm PySem.F.plainAttrs_list PySem.F.slot_list_append PySem.F.type_list_append mt_append (pv 3) (pa_cons pw pa_nil))
      refine e_fstr (j_cons e_str (j_cons (e_fmt (x_call (C := ⟨K, adr, pu⟩) (p_text_of_move T) rfl (hr.mono (j := 3) (by decide)) T.g_text_of_move (a_cons (e_var 4) a_nil (hs := st_name)) (hlen := (mCons_len mNil_len)))) (j_cons e_str (j_cons (e_fmt (x_call (C := ⟨K, adr, pu⟩) (p_text_of_move T) rfl (hr.mono (j := 3) (by decide)) T.g_text_of_move (a_cons (e_var 5) a_nil (hs := st_name)) (hlen := (mCons_len mNil_len)))) j_nil))))
    refine s_cons ?_ ?_
    · refine s_if ?_ ?_ s_nil
      · exact (t_cmp c_isNot (r_var 2) (r_e e_non))
      refine s_one ?_
      refine s_app 3 ?_ (pe_bm PySem.F.plainAttrs_list PySem.F.slot_list_append PySem.F.type_list_append mt_append (pv 3) (pa_cons pw pa_nil))
      refine e_fstr (j_cons e_str (j_cons (e_fmt (x_call (C := ⟨K, adr, pu⟩) (p_text_of_sum T) rfl (hr.mono (j := 2) (by decide)) T.g_text_of_sum (a_cons (e_sl (r_var 2) o_none (o_some e_int)) (a_cons (e_cls (C := ⟨K, adr, pu⟩) T.g_PLACES) a_nil (hs := st_name)) (hs := st_sub)) (hlen := (mCons_len (mCons_len mNil_len))))) (j_cons e_str (j_cons (e_fmt (e_ix (r_var 2) e_int)) (j_cons e_str (j_cons (e_fmt (e_ix (r_var 2) e_int)) j_nil))))))
    exact (s_one (s_ret (e_join (r_e e_str) (r_var 3))))
theorem sc_Shape___init__ : FnScope ["self", "corners", "least", "colour"] ["self", "corners", "least", "colour"] (defScope st_Shape___init__) := ⟨rfl, rfl, rfl, by decide +kernel, rfl, by decide +kernel, by decide +kernel⟩
def b_Shape___init__ : Ev → M Out := (mSeq (mDrop (nx (mUn (mCons (mVar 1) mNil) f_check_corners))) (mSeq (mDrop (nx (mUn (mCons (mVar 2) mNil) f_check_least))) (mSeq (mDrop (nx (mUn (mCons (mVar 1) (mCons (mUn (mCons (mVarR 2) mNil) fun ds => optM (lenO ds)) mNil)) f_check_factors))) (mSeq (mIfS (nx (mAnd (mBi (mVarR 3) (mC .non) isNotD) (mNot (mT (mUn (mCons (mVar 3) mNil) f_is_colour))))) (mRaise1 "InvalidColour" "given" (mVar 3)) mSkip) (mSeq (mIfS (nx (mNot (mT (mUn (mCons (mVar 1) (mCons (mUn (mCons (mVarR 2) mNil) fun ds => optM (lenO ds)) mNil)) f_is_bounded)))) (mRaise0 "Unbounded") mSkip) (mSeq (mNox (mSetF3 "Shape" "points" "starts" "dye" (mVar 0) (mTup (mCons (mVar 1) (mCons (mVar 2) (mCons (mVar 3) mNil)))))) (mSetF "Shape" "words" (mVar 0) (nx (mUn (mCons (mVar 1) (mCons (mVar 2) (mCons (mVar 3) mNil))) f_text_of)))))))))
def f_Shape___init__ : List D → M D := runD 4 b_Shape___init__
theorem p_Shape___init__ (T : Tx K mg adr) : Pr P w K mg base adr "Shape.__init__" 6 4 f_Shape___init__ :=
  pr_DdX (nd := 2) (mb := b_Shape___init__) T.d_Shape___init__ rfl sc_Shape___init__ rfl rfl rfl rfl (fun _ _ _ _ _ _ _ us its l1 l2 => match us, l1, its, l2 with | [_, _, _, _], _, [_, _], _ => ⟨_, rfl, rfl⟩) fun pu f cdv A outer s H E hr tk => by
    have nd := sc_Shape___init__.nd
    refine s_cons ?_ ?_
    · refine s_expr ?_
      refine e_up ?_
      refine x_call (C := ⟨K, adr, pu⟩) (p_check_corners T) rfl (hr.mono (j := 5) (by decide)) T.g_check_corners ?_ (hlen := (mCons_len mNil_len))
      exact (a_cons (e_var 1) a_nil (hs := st_name))
    refine s_cons ?_ ?_
    · refine s_expr ?_
      refine e_up ?_
      refine x_call (C := ⟨K, adr, pu⟩) (p_check_least T) rfl (hr.mono (j := 3) (by decide)) T.g_check_least ?_ (hlen := (mCons_len mNil_len))
      exact (a_cons (e_var 2) a_nil (hs := st_name))
    refine s_cons ?_ ?_
    · refine s_expr ?_
      refine e_up ?_
      refine x_call (C := ⟨K, adr, pu⟩) (p_check_factors T) rfl (hr.mono (j := 1) (by decide)) T.g_check_factors ?_ (hlen := (mCons_len (mCons_len mNil_len)))
      refine a_cons (e_var 1) ?_ (hs := st_name)
      refine a_cons ?_ a_nil (hs := st_call)
      exact (do_callB cl_len (ar_cons (r_var 2) ar_nil (hs := st_name)) T.n_len)
    refine s_cons ?_ ?_
    · refine s_if ?_ ?_ s_nil
      · refine t_up ?_
        refine t_w ?_
        refine w_and ?_ ?_
        · exact (t_cmp c_isNot (r_var 3) (r_e e_non))
        refine w_and1 ?_
        refine t_not ?_
        refine t_val ?_
        refine x_call (C := ⟨K, adr, pu⟩) (p_is_colour T) rfl (hr.mono (j := 3) (by decide)) T.g_is_colour ?_ (hlen := (mCons_len mNil_len))
        exact (a_cons (e_var 3) a_nil (hs := st_name))
      refine s_one ?_
      refine s_raise1 (C := ⟨K, adr, pu⟩) (y_InvalidColour T) rfl (by first | exact tk | exact takesN tk) (hr.mono (j := 2) (by decide)) T.g_InvalidColour (e_var 3)
    refine s_cons ?_ ?_
    · refine s_if ?_ ?_ s_nil
      · refine t_up ?_
        refine t_not ?_
        refine t_val ?_
        refine x_call (C := ⟨K, adr, pu⟩) (p_is_bounded T) rfl (hr.mono (j := 2) (by decide)) T.g_is_bounded ?_ (hlen := (mCons_len (mCons_len mNil_len)))
        refine a_cons (e_var 1) ?_ (hs := st_name)
        refine a_cons ?_ a_nil (hs := st_call)
        exact (do_callB cl_len (ar_cons (r_var 2) ar_nil (hs := st_name)) T.n_len)
      refine s_one ?_
      refine s_raise0 (C := ⟨K, adr, pu⟩) T.ex0_Unbounded rfl (by first | exact tk | exact takesN tk) T.g_Unbounded
    refine s_cons ?_ ?_
    · refine s_nox ?_
      refine s_setF3 (C := ⟨K, adr, pu⟩) T.cl_Shape T.na_Shape_points T.na_Shape_starts T.na_Shape_dye ?_ (e_var 0) (e_var 0) (e_var 0) (ps_asg pw (pg_tup rfl (pgs_cons (PD.pg_fld pw) (pgs_cons (PD.pg_fld pw) (pgs_cons (PD.pg_fld pw) pgs_nil)))))
      refine e_tup ?_
      refine a_cons (e_var 1) ?_ (hs := st_name)
      exact (a_cons (e_var 2) (a_cons (e_var 3) a_nil (hs := st_name)) (hs := st_name))
    refine s_one ?_
    refine s_setF (C := ⟨K, adr, pu⟩) T.cl_Shape T.na_Shape_words ?_ (e_var 0)
    refine e_up ?_
    refine x_call (C := ⟨K, adr, pu⟩) (p_text_of T) rfl (hr.mono (j := 4) (by decide)) T.g_text_of ?_ (hlen := (mCons_len (mCons_len (mCons_len mNil_len))))
    refine a_cons (e_var 1) ?_ (hs := st_name)
    exact (a_cons (e_var 2) (a_cons (e_var 3) a_nil (hs := st_name)) (hs := st_name))
theorem sc_least_of_text : FnScope ["row", "least"] ["row"] (defScope st_least_of_text) := ⟨rfl, rfl, rfl, by decide +kernel, rfl, by decide +kernel, by decide +kernel⟩
def b_least_of_text : Ev → M Out := (mSeq (mFor (mLst (mCons (mTup mNil) (mCons (mTup (mCons (mC (.int 0)) mNil)) (mCons (mTup (mCons (mC (.int 1)) mNil)) (mCons (mTup (mCons (mC (.int 0)) (mCons (mC (.int 0)) mNil))) (mCons (mTup (mCons (mC (.int 0)) (mCons (mC (.int 1)) mNil))) (mCons (mTup (mCons (mC (.int 1)) (mCons (mC (.int 0)) mNil))) (mCons (mTup (mCons (mC (.int 1)) (mCons (mC (.int 1)) mNil))) mNil)))))))) (tgN 1) (mIfS (mBi (mUn (mCons (mVar 1) mNil) f_text_of_sizes) (mVarR 0) eqD) (mRet (mVar 1)) mSkip)) (mRet (mC .non)))
def f_least_of_text : List D → M D := runD 2 (mNox b_least_of_text)
theorem p_least_of_text (T : Tx K mg adr) : Pr P w K mg base adr "least_of_text" 2 1 f_least_of_text :=
  pr_D (mb := b_least_of_text) T.d_least_of_text sc_least_of_text rfl rfl rfl rfl (fun _ _ _ _ _ _ us hl => match us, hl with | [_], _ => rfl) fun pu f cdv A outer s H E hr => by
    have nd := sc_least_of_text.nd
    refine s_cons ?_ ?_
    rotate_left 1
    · exact (s_one (s_ret e_non))
    refine s_for (g := gName 1) (is := [1]) (t := tgN 1) ?_ ?_ ?_ ?_
    rotate_left 1
    · exact (tr_name 1)
    rotate_left 1
    · refine ps_for ?_ ?_ ?_ ?_ ?_ ?_
      · exact PassesOwn.never
      · rfl
      · exact iw
      · exact (pg_name (i := 1) nd rfl (by first | exact Or.inl rfl | exact Or.inr rfl))
      · exact ssw
      · intro _; rfl
    · refine i_f ?_
      refine f_lst ?_
      refine a_cons ?_ ?_ (hs := ?_)
      · exact (e_tup a_nil)
      rotate_left 1
      · exact st_tup
      refine a_cons ?_ ?_ (hs := ?_)
      rotate_left 2
      · exact st_tup
      · exact (e_tup (a_cons e_int a_nil (hs := st_const)))
      refine a_cons ?_ ?_ (hs := ?_)
      rotate_left 2
      · exact st_tup
      · exact (e_tup (a_cons e_int a_nil (hs := st_const)))
      refine a_cons ?_ ?_ (hs := ?_)
      rotate_left 2
      · exact st_tup
      · exact (e_tup (a_cons e_int (a_cons e_int a_nil (hs := st_const)) (hs := st_const)))
      refine a_cons ?_ ?_ (hs := ?_)
      rotate_left 2
      · exact st_tup
      · exact (e_tup (a_cons e_int (a_cons e_int a_nil (hs := st_const)) (hs := st_const)))
      refine a_cons ?_ ?_ (hs := ?_)
      rotate_left 2
      · exact st_tup
      · exact (e_tup (a_cons e_int (a_cons e_int a_nil (hs := st_const)) (hs := st_const)))
      refine a_cons ?_ ?_ (hs := ?_)
      rotate_left 1
      · exact a_nil
      · exact st_tup
      exact (e_tup (a_cons e_int (a_cons e_int a_nil (hs := st_const)) (hs := st_const)))
    refine s_one ?_
    refine s_if ?_ ?_ s_nil
    · refine t_cmp (c_eq (u64 hr)) ?_ (r_var 0)
      refine r_e ?_
      refine x_call (C := ⟨K, adr, pu⟩) (p_text_of_sizes T) rfl (hr.mono (j := 1) (by decide)) T.g_text_of_sizes ?_ (hlen := (mCons_len mNil_len))
      exact (a_cons (e_var 1) a_nil (hs := st_name))
    exact (s_one (s_ret (e_var 1)))
theorem sc_number_of : FnScope ["word", "sign"] ["word"] (defScope st_number_of) := ⟨rfl, rfl, rfl, by decide +kernel, rfl, by decide +kernel, by decide +kernel⟩
def b_number_of : Ev → M Out := (mSeq (mIfS (mOr (mBi (mVarR 0) (mC (.str "")) eqD) (mOr (mBi (mUn (mCons (mVarR 0) mNil) fun ds => optM (lenO ds)) (mC (.int 40)) gtD) (mNot (mT (mUn (mCons (mFz (mLc [1] (tgN 1) mTrue (mBi (mVarR 1) (mC (.str "0123456789")) fun x y => blM (inD x y)) (mUn (mVar 0) fun d => optM (seqO d)))) mNil) fun ds => optM (allO ds)))))) (mRet (mC .non)) mSkip) (mRet (mIf (mOr (mBi (mVarR 0) (mC (.str "0")) eqD) (mBi (mIx (mVarR 0) (mC (.int 0))) (mC (.str "0")) neD)) (mUn (mCons (mVarR 0) mNil) fun ds => optM (intO ds)) (mC .non))))
def f_number_of : List D → M D := runD 2 (mNox b_number_of)
theorem p_number_of (T : Tx K mg adr) : Pr P w K mg base adr "number_of" 1 1 f_number_of :=
  pr_D (mb := b_number_of) T.d_number_of sc_number_of rfl rfl rfl rfl (fun _ _ _ _ _ _ us hl => match us, hl with | [_], _ => rfl) fun pu f cdv A outer s H E hr => by
    have nd := sc_number_of.nd
    refine s_cons ?_ ?_
    · refine s_if ?_ (s_one (s_ret e_non)) s_nil
      refine t_w ?_
      refine w_or ?_ ?_
      · exact (t_cmp (c_eq (u64 hr)) (r_var 0) (r_e e_str))
      refine w_or ?_ ?_
      · refine t_cmp c_gt ?_ (r_e e_int)
        exact (r_e (do_callB cl_len (ar_cons (r_var 0) ar_nil (hs := st_name)) T.n_len))
      refine w_or1 ?_
      refine t_not ?_
      refine t_val ?_
      refine do_callB cl_all ?_ T.n_all
      refine ar_cons ?_ ar_nil (hs := st_lc)
      refine r_f ?_
      refine f_lc [("sign", 1)] (i_e (e_var 0)) nd (by first | (show blkC ["word", "sign"] (defScope st_number_of) _ _ = true; decide +kernel) | kernel_rfl) (fun _ _ _ _ _ => (pg_name (i := 1) nd rfl (by first | exact Or.inl rfl | exact Or.inr rfl))) (tr_name 1) ?_
      intro _ _ _ _ _
      exact (e_cmp (c_in (u65 hr)) (r_var 1) (r_e (x_gstr T.c_DIGITS)))
    refine s_one ?_
    refine s_ret ?_
    refine e_if ?_ ?_ e_non
    · refine t_w ?_
      refine w_or ?_ ?_
      · exact (t_cmp (c_eq (u64 hr)) (r_var 0) (r_e e_str))
      exact (w_or1 (t_cmp (c_ne (u64 hr)) (r_e (e_ix (r_var 0) e_int)) (r_e e_str)))
    exact (do_callTy cl_int (ar_cons (r_var 0) ar_nil (hs := st_name)) T.n_int)
theorem sc_summand_of : FnScope ["text", "words", "many", "size", "head", "word", "sign"] ["text", "words"] (defScope st_summand_of) := ⟨rfl, rfl, rfl, by decide +kernel, rfl, by decide +kernel, by decide +kernel⟩
def b_summand_of : Ev → M Out := (mSeq (mSet 2 (mVal (mUn (mCons (mFz (mLc [6] (tgN 6) (mBi (mVarR 6) (mC (.str "0123456789")) inD) (mVar 6) (mUn (mVar 0) fun d => optM (seqO d)))) mNil) fun ds => optM (lenO ds)))) (mSeq (mPar 4 5 (mVal (mSl slO (mVarR 0) mONone (mOSome (mVar 2)))) (mVal (mSl slO (mVarR 0) (mOSome (mVar 2)) mONone))) (mSeq (mSet 3 (mVal (mIf (mAnd (mBi (mVarR 4) (mC (.str "")) eqD) (mBi (mVarR 5) (mC (.str "")) neD)) (mC (.int 1)) (mUn (mCons (mVar 4) mNil) f_number_of)))) (mSeq (mIfS (mOr (mBi (mVarR 3) (mC .non) isD) (mBi (mVarR 5) (mUn (mVar 1) fun d => optM (ktT tb_words d)) notInD)) (mRet (mC .non)) mSkip) (mRet (mTup (mCons (mTIndexT tb_words (mVar 1) (mVar 5)) (mCons (mVar 3) mNil))))))))
def f_summand_of : List D → M D := runD 7 (mNox b_summand_of)
theorem p_summand_of (T : Tx K mg adr) : Pr P w K mg base adr "summand_of" 2 2 f_summand_of :=
  pr_D (mb := b_summand_of) T.d_summand_of sc_summand_of rfl rfl rfl rfl (fun _ _ _ _ _ _ us hl => match us, hl with | [_, _], _ => rfl) fun pu f cdv A outer s H E hr => by
    have nd := sc_summand_of.nd
    refine s_cons ?_ ?_
    · refine s_set 2 ?_ ?_ (hs := sw_call)
      · refine x_e ?_
        refine do_callB cl_len ?_ T.n_len
        refine ar_cons ?_ ar_nil (hs := st_lc)
        refine r_f ?_
        refine f_lcif [("sign", 6)] (i_e (e_var 0)) nd (by first | (show blkC ["text", "words", "many", "size", "head", "word", "sign"] (defScope st_summand_of) _ _ = true; decide +kernel) | kernel_rfl) (fun _ _ _ _ _ => (pg_name (i := 6) nd rfl (by first | exact Or.inl rfl | exact Or.inr rfl))) (tr_name 6) ?_ ?_
        · intro _ _ _ _ _
          exact (t_cmp (c_in (u65 hr)) (r_var 6) (r_e (x_gstr T.c_DIGITS)))
        intro _ _ _ _ _
        exact (e_var 6)
      exact nd
    refine s_cons ?_ ?_
    · refine s_par 4 5 ?_ ?_ nd (k := ps_par rfl nd rfl rfl (by decide) rfl rfl (pa_cons pw (pa_cons pw pa_nil)) rfl)
      · exact (x_e (e_sl (r_var 0) o_none (o_some (e_var 2))))
      exact (x_e (e_sl (r_var 0) (o_some (e_var 2)) o_none))
    refine s_cons ?_ ?_
    · refine s_set 3 ?_ ?_ (hs := sw_if)
      · refine x_e ?_
        refine e_if ?_ e_int ?_
        · refine t_w ?_
          refine w_and ?_ ?_
          · exact (t_cmp (c_eq (u64 hr)) (r_var 4) (r_e e_str))
          exact (w_and1 (t_cmp (c_ne (u64 hr)) (r_var 5) (r_e e_str)))
        refine x_call (C := ⟨K, adr, pu⟩) (p_number_of T) rfl (hr.mono (j := 1) (by decide)) T.g_number_of ?_ (hlen := (mCons_len mNil_len))
        exact (a_cons (e_var 4) a_nil (hs := st_name))
      exact nd
    refine s_cons ?_ ?_
    · refine s_if ?_ (s_one (s_ret e_non)) s_nil
      refine t_w ?_
      refine w_or ?_ ?_
      · exact (t_cmp c_is (r_var 3) (r_e e_non))
      refine w_or1 ?_
      refine t_cmp (c_notIn (u65 hr)) (r_var 5) ?_
      exact (r_e (e_ktT (kts_cons (T.kt_WORDS pu) (kts_cons (T.kt_PLACES pu) kts_nil)) (e_var 1)))
    refine s_one ?_
    refine s_ret ?_
    refine e_tup ?_
    refine a_cons ?_ ?_ (hs := st_call)
    · refine e_tindexT (kts_cons (T.kt_WORDS pu) (kts_cons (T.kt_PLACES pu) kts_nil)) (e_var 1) (e_var 5)
    exact (a_cons (e_var 3) a_nil (hs := st_name))
theorem sc_sum_of_text : FnScope ["text", "words", "parts", "signs", "factors", "sign", "rest", "part", "told"] ["text", "words"] (defScope st_sum_of_text) := ⟨rfl, rfl, rfl, by decide +kernel, rfl, by decide +kernel, by decide +kernel⟩
def b_sum_of_text : Ev → M Out := (mSeq (mUnpk (unpD [5, 6]) (mIf (mBi (mSl slO (mVarR 0) mONone (mOSome (mC (.int 1)))) (mC (.str "-")) eqD) (mTup (mCons (mUn (mC (.int 1)) negD) (mCons (mSl slO (mVarR 0) (mOSome (mC (.int 1))) mONone) mNil))) (mTup (mCons (mC (.int 1)) (mCons (mVar 0) mNil))))) (mSeq (mSet 2 (mOwn (mM1 splitO (mVarR 6) (mC (.str " "))))) (mSeq (mSet 3 (mOwn (mBi (mFz (mLst (mCons (mVar 5) mNil))) (mFz (mLc [7] (tgN 7) mTrue (mDsp [("+", 1), ("-", -1)] 0 (mVar 7)) (mUn (mVarR 2) fun d => optM (stepO (some 1) (some 2) d)))) catF))) (mSeq (mIfS (mOr (mBi (mC (.int 0)) (mVarR 3) inD) (mBi (mBi (mUn (mCons (mVarR 2) mNil) fun ds => optM (lenO ds)) (mC (.int 2)) modD) (mC (.int 0)) eqD)) (mRet (mC .non)) mSkip) (mSeq (mSet 4 (mOwn (mBi (mFz (mLst (mCons (mC (.int 0)) mNil))) (mUn (mCons (mUn (mVar 1) fun d => optM (ktT tb_words d)) mNil) fun ds => optM (lenO ds)) repF))) (mFreeze 3 (mSeq (mFor (mUn (mCons (mVar 3) (mCons (mFz (mUn (mVarR 2) fun d => optM (stepO none (some 2) d))) mNil)) fun ds => optM (zipO ds)) (unpD [5, 7]) (mSeq (mSet 8 (mVal (mUn (mCons (mVar 7) (mCons (mVar 1) mNil)) f_summand_of))) (mSeq (mIfS (mBi (mVarR 8) (mC .non) isD) (mRet (mC .non)) mSkip) (mAugIx 4 (mIx (mVarR 8) (mC (.int 0))) (mBi (mVar 5) (mIx (mVarR 8) (mC (.int 1))) mulD))))) (mRet (mUn (mCons (mVarR 4) mNil) fun ds => optM (tupleO ds))))))))))
def f_sum_of_text : List D → M D := runD 9 (mNox b_sum_of_text)
theorem p_sum_of_text (T : Tx K mg adr) : Pr P w K mg base adr "sum_of_text" 3 2 f_sum_of_text :=
  pr_D (mb := b_sum_of_text) T.d_sum_of_text sc_sum_of_text rfl rfl rfl rfl (fun _ _ _ _ _ _ us hl => match us, hl with | [_, _], _ => rfl) fun pu f cdv A outer s H E hr => by
    have nd := sc_sum_of_text.nd
    refine s_cons ?_ ?_
    · refine s_unpk (pg_tup rfl (pgs_cons (pg_name (i := 5) nd rfl (by first | exact Or.inl rfl | exact Or.inr rfl)) (pgs_cons (pg_name (i := 6) nd rfl (by first | exact Or.inl rfl | exact Or.inr rfl)) pgs_nil))) (tr_tup [5, 6]) ?_
      refine e_if ?_ ?_ ?_
      · exact (t_cmp (c_eq (u64 hr)) (r_e (e_sl (r_var 0) o_none (o_some e_int))) (r_e e_str))
      · refine e_tup ?_
        refine a_cons (e_neg e_int) ?_ (hs := st_un)
        exact (a_cons (e_sl (r_var 0) (o_some e_int) o_none) a_nil (hs := st_sub))
      exact (e_tup (a_cons e_int (a_cons (e_var 0) a_nil (hs := st_name)) (hs := st_const)))
    refine s_cons ?_ ?_
    · exact (s_set 2 (x_f (f_split (r_var 6) (r_e e_str))) nd (hs := sw_call))
    refine s_cons ?_ ?_
    · refine s_set 3 ?_ ?_ (hs := sw_bin)
      · refine x_f ?_
        refine f_cat ?_ ?_
        · exact (r_f (f_lst (a_cons (e_var 5) a_nil (hs := st_name))))
        refine r_f ?_
        refine f_lc [("part", 7)] ?_ nd (by first | (show blkC ["text", "words", "parts", "signs", "factors", "sign", "rest", "part", "told"] (defScope st_sum_of_text) _ _ = true; decide +kernel) | kernel_rfl) (fun _ _ _ _ _ => (pg_name (i := 7) nd rfl (by first | exact Or.inl rfl | exact Or.inr rfl))) (tr_name 7) ?_
        · refine i_f ?_
          refine f_step (r_var 2) (po_some pe_int) (po_some pe_int) (po_c (kk := 0)) (po_c (kk := 0)) (by decide)
        intro _ _ _ _ _
        refine e_dsp2 (v2 := -1) (by decide +kernel) (u1 hr) pe_str pe_str pe_int x_neg1 pe_int (e_var 7) ⟨rfl, rfl, rfl, rfl⟩
      exact nd
    refine s_cons ?_ ?_
    · refine s_if ?_ (s_one (s_ret e_non)) s_nil
      refine t_w ?_
      refine w_or ?_ ?_
      · exact (t_cmp (c_in (u65 hr)) (r_e e_int) (r_var 3))
      refine w_or1 ?_
      refine t_cmp (c_eq (u64 hr)) ?_ (r_e e_int)
      exact (r_e (e_mod (do_callB cl_len (ar_cons (r_var 2) ar_nil (hs := st_name)) T.n_len) e_int))
    refine s_cons ?_ ?_
    · refine s_set 4 ?_ ?_ (hs := sw_bin)
      · refine x_f ?_
        refine f_rep ?_ ?_
        · exact (r_f (f_lst (a_cons e_int a_nil (hs := st_const))))
        refine do_callB cl_len ?_ T.n_len
        refine ar_cons ?_ ar_nil (hs := st_name)
        exact (r_e (e_ktT (kts_cons (T.kt_WORDS pu) (kts_cons (T.kt_PLACES pu) kts_nil)) (e_var 1)))
      exact nd
    refine s_freeze 3 ?_
    refine s_cons ?_ ?_
    · refine s_for ?_ (tr_tup [5, 7]) ?_ (ps_for PassesOwn.never rfl iw (pg_tup rfl (pgs_cons (pg_name (i := 5) nd rfl (by first | exact Or.inl rfl | exact Or.inr rfl)) (pgs_cons (pg_name (i := 7) nd rfl (by first | exact Or.inl rfl | exact Or.inr rfl)) pgs_nil))) ssw)
      · refine i_zip ?_ T.n_zip (pi_zipA rfl T.n_zip aw)
        refine a_cons (e_var 3) ?_ (hs := st_name)
        refine a_cons ?_ a_nil (hs := st_sub)
        exact (e_f (f_step (r_var 2) po_none (po_some pe_int) po_n (po_c (kk := 0)) (by decide)))
      refine s_cons ?_ ?_
      · refine s_set 8 ?_ ?_ (hs := sw_call)
        · refine x_e ?_
          refine x_call (C := ⟨K, adr, pu⟩) (p_summand_of T) rfl (hr.mono (j := 2) (by decide)) T.g_summand_of ?_ (hlen := (mCons_len (mCons_len mNil_len)))
          exact (a_cons (e_var 7) (a_cons (e_var 1) a_nil (hs := st_name)) (hs := st_name))
        exact nd
      refine s_cons ?_ ?_
      · exact (s_if (t_cmp c_is (r_var 8) (r_e e_non)) (s_one (s_ret e_non)) s_nil)
      refine s_one ?_
      refine s_augIx 4 (e_ix (r_var 8) e_int) ?_ (ps_augS (pv 4) pw get_list pw ip_add set_list)
      exact (e_mul (e_var 5) (e_ix (r_var 8) e_int))
    exact (s_one (s_ret (do_callTy cl_tuple (ar_cons (r_var 4) ar_nil (hs := st_name)) T.n_tuple)))
theorem sc_corner_of_text : FnScope ["row", "parts", "sums", "part", "told"] ["row"] (defScope st_corner_of_text) := ⟨rfl, rfl, rfl, by decide +kernel, rfl, by decide +kernel, by decide +kernel⟩
def b_corner_of_text : Ev → M Out := (mSeq (mSet 1 (mOwn (mM1 splitO (mM1 rmpreO (mVarR 0) (mC (.str "corner "))) (mC (.str ", "))))) (mFreeze 1 (mSeq (mSet 2 (mOwn (mLc [3] (tgN 3) mTrue (mUn (mCons (mVar 3) (mCons (mC (.cls "WORDS")) mNil)) f_sum_of_text) (mUn (mVar 1) fun d => optM (seqO d))))) (mSeq (mIfS (mOr (mNot (mT (mM1 startsO (mVarR 0) (mC (.str "corner "))))) (mOr (mBi (mUn (mCons (mVarR 1) mNil) fun ds => optM (lenO ds)) (mC (.int 2)) neD) (mBi (mC .non) (mVarR 2) inD))) (mRet (mC .non)) mSkip) (mFreeze 2 (mRet (mUn (mCons (mFz (mLc [4] (tgN 4) mTrue (mTup (mCons (mIx (mVarR 4) (mC (.int 2))) (mCons (mIx (mVarR 4) (mC (.int 0))) (mCons (mIx (mVarR 4) (mC (.int 1))) mNil)))) (mUn (mVar 2) fun d => optM (seqO d)))) mNil) fun ds => optM (tupleO ds))))))))
def f_corner_of_text : List D → M D := runD 5 (mNox b_corner_of_text)
theorem p_corner_of_text (T : Tx K mg adr) : Pr P w K mg base adr "corner_of_text" 4 1 f_corner_of_text :=
  pr_D (mb := b_corner_of_text) T.d_corner_of_text sc_corner_of_text rfl rfl rfl rfl (fun _ _ _ _ _ _ us hl => match us, hl with | [_], _ => rfl) fun pu f cdv A outer s H E hr => by
    have nd := sc_corner_of_text.nd
    refine s_cons ?_ ?_
    · refine s_set 1 ?_ ?_ (hs := sw_call)
      · exact (x_f (f_split (r_e (e_rmpre (r_var 0) (r_e e_str))) (r_e e_str)))
      exact nd
    refine s_freeze 1 ?_
    refine s_cons ?_ ?_
    · refine s_setLc 2 [("part", 3)] (i_e (e_var 1)) nd (by first | (show blkC ["row", "parts", "sums", "part", "told"] (defScope st_corner_of_text) _ _ = true; decide +kernel) | kernel_rfl) (fun _ _ _ _ _ => (pg_name (i := 3) nd rfl (by first | exact Or.inl rfl | exact Or.inr rfl))) (tr_name 3) ?_ rfl
      intro _ _ _ _ _
      refine x_call (C := ⟨K, adr, pu⟩) (p_sum_of_text T) rfl (hr.mono (j := 3) (by decide)) T.g_sum_of_text ?_ (hlen := (mCons_len (mCons_len mNil_len)))
      refine a_cons (e_var 3) ?_ (hs := st_name)
      exact (a_cons (e_cls (C := ⟨K, adr, pu⟩) T.g_WORDS) a_nil (hs := st_name))
    refine s_cons ?_ ?_
    · refine s_if ?_ (s_one (s_ret e_non)) s_nil
      refine t_w ?_
      refine w_or ?_ ?_
      · exact (t_not (t_val (e_starts (r_var 0) (r_e e_str))))
      refine w_or ?_ ?_
      · refine t_cmp (c_ne (u64 hr)) ?_ (r_e e_int)
        exact (r_e (do_callB cl_len (ar_cons (r_var 1) ar_nil (hs := st_name)) T.n_len))
      exact (w_or1 (t_cmp (c_in (u65 hr)) (r_e e_non) (r_var 2)))
    refine s_freeze 2 ?_
    refine s_one ?_
    refine s_ret ?_
    refine do_callTy cl_tuple ?_ T.n_tuple
    refine ar_cons ?_ ar_nil (hs := st_lc)
    refine r_f ?_
    refine f_lc [("told", 4)] (i_e (e_var 2)) nd (by first | (show blkC ["row", "parts", "sums", "part", "told"] (defScope st_corner_of_text) _ _ = true; decide +kernel) | kernel_rfl) (fun _ _ _ _ _ => (pg_name (i := 4) nd rfl (by first | exact Or.inl rfl | exact Or.inr rfl))) (tr_name 4) ?_
    intro _ _ _ _ _
    refine e_tup ?_
    refine a_cons (e_ix (r_var 4) e_int) ?_ (hs := st_sub)
    refine a_cons (e_ix (r_var 4) e_int) ?_ (hs := st_sub)
    exact (a_cons (e_ix (r_var 4) e_int) a_nil (hs := st_sub))
theorem sc_colour_of_text : FnScope ["row", "words", "told", "rest", "many"] ["row"] (defScope st_colour_of_text) := ⟨rfl, rfl, rfl, by decide +kernel, rfl, by decide +kernel, by decide +kernel⟩
def b_colour_of_text : Ev → M Out := (mSeq (mSet 1 (mOwn (mM1 splitO (mVarR 0) (mC (.str " "))))) (mSeq (mIfS (mOr (mBi (mUn (mCons (mVarR 1) mNil) fun ds => optM (lenO ds)) (mC (.int 6)) ltD) (mOr (mBi (mIx (mVarR 1) (mC (.int 0))) (mC (.str "colour")) neD) (mOr (mBi (mIx (mVarR 1) (mUn (mC (.int 4)) negD)) (mC (.str "leaves")) neD) (mBi (mIx (mVarR 1) (mUn (mC (.int 2)) negD)) (mC (.str "by")) neD)))) (mRet (mC .non)) mSkip) (mSeq (mPar3 2 3 4 (mUn (mCons (mM1 joinO (mC (.str " ")) (mFz (mSl slF (mVarR 1) (mOSome (mC (.int 1))) (mOSome (mUn (mC (.int 4)) negD))))) (mCons (mC (.cls "PLACES")) mNil)) f_sum_of_text) (mUn (mCons (mIx (mVarR 1) (mUn (mC (.int 3)) negD)) mNil) f_number_of) (mUn (mCons (mIx (mVarR 1) (mUn (mC (.int 1)) negD)) mNil) f_number_of)) (mRet (mIf (mBi (mVarR 2) (mC .non) isD) (mC .non) (mTup (mCons (mIx (mVarR 2) (mC (.int 0))) (mCons (mIx (mVarR 2) (mC (.int 1))) (mCons (mVar 4) (mCons (mVar 3) mNil))))))))))
def f_colour_of_text : List D → M D := runD 5 (mNox b_colour_of_text)
theorem p_colour_of_text (T : Tx K mg adr) : Pr P w K mg base adr "colour_of_text" 4 1 f_colour_of_text :=
  pr_D (mb := b_colour_of_text) T.d_colour_of_text sc_colour_of_text rfl rfl rfl rfl (fun _ _ _ _ _ _ us hl => match us, hl with | [_], _ => rfl) fun pu f cdv A outer s H E hr => by
    have nd := sc_colour_of_text.nd
    refine s_cons ?_ ?_
    · exact (s_set 1 (x_f (f_split (r_var 0) (r_e e_str))) nd (hs := sw_call))
    refine s_cons ?_ ?_
    · refine s_if ?_ (s_one (s_ret e_non)) s_nil
      refine t_w ?_
      refine w_or ?_ ?_
      · refine t_cmp c_lt ?_ (r_e e_int)
        exact (r_e (do_callB cl_len (ar_cons (r_var 1) ar_nil (hs := st_name)) T.n_len))
      refine w_or ?_ ?_
      · exact (t_cmp (c_ne (u64 hr)) (r_e (e_ix (r_var 1) e_int)) (r_e e_str))
      refine w_or ?_ ?_
      · exact (t_cmp (c_ne (u64 hr)) (r_e (e_ix (r_var 1) (e_neg e_int))) (r_e e_str))
      exact (w_or1 (t_cmp (c_ne (u64 hr)) (r_e (e_ix (r_var 1) (e_neg e_int))) (r_e e_str)))
    refine s_cons ?_ ?_
    · refine s_par3 2 3 4 ?_ ?_ ?_ (ps_par3 rfl nd rfl rfl rfl (by decide) (by decide) (by decide) rfl rfl rfl (pa_cons pw (pa_cons pw (pa_cons pw pa_nil))) rfl)
      · refine x_call (C := ⟨K, adr, pu⟩) (p_sum_of_text T) rfl (hr.mono (j := 3) (by decide)) T.g_sum_of_text ?_ (hlen := (mCons_len (mCons_len mNil_len)))
        refine a_cons ?_ ?_ (hs := st_call)
        · exact (e_join (r_e e_str) (r_f (f_sl (r_var 1) (o_some e_int) (o_some (e_neg e_int)))))
        exact (a_cons (e_cls (C := ⟨K, adr, pu⟩) T.g_PLACES) a_nil (hs := st_name))
      · refine x_call (C := ⟨K, adr, pu⟩) (p_number_of T) rfl (hr.mono (j := 1) (by decide)) T.g_number_of ?_ (hlen := (mCons_len mNil_len))
        exact (a_cons (e_ix (r_var 1) (e_neg e_int)) a_nil (hs := st_sub))
      refine x_call (C := ⟨K, adr, pu⟩) (p_number_of T) rfl (hr.mono (j := 1) (by decide)) T.g_number_of ?_ (hlen := (mCons_len mNil_len))
      exact (a_cons (e_ix (r_var 1) (e_neg e_int)) a_nil (hs := st_sub))
    refine s_one ?_
    refine s_ret ?_
    refine e_if ?_ e_non ?_
    · exact (t_cmp c_is (r_var 2) (r_e e_non))
    refine e_tup ?_
    refine a_cons (e_ix (r_var 2) e_int) ?_ (hs := st_sub)
    refine a_cons (e_ix (r_var 2) e_int) ?_ (hs := st_sub)
    exact (a_cons (e_var 4) (a_cons (e_var 3) a_nil (hs := st_name)) (hs := st_name))
theorem sc_Shape_read : FnScope ["cls", "text", "rows", "corners", "least", "has_colour", "found", "row"] ["cls", "text"] (defScope st_Shape_read) := ⟨rfl, rfl, rfl, by decide +kernel, rfl, by decide +kernel, by decide +kernel⟩
def b_Shape_read : Ev → M Out := (mSeq (mNox (mSet 2 (mOwn (mIf (mT (mUn (mCons (mVarR 1) (mCons (mC (.ty "str")) mNil)) fun ds => optM ((isiQ "Shape") ds))) (mM1 splitO (mVarR 1) (mC (.str "\n"))) (mLst (mCons (mC (.str "")) mNil)))))) (mSeq (mNox (mPar 4 5 (mVal (mUn (mCons (mIx (mVarR 2) (mC (.int 0))) mNil) f_least_of_text)) (mVal (mM1 startsO (mIx (mVarR 2) (mUn (mC (.int 1)) negD)) (mC (.str "colour ")))))) (mSeq (mSet 3 (mVal (nx (mUn (mCons (mFz (mLc [7] (tgN 7) mTrue (mUn (mCons (mVar 7) mNil) f_corner_of_text) (mIf (mT (mVar 5)) (mSl slF (mVarR 2) (mOSome (mC (.int 1))) (mOSome (mUn (mC (.int 1)) negD))) (mSl slF (mVarR 2) (mOSome (mC (.int 1))) mONone)))) mNil) fun ds => optM (tupleO ds))))) (mSeq (mTryH ["Unbounded"] (mRaise1 "InvalidText" "given" (mVar 1)) (mSet 6 (mVal (mMakeLX 0 "Shape" f_Shape___init__ (mCons (mVar 3) (mCons (mVar 4) (mCons (nx (mIf (mT (mVar 5)) (mUn (mCons (mIx (mVarR 2) (mUn (mC (.int 1)) negD)) mNil) f_colour_of_text) (mC .non))) mNil))))))) (mSeq (mIfS (nx (mBi (mUn (mVar 6) fun d => optM (fldO "Shape" "words" d)) (mVarR 1) neD)) (mRaise1 "InvalidText" "given" (mVar 1)) mSkip) (mRet (mVar 6)))))))
def f_Shape_read : List D → M D := runD 8 b_Shape_read
theorem p_Shape_read (T : Tx K mg adr) : PrNZ [] P w K mg base adr "Shape.read" 8 2 f_Shape_read :=
  pr_NZ (mb := b_Shape_read) T.d_Shape_read sc_Shape_read rfl rfl rfl rfl (fun _ _ _ _ _ _ us hl => match us, hl with | [_, _], _ => rfl) (fun q hq => by cases hq) fun pu f cdv A outer s H E hr tk => by
    have nd := sc_Shape_read.nd
    refine s_cons ?_ ?_
    · refine s_nox ?_
      refine s_set 2 ?_ ?_ (hs := sw_if)
      · refine x_f ?_
        refine f_if ?_ ?_ ?_
        · refine t_val ?_
          refine do_callB (x_isi T.isi_Shape) ?_ T.n_isinstance
          refine ar_cons (r_var 1) ?_ (hs := st_name)
          exact (ar_cons (r_e (e_ty T.n_str (by decide +kernel))) ar_nil (hs := st_name))
        · exact (f_split (r_var 1) (r_e e_str))
        exact (f_lst (a_cons e_str a_nil (hs := st_const)))
      exact nd
    refine s_cons ?_ ?_
    · refine s_nox ?_
      refine s_par 4 5 ?_ ?_ nd (k := ps_par rfl nd rfl rfl (by decide) rfl rfl (pa_cons pw (pa_cons pw pa_nil)) rfl)
      · refine x_e ?_
        refine x_call (C := ⟨K, adr, pu⟩) (p_least_of_text T) rfl (hr.mono (j := 2) (by decide)) T.g_least_of_text ?_ (hlen := (mCons_len mNil_len))
        exact (a_cons (e_ix (r_var 2) e_int) a_nil (hs := st_sub))
      exact (x_e (e_starts (r_e (e_ix (r_var 2) (e_neg e_int))) (r_e e_str)))
    refine s_cons ?_ ?_
    · refine s_set 3 ?_ ?_ (hs := sw_call)
      · refine x_e ?_
        refine e_up ?_
        refine do_callTy cl_tuple ?_ T.n_tuple
        refine ar_cons ?_ ar_nil (hs := st_lc)
        refine r_f ?_
        refine f_lc [("row", 7)] ?_ nd (by first | (show blkC ["cls", "text", "rows", "corners", "least", "has_colour", "found", "row"] (defScope st_Shape_read) _ _ = true; decide +kernel) | kernel_rfl) (fun _ _ _ _ _ => (pg_name (i := 7) nd rfl (by first | exact Or.inl rfl | exact Or.inr rfl))) (tr_name 7) ?_
        · refine i_f ?_
          refine f_if (t_val (e_var 5)) ?_ ?_
          · exact (f_sl (r_var 2) (o_some e_int) (o_some (e_neg e_int)))
          exact (f_sl (r_var 2) (o_some e_int) o_none)
        intro _ _ _ _ _
        refine x_call (C := ⟨K, adr, pu⟩) (p_corner_of_text T) rfl (hr.mono (j := 4) (by decide)) T.g_corner_of_text ?_ (hlen := (mCons_len mNil_len))
        exact (a_cons (e_var 7) a_nil (hs := st_name))
      exact nd
    refine s_cons ?_ ?_
    · refine s_tryH (C := ⟨K, adr, pu⟩) (ys := ["Unbounded"]) rfl rfl (NamesL.cons ⟨rfl, by decide, Or.inl T.g_InvalidCorners⟩ (NamesL.cons ⟨rfl, by decide, Or.inl T.g_InvalidLeast⟩ (NamesL.cons ⟨rfl, by decide, Or.inl T.g_InvalidColour⟩ (NamesL.cons ⟨rfl, by decide, Or.inl T.g_Unbounded⟩ NamesL.nil)))) tupM4 (by simp) passes_cxZ tk (fun c hc => by rw [List.mem_singleton.mp hc]; exact (any_cons T.xno_Unbounded__InvalidCorners (any_cons T.xno_Unbounded__InvalidLeast (any_cons T.xno_Unbounded__InvalidColour (any_cons T.xis_Unbounded__Unbounded any_nil))))) ?_ ?_
      · intro W pn xe tk po
        refine tr_set 6 ?_ nd (hs := sw_call)
        refine x_e ?_
        refine x_makeLX (C := ⟨K, adr, pu⟩) (i := 0) (p_Shape___init__ T) rfl (by first | exact tk | exact takesN tk) (hr.mono (j := 7) (by decide)) T.mk_Shape rfl (Or.inl rfl) ?_ (hlen := (mCons_len (mCons_len (mCons_len mNil_len))))
        refine a_cons (e_var 3) ?_ (hs := st_name)
        refine a_cons (e_var 4) ?_ (hs := st_name)
        refine a_cons ?_ a_nil (hs := st_if)
        refine e_up ?_
        refine e_if (t_val (e_var 5)) ?_ e_non
        refine x_call (C := ⟨K, adr, pu⟩) (p_colour_of_text T) rfl (hr.mono (j := 4) (by decide)) T.g_colour_of_text ?_ (hlen := (mCons_len mNil_len))
        exact (a_cons (e_ix (r_var 2) (e_neg e_int)) a_nil (hs := st_sub))
      intro a pn tk hot
      refine s_one ?_
      refine s_raise1H (C := ⟨K, adr, pu⟩) (yh_InvalidText T) hot tk (L2H.roomH_mark (hr.mono (j := 2) (by decide)) _) T.g_InvalidText (e_var 1)
    refine s_cons ?_ ?_
    · refine s_if ?_ ?_ s_nil
      · refine t_up ?_
        refine t_cmp (c_ne (u64 hr)) ?_ (r_var 1)
        exact (r_e (e_fld (C := ⟨K, adr, pu⟩) (cn := "Shape") T.cl_Shape T.na_Shape_words (e_var 6)))
      refine s_one ?_
      refine s_raise1 (C := ⟨K, adr, pu⟩) (y_InvalidText T) rfl (by first | exact tk | exact takesN tk) (hr.mono (j := 2) (by decide)) T.g_InvalidText (e_var 1)
    exact (s_one (s_ret (e_var 6)))
theorem sc__law_sum : FnScope ["_law_pairs", "_law_told_here", "_law_factor", "_law_letter", "_law_digits", "_law_sign", "_law_lead"] ["_law_pairs"] (defScope st__law_sum) := ⟨rfl, rfl, rfl, by decide +kernel, rfl, by decide +kernel, by decide +kernel⟩
def b__law_sum : Ev → M Out := (mSeq (mSet 1 (mVal (mC (.str "")))) (mSeq (mFor (mUn (mVar 0) fun d => optM (seqO d)) (unpD [2, 3]) (mIfS (mBi (mVarR 2) (mC (.int 0)) neD) (mSeq (mSet 4 (mVal (mIf (mOr (mBi (mVarR 3) (mC (.str "")) eqD) (mBi (mUn (mCons (mVarR 2) mNil) fun ds => optM (absO ds)) (mC (.int 1)) gtD)) (mUn (mCons (mUn (mCons (mVarR 2) mNil) fun ds => optM (absO ds)) mNil) fun ds => optM (strO ds)) (mC (.str ""))))) (mSeq (mSet 5 (mVal (mIf (mBi (mVarR 2) (mC (.int 0)) ltD) (mC (.str "-")) (mC (.str "+"))))) (mSeq (mSet 6 (mVal (mIf (mBi (mVarR 2) (mC (.int 0)) ltD) (mC (.str "-")) (mC (.str ""))))) (mSet 1 (mVal (mBi (mBi (mBi (mVar 1) (mIf (mBi (mVarR 1) (mC (.str "")) eqD) (mVar 6) (mBi (mBi (mC (.str " ")) (mVar 5) addD) (mC (.str " ")) addD)) addD) (mVar 4) addD) (mVar 3) addD)))))) mSkip)) (mRet (mIf (mBi (mVarR 1) (mC (.str "")) neD) (mVar 1) (mC (.str "0"))))))
def f__law_sum : List D → M D := runD 7 (mNox b__law_sum)
theorem p__law_sum (T : Tx K mg adr) : Pr P w K mg base adr "_law_sum" 1 1 f__law_sum :=
  pr_D (mb := b__law_sum) T.d__law_sum sc__law_sum rfl rfl rfl rfl (fun _ _ _ _ _ _ us hl => match us, hl with | [_], _ => rfl) fun pu f cdv A outer s H E hr => by
    have nd := sc__law_sum.nd
    refine s_cons ?_ ?_
    · exact (s_set 1 (x_e e_str) nd (hs := sw_const))
    refine s_cons ?_ ?_
    · refine s_for (i_e (e_var 0)) (tr_tup [2, 3]) ?_ (ps_for PassesOwn.never rfl iw (pg_tup rfl (pgs_cons (pg_name (i := 2) nd rfl (by first | exact Or.inl rfl | exact Or.inr rfl)) (pgs_cons (pg_name (i := 3) nd rfl (by first | exact Or.inl rfl | exact Or.inr rfl)) pgs_nil))) ssw)
      refine s_one ?_
      refine s_if ?_ ?_ s_nil
      · exact (t_cmp (c_ne (u64 hr)) (r_var 2) (r_e e_int))
      refine s_cons ?_ ?_
      · refine s_set 4 ?_ ?_ (hs := sw_if)
        · refine x_e ?_
          refine e_if ?_ ?_ e_str
          · refine t_w ?_
            refine w_or ?_ ?_
            · exact (t_cmp (c_eq (u64 hr)) (r_var 3) (r_e e_str))
            refine w_or1 ?_
            refine t_cmp c_gt ?_ (r_e e_int)
            exact (r_e (do_callB cl_abs (ar_cons (r_var 2) ar_nil (hs := st_name)) T.n_abs))
          refine do_callTy cl_str ?_ T.n_str
          refine ar_cons ?_ ar_nil (hs := st_call)
          exact (r_e (do_callB cl_abs (ar_cons (r_var 2) ar_nil (hs := st_name)) T.n_abs))
        exact nd
      refine s_cons ?_ ?_
      · exact (s_set 5 (x_e (e_if (t_cmp c_lt (r_var 2) (r_e e_int)) e_str e_str)) nd (hs := sw_if))
      refine s_cons ?_ ?_
      · exact (s_set 6 (x_e (e_if (t_cmp c_lt (r_var 2) (r_e e_int)) e_str e_str)) nd (hs := sw_if))
      refine s_one ?_
      refine s_set 1 ?_ ?_ (hs := sw_bin)
      · refine x_e ?_
        refine e_add ?_ (e_var 3)
        refine e_add ?_ (e_var 4)
        refine e_add (e_var 1) ?_
        refine e_if ?_ (e_var 6) ?_
        · exact (t_cmp (c_eq (u64 hr)) (r_var 1) (r_e e_str))
        exact (e_add (e_add e_str (e_var 5)) e_str)
      exact nd
    exact (s_one (s_ret (e_if (t_cmp (c_ne (u64 hr)) (r_var 1) (r_e e_str)) (e_var 1) e_str)))
theorem sc__law_dot_text : FnScope ["_law_dot_here", "_law_move"] ["_law_dot_here"] (defScope st__law_dot_text) := ⟨rfl, rfl, rfl, by decide +kernel, rfl, by decide +kernel, by decide +kernel⟩
def b__law_dot_text : Ev → M Out := (mRet (mBi (mC (.str "corner ")) (mM1 joinO (mC (.str ", ")) (mFz (mLc [1] (tgN 1) mTrue (mUn (mCons (mFz (mLst (mCons (mTup (mCons (mIx (mVarR 1) (mC (.int 1))) (mCons (mC (.str "s")) mNil))) (mCons (mTup (mCons (mIx (mVarR 1) (mC (.int 2))) (mCons (mC (.str "t")) mNil))) (mCons (mTup (mCons (mIx (mVarR 1) (mC (.int 0))) (mCons (mC (.str "")) mNil))) mNil))))) mNil) f__law_sum) (mUn (mVar 0) fun d => optM (seqO d))))) addD))
def f__law_dot_text : List D → M D := runD 2 (mNox b__law_dot_text)
theorem p__law_dot_text (T : Tx K mg adr) : Pr P w K mg base adr "_law_dot_text" 2 1 f__law_dot_text :=
  pr_D (mb := b__law_dot_text) T.d__law_dot_text sc__law_dot_text rfl rfl rfl rfl (fun _ _ _ _ _ _ us hl => match us, hl with | [_], _ => rfl) fun pu f cdv A outer s H E hr => by
    have nd := sc__law_dot_text.nd
    refine s_one ?_
    refine s_ret ?_
    refine e_add e_str ?_
    refine e_join (r_e e_str) ?_
    refine r_f ?_
    refine f_lc [("_law_move", 1)] (i_e (e_var 0)) nd (by first | (show blkC ["_law_dot_here", "_law_move"] (defScope st__law_dot_text) _ _ = true; decide +kernel) | kernel_rfl) (fun _ _ _ _ _ => (pg_name (i := 1) nd rfl (by first | exact Or.inl rfl | exact Or.inr rfl))) (tr_name 1) ?_
    intro _ _ _ _ _
    refine x_call (C := ⟨K, adr, pu⟩) (p__law_sum T) rfl (hr.mono (j := 1) (by decide)) T.g__law_sum ?_ (hlen := (mCons_len mNil_len))
    refine a_cons ?_ a_nil (hs := st_list)
    refine e_f ?_
    refine f_lst ?_
    refine a_cons ?_ ?_ (hs := st_tup)
    · refine e_tup ?_
      exact (a_cons (e_ix (r_var 1) e_int) (a_cons e_str a_nil (hs := st_const)) (hs := st_sub))
    refine a_cons ?_ ?_ (hs := st_tup)
    · refine e_tup ?_
      exact (a_cons (e_ix (r_var 1) e_int) (a_cons e_str a_nil (hs := st_const)) (hs := st_sub))
    refine a_cons ?_ a_nil (hs := st_tup)
    refine e_tup ?_
    exact (a_cons (e_ix (r_var 1) e_int) (a_cons e_str a_nil (hs := st_const)) (hs := st_sub))
theorem sc__law_figure_text : FnScope ["_law_parts", "_law_heads", "_law_rows", "_law_p", "_law_q", "_law_many", "_law_r", "_law_letter", "_law_value", "_law_dot_here"] ["_law_parts"] (defScope st__law_figure_text) := ⟨rfl, rfl, rfl, by decide +kernel, rfl, by decide +kernel, by decide +kernel⟩
def b__law_figure_text : Ev → M Out := (mSeq (mSet 1 (mOwn (mLc [7, 8] (unpD [7, 8]) mTrue (mBi (mBi (mVar 7) (mC (.str " from ")) addD) (mUn (mCons (mVarR 8) mNil) fun ds => optM (strO ds)) addD) (mUn (mCons (mFz (mLst (mCons (mC (.str "s")) (mCons (mC (.str "t")) mNil)))) (mCons (mIx (mVarR 0) (mC (.int 1))) mNil)) fun ds => optM (zipMO ds))))) (mSeq (mSet 2 (mOwn (mBi (mFz (mLst (mCons (mBi (mC (.str "sizes ")) (mIf (mBi (mVarR 1) (mFz (mLst mNil)) neD) (mM1 joinO (mC (.str ", ")) (mVarR 1)) (mC (.str "none"))) addD) mNil))) (mFz (mLc [9] (tgN 9) mTrue (mUn (mCons (mVar 9) mNil) f__law_dot_text) (mUn (mIx (mVarR 0) (mC (.int 0))) fun d => optM (seqO d)))) catF))) (mSeq (mIfS (mBi (mIx (mVarR 0) (mC (.int 2))) (mC .non) isNotD) (mSeq (mUnpk (unpD [3, 4, 5, 6]) (mIx (mVarR 0) (mC (.int 2)))) (mApp 2 (mBi (mBi (mBi (mBi (mBi (mC (.str "colour ")) (mUn (mCons (mFz (mLst (mCons (mTup (mCons (mVar 3) (mCons (mC (.str "x")) mNil))) (mCons (mTup (mCons (mVar 4) (mCons (mC (.str "y")) mNil))) mNil)))) mNil) f__law_sum) addD) (mC (.str " leaves ")) addD) (mUn (mCons (mVarR 6) mNil) fun ds => optM (strO ds)) addD) (mC (.str " by ")) addD) (mUn (mCons (mVarR 5) mNil) fun ds => optM (strO ds)) addD))) mSkip) (mRet (mM1 joinO (mC (.str "\n")) (mVarR 2))))))
def f__law_figure_text : List D → M D := runD 10 (mNox b__law_figure_text)
theorem p__law_figure_text (T : Tx K mg adr) : Pr P w K mg base adr "_law_figure_text" 3 1 f__law_figure_text :=
  pr_D (mb := b__law_figure_text) T.d__law_figure_text sc__law_figure_text rfl rfl rfl rfl (fun _ _ _ _ _ _ us hl => match us, hl with | [_], _ => rfl) fun pu f cdv A outer s H E hr => by
    have nd := sc__law_figure_text.nd
    refine s_cons ?_ ?_
    · refine s_setLc 1 [("_law_letter", 7), ("_law_value", 8)] ?_ nd (by first | (show blkC ["_law_parts", "_law_heads", "_law_rows", "_law_p", "_law_q", "_law_many", "_law_r", "_law_letter", "_law_value", "_law_dot_here"] (defScope st__law_figure_text) _ _ = true; decide +kernel) | kernel_rfl) (fun _ _ _ _ _ => (pg_tup rfl (pgs_cons (pg_name (i := 7) nd rfl (by first | exact Or.inl rfl | exact Or.inr rfl)) (pgs_cons (pg_name (i := 8) nd rfl (by first | exact Or.inl rfl | exact Or.inr rfl)) pgs_nil)))) (tr_tup [7, 8]) ?_ rfl
      · refine i_zipM ?_ T.n_zip (PDE.pi_zipM rfl T.n_zip aw)
        refine a_cons ?_ ?_ (hs := st_list)
        · exact (e_f (f_lst (a_cons e_str (a_cons e_str a_nil (hs := st_const)) (hs := st_const))))
        exact (a_cons (e_ix (r_var 0) e_int) a_nil (hs := st_sub))
      intro _ _ _ _ _
      refine e_add (e_add (e_var 7) e_str) ?_
      exact (do_callTy cl_str (ar_cons (r_var 8) ar_nil (hs := st_name)) T.n_str)
    refine s_cons ?_ ?_
    · refine s_set 2 ?_ ?_ (hs := sw_bin)
      · refine x_f ?_
        refine f_cat ?_ ?_
        · refine r_f ?_
          refine f_lst ?_
          refine a_cons ?_ a_nil (hs := st_bin)
          refine e_add e_str ?_
          refine e_if ?_ ?_ e_str
          · exact (t_cmp (c_ne (u64 hr)) (r_var 1) (r_f (f_lst a_nil)))
          exact (e_join (r_e e_str) (r_var 1))
        refine r_f ?_
        refine f_lc [("_law_dot_here", 9)] ?_ nd (by first | (show blkC ["_law_parts", "_law_heads", "_law_rows", "_law_p", "_law_q", "_law_many", "_law_r", "_law_letter", "_law_value", "_law_dot_here"] (defScope st__law_figure_text) _ _ = true; decide +kernel) | kernel_rfl) (fun _ _ _ _ _ => (pg_name (i := 9) nd rfl (by first | exact Or.inl rfl | exact Or.inr rfl))) (tr_name 9) ?_
        · exact (i_e (e_ix (r_var 0) e_int))
        intro _ _ _ _ _
        refine x_call (C := ⟨K, adr, pu⟩) (p__law_dot_text T) rfl (hr.mono (j := 2) (by decide)) T.g__law_dot_text ?_ (hlen := (mCons_len mNil_len))
        exact (a_cons (e_var 9) a_nil (hs := st_name))
      exact nd
    refine s_cons ?_ ?_
    · refine s_if ?_ ?_ s_nil
      · exact (t_cmp c_isNot (r_e (e_ix (r_var 0) e_int)) (r_e e_non))
      refine s_cons ?_ ?_
      · refine s_unpk (pg_tup rfl (pgs_cons (pg_name (i := 3) nd rfl (by first | exact Or.inl rfl | exact Or.inr rfl)) (pgs_cons (pg_name (i := 4) nd rfl (by first | exact Or.inl rfl | exact Or.inr rfl)) (pgs_cons (pg_name (i := 5) nd rfl (by first | exact Or.inl rfl | exact Or.inr rfl)) (pgs_cons (pg_name (i := 6) nd rfl (by first | exact Or.inl rfl | exact Or.inr rfl)) pgs_nil))))) (tr_tup [3, 4, 5, 6]) (e_ix (r_var 0) e_int)
      refine s_one ?_
      refine s_app 2 ?_ (pe_bm PySem.F.plainAttrs_list PySem.F.slot_list_append PySem.F.type_list_append mt_append (pv 2) (pa_cons pw pa_nil))
      refine e_add ?_ ?_
      · refine e_add ?_ e_str
        refine e_add ?_ ?_
        · refine e_add ?_ e_str
          refine e_add e_str ?_
          refine x_call (C := ⟨K, adr, pu⟩) (p__law_sum T) rfl (hr.mono (j := 1) (by decide)) T.g__law_sum ?_ (hlen := (mCons_len mNil_len))
          refine a_cons ?_ a_nil (hs := st_list)
          refine e_f ?_
          refine f_lst ?_
          refine a_cons ?_ ?_ (hs := st_tup)
          · exact (e_tup (a_cons (e_var 3) (a_cons e_str a_nil (hs := st_const)) (hs := st_name)))
          refine a_cons ?_ a_nil (hs := st_tup)
          exact (e_tup (a_cons (e_var 4) (a_cons e_str a_nil (hs := st_const)) (hs := st_name)))
        exact (do_callTy cl_str (ar_cons (r_var 6) ar_nil (hs := st_name)) T.n_str)
      exact (do_callTy cl_str (ar_cons (r_var 5) ar_nil (hs := st_name)) T.n_str)
    exact (s_one (s_ret (e_join (r_e e_str) (r_var 2))))
theorem sc__law_told : FnScope ["_law_parts", "_law_made", "_law_read_back", "e"] ["_law_parts"] (defScope st__law_told) := ⟨rfl, rfl, rfl, by decide +kernel, rfl, by decide +kernel, by decide +kernel⟩
def b__law_told : Ev → M Out := (mSeq (mUnpk (unpD [1, 2]) (mTup (mCons (mC (.bl true)) (mCons (mC (.bl true)) mNil)))) (mSeq (mTryC [(["Unbounded"], ["InvalidText"], 3, hCst (.bl false))] 1 (mDrop (mMakeX "Shape" f_Shape___init__ (mCons (nx (mIx (mVarR 0) (mC (.int 0)))) (mCons (nx (mIx (mVarR 0) (mC (.int 1)))) (mCons (nx (mIx (mVarR 0) (mC (.int 2)))) mNil)))))) (mSeq (mTryC [(["InvalidText"], ["Unbounded"], 3, hCst (.bl false))] 2 (mDrop (mCmethX "Shape" f_Shape_read (mCons (nx (mUn (mCons (mVar 0) mNil) f__law_figure_text)) mNil)))) (mRet (mFz (mLst (mCons (mVar 1) (mCons (mVar 2) mNil))))))))
def f__law_told : List D → M D := runD 4 (mNox b__law_told)
theorem p__law_told (T : Tx K mg adr) : Pr P w K mg base adr "_law_told" 9 1 f__law_told :=
  pr_D (mb := b__law_told) T.d__law_told sc__law_told rfl rfl rfl rfl (fun _ _ _ _ _ _ us hl => match us, hl with | [_], _ => rfl) fun pu f cdv A outer s H E hr => by
    have nd := sc__law_told.nd
    refine s_cons ?_ ?_
    · refine s_unpk (pg_tup rfl (pgs_cons (pg_name (i := 1) nd rfl (by first | exact Or.inl rfl | exact Or.inr rfl)) (pgs_cons (pg_name (i := 2) nd rfl (by first | exact Or.inl rfl | exact Or.inr rfl)) pgs_nil))) (tr_tup [1, 2]) ?_
      exact (e_tup (a_cons e_bl (a_cons e_bl a_nil (hs := st_const)) (hs := st_const)))
    refine s_cons ?_ ?_
    · refine s_tryC (C := ⟨K, adr, pu⟩) (ix := 1) (cl := [(["Unbounded"], ["InvalidText"], 3, hCst (.bl false))]) rfl rfl nd takesFZ (ClaOk.cons (x := "Unbounded") rfl rfl ⟨rfl, by decide, Or.inl T.g_Unbounded⟩ (fun c hc => by rw [List.mem_singleton.mp hc]; exact ⟨T.xis_Unbounded__Unbounded, su_cst (fun a pn => e_bl) (fun env P => rfl) nd rfl (by first | exact Or.inl rfl | exact Or.inr rfl) (by first | exact Or.inl rfl | exact Or.inr rfl)⟩) (fun c hc => by rw [List.mem_singleton.mp hc]; exact T.xno_InvalidText__Unbounded) ClaOk.nil) ?_
      intro W pn xe tk po
      refine tr_one (t1_expr (x_makeX (C := ⟨K, adr, pu⟩) (p_Shape___init__ T) rfl (by first | exact tk | exact takesN tk) (hr.mono (j := 7) (by decide)) T.mk_Shape T.g_Shape (a_cons (e_up (e_ix (r_var 0) e_int)) (a_cons (e_up (e_ix (r_var 0) e_int)) (a_cons (e_up (e_ix (r_var 0) e_int)) a_nil (hs := st_sub)) (hs := st_sub)) (hs := st_sub)) (mCons_len (mCons_len (mCons_len mNil_len)))))
    refine s_cons ?_ ?_
    · refine s_tryC (C := ⟨K, adr, pu⟩) (ix := 2) (cl := [(["InvalidText"], ["Unbounded"], 3, hCst (.bl false))]) rfl rfl nd takesFZ (ClaOk.cons (x := "InvalidText") rfl rfl ⟨rfl, by decide, Or.inl T.g_InvalidText⟩ (fun c hc => by rw [List.mem_singleton.mp hc]; exact ⟨T.xis_InvalidText__InvalidText, su_cst (fun a pn => e_bl) (fun env P => rfl) nd rfl (by first | exact Or.inl rfl | exact Or.inr rfl) (by first | exact Or.inl rfl | exact Or.inr rfl)⟩) (fun c hc => by rw [List.mem_singleton.mp hc]; exact T.xno_Unbounded__InvalidText) ClaOk.nil) ?_
      intro W pn xe tk po
      refine tr_one (t1_expr (x_cmethX (C := ⟨K, adr, pu⟩) (cn := "Shape") (p_Shape_read T) rfl tk (hr.mono (j := 8) (by decide)) T.g_Shape T.rd_Shape_read.1 T.rd_Shape_read.2 (a_cons (e_up (x_call (C := ⟨K, adr, pu⟩) (p__law_figure_text T) rfl (hr.mono (j := 3) (by decide)) T.g__law_figure_text (a_cons (e_var 0) a_nil (hs := st_name)) (hlen := (mCons_len mNil_len)))) a_nil (hs := st_call)) (hlen := (mCons_len mNil_len))))
    refine s_one ?_
    refine s_ret ?_
    exact (e_f (f_lst (a_cons (e_var 1) (a_cons (e_var 2) a_nil (hs := st_name)) (hs := st_name))))
theorem sc__law_purse : FnScope ["_law_cell_here", "_law_digits"] ["_law_cell_here"] (defScope st__law_purse) := ⟨rfl, rfl, rfl, by decide +kernel, rfl, by decide +kernel, by decide +kernel⟩
def b__law_purse : Ev → M Out := (mSet 1 (mVal (mIf (mOr (mBi (mVarR 0) (mC (.int 0)) ltD) (mBi (mVarR 0) (mBi (mC (.int 10)) (mC (.int 18)) powD) geD)) (mUn (mCons (mVarR 0) mNil) fun ds => optM (absO ds)) (mC (.int 0)))))
def l__law_purse : Ev → M (List D) := (mLst (mCons (mBi (mUn (mCons (mBi (mBi (mBi (mBi (mVar 0) (mVar 0) mulD) (mC (.int 7)) mulD) (mBi (mVar 0) (mC (.int 48271)) mulD) addD) (mC (.int 11)) addD) mNil) fun ds => optM (intO ds)) (mC (.int 2147483399)) modD) (mCons (mBi (mUn (mCons (mBi (mBi (mVar 0) (mC (.int 69621)) mulD) (mC (.int 101)) addD) mNil) fun ds => optM (intO ds)) (mC (.int 2147483563)) modD) (mCons (mVar 1) mNil))))
def f__law_purse : List D → M (List D) := runF 2 b__law_purse l__law_purse
theorem p__law_purse (T : Tx K mg adr) : PrF P w K mg base adr "_law_purse" 1 1 f__law_purse :=
  pr_F T.d__law_purse sc__law_purse rfl (fun _ _ _ _ _ _ us hl => match us, hl with | [_], _ => rfl) rfl fun pu f cdv A outer s H E hr => by
    have nd := sc__law_purse.nd
    exact ⟨(s_set 1 (x_e (e_if (t_w (w_or (t_cmp c_lt (r_var 0) (r_e e_int)) (w_or1 (t_cmp c_ge (r_var 0) (r_e (e_pow e_int e_int)))))) (do_callB cl_abs (ar_cons (r_var 0) ar_nil (hs := st_name)) T.n_abs) e_int)) nd (hs := sw_if)), (f_lst (a_cons (e_mod (do_callTy cl_int (ar_cons (r_e (e_add (e_add (e_mul (e_mul (e_var 0) (e_var 0)) e_int) (e_mul (e_var 0) e_int)) e_int)) ar_nil (hs := st_bin)) T.n_int) e_int) (a_cons (e_mod (do_callTy cl_int (ar_cons (r_e (e_add (e_mul (e_var 0) e_int) e_int)) ar_nil (hs := st_bin)) T.n_int) e_int) (a_cons (e_var 1) a_nil (hs := st_name)) (hs := st_bin)) (hs := st_bin)))⟩
theorem sc__law_take : FnScope ["_law_purse_here", "_law_many", "_law_digit"] ["_law_purse_here", "_law_many"] (defScope st__law_take) := ⟨rfl, rfl, rfl, by decide +kernel, rfl, by decide +kernel, by decide +kernel⟩
def b__law_take : Ev → M Out := (mSeq (mIfS (mBi (mPix (mVar 0) (mC (.int 2))) (mC (.int 0)) gtD) (mSeq (mPdiv 2 (mUn (mCons (mPix (mVar 0) (mC (.int 2))) (mCons (mVarR 1) mNil)) fun ds => optM (divmodO ds)) (mVar 0) (mC (.int 2))) (mRet (mVar 2))) mSkip) (mSeq (mPset (mBi (mUn (mCons (mBi (mBi (mBi (mPix (mVar 0) (mC (.int 0))) (mC (.int 40692)) mulD) (mPix (mVar 0) (mC (.int 1))) addD) (mC (.int 1)) addD) mNil) fun ds => optM (intO ds)) (mC (.int 2147483399)) modD) (mVar 0) (mC (.int 0))) (mSeq (mPset (mBi (mUn (mCons (mBi (mBi (mBi (mPix (mVar 0) (mC (.int 1))) (mC (.int 40014)) mulD) (mBi (mPix (mVar 0) (mC (.int 0))) (mC (.int 7)) fdivD) addD) (mC (.int 3)) addD) mNil) fun ds => optM (intO ds)) (mC (.int 2147483563)) modD) (mVar 0) (mC (.int 1))) (mRet (mBi (mUn (mCons (mBi (mBi (mPix (mVar 0) (mC (.int 1))) (mC (.int 89)) fdivD) (mBi (mPix (mVar 0) (mC (.int 0))) (mC (.int 61)) fdivD) addD) mNil) fun ds => optM (intO ds)) (mVar 1) modD)))))
def f__law_take : List D → M D := runD 3 (mNox b__law_take)
theorem p__law_take (T : Tx K mg adr) : Pr P w K mg base adr "_law_take" 1 2 f__law_take :=
  pr_D (mb := b__law_take) T.d__law_take sc__law_take rfl rfl rfl rfl (fun _ _ _ _ _ _ us hl => match us, hl with | [_, _], _ => rfl) fun pu f cdv A outer s H E hr => by
    have nd := sc__law_take.nd
    refine s_cons ?_ ?_
    · refine s_if ?_ ?_ s_nil
      · exact (t_cmp c_gt (r_e (e_pix (e_var 0) e_int)) (r_e e_int))
      refine s_cons ?_ ?_
      · refine s_pdiv 2 ?_ (e_var 0) e_int (ps_asg pw (pg_tup rfl (pgs_cons (pg_sub pw pw set_list) (pgs_cons (pg_name (i := 2) nd rfl (by first | exact Or.inl rfl | exact Or.inr rfl)) pgs_nil))))
        refine do_callB cl_divmod ?_ T.n_divmod
        refine ar_cons ?_ ?_ (hs := st_sub)
        · exact (r_e (e_pix (e_var 0) e_int))
        exact (ar_cons (r_var 1) ar_nil (hs := st_name))
      exact (s_one (s_ret (e_var 2)))
    refine s_cons ?_ ?_
    · refine s_pset ?_ (e_var 0) e_int (ps_asg pw (pg_sub pw pw set_list))
      refine e_mod ?_ e_int
      refine do_callTy cl_int ?_ T.n_int
      refine ar_cons ?_ ar_nil (hs := st_bin)
      exact (r_e (e_add (e_add (e_mul (e_pix (e_var 0) e_int) e_int) (e_pix (e_var 0) e_int)) e_int))
    refine s_cons ?_ ?_
    · refine s_pset ?_ (e_var 0) e_int (ps_asg pw (pg_sub pw pw set_list))
      refine e_mod ?_ e_int
      refine do_callTy cl_int ?_ T.n_int
      refine ar_cons ?_ ar_nil (hs := st_bin)
      refine r_e ?_
      refine e_add ?_ e_int
      exact (e_add (e_mul (e_pix (e_var 0) e_int) e_int) (e_fdiv (e_pix (e_var 0) e_int) e_int))
    refine s_one ?_
    refine s_ret ?_
    refine e_mod ?_ (e_var 1)
    refine do_callTy cl_int ?_ T.n_int
    refine ar_cons ?_ ar_nil (hs := st_bin)
    refine r_e ?_
    exact (e_add (e_fdiv (e_pix (e_var 0) e_int) e_int) (e_fdiv (e_pix (e_var 0) e_int) e_int))
theorem sc__law_dot : FnScope ["_law_purse_here", "_law_many", "_law_triples", "_law_k", "_law_still", "_law_first", "_law_second"] ["_law_purse_here", "_law_many"] (defScope st__law_dot) := ⟨rfl, rfl, rfl, by decide +kernel, rfl, by decide +kernel, by decide +kernel⟩
def b__law_dot : Ev → M Out := (mSeq (mSet 2 (mOwn (mLst mNil))) (mSeq (mFor (mUn (mCons (mC (.int 2)) mNil) fun ds => optM (rng1O ds)) (tgN 3) (mSeq (mSet 4 (mVal (mBi (mUn (mCons (mVar 0) (mCons (mC (.int 11)) mNil)) f__law_take) (mC (.int 5)) subD))) (mSeq (mSet 5 (mVal (mIf (mBi (mVarR 1) (mC (.int 0)) gtD) (mBi (mUn (mCons (mVar 0) (mCons (mC (.int 5)) mNil)) f__law_take) (mC (.int 2)) subD) (mC (.int 0))))) (mSeq (mSet 6 (mVal (mIf (mBi (mVarR 1) (mC (.int 1)) gtD) (mBi (mUn (mCons (mVar 0) (mCons (mC (.int 5)) mNil)) f__law_take) (mC (.int 2)) subD) (mC (.int 0))))) (mApp 2 (mTup (mCons (mVar 4) (mCons (mVar 5) (mCons (mVar 6) mNil))))))))) (mRet (mTup (mCons (mIx (mVarR 2) (mC (.int 0))) (mCons (mIx (mVarR 2) (mC (.int 1))) mNil))))))
def f__law_dot : List D → M D := runD 7 (mNox b__law_dot)
theorem p__law_dot (T : Tx K mg adr) : Pr P w K mg base adr "_law_dot" 2 2 f__law_dot :=
  pr_D (mb := b__law_dot) T.d__law_dot sc__law_dot rfl rfl rfl rfl (fun _ _ _ _ _ _ us hl => match us, hl with | [_, _], _ => rfl) fun pu f cdv A outer s H E hr => by
    have nd := sc__law_dot.nd
    refine s_cons ?_ ?_
    · exact (s_set 2 (x_f (f_lst a_nil)) nd (hs := sw_list))
    refine s_cons ?_ ?_
    · refine s_for ?_ (tr_name 3) ?_ (ps_for PassesOwn.never rfl iw (pg_name (i := 3) nd rfl (by first | exact Or.inl rfl | exact Or.inr rfl)) ssw)
      · exact (i_rng1 (ar_cons (r_e e_int) ar_nil (hs := st_const)) T.n_range)
      refine s_cons ?_ ?_
      · refine s_set 4 ?_ ?_ (hs := sw_bin)
        · refine x_e ?_
          refine e_sub ?_ e_int
          refine x_call (C := ⟨K, adr, pu⟩) (p__law_take T) rfl (hr.mono (j := 1) (by decide)) T.g__law_take ?_ (hlen := (mCons_len (mCons_len mNil_len)))
          exact (a_cons (e_var 0) (a_cons e_int a_nil (hs := st_const)) (hs := st_name))
        exact nd
      refine s_cons ?_ ?_
      · refine s_set 5 ?_ ?_ (hs := sw_if)
        · refine x_e ?_
          refine e_if ?_ ?_ e_int
          · exact (t_cmp c_gt (r_var 1) (r_e e_int))
          refine e_sub ?_ e_int
          refine x_call (C := ⟨K, adr, pu⟩) (p__law_take T) rfl (hr.mono (j := 1) (by decide)) T.g__law_take ?_ (hlen := (mCons_len (mCons_len mNil_len)))
          exact (a_cons (e_var 0) (a_cons e_int a_nil (hs := st_const)) (hs := st_name))
        exact nd
      refine s_cons ?_ ?_
      · refine s_set 6 ?_ ?_ (hs := sw_if)
        · refine x_e ?_
          refine e_if ?_ ?_ e_int
          · exact (t_cmp c_gt (r_var 1) (r_e e_int))
          refine e_sub ?_ e_int
          refine x_call (C := ⟨K, adr, pu⟩) (p__law_take T) rfl (hr.mono (j := 1) (by decide)) T.g__law_take ?_ (hlen := (mCons_len (mCons_len mNil_len)))
          exact (a_cons (e_var 0) (a_cons e_int a_nil (hs := st_const)) (hs := st_name))
        exact nd
      refine s_one ?_
      refine s_app 2 ?_ (pe_bm PySem.F.plainAttrs_list PySem.F.slot_list_append PySem.F.type_list_append mt_append (pv 2) (pa_cons pw pa_nil))
      refine e_tup ?_
      refine a_cons (e_var 4) ?_ (hs := st_name)
      exact (a_cons (e_var 5) (a_cons (e_var 6) a_nil (hs := st_name)) (hs := st_name))
    refine s_one ?_
    refine s_ret ?_
    refine e_tup ?_
    refine a_cons (e_ix (r_var 2) e_int) ?_ (hs := st_sub)
    exact (a_cons (e_ix (r_var 2) e_int) a_nil (hs := st_sub))
theorem sc__law_alike : FnScope ["_law_dots", "_law_many", "_law_s", "_law_t", "_law_moves", "_law_u", "_law_v", "_law_move"] ["_law_dots", "_law_many"] (defScope st__law_alike) := ⟨rfl, rfl, rfl, by decide +kernel, rfl, by decide +kernel, by decide +kernel⟩
def b__law_alike : Ev → M Out := (mSeq (mFor (mUn (mCons (mIf (mBi (mVarR 1) (mC (.int 0)) gtD) (mC (.int 5)) (mC (.int 0))) mNil) fun ds => optM (rng1O ds)) (tgN 2) (mFor (mUn (mCons (mIf (mBi (mVarR 1) (mC (.int 1)) gtD) (mC (.int 5)) (mC (.int 1))) mNil) fun ds => optM (rng1O ds)) (tgN 3) (mSeq (mSet 4 (mOwn (mLc [5, 6] (unpD [5, 6]) mTrue (mTup (mCons (mBi (mBi (mIx (mVarR 5) (mC (.int 1))) (mVar 2) mulD) (mBi (mIx (mVarR 5) (mC (.int 2))) (mVar 3) mulD) addD) (mCons (mBi (mBi (mIx (mVarR 6) (mC (.int 1))) (mVar 2) mulD) (mBi (mIx (mVarR 6) (mC (.int 2))) (mVar 3) mulD) addD) mNil))) (mUn (mVar 0) fun d => optM (seqO d))))) (mFreeze 4 (mIfS (mAnd (mBi (mBi (mVar 2) (mVar 3) addD) (mC (.int 0)) gtD) (mT (mUn (mCons (mFz (mLc [7] (tgN 7) mTrue (mBi (mVarR 7) (mIx (mVarR 4) (mC (.int 0))) fun x y => blM (eqD x y)) (mUn (mVar 4) fun d => optM (seqO d)))) mNil) fun ds => optM (allO ds)))) (mRet (mC (.bl true))) mSkip))))) (mRet (mC (.bl false))))
def f__law_alike : List D → M D := runD 8 (mNox b__law_alike)
theorem p__law_alike (T : Tx K mg adr) : Pr P w K mg base adr "_law_alike" 1 2 f__law_alike :=
  pr_D (mb := b__law_alike) T.d__law_alike sc__law_alike rfl rfl rfl rfl (fun _ _ _ _ _ _ us hl => match us, hl with | [_, _], _ => rfl) fun pu f cdv A outer s H E hr => by
    have nd := sc__law_alike.nd
    refine s_cons ?_ (s_one (s_ret e_bl))
    refine s_for ?_ (tr_name 2) ?_ (ps_for PassesOwn.never rfl iw (pg_name (i := 2) nd rfl (by first | exact Or.inl rfl | exact Or.inr rfl)) ssw)
    · refine i_rng1 ?_ T.n_range
      refine ar_cons ?_ ar_nil (hs := st_if)
      exact (r_e (e_if (t_cmp c_gt (r_var 1) (r_e e_int)) e_int e_int))
    refine s_one ?_
    refine s_for ?_ (tr_name 3) ?_ (ps_for PassesOwn.never rfl iw (pg_name (i := 3) nd rfl (by first | exact Or.inl rfl | exact Or.inr rfl)) ssw)
    · refine i_rng1 ?_ T.n_range
      refine ar_cons ?_ ar_nil (hs := st_if)
      exact (r_e (e_if (t_cmp c_gt (r_var 1) (r_e e_int)) e_int e_int))
    refine s_cons ?_ ?_
    · refine s_set 4 ?_ ?_ (hs := (by rfl))
      · refine x_f ?_
        refine f_lc [("_law_u", 5), ("_law_v", 6)] (i_e (e_var 0)) nd (by first | (show blkC ["_law_dots", "_law_many", "_law_s", "_law_t", "_law_moves", "_law_u", "_law_v", "_law_move"] (defScope st__law_alike) _ _ = true; decide +kernel) | kernel_rfl) (fun _ _ _ _ _ => (pg_tup rfl (pgs_cons (pg_name (i := 5) nd rfl (by first | exact Or.inl rfl | exact Or.inr rfl)) (pgs_cons (pg_name (i := 6) nd rfl (by first | exact Or.inl rfl | exact Or.inr rfl)) pgs_nil)))) (tr_tup [5, 6]) ?_
        intro _ _ _ _ _
        refine e_tup ?_
        refine a_cons ?_ ?_ (hs := st_bin)
        · exact (e_add (e_mul (e_ix (r_var 5) e_int) (e_var 2)) (e_mul (e_ix (r_var 5) e_int) (e_var 3)))
        refine a_cons ?_ a_nil (hs := st_bin)
        exact (e_add (e_mul (e_ix (r_var 6) e_int) (e_var 2)) (e_mul (e_ix (r_var 6) e_int) (e_var 3)))
      exact nd
    refine s_freeze 4 ?_
    refine s_one ?_
    refine s_if ?_ (s_one (s_ret e_bl)) s_nil
    refine t_w ?_
    refine w_and ?_ ?_
    · exact (t_cmp c_gt (r_e (e_add (e_var 2) (e_var 3))) (r_e e_int))
    refine w_and1 ?_
    refine t_val ?_
    refine do_callB cl_all ?_ T.n_all
    refine ar_cons ?_ ar_nil (hs := st_lc)
    refine r_f ?_
    refine f_lc [("_law_move", 7)] (i_e (e_var 4)) nd (by first | (show blkC ["_law_dots", "_law_many", "_law_s", "_law_t", "_law_moves", "_law_u", "_law_v", "_law_move"] (defScope st__law_alike) _ _ = true; decide +kernel) | kernel_rfl) (fun _ _ _ _ _ => (pg_name (i := 7) nd rfl (by first | exact Or.inl rfl | exact Or.inr rfl))) (tr_name 7) ?_
    intro _ _ _ _ _
    exact (e_cmp (c_eq (u64 hr)) (r_var 7) (r_e (e_ix (r_var 4) e_int)))
theorem sc__law_tint : FnScope ["_law_purse_here", "_law_many", "_law_p", "_law_q", "_law_r"] ["_law_purse_here"] (defScope st__law_tint) := ⟨rfl, rfl, rfl, by decide +kernel, rfl, by decide +kernel, by decide +kernel⟩
def b__law_tint : Ev → M Out := (mSeq (mIfS (mBi (mUn (mCons (mVar 0) (mCons (mC (.int 3)) mNil)) f__law_take) (mC (.int 0)) eqD) (mRet (mC .non)) mSkip) (mSeq (mSet 1 (mVal (mBi (mC (.int 2)) (mUn (mCons (mVar 0) (mCons (mC (.int 3)) mNil)) f__law_take) addD))) (mSeq (mPar3 2 3 4 (mUn (mCons (mVar 0) (mCons (mVar 1) mNil)) f__law_take) (mUn (mCons (mVar 0) (mCons (mVar 1) mNil)) f__law_take) (mUn (mCons (mVar 0) (mCons (mVar 1) mNil)) f__law_take)) (mRet (mIf (mBi (mTup (mCons (mVar 2) (mCons (mVar 3) mNil))) (mTup (mCons (mC (.int 0)) (mCons (mC (.int 0)) mNil))) neD) (mTup (mCons (mVar 2) (mCons (mVar 3) (mCons (mVar 1) (mCons (mVar 4) mNil))))) (mTup (mCons (mC (.int 1)) (mCons (mC (.int 0)) (mCons (mVar 1) (mCons (mVar 4) mNil))))))))))
def f__law_tint : List D → M D := runD 5 (mNox b__law_tint)
theorem p__law_tint (T : Tx K mg adr) : Pr P w K mg base adr "_law_tint" 2 1 f__law_tint :=
  pr_D (mb := b__law_tint) T.d__law_tint sc__law_tint rfl rfl rfl rfl (fun _ _ _ _ _ _ us hl => match us, hl with | [_], _ => rfl) fun pu f cdv A outer s H E hr => by
    have nd := sc__law_tint.nd
    refine s_cons ?_ ?_
    · refine s_if ?_ (s_one (s_ret e_non)) s_nil
      refine t_cmp (c_eq (u64 hr)) ?_ (r_e e_int)
      refine r_e ?_
      refine x_call (C := ⟨K, adr, pu⟩) (p__law_take T) rfl (hr.mono (j := 1) (by decide)) T.g__law_take ?_ (hlen := (mCons_len (mCons_len mNil_len)))
      exact (a_cons (e_var 0) (a_cons e_int a_nil (hs := st_const)) (hs := st_name))
    refine s_cons ?_ ?_
    · refine s_set 1 ?_ ?_ (hs := sw_bin)
      · refine x_e ?_
        refine e_add e_int ?_
        refine x_call (C := ⟨K, adr, pu⟩) (p__law_take T) rfl (hr.mono (j := 1) (by decide)) T.g__law_take ?_ (hlen := (mCons_len (mCons_len mNil_len)))
        exact (a_cons (e_var 0) (a_cons e_int a_nil (hs := st_const)) (hs := st_name))
      exact nd
    refine s_cons ?_ ?_
    · refine s_par3 2 3 4 ?_ ?_ ?_ (ps_par3 rfl nd rfl rfl rfl (by decide) (by decide) (by decide) rfl rfl rfl (pa_cons pw (pa_cons pw (pa_cons pw pa_nil))) rfl)
      · refine x_call (C := ⟨K, adr, pu⟩) (p__law_take T) rfl (hr.mono (j := 1) (by decide)) T.g__law_take ?_ (hlen := (mCons_len (mCons_len mNil_len)))
        exact (a_cons (e_var 0) (a_cons (e_var 1) a_nil (hs := st_name)) (hs := st_name))
      · refine x_call (C := ⟨K, adr, pu⟩) (p__law_take T) rfl (hr.mono (j := 1) (by decide)) T.g__law_take ?_ (hlen := (mCons_len (mCons_len mNil_len)))
        exact (a_cons (e_var 0) (a_cons (e_var 1) a_nil (hs := st_name)) (hs := st_name))
      refine x_call (C := ⟨K, adr, pu⟩) (p__law_take T) rfl (hr.mono (j := 1) (by decide)) T.g__law_take ?_ (hlen := (mCons_len (mCons_len mNil_len)))
      exact (a_cons (e_var 0) (a_cons (e_var 1) a_nil (hs := st_name)) (hs := st_name))
    refine s_one ?_
    refine s_ret ?_
    refine e_if ?_ ?_ ?_
    · refine t_cmp (c_ne (u64 hr)) ?_ ?_
      · exact (r_e (e_tup (a_cons (e_var 2) (a_cons (e_var 3) a_nil (hs := st_name)) (hs := st_name))))
      exact (r_e (e_tup (a_cons e_int (a_cons e_int a_nil (hs := st_const)) (hs := st_const))))
    · refine e_tup ?_
      refine a_cons (e_var 2) ?_ (hs := st_name)
      refine a_cons (e_var 3) ?_ (hs := st_name)
      exact (a_cons (e_var 1) (a_cons (e_var 4) a_nil (hs := st_name)) (hs := st_name))
    refine e_tup ?_
    refine a_cons e_int ?_ (hs := st_const)
    refine a_cons e_int ?_ (hs := st_const)
    exact (a_cons (e_var 1) (a_cons (e_var 4) a_nil (hs := st_name)) (hs := st_name))
theorem sc__law_right : FnScope ["_law_purse_here", "_law_turn", "_law_alike_here", "_law_k", "_law_starts", "_law_good", "_law_many", "_law_dots", "_law_way", "_law_u", "_law_v"] ["_law_purse_here"] (defScope st__law_right) := ⟨rfl, rfl, rfl, by decide +kernel, rfl, by decide +kernel, by decide +kernel⟩
def b__law_right : Ev → M Out := (mSeq (mFor (mUn (mCons (mC (.int 2)) mNil) fun ds => optM (rng1O ds)) (tgN 1) (mSeq (mPar3M 6 7 8 (mUn (mCons (mVar 0) (mCons (mC (.int 3)) mNil)) f__law_take) (mOwn (mLst mNil)) (mUn (mCons (mVar 0) (mCons (mC (.int 4)) mNil)) f__law_take)) (mSeq (mSet 2 (mVal (mUn (mCons (mVar 0) (mCons (mVar 6) mNil)) f__law_dot))) (mSeq (mFor (mUn (mCons (mBi (mC (.int 1)) (mUn (mCons (mVar 0) (mCons (mC (.int 4)) mNil)) f__law_take) addD) mNil) fun ds => optM (rng1O ds)) (tgN 3) (mSeq (mUnpk (unpD [9, 10]) (mUn (mCons (mVar 0) (mCons (mVar 6) mNil)) f__law_dot)) (mSeq (mIfS (mOr (mBi (mVarR 8) (mC (.int 0)) eqD) (mAnd (mBi (mVarR 8) (mC (.int 1)) eqD) (mBi (mVarR 3) (mC (.int 0)) gtD))) (mPar 9 10 (mVal (mTup (mCons (mIx (mVarR 9) (mC (.int 0))) (mCons (mIx (mIx (mVarR 2) (mC (.int 0))) (mC (.int 1))) (mCons (mIx (mIx (mVarR 2) (mC (.int 0))) (mC (.int 2))) mNil))))) (mVal (mTup (mCons (mIx (mVarR 10) (mC (.int 0))) (mCons (mIx (mIx (mVarR 2) (mC (.int 1))) (mC (.int 1))) (mCons (mIx (mIx (mVarR 2) (mC (.int 1))) (mC (.int 2))) mNil)))))) mSkip) (mSeq (mIfS (mBi (mVarR 8) (mC (.int 2)) eqD) (mPar 9 10 (mVal (mTup (mCons (mIx (mVarR 9) (mC (.int 0))) (mCons (mIx (mIx (mVarR 2) (mC (.int 0))) (mC (.int 1))) (mCons (mIx (mVarR 9) (mC (.int 2))) mNil))))) (mVal (mTup (mCons (mIx (mVarR 10) (mC (.int 0))) (mCons (mIx (mIx (mVarR 2) (mC (.int 1))) (mC (.int 1))) (mCons (mIx (mVarR 10) (mC (.int 2))) mNil)))))) mSkip) (mIfS (mBi (mTup (mCons (mVar 9) (mCons (mVar 10) mNil))) (mVarR 7) notInD) (mApp 7 (mTup (mCons (mVar 9) (mCons (mVar 10) mNil)))) mSkip))))) (mSeq (mSet 4 (mVal (mUn (mCons (mFz (mLc [3] (tgN 3) mTrue (mUn (mCons (mVar 0) (mCons (mC (.int 2)) mNil)) f__law_take) (mUn (mCons (mVarR 6) mNil) fun ds => optM (rng1O ds)))) mNil) fun ds => optM (tupleO ds)))) (mFreeze 7 (mSeq (mSet 5 (mVal (mUn (mUn (mCons (mVar 7) (mCons (mVar 6) mNil)) f__law_alike) notD))) (mIfS (mBi (mUn (mCons (mUn (mCons (mTup (mCons (mUn (mCons (mVarR 7) mNil) fun ds => optM (tupleO ds)) (mCons (mVar 4) (mCons (mUn (mCons (mVar 0) mNil) f__law_tint) mNil)))) mNil) f__law_told) mNil) fun ds => optM (reprO ds)) (mUn (mCons (mFz (mLst (mCons (mVar 5) (mCons (mVar 5) mNil)))) mNil) fun ds => optM (reprO ds)) neD) (mRet (mC (.bl false))) mSkip)))))))) (mRet (mC (.bl true))))
def f__law_right : List D → M D := runD 11 (mNox b__law_right)
theorem p__law_right (T : Tx K mg adr) : PrG P w K mg base adr "_law_right" 10 1 f__law_right :=
  pr_G (mb := b__law_right) T.d__law_right sc__law_right rfl rfl rfl rfl (fun _ _ _ _ _ _ us hl => match us, hl with | [_], _ => rfl) fun pu f cdv A outer s H E gd hr => by
    have nd := sc__law_right.nd
    refine s_cons ?_ (s_one (s_ret e_bl))
    refine s_for ?_ (tr_name 1) ?_ (ps_for PassesOwn.never rfl iw (pg_name (i := 1) nd rfl (by first | exact Or.inl rfl | exact Or.inr rfl)) ssw)
    · exact (i_rng1 (ar_cons (r_e e_int) ar_nil (hs := st_const)) T.n_range)
    refine s_cons ?_ ?_
    · refine s_par3M 6 7 8 ?_ (x_f (f_lst a_nil)) ?_ (ps_par3 rfl nd rfl rfl rfl (by decide) (by decide) (by decide) rfl rfl rfl (pa_cons pw (pa_cons pw (pa_cons pw pa_nil))) rfl)
      · refine x_call (C := ⟨K, adr, pu⟩) (p__law_take T) rfl (hr.mono (j := 1) (by decide)) T.g__law_take ?_ (hlen := (mCons_len (mCons_len mNil_len)))
        exact (a_cons (e_var 0) (a_cons e_int a_nil (hs := st_const)) (hs := st_name))
      refine x_call (C := ⟨K, adr, pu⟩) (p__law_take T) rfl (hr.mono (j := 1) (by decide)) T.g__law_take ?_ (hlen := (mCons_len (mCons_len mNil_len)))
      exact (a_cons (e_var 0) (a_cons e_int a_nil (hs := st_const)) (hs := st_name))
    refine s_cons ?_ ?_
    · refine s_set 2 ?_ ?_ (hs := sw_call)
      · refine x_e ?_
        refine x_call (C := ⟨K, adr, pu⟩) (p__law_dot T) rfl (hr.mono (j := 2) (by decide)) T.g__law_dot ?_ (hlen := (mCons_len (mCons_len mNil_len)))
        exact (a_cons (e_var 0) (a_cons (e_var 6) a_nil (hs := st_name)) (hs := st_name))
      exact nd
    refine s_cons ?_ ?_
    · refine s_for ?_ (tr_name 3) ?_ (ps_for PassesOwn.never rfl iw (pg_name (i := 3) nd rfl (by first | exact Or.inl rfl | exact Or.inr rfl)) ssw)
      · refine i_rng1 ?_ T.n_range
        refine ar_cons ?_ ar_nil (hs := st_bin)
        refine r_e ?_
        refine e_add e_int ?_
        refine x_call (C := ⟨K, adr, pu⟩) (p__law_take T) rfl (hr.mono (j := 1) (by decide)) T.g__law_take ?_ (hlen := (mCons_len (mCons_len mNil_len)))
        exact (a_cons (e_var 0) (a_cons e_int a_nil (hs := st_const)) (hs := st_name))
      refine s_cons ?_ ?_
      · refine s_unpk (pg_tup rfl (pgs_cons (pg_name (i := 9) nd rfl (by first | exact Or.inl rfl | exact Or.inr rfl)) (pgs_cons (pg_name (i := 10) nd rfl (by first | exact Or.inl rfl | exact Or.inr rfl)) pgs_nil))) (tr_tup [9, 10]) ?_
        refine x_call (C := ⟨K, adr, pu⟩) (p__law_dot T) rfl (hr.mono (j := 2) (by decide)) T.g__law_dot ?_ (hlen := (mCons_len (mCons_len mNil_len)))
        exact (a_cons (e_var 0) (a_cons (e_var 6) a_nil (hs := st_name)) (hs := st_name))
      refine s_cons ?_ ?_
      · refine s_if ?_ ?_ s_nil
        · refine t_w ?_
          refine w_or ?_ ?_
          · exact (t_cmp (c_eq (u64 hr)) (r_var 8) (r_e e_int))
          refine w_or1 ?_
          refine t_w ?_
          refine w_and ?_ ?_
          · exact (t_cmp (c_eq (u64 hr)) (r_var 8) (r_e e_int))
          exact (w_and1 (t_cmp c_gt (r_var 3) (r_e e_int)))
        refine s_one ?_
        refine s_par 9 10 ?_ ?_ nd (k := ps_par rfl nd rfl rfl (by decide) rfl rfl (pa_cons pw (pa_cons pw pa_nil)) rfl)
        · refine x_e ?_
          refine e_tup ?_
          refine a_cons (e_ix (r_var 9) e_int) ?_ (hs := st_sub)
          refine a_cons ?_ ?_ (hs := st_sub)
          · exact (e_ix (r_e (e_ix (r_var 2) e_int)) e_int)
          exact (a_cons (e_ix (r_e (e_ix (r_var 2) e_int)) e_int) a_nil (hs := st_sub))
        refine x_e ?_
        refine e_tup ?_
        refine a_cons (e_ix (r_var 10) e_int) ?_ (hs := st_sub)
        refine a_cons ?_ ?_ (hs := st_sub)
        · exact (e_ix (r_e (e_ix (r_var 2) e_int)) e_int)
        exact (a_cons (e_ix (r_e (e_ix (r_var 2) e_int)) e_int) a_nil (hs := st_sub))
      refine s_cons ?_ ?_
      · refine s_if ?_ ?_ s_nil
        · exact (t_cmp (c_eq (u64 hr)) (r_var 8) (r_e e_int))
        refine s_one ?_
        refine s_par 9 10 ?_ ?_ nd (k := ps_par rfl nd rfl rfl (by decide) rfl rfl (pa_cons pw (pa_cons pw pa_nil)) rfl)
        · refine x_e ?_
          refine e_tup ?_
          refine a_cons (e_ix (r_var 9) e_int) ?_ (hs := st_sub)
          refine a_cons ?_ ?_ (hs := st_sub)
          · exact (e_ix (r_e (e_ix (r_var 2) e_int)) e_int)
          exact (a_cons (e_ix (r_var 9) e_int) a_nil (hs := st_sub))
        refine x_e ?_
        refine e_tup ?_
        refine a_cons (e_ix (r_var 10) e_int) ?_ (hs := st_sub)
        refine a_cons ?_ ?_ (hs := st_sub)
        · exact (e_ix (r_e (e_ix (r_var 2) e_int)) e_int)
        exact (a_cons (e_ix (r_var 10) e_int) a_nil (hs := st_sub))
      refine s_one ?_
      refine s_if ?_ ?_ s_nil
      · refine t_cmp (c_notIn (u65 hr)) ?_ (r_var 7)
        refine r_e ?_
        exact (e_tup (a_cons (e_var 9) (a_cons (e_var 10) a_nil (hs := st_name)) (hs := st_name)))
      refine s_one ?_
      refine s_app 7 ?_ (pe_bm PySem.F.plainAttrs_list PySem.F.slot_list_append PySem.F.type_list_append mt_append (pv 7) (pa_cons pw pa_nil))
      exact (e_tup (a_cons (e_var 9) (a_cons (e_var 10) a_nil (hs := st_name)) (hs := st_name)))
    refine s_cons ?_ ?_
    · refine s_set 4 ?_ ?_ (hs := sw_call)
      · refine x_e ?_
        refine do_callTy cl_tuple ?_ T.n_tuple
        refine ar_cons ?_ ar_nil (hs := st_lc)
        refine r_f ?_
        refine f_lc [("_law_k", 3)] ?_ nd (by first | (show blkC ["_law_purse_here", "_law_turn", "_law_alike_here", "_law_k", "_law_starts", "_law_good", "_law_many", "_law_dots", "_law_way", "_law_u", "_law_v"] (defScope st__law_right) _ _ = true; decide +kernel) | kernel_rfl) (fun _ _ _ _ _ => (pg_name (i := 3) nd rfl (by first | exact Or.inl rfl | exact Or.inr rfl))) (tr_name 3) ?_
        · exact (i_rng1 (ar_cons (r_var 6) ar_nil (hs := st_name)) T.n_range)
        intro _ _ _ _ _
        refine x_call (C := ⟨K, adr, pu⟩) (p__law_take T) rfl (hr.mono (j := 1) (by decide)) T.g__law_take ?_ (hlen := (mCons_len (mCons_len mNil_len)))
        exact (a_cons (e_var 0) (a_cons e_int a_nil (hs := st_const)) (hs := st_name))
      exact nd
    refine s_freeze 7 ?_
    refine s_cons ?_ ?_
    · refine s_set 5 ?_ ?_ (hs := sw_un)
      · refine x_e ?_
        refine e_not ?_
        refine x_call (C := ⟨K, adr, pu⟩) (p__law_alike T) rfl (hr.mono (j := 1) (by decide)) T.g__law_alike ?_ (hlen := (mCons_len (mCons_len mNil_len)))
        exact (a_cons (e_var 7) (a_cons (e_var 6) a_nil (hs := st_name)) (hs := st_name))
      exact nd
    refine s_one ?_
    refine s_if ?_ (s_one (s_ret e_bl)) s_nil
    refine t_cmp (c_ne (u64 hr)) ?_ ?_
    · refine r_e ?_
      refine do_callB (cl_repr gd (u64 hr)) ?_ T.n_repr
      refine ar_cons ?_ ar_nil (hs := st_call)
      refine r_e ?_
      refine x_call (C := ⟨K, adr, pu⟩) (p__law_told T) rfl (hr.mono (j := 9) (by decide)) T.g__law_told ?_ (hlen := (mCons_len mNil_len))
      refine a_cons ?_ a_nil (hs := st_tup)
      refine e_tup ?_
      refine a_cons ?_ ?_ (hs := st_call)
      · exact (do_callTy cl_tuple (ar_cons (r_var 7) ar_nil (hs := st_name)) T.n_tuple)
      refine a_cons (e_var 4) ?_ (hs := st_name)
      refine a_cons ?_ a_nil (hs := st_call)
      refine x_call (C := ⟨K, adr, pu⟩) (p__law_tint T) rfl (hr.mono (j := 2) (by decide)) T.g__law_tint ?_ (hlen := (mCons_len mNil_len))
      exact (a_cons (e_var 0) a_nil (hs := st_name))
    refine r_e ?_
    refine do_callB (cl_repr gd (u64 hr)) ?_ T.n_repr
    refine ar_cons ?_ ar_nil (hs := st_list)
    exact (r_f (f_lst (a_cons (e_var 5) (a_cons (e_var 5) a_nil (hs := st_name)) (hs := st_name))))
theorem sc__law_cell : FnScope ["_law_script", "_law_k", "_law_mixed", "_law_value"] ["_law_script", "_law_k"] (defScope st__law_cell) := ⟨rfl, rfl, rfl, by decide +kernel, rfl, by decide +kernel, by decide +kernel⟩
def b__law_cell : Ev → M Out := (mSeq (mIfS (mBi (mVarR 1) (mUn (mCons (mVarR 0) mNil) fun ds => optM (lenO ds)) ltD) (mRet (mIx (mVarR 0) (mVar 1))) mSkip) (mSeq (mSet 2 (mVal (mBi (mBi (mBi (mC (.int 977)) (mBi (mVar 1) (mC (.int 3)) addD) mulD) (mBi (mVar 1) (mC (.int 41)) addD) mulD) (mC (.int 29)) addD))) (mSeq (mFor (mSl slF (mVarR 0) mONone (mOSome (mC (.int 4)))) (tgN 3) (mSet 2 (mVal (mBi (mUn (mCons (mBi (mBi (mVar 2) (mC (.int 52361)) mulD) (mVar 3) addD) mNil) fun ds => optM (intO ds)) (mC (.int 2147483629)) modD)))) (mRet (mBi (mUn (mCons (mBi (mBi (mVar 2) (mC (.int 31847)) mulD) (mC (.int 7)) addD) mNil) fun ds => optM (intO ds)) (mC (.int 2147483629)) modD)))))
def f__law_cell : List D → M D := runD 4 (mNox b__law_cell)
theorem p__law_cell (T : Tx K mg adr) : Pr P w K mg base adr "_law_cell" 1 2 f__law_cell :=
  pr_D (mb := b__law_cell) T.d__law_cell sc__law_cell rfl rfl rfl rfl (fun _ _ _ _ _ _ us hl => match us, hl with | [_, _], _ => rfl) fun pu f cdv A outer s H E hr => by
    have nd := sc__law_cell.nd
    refine s_cons ?_ ?_
    · refine s_if ?_ ?_ s_nil
      · refine t_cmp c_lt (r_var 1) ?_
        exact (r_e (do_callB cl_len (ar_cons (r_var 0) ar_nil (hs := st_name)) T.n_len))
      exact (s_one (s_ret (e_ix (r_var 0) (e_var 1))))
    refine s_cons ?_ ?_
    · refine s_set 2 ?_ ?_ (hs := sw_bin)
      · exact (x_e (e_add (e_mul (e_mul e_int (e_add (e_var 1) e_int)) (e_add (e_var 1) e_int)) e_int))
      exact nd
    refine s_cons ?_ ?_
    · refine s_for ?_ (tr_name 3) ?_ (ps_for PassesOwn.never rfl iw (pg_name (i := 3) nd rfl (by first | exact Or.inl rfl | exact Or.inr rfl)) ssw)
      · exact (i_f (f_sl (r_var 0) o_none (o_some e_int)))
      refine s_one ?_
      refine s_set 2 ?_ ?_ (hs := sw_bin)
      · refine x_e ?_
        refine e_mod ?_ e_int
        refine do_callTy cl_int ?_ T.n_int
        exact (ar_cons (r_e (e_add (e_mul (e_var 2) e_int) (e_var 3))) ar_nil (hs := st_bin))
      exact nd
    refine s_one ?_
    refine s_ret ?_
    refine e_mod ?_ e_int
    refine do_callTy cl_int ?_ T.n_int
    exact (ar_cons (r_e (e_add (e_mul (e_var 2) e_int) e_int)) ar_nil (hs := st_bin))
theorem sc_law : FnScope ["_law_script", "_law_told_here", "_law_still", "_law_goes", "_law_back", "_law_k", "_law_good"] ["_law_script"] (defScope st_law) := ⟨rfl, rfl, rfl, by decide +kernel, rfl, by decide +kernel, by decide +kernel⟩
def b_law : Ev → M Out := (mSeq (mUnpk (unpD [2, 3, 4]) (mTup (mCons (mTup (mCons (mTup (mCons (mC (.int 0)) (mCons (mC (.int 0)) (mCons (mC (.int 0)) mNil)))) (mCons (mTup (mCons (mC (.int 0)) (mCons (mC (.int 0)) (mCons (mC (.int 0)) mNil)))) mNil))) (mCons (mTup (mCons (mTup (mCons (mC (.int 0)) (mCons (mC (.int 1)) (mCons (mUn (mC (.int 2)) negD) mNil)))) (mCons (mTup (mCons (mC (.int 0)) (mCons (mC (.int 0)) (mCons (mC (.int 0)) mNil)))) mNil))) (mCons (mTup (mCons (mTup (mCons (mC (.int 0)) (mCons (mC (.int 0)) (mCons (mC (.int 0)) mNil)))) (mCons (mTup (mCons (mC (.int 1)) (mCons (mC (.int 1)) (mCons (mUn (mC (.int 2)) negD) mNil)))) mNil))) mNil))))) (mSeq (mSet 1 (mOwn (mLst (mCons (mUn (mCons (mTup (mCons (mTup (mCons (mVar 2) (mCons (mVar 3) mNil))) (mCons (mTup (mCons (mC (.int 0)) (mCons (mC (.int 0)) mNil))) (mCons (mC .non) mNil)))) mNil) f__law_told) (mCons (mUn (mCons (mTup (mCons (mTup (mCons (mVar 2) (mCons (mVar 3) (mCons (mVar 4) mNil)))) (mCons (mTup (mCons (mC (.int 1)) (mCons (mC (.int 1)) mNil))) (mCons (mC .non) mNil)))) mNil) f__law_told) mNil))))) (mSeq (mSet 1 (mOwn (mBi (mVarR 1) (mFz (mLst (mCons (mUn (mCons (mTup (mCons (mTup (mCons (mVar 2) mNil)) (mCons (mTup (mCons (mC (.int 0)) mNil)) (mCons (mC .non) mNil)))) mNil) f__law_told) (mCons (mUn (mCons (mTup (mCons (mTup (mCons (mVar 2) mNil)) (mCons (mTup mNil) (mCons (mC .non) mNil)))) mNil) f__law_told) mNil)))) catF))) (mSeq (mSet 1 (mOwn (mBi (mVarR 1) (mFz (mLst (mCons (mUn (mCons (mTup (mCons (mTup (mCons (mVar 2) (mCons (mTup (mCons (mTup (mCons (mC (.int 0)) (mCons (mC (.int 1)) (mCons (mC (.int 2)) mNil)))) (mCons (mTup (mCons (mC (.int 0)) (mCons (mC (.int 0)) (mCons (mC (.int 0)) mNil)))) mNil))) mNil))) (mCons (mTup (mCons (mC (.int 0)) (mCons (mC (.int 1)) mNil))) (mCons (mTup (mCons (mC (.int 1)) (mCons (mC (.int 0)) (mCons (mC (.int 2)) (mCons (mC (.int 0)) mNil))))) mNil)))) mNil) f__law_told) mNil))) catF))) (mSeq (mIfS (mBi (mUn (mCons (mVarR 1) mNil) fun ds => optM (reprO ds)) (mUn (mCons (mFz (mLc [6] (tgN 6) mTrue (mFz (mLst (mCons (mVar 6) (mCons (mVar 6) mNil)))) (mLst (mCons (mC (.bl false)) (mCons (mC (.bl false)) (mCons (mC (.bl false)) (mCons (mC (.bl true)) (mCons (mC (.bl true)) mNil)))))))) mNil) fun ds => optM (reprO ds)) neD) (mRet (mC (.bl false))) mSkip) (mRet (mUn (mCons (mFz (mLc [5] (tgN 5) mTrue (mMkPu f__law_purse f__law_right (mCons (mUn (mCons (mVar 0) (mCons (mVar 5) mNil)) f__law_cell) mNil)) (mUn (mCons (mUn (mCons (mC (.int 2)) (mCons (mUn (mCons (mUn (mCons (mVarR 0) mNil) fun ds => optM (lenO ds)) (mCons (mC (.int 8)) mNil)) fun ds => optM (minO ds)) mNil)) fun ds => optM (maxO ds)) mNil) fun ds => optM (rng1O ds)))) mNil) fun ds => optM (allO ds))))))))
def f_law : List D → M D := runD 7 (mNox b_law)
theorem q_law (T : Tx K mg adr) : ∃ fd : FuncData, (∀ (s : Shared) (u : Value), BindsTo s fd ⟨[u], []⟩ [("_law_script", u)]) ∧ ∀ base : Heap, FnG P w K mg base (L2N.CX P w) 11 (adr "law") fd ["_law_script"] (spD K adr 1 f_law) :=
  law_of (mb := b_law) T.d_law sc_law rfl rfl rfl (fun _ _ _ _ _ _ _ => rfl) fun base pu f cdv A outer s H E gd hr => by
    have nd := sc_law.nd
    refine s_cons ?_ ?_
    · refine s_unpk (pg_tup rfl (pgs_cons (pg_name (i := 2) nd rfl (by first | exact Or.inl rfl | exact Or.inr rfl)) (pgs_cons (pg_name (i := 3) nd rfl (by first | exact Or.inl rfl | exact Or.inr rfl)) (pgs_cons (pg_name (i := 4) nd rfl (by first | exact Or.inl rfl | exact Or.inr rfl)) pgs_nil)))) (tr_tup [2, 3, 4]) ?_
      refine e_tup ?_
      refine a_cons ?_ ?_ (hs := ?_)
      rotate_left 2
      · exact st_tup
      · refine e_tup ?_
        refine a_cons ?_ ?_ (hs := ?_)
        rotate_left 2
        · exact st_tup
        · refine e_tup ?_
          refine a_cons ?_ ?_ (hs := ?_)
          · exact e_int
          rotate_left 1
          · exact st_const
          exact (a_cons e_int (a_cons e_int a_nil (hs := st_const)) (hs := st_const))
        refine a_cons ?_ ?_ (hs := ?_)
        rotate_left 1
        · exact a_nil
        · exact st_tup
        refine e_tup ?_
        refine a_cons ?_ ?_ (hs := ?_)
        · exact e_int
        rotate_left 1
        · exact st_const
        exact (a_cons e_int (a_cons e_int a_nil (hs := st_const)) (hs := st_const))
      refine a_cons ?_ ?_ (hs := ?_)
      rotate_left 2
      · exact st_tup
      · refine e_tup ?_
        refine a_cons ?_ ?_ (hs := ?_)
        rotate_left 2
        · exact st_tup
        · refine e_tup ?_
          refine a_cons ?_ ?_ (hs := ?_)
          · exact e_int
          rotate_left 1
          · exact st_const
          exact (a_cons e_int (a_cons (e_neg e_int) a_nil (hs := st_un)) (hs := st_const))
        refine a_cons ?_ ?_ (hs := ?_)
        rotate_left 1
        · exact a_nil
        · exact st_tup
        refine e_tup ?_
        refine a_cons ?_ ?_ (hs := ?_)
        · exact e_int
        rotate_left 1
        · exact st_const
        exact (a_cons e_int (a_cons e_int a_nil (hs := st_const)) (hs := st_const))
      refine a_cons ?_ ?_ (hs := ?_)
      rotate_left 1
      · exact a_nil
      · exact st_tup
      refine e_tup ?_
      refine a_cons ?_ ?_ (hs := ?_)
      rotate_left 2
      · exact st_tup
      · refine e_tup ?_
        refine a_cons ?_ ?_ (hs := ?_)
        · exact e_int
        rotate_left 1
        · exact st_const
        exact (a_cons e_int (a_cons e_int a_nil (hs := st_const)) (hs := st_const))
      refine a_cons ?_ ?_ (hs := ?_)
      rotate_left 1
      · exact a_nil
      · exact st_tup
      refine e_tup ?_
      refine a_cons ?_ ?_ (hs := ?_)
      · exact e_int
      rotate_left 1
      · exact st_const
      exact (a_cons e_int (a_cons (e_neg e_int) a_nil (hs := st_un)) (hs := st_const))
    refine s_cons ?_ ?_
    · refine s_set 1 ?_ ?_ (hs := ?_)
      rotate_left 2
      · exact sw_list
      · refine x_f ?_
        refine f_lst ?_
        refine a_cons ?_ ?_ (hs := ?_)
        rotate_left 2
        · exact st_call
        · refine x_call (C := ⟨K, adr, pu⟩) (p__law_told T) rfl (hr.mono (j := 9) (by decide)) T.g__law_told ?_ (hlen := (mCons_len mNil_len))
          refine a_cons ?_ ?_ (hs := ?_)
          rotate_left 1
          · exact a_nil
          · exact st_tup
          refine e_tup ?_
          refine a_cons ?_ ?_ (hs := ?_)
          rotate_left 2
          · exact st_tup
          · exact (e_tup (a_cons (e_var 2) (a_cons (e_var 3) a_nil (hs := st_name)) (hs := st_name)))
          refine a_cons ?_ ?_ (hs := ?_)
          rotate_left 2
          · exact st_tup
          · exact (e_tup (a_cons e_int (a_cons e_int a_nil (hs := st_const)) (hs := st_const)))
          exact (a_cons e_non a_nil (hs := st_const))
        refine a_cons ?_ ?_ (hs := ?_)
        rotate_left 1
        · exact a_nil
        · exact st_call
        refine x_call (C := ⟨K, adr, pu⟩) (p__law_told T) rfl (hr.mono (j := 9) (by decide)) T.g__law_told ?_ (hlen := (mCons_len mNil_len))
        refine a_cons ?_ ?_ (hs := ?_)
        rotate_left 1
        · exact a_nil
        · exact st_tup
        refine e_tup ?_
        refine a_cons ?_ ?_ (hs := ?_)
        rotate_left 2
        · exact st_tup
        · refine e_tup ?_
          refine a_cons ?_ ?_ (hs := ?_)
          · exact (e_var 2)
          rotate_left 1
          · exact st_name
          exact (a_cons (e_var 3) (a_cons (e_var 4) a_nil (hs := st_name)) (hs := st_name))
        refine a_cons ?_ ?_ (hs := ?_)
        rotate_left 2
        · exact st_tup
        · exact (e_tup (a_cons e_int (a_cons e_int a_nil (hs := st_const)) (hs := st_const)))
        exact (a_cons e_non a_nil (hs := st_const))
      exact nd
    refine s_cons ?_ ?_
    · refine s_set 1 ?_ ?_ (hs := ?_)
      rotate_left 2
      · exact sw_bin
      · refine x_f ?_
        refine f_cat (r_var 1) ?_
        refine r_f ?_
        refine f_lst ?_
        refine a_cons ?_ ?_ (hs := ?_)
        rotate_left 2
        · exact st_call
        · refine x_call (C := ⟨K, adr, pu⟩) (p__law_told T) rfl (hr.mono (j := 9) (by decide)) T.g__law_told ?_ (hlen := (mCons_len mNil_len))
          refine a_cons ?_ ?_ (hs := ?_)
          rotate_left 1
          · exact a_nil
          · exact st_tup
          refine e_tup ?_
          refine a_cons ?_ ?_ (hs := ?_)
          rotate_left 2
          · exact st_tup
          · exact (e_tup (a_cons (e_var 2) a_nil (hs := st_name)))
          refine a_cons ?_ ?_ (hs := ?_)
          rotate_left 2
          · exact st_tup
          · exact (e_tup (a_cons e_int a_nil (hs := st_const)))
          exact (a_cons e_non a_nil (hs := st_const))
        refine a_cons ?_ ?_ (hs := ?_)
        rotate_left 1
        · exact a_nil
        · exact st_call
        refine x_call (C := ⟨K, adr, pu⟩) (p__law_told T) rfl (hr.mono (j := 9) (by decide)) T.g__law_told ?_ (hlen := (mCons_len mNil_len))
        refine a_cons ?_ ?_ (hs := ?_)
        rotate_left 1
        · exact a_nil
        · exact st_tup
        refine e_tup ?_
        refine a_cons ?_ ?_ (hs := ?_)
        rotate_left 2
        · exact st_tup
        · exact (e_tup (a_cons (e_var 2) a_nil (hs := st_name)))
        exact (a_cons (e_tup a_nil) (a_cons e_non a_nil (hs := st_const)) (hs := st_tup))
      exact nd
    refine s_cons ?_ ?_
    · refine s_set 1 ?_ ?_ (hs := ?_)
      rotate_left 2
      · exact sw_bin
      · refine x_f ?_
        refine f_cat (r_var 1) ?_
        refine r_f ?_
        refine f_lst ?_
        refine a_cons ?_ ?_ (hs := ?_)
        rotate_left 1
        · exact a_nil
        · exact st_call
        refine x_call (C := ⟨K, adr, pu⟩) (p__law_told T) rfl (hr.mono (j := 9) (by decide)) T.g__law_told ?_ (hlen := (mCons_len mNil_len)) (he := st_tup) (hpl := pl_nil)
        refine a_cons ?_ ?_ (hs := ?_)
        rotate_left 1
        · exact a_nil
        · exact st_tup
        refine e_tup ?_
        refine a_cons ?_ ?_ (hs := ?_)
        rotate_left 2
        · exact st_tup
        · refine e_tup ?_
          refine a_cons ?_ ?_ (hs := ?_)
          · exact (e_var 2)
          rotate_left 1
          · exact st_name
          refine a_cons ?_ ?_ (hs := ?_)
          rotate_left 1
          · exact a_nil
          · exact st_tup
          refine e_tup ?_
          refine a_cons ?_ ?_ (hs := ?_)
          rotate_left 2
          · exact st_tup
          · refine e_tup ?_
            refine a_cons ?_ ?_ (hs := ?_)
            · exact e_int
            rotate_left 1
            · exact st_const
            exact (a_cons e_int (a_cons e_int a_nil (hs := st_const)) (hs := st_const))
          refine a_cons ?_ ?_ (hs := ?_)
          rotate_left 1
          · exact a_nil
          · exact st_tup
          refine e_tup ?_
          refine a_cons ?_ ?_ (hs := ?_)
          · exact e_int
          rotate_left 1
          · exact st_const
          exact (a_cons e_int (a_cons e_int a_nil (hs := st_const)) (hs := st_const))
        refine a_cons ?_ ?_ (hs := ?_)
        rotate_left 2
        · exact st_tup
        · exact (e_tup (a_cons e_int (a_cons e_int a_nil (hs := st_const)) (hs := st_const)))
        refine a_cons ?_ ?_ (hs := ?_)
        rotate_left 1
        · exact a_nil
        · exact st_tup
        refine e_tup ?_
        refine a_cons ?_ ?_ (hs := ?_)
        · exact e_int
        rotate_left 1
        · exact st_const
        refine a_cons ?_ ?_ (hs := ?_)
        · exact e_int
        rotate_left 1
        · exact st_const
        exact (a_cons e_int (a_cons e_int a_nil (hs := st_const)) (hs := st_const))
      exact nd
    refine s_cons ?_ ?_
    · refine s_if ?_ (s_one (s_ret e_bl)) s_nil
      refine t_cmp (c_ne (u64 hr)) ?_ ?_
      · refine r_e ?_
        exact (do_callB (cl_repr gd (u64 hr)) (ar_cons (r_var 1) ar_nil (hs := st_name)) T.n_repr)
      refine r_e ?_
      refine do_callB (cl_repr gd (u64 hr)) ?_ T.n_repr
      refine ar_cons ?_ ar_nil (hs := st_lc)
      refine r_f ?_
      refine f_lc [("_law_good", 6)] ?_ nd (by first | (show blkC ["_law_script", "_law_told_here", "_law_still", "_law_goes", "_law_back", "_law_k", "_law_good"] (defScope st_law) _ _ = true; decide +kernel) | kernel_rfl) (fun _ _ _ _ _ => (pg_name (i := 6) nd rfl (by first | exact Or.inl rfl | exact Or.inr rfl))) (tr_name 6) ?_
      · refine i_f ?_
        refine f_lst ?_
        refine a_cons ?_ ?_ (hs := ?_)
        · exact e_bl
        rotate_left 1
        · exact st_const
        refine a_cons ?_ ?_ (hs := ?_)
        · exact e_bl
        rotate_left 1
        · exact st_const
        refine a_cons ?_ ?_ (hs := ?_)
        · exact e_bl
        rotate_left 1
        · exact st_const
        exact (a_cons e_bl (a_cons e_bl a_nil (hs := st_const)) (hs := st_const))
      intro _ _ _ _ _
      exact (e_f (f_lst (a_cons (e_var 6) (a_cons (e_var 6) a_nil (hs := st_name)) (hs := st_name))))
    refine s_one ?_
    refine s_ret ?_
    refine do_callB cl_all ?_ T.n_all
    refine ar_cons ?_ ar_nil (hs := st_lc)
    refine r_f ?_
    refine f_lc [("_law_k", 5)] ?_ nd (by first | (show blkC ["_law_script", "_law_told_here", "_law_still", "_law_goes", "_law_back", "_law_k", "_law_good"] (defScope st_law) _ _ = true; decide +kernel) | kernel_rfl) (fun _ _ _ _ _ => (pg_name (i := 5) nd rfl (by first | exact Or.inl rfl | exact Or.inr rfl))) (tr_name 5) ?_
    · refine i_rng1 ?_ T.n_range
      refine ar_cons ?_ ar_nil (hs := st_call)
      refine r_e ?_
      refine do_callB cl_max ?_ T.n_max
      refine ar_cons (r_e e_int) ?_ (hs := st_const)
      refine ar_cons ?_ ar_nil (hs := st_call)
      refine r_e ?_
      refine do_callB cl_min ?_ T.n_min
      refine ar_cons ?_ ?_ (hs := st_call)
      · exact (r_e (do_callB cl_len (ar_cons (r_var 0) ar_nil (hs := st_name)) T.n_len))
      exact (ar_cons (r_e e_int) ar_nil (hs := st_const))
    intro _ _ _ _ _
    refine x_callPu (C := ⟨K, adr, pu⟩) (p__law_right T) (p__law_purse T) rfl gd (hr.mono (j := 10) (by decide)) (hr.mono (j := 1) (by decide)) T.g__law_right T.g__law_purse ?_ (hlen := (mCons_len mNil_len))
    refine a_cons ?_ ?_ (hs := ?_)
    rotate_left 1
    · exact a_nil
    · exact st_call
    refine x_call (C := ⟨K, adr, pu⟩) (p__law_cell T) rfl (hr.mono (j := 1) (by decide)) T.g__law_cell ?_ (hlen := (mCons_len (mCons_len mNil_len)))
    exact (a_cons (e_var 0) (a_cons (e_var 5) a_nil (hs := st_name)) (hs := st_name))
end
theorem all_mk {K : PySem.W.Frag} {h : Heap} {mg : Str → Option Value} (X : K.In h) (G : h.Ns mainGlobals mg)
    {a0 a1 a2 a3 a4 a5 a6 a7 a8 a9 a10 a11 a12 a13 a14 a15 a16 a17 a18 a19 a20 a21 a22 a23 a24 a25 a26 a27 a28 a29 a30 a31 a32 a33 a34 a35 a36 a37 a38 a39 a40 a41 a42 a43 a44 a45 a46 : Addr} {t_MOST_CORNERS : Tok} {t_DISTANCE : Tok} {t_FACTOR : Tok} {t_MOST_COLOURS : Tok} {t_DIGITS : Tok} {nm_InvalidColour : Str} {qq_InvalidColour : Str} {NN_InvalidColour : Addr} {bs_InvalidColour : List Value} {bw_InvalidColour : Addr} {sn_InvalidColour : List Str} {su_InvalidColour : List Value} {ab_InvalidColour : Bool} {co_InvalidColour : Option Bool} {dd_InvalidColour : Option Addr} {k0_InvalidColour : Option Value} {k1_InvalidColour : Option Value} {k2_InvalidColour : Option Value} {k3_InvalidColour : Option Value} {k5_InvalidColour : Option Value} {nm_InvalidText : Str} {qq_InvalidText : Str} {NN_InvalidText : Addr} {bs_InvalidText : List Value} {bw_InvalidText : Addr} {sn_InvalidText : List Str} {su_InvalidText : List Value} {ab_InvalidText : Bool} {co_InvalidText : Option Bool} {dd_InvalidText : Option Addr} {k0_InvalidText : Option Value} {k1_InvalidText : Option Value} {k2_InvalidText : Option Value} {k3_InvalidText : Option Value} {k5_InvalidText : Option Value} {oc_is_integer : Value} {od_is_integer : Option Addr} {an_is_integer : Option Addr} {osl_is_integer : Array (Option Value)} {kv_is_integer : Value} {dc_is_integer : Value} {pm_is_integer : Value} {cd_is_integer : Value} {ct_is_integer : Value} {oc_is_between : Value} {od_is_between : Option Addr} {an_is_between : Option Addr} {osl_is_between : Array (Option Value)} {kv_is_between : Value} {dc_is_between : Value} {pm_is_between : Value} {cd_is_between : Value} {ct_is_between : Value} {oc_is_move : Value} {od_is_move : Option Addr} {an_is_move : Option Addr} {osl_is_move : Array (Option Value)} {kv_is_move : Value} {dc_is_move : Value} {pm_is_move : Value} {cd_is_move : Value} {ct_is_move : Value} {oc_is_corner : Value} {od_is_corner : Option Addr} {an_is_corner : Option Addr} {osl_is_corner : Array (Option Value)} {kv_is_corner : Value} {dc_is_corner : Value} {pm_is_corner : Value} {cd_is_corner : Value} {ct_is_corner : Value} {oc_check_corners : Value} {od_check_corners : Option Addr} {an_check_corners : Option Addr} {osl_check_corners : Array (Option Value)} {kv_check_corners : Value} {dc_check_corners : Value} {pm_check_corners : Value} {cd_check_corners : Value} {ct_check_corners : Value} {oc_check_least : Value} {od_check_least : Option Addr} {an_check_least : Option Addr} {osl_check_least : Array (Option Value)} {kv_check_least : Value} {dc_check_least : Value} {pm_check_least : Value} {cd_check_least : Value} {ct_check_least : Value} {oc_check_factors : Value} {od_check_factors : Option Addr} {an_check_factors : Option Addr} {osl_check_factors : Array (Option Value)} {kv_check_factors : Value} {dc_check_factors : Value} {pm_check_factors : Value} {cd_check_factors : Value} {ct_check_factors : Value} {oc_is_colour : Value} {od_is_colour : Option Addr} {an_is_colour : Option Addr} {osl_is_colour : Array (Option Value)} {kv_is_colour : Value} {dc_is_colour : Value} {pm_is_colour : Value} {cd_is_colour : Value} {ct_is_colour : Value} {oc_differences : Value} {od_differences : Option Addr} {an_differences : Option Addr} {osl_differences : Array (Option Value)} {kv_differences : Value} {dc_differences : Value} {pm_differences : Value} {cd_differences : Value} {ct_differences : Value} {oc_is_bounded : Value} {od_is_bounded : Option Addr} {an_is_bounded : Option Addr} {osl_is_bounded : Array (Option Value)} {kv_is_bounded : Value} {dc_is_bounded : Value} {pm_is_bounded : Value} {cd_is_bounded : Value} {ct_is_bounded : Value} {oc_text_of_sizes : Value} {od_text_of_sizes : Option Addr} {an_text_of_sizes : Option Addr} {osl_text_of_sizes : Array (Option Value)} {kv_text_of_sizes : Value} {dc_text_of_sizes : Value} {pm_text_of_sizes : Value} {cd_text_of_sizes : Value} {ct_text_of_sizes : Value} {oc_join_of : Value} {od_join_of : Option Addr} {an_join_of : Option Addr} {osl_join_of : Array (Option Value)} {kv_join_of : Value} {dc_join_of : Value} {pm_join_of : Value} {cd_join_of : Value} {ct_join_of : Value} {oc_text_of_sum : Value} {od_text_of_sum : Option Addr} {an_text_of_sum : Option Addr} {osl_text_of_sum : Array (Option Value)} {kv_text_of_sum : Value} {dc_text_of_sum : Value} {pm_text_of_sum : Value} {cd_text_of_sum : Value} {ct_text_of_sum : Value} {oc_text_of_move : Value} {od_text_of_move : Option Addr} {an_text_of_move : Option Addr} {osl_text_of_move : Array (Option Value)} {kv_text_of_move : Value} {dc_text_of_move : Value} {pm_text_of_move : Value} {cd_text_of_move : Value} {ct_text_of_move : Value} {oc_text_of : Value} {od_text_of : Option Addr} {an_text_of : Option Addr} {osl_text_of : Array (Option Value)} {kv_text_of : Value} {dc_text_of : Value} {pm_text_of : Value} {cd_text_of : Value} {ct_text_of : Value} {oc_Shape___init__ : Value} {od_Shape___init__ : Option Addr} {an_Shape___init__ : Option Addr} {osl_Shape___init__ : Array (Option Value)} {kv_Shape___init__ : Value} {dc_Shape___init__ : Value} {pm_Shape___init__ : Value} {cd_Shape___init__ : Value} {ct_Shape___init__ : Value} {dT_Shape___init__ : Addr} {dE_Shape___init__ : Addr} {dO_Shape___init__ : Value} {dD_Shape___init__ : Option Addr} {dF_Shape___init__ : Option Addr} {dN_Shape___init__ : Nat} {dM_Shape___init__ : Nat} {dS_Shape___init__ : Array (Option Value)} {dU_Shape___init__ : Array (Option Value)} {oc_least_of_text : Value} {od_least_of_text : Option Addr} {an_least_of_text : Option Addr} {osl_least_of_text : Array (Option Value)} {kv_least_of_text : Value} {dc_least_of_text : Value} {pm_least_of_text : Value} {cd_least_of_text : Value} {ct_least_of_text : Value} {oc_number_of : Value} {od_number_of : Option Addr} {an_number_of : Option Addr} {osl_number_of : Array (Option Value)} {kv_number_of : Value} {dc_number_of : Value} {pm_number_of : Value} {cd_number_of : Value} {ct_number_of : Value} {oc_summand_of : Value} {od_summand_of : Option Addr} {an_summand_of : Option Addr} {osl_summand_of : Array (Option Value)} {kv_summand_of : Value} {dc_summand_of : Value} {pm_summand_of : Value} {cd_summand_of : Value} {ct_summand_of : Value} {oc_sum_of_text : Value} {od_sum_of_text : Option Addr} {an_sum_of_text : Option Addr} {osl_sum_of_text : Array (Option Value)} {kv_sum_of_text : Value} {dc_sum_of_text : Value} {pm_sum_of_text : Value} {cd_sum_of_text : Value} {ct_sum_of_text : Value} {oc_corner_of_text : Value} {od_corner_of_text : Option Addr} {an_corner_of_text : Option Addr} {osl_corner_of_text : Array (Option Value)} {kv_corner_of_text : Value} {dc_corner_of_text : Value} {pm_corner_of_text : Value} {cd_corner_of_text : Value} {ct_corner_of_text : Value} {oc_colour_of_text : Value} {od_colour_of_text : Option Addr} {an_colour_of_text : Option Addr} {osl_colour_of_text : Array (Option Value)} {kv_colour_of_text : Value} {dc_colour_of_text : Value} {pm_colour_of_text : Value} {cd_colour_of_text : Value} {ct_colour_of_text : Value} {r_Shape_read : List Value} {oc_Shape_read : Value} {od_Shape_read : Option Addr} {an_Shape_read : Option Addr} {osl_Shape_read : Array (Option Value)} {kv_Shape_read : Value} {dc_Shape_read : Value} {pm_Shape_read : Value} {cd_Shape_read : Value} {ct_Shape_read : Value} {oc__law_sum : Value} {od__law_sum : Option Addr} {an__law_sum : Option Addr} {osl__law_sum : Array (Option Value)} {kv__law_sum : Value} {dc__law_sum : Value} {pm__law_sum : Value} {cd__law_sum : Value} {ct__law_sum : Value} {oc__law_dot_text : Value} {od__law_dot_text : Option Addr} {an__law_dot_text : Option Addr} {osl__law_dot_text : Array (Option Value)} {kv__law_dot_text : Value} {dc__law_dot_text : Value} {pm__law_dot_text : Value} {cd__law_dot_text : Value} {ct__law_dot_text : Value} {oc__law_figure_text : Value} {od__law_figure_text : Option Addr} {an__law_figure_text : Option Addr} {osl__law_figure_text : Array (Option Value)} {kv__law_figure_text : Value} {dc__law_figure_text : Value} {pm__law_figure_text : Value} {cd__law_figure_text : Value} {ct__law_figure_text : Value} {oc__law_told : Value} {od__law_told : Option Addr} {an__law_told : Option Addr} {osl__law_told : Array (Option Value)} {kv__law_told : Value} {dc__law_told : Value} {pm__law_told : Value} {cd__law_told : Value} {ct__law_told : Value} {oc__law_purse : Value} {od__law_purse : Option Addr} {an__law_purse : Option Addr} {osl__law_purse : Array (Option Value)} {kv__law_purse : Value} {dc__law_purse : Value} {pm__law_purse : Value} {cd__law_purse : Value} {ct__law_purse : Value} {oc__law_take : Value} {od__law_take : Option Addr} {an__law_take : Option Addr} {osl__law_take : Array (Option Value)} {kv__law_take : Value} {dc__law_take : Value} {pm__law_take : Value} {cd__law_take : Value} {ct__law_take : Value} {oc__law_dot : Value} {od__law_dot : Option Addr} {an__law_dot : Option Addr} {osl__law_dot : Array (Option Value)} {kv__law_dot : Value} {dc__law_dot : Value} {pm__law_dot : Value} {cd__law_dot : Value} {ct__law_dot : Value} {oc__law_alike : Value} {od__law_alike : Option Addr} {an__law_alike : Option Addr} {osl__law_alike : Array (Option Value)} {kv__law_alike : Value} {dc__law_alike : Value} {pm__law_alike : Value} {cd__law_alike : Value} {ct__law_alike : Value} {oc__law_tint : Value} {od__law_tint : Option Addr} {an__law_tint : Option Addr} {osl__law_tint : Array (Option Value)} {kv__law_tint : Value} {dc__law_tint : Value} {pm__law_tint : Value} {cd__law_tint : Value} {ct__law_tint : Value} {oc__law_right : Value} {od__law_right : Option Addr} {an__law_right : Option Addr} {osl__law_right : Array (Option Value)} {kv__law_right : Value} {dc__law_right : Value} {pm__law_right : Value} {cd__law_right : Value} {ct__law_right : Value} {oc__law_cell : Value} {od__law_cell : Option Addr} {an__law_cell : Option Addr} {osl__law_cell : Array (Option Value)} {kv__law_cell : Value} {dc__law_cell : Value} {pm__law_cell : Value} {cd__law_cell : Value} {ct__law_cell : Value} {oc_law : Value} {od_law : Option Addr} {an_law : Option Addr} {osl_law : Array (Option Value)} {kv_law : Value} {dc_law : Value} {pm_law : Value} {cd_law : Value} {ct_law : Value} {oc_InvalidColour___init__ : Value} {od_InvalidColour___init__ : Option Addr} {an_InvalidColour___init__ : Option Addr} {osl_InvalidColour___init__ : Array (Option Value)} {kv_InvalidColour___init__ : Value} {dc_InvalidColour___init__ : Value} {pm_InvalidColour___init__ : Value} {cd_InvalidColour___init__ : Value} {ct_InvalidColour___init__ : Value} {oc_InvalidText___init__ : Value} {od_InvalidText___init__ : Option Addr} {an_InvalidText___init__ : Option Addr} {osl_InvalidText___init__ : Array (Option Value)} {kv_InvalidText___init__ : Value} {dc_InvalidText___init__ : Value} {pm_InvalidText___init__ : Value} {cd_InvalidText___init__ : Value} {ct_InvalidText___init__ : Value} {u0_SIZES : Tok} {u1_SIZES : Tok} {n_SIZES : Nat} {sl_SIZES : Array (Option Value)} {u0_PLACES : Tok} {u1_PLACES : Tok} {n_PLACES : Nat} {sl_PLACES : Array (Option Value)} {u0_WORDS : Tok} {u1_WORDS : Tok} {u2_WORDS : Tok} {n_WORDS : Nat} {sl_WORDS : Array (Option Value)}
    (hg_is_integer : PySem.W.nsIn K mainGlobals "is_integer" = some (some (.ref a0)))
    (hg_is_between : PySem.W.nsIn K mainGlobals "is_between" = some (some (.ref a1)))
    (hg_is_move : PySem.W.nsIn K mainGlobals "is_move" = some (some (.ref a2)))
    (hg_is_corner : PySem.W.nsIn K mainGlobals "is_corner" = some (some (.ref a3)))
    (hg_check_corners : PySem.W.nsIn K mainGlobals "check_corners" = some (some (.ref a4)))
    (hg_SIZES : PySem.W.nsIn K mainGlobals "SIZES" = some (some (.ref a5)))
    (hg_check_least : PySem.W.nsIn K mainGlobals "check_least" = some (some (.ref a6)))
    (hg_check_factors : PySem.W.nsIn K mainGlobals "check_factors" = some (some (.ref a7)))
    (hg_is_colour : PySem.W.nsIn K mainGlobals "is_colour" = some (some (.ref a8)))
    (hg_InvalidColour : PySem.W.nsIn K mainGlobals "InvalidColour" = some (some (.ref a9)))
    (hg_differences : PySem.W.nsIn K mainGlobals "differences" = some (some (.ref a10)))
    (hg_is_bounded : PySem.W.nsIn K mainGlobals "is_bounded" = some (some (.ref a11)))
    (hg_Unbounded : PySem.W.nsIn K mainGlobals "Unbounded" = some (some (.ref a12)))
    (hg_text_of_sizes : PySem.W.nsIn K mainGlobals "text_of_sizes" = some (some (.ref a13)))
    (hg_join_of : PySem.W.nsIn K mainGlobals "join_of" = some (some (.ref a14)))
    (hg_WORDS : PySem.W.nsIn K mainGlobals "WORDS" = some (some (.ref a15)))
    (hg_text_of_sum : PySem.W.nsIn K mainGlobals "text_of_sum" = some (some (.ref a16)))
    (hg_text_of_move : PySem.W.nsIn K mainGlobals "text_of_move" = some (some (.ref a17)))
    (hg_PLACES : PySem.W.nsIn K mainGlobals "PLACES" = some (some (.ref a18)))
    (hg_text_of : PySem.W.nsIn K mainGlobals "text_of" = some (some (.ref a19)))
    (hg_Shape : PySem.W.nsIn K mainGlobals "Shape" = some (some (.ref a20)))
    (hg_InvalidText : PySem.W.nsIn K mainGlobals "InvalidText" = some (some (.ref a21)))
    (hg_least_of_text : PySem.W.nsIn K mainGlobals "least_of_text" = some (some (.ref a22)))
    (hg_number_of : PySem.W.nsIn K mainGlobals "number_of" = some (some (.ref a23)))
    (hg_summand_of : PySem.W.nsIn K mainGlobals "summand_of" = some (some (.ref a24)))
    (hg_sum_of_text : PySem.W.nsIn K mainGlobals "sum_of_text" = some (some (.ref a25)))
    (hg_corner_of_text : PySem.W.nsIn K mainGlobals "corner_of_text" = some (some (.ref a26)))
    (hg_colour_of_text : PySem.W.nsIn K mainGlobals "colour_of_text" = some (some (.ref a27)))
    (hg_InvalidCorners : PySem.W.nsIn K mainGlobals "InvalidCorners" = some (some (.ref a28)))
    (hg_InvalidLeast : PySem.W.nsIn K mainGlobals "InvalidLeast" = some (some (.ref a29)))
    (hg__law_sum : PySem.W.nsIn K mainGlobals "_law_sum" = some (some (.ref a30)))
    (hg__law_dot_text : PySem.W.nsIn K mainGlobals "_law_dot_text" = some (some (.ref a31)))
    (hg__law_figure_text : PySem.W.nsIn K mainGlobals "_law_figure_text" = some (some (.ref a32)))
    (hg__law_told : PySem.W.nsIn K mainGlobals "_law_told" = some (some (.ref a33)))
    (hg__law_take : PySem.W.nsIn K mainGlobals "_law_take" = some (some (.ref a34)))
    (hg__law_dot : PySem.W.nsIn K mainGlobals "_law_dot" = some (some (.ref a35)))
    (hg__law_alike : PySem.W.nsIn K mainGlobals "_law_alike" = some (some (.ref a36)))
    (hg__law_tint : PySem.W.nsIn K mainGlobals "_law_tint" = some (some (.ref a37)))
    (hg__law_cell : PySem.W.nsIn K mainGlobals "_law_cell" = some (some (.ref a38)))
    (hg__law_right : PySem.W.nsIn K mainGlobals "_law_right" = some (some (.ref a39)))
    (hg__law_purse : PySem.W.nsIn K mainGlobals "_law_purse" = some (some (.ref a40)))
    (hg_law : PySem.W.nsIn K mainGlobals "law" = some (some (.ref a41)))
    (hn_tuple : PySem.W.nsIn K mainGlobals "tuple" = some none)
    (hn_isinstance : PySem.W.nsIn K mainGlobals "isinstance" = some none)
    (hn_enumerate : PySem.W.nsIn K mainGlobals "enumerate" = some none)
    (hc_MOST_CORNERS : PySem.W.nsIn K mainGlobals "MOST_CORNERS" = some (some (.int 4 t_MOST_CORNERS)))
    (hn_len : PySem.W.nsIn K mainGlobals "len" = some none)
    (hn_int : PySem.W.nsIn K mainGlobals "int" = some none)
    (hn_bool : PySem.W.nsIn K mainGlobals "bool" = some none)
    (hc_DISTANCE : PySem.W.nsIn K mainGlobals "DISTANCE" = some (some (.int 5 t_DISTANCE)))
    (hc_FACTOR : PySem.W.nsIn K mainGlobals "FACTOR" = some (some (.int 2 t_FACTOR)))
    (hn_range : PySem.W.nsIn K mainGlobals "range" = some none)
    (hn_any : PySem.W.nsIn K mainGlobals "any" = some none)
    (hc_MOST_COLOURS : PySem.W.nsIn K mainGlobals "MOST_COLOURS" = some (some (.int 4 t_MOST_COLOURS)))
    (hn_all : PySem.W.nsIn K mainGlobals "all" = some none)
    (hn_zip : PySem.W.nsIn K mainGlobals "zip" = some none)
    (hn_abs : PySem.W.nsIn K mainGlobals "abs" = some none)
    (hn_str : PySem.W.nsIn K mainGlobals "str" = some none)
    (hc_DIGITS : PySem.W.nsIn K mainGlobals "DIGITS" = some (some (.str "0123456789" t_DIGITS)))
    (hn_repr : PySem.W.nsIn K mainGlobals "repr" = some none)
    (hn_min : PySem.W.nsIn K mainGlobals "min" = some none)
    (hn_max : PySem.W.nsIn K mainGlobals "max" = some none)
    (hn_divmod : PySem.W.nsIn K mainGlobals "divmod" = some none)
    (xpg : PySem.W.plainGet K a20 Str.empty = true)
    (xhd : PySem.W.hasDictIn K a20 = true)
    (xpo : PySem.W.plainOver K a20 = true)
    (xsa : PySem.W.findIn K (.ref a20) "__setattr__" = some (some (.builtin "object.__setattr__")))
    (xha : PySem.W.findIn K (.ref a20) "__class__" = some (some (.builtin "object.__class__")))
    (xhn : PySem.W.specialIn K (.builtin "object.__class__") "__get__" = some (some (.builtin "getset_descriptor.__get__")))
    (xtk : PySem.W.takesIn K (.builtin "object.__class__") = some true)
    (xhm : PySem.W.mroIn K a20 (.type "object") = some true)
    (xcc : PySem.W.isClsIn K a20 = true)
    (xtt : PySem.W.typeIn K (.ref a20) = some (.type "type"))
    (xa0 : PySem.W.subIn K (.ref a20) (.type "int") = some false)
    (xa1 : PySem.W.subIn K (.ref a20) (.type "bool") = some false)
    (xa2 : PySem.W.subIn K (.ref a20) (.type "str") = some false)
    (xa3 : PySem.W.subIn K (.ref a20) (.type "tuple") = some false)
    (xa4 : PySem.W.subIn K (.ref a20) (.type "list") = some false)
    (xa5 : PySem.W.subIn K (.ref a20) (.type "dict") = some false)
    (xb0 : PySem.W.subIn K (.type "NoneType") (.ref a20) = some false)
    (xb1 : PySem.W.subIn K (.type "bool") (.ref a20) = some false)
    (xb2 : PySem.W.subIn K (.type "int") (.ref a20) = some false)
    (xb3 : PySem.W.subIn K (.type "str") (.ref a20) = some false)
    (xb4 : PySem.W.subIn K (.type "tuple") (.ref a20) = some false)
    (xb5 : PySem.W.subIn K (.type "list") (.ref a20) = some false)
    (xb6 : PySem.W.subIn K (.type "dict") (.ref a20) = some false)
    (hna_Shape_points : PySem.W.findIn K (.ref a20) "points" = some none)
    (hna_Shape_starts : PySem.W.findIn K (.ref a20) "starts" = some none)
    (hna_Shape_dye : PySem.W.findIn K (.ref a20) "dye" = some none)
    (hna_Shape_words : PySem.W.findIn K (.ref a20) "words" = some none)
    (yl_InvalidColour : K.lookup a9 = some (excClassObj nm_InvalidColour qq_InvalidColour a9 NN_InvalidColour bs_InvalidColour [.ref bw_InvalidColour, .type "ValueError", .type "Exception", .type "BaseException", .type "object"] true sn_InvalidColour su_InvalidColour ab_InvalidColour co_InvalidColour dd_InvalidColour k0_InvalidColour k1_InvalidColour k2_InvalidColour k3_InvalidColour k5_InvalidColour "ValueError.__new__"))
    (ys_InvalidColour : PySem.W.findIn K (.ref a9) "__setattr__" = some (some (.builtin "object.__setattr__")))
    (ye_InvalidColour : PySem.W.subIn K (.ref a9) (.type "BaseException") = some true)
    (yt_InvalidColour : PySem.W.typeIn K (.ref a9) = some (.type "type"))
    (yk_InvalidColour : PySem.W.keepIn K (.ref a9) = true)
    (yn_InvalidColour : PySem.W.findIn K (.ref a9) "given" = some none)
    (yl_InvalidText : K.lookup a21 = some (excClassObj nm_InvalidText qq_InvalidText a21 NN_InvalidText bs_InvalidText [.ref bw_InvalidText, .type "ValueError", .type "Exception", .type "BaseException", .type "object"] true sn_InvalidText su_InvalidText ab_InvalidText co_InvalidText dd_InvalidText k0_InvalidText k1_InvalidText k2_InvalidText k3_InvalidText k5_InvalidText "ValueError.__new__"))
    (ys_InvalidText : PySem.W.findIn K (.ref a21) "__setattr__" = some (some (.builtin "object.__setattr__")))
    (ye_InvalidText : PySem.W.subIn K (.ref a21) (.type "BaseException") = some true)
    (yt_InvalidText : PySem.W.typeIn K (.ref a21) = some (.type "type"))
    (yk_InvalidText : PySem.W.keepIn K (.ref a21) = true)
    (yn_InvalidText : PySem.W.findIn K (.ref a21) "given" = some none)
    (zx_Unbounded : PySem.W.excIn K a12 [.type "ArithmeticError", .type "Exception", .type "BaseException", .type "object"] "ArithmeticError.__new__" = true)
    (zk_Unbounded : PySem.W.keepIn K (.ref a12) = true)
    (zs_Unbounded : PySem.W.subIn K (.ref a12) (.type "BaseException") = some true)
    (zt_Unbounded : PySem.W.typeIn K (.ref a12) = some (.type "type"))
    (xe_Unbounded : PySem.W.subIn K (.ref a12) (.type "BaseException") = some true)
    (xt_Unbounded : PySem.W.typeIn K (.ref a12) = some (.type "type"))
    (xi_Unbounded : PySem.W.isClsIn K a12 = true)
    (xs_Unbounded__Unbounded : PySem.W.subIn K (.ref a12) (.ref a12) = some true)
    (xs_InvalidText__Unbounded : PySem.W.subIn K (.ref a21) (.ref a12) = some false)
    (xi_InvalidColour : PySem.W.isClsIn K a9 = true)
    (xs_Unbounded__InvalidColour : PySem.W.subIn K (.ref a12) (.ref a9) = some false)
    (xe_InvalidLeast : PySem.W.subIn K (.ref a29) (.type "BaseException") = some true)
    (xt_InvalidLeast : PySem.W.typeIn K (.ref a29) = some (.type "type"))
    (xi_InvalidLeast : PySem.W.isClsIn K a29 = true)
    (xs_Unbounded__InvalidLeast : PySem.W.subIn K (.ref a12) (.ref a29) = some false)
    (xe_InvalidCorners : PySem.W.subIn K (.ref a28) (.type "BaseException") = some true)
    (xt_InvalidCorners : PySem.W.typeIn K (.ref a28) = some (.type "type"))
    (xi_InvalidCorners : PySem.W.isClsIn K a28 = true)
    (xs_Unbounded__InvalidCorners : PySem.W.subIn K (.ref a12) (.ref a28) = some false)
    (xi_InvalidText : PySem.W.isClsIn K a21 = true)
    (xs_InvalidText__InvalidText : PySem.W.subIn K (.ref a21) (.ref a21) = some true)
    (xs_Unbounded__InvalidText : PySem.W.subIn K (.ref a12) (.ref a21) = some false)
    (hl_is_integer : K.lookup a0 = some ⟨oc_is_integer, od_is_integer, .func (PySem.W.fnOf "is_integer" "is_integer" (defArgs st_is_integer) (defBody st_is_integer) (defScope st_is_integer) .none kv_is_integer dc_is_integer pm_is_integer an_is_integer cd_is_integer ct_is_integer), osl_is_integer⟩)
    (hc_is_integer : PySem.W.codeIn K cd_is_integer "is_integer" = true)
    (hk_is_integer : PySem.W.keepIn K (.ref a0) = true)
    (hl_is_between : K.lookup a1 = some ⟨oc_is_between, od_is_between, .func (PySem.W.fnOf "is_between" "is_between" (defArgs st_is_between) (defBody st_is_between) (defScope st_is_between) .none kv_is_between dc_is_between pm_is_between an_is_between cd_is_between ct_is_between), osl_is_between⟩)
    (hc_is_between : PySem.W.codeIn K cd_is_between "is_between" = true)
    (hk_is_between : PySem.W.keepIn K (.ref a1) = true)
    (hl_is_move : K.lookup a2 = some ⟨oc_is_move, od_is_move, .func (PySem.W.fnOf "is_move" "is_move" (defArgs st_is_move) (defBody st_is_move) (defScope st_is_move) .none kv_is_move dc_is_move pm_is_move an_is_move cd_is_move ct_is_move), osl_is_move⟩)
    (hc_is_move : PySem.W.codeIn K cd_is_move "is_move" = true)
    (hk_is_move : PySem.W.keepIn K (.ref a2) = true)
    (hl_is_corner : K.lookup a3 = some ⟨oc_is_corner, od_is_corner, .func (PySem.W.fnOf "is_corner" "is_corner" (defArgs st_is_corner) (defBody st_is_corner) (defScope st_is_corner) .none kv_is_corner dc_is_corner pm_is_corner an_is_corner cd_is_corner ct_is_corner), osl_is_corner⟩)
    (hc_is_corner : PySem.W.codeIn K cd_is_corner "is_corner" = true)
    (hk_is_corner : PySem.W.keepIn K (.ref a3) = true)
    (hl_check_corners : K.lookup a4 = some ⟨oc_check_corners, od_check_corners, .func (PySem.W.fnOf "check_corners" "check_corners" (defArgs st_check_corners) (defBody st_check_corners) (defScope st_check_corners) .none kv_check_corners dc_check_corners pm_check_corners an_check_corners cd_check_corners ct_check_corners), osl_check_corners⟩)
    (hc_check_corners : PySem.W.codeIn K cd_check_corners "check_corners" = true)
    (hk_check_corners : PySem.W.keepIn K (.ref a4) = true)
    (hl_check_least : K.lookup a6 = some ⟨oc_check_least, od_check_least, .func (PySem.W.fnOf "check_least" "check_least" (defArgs st_check_least) (defBody st_check_least) (defScope st_check_least) .none kv_check_least dc_check_least pm_check_least an_check_least cd_check_least ct_check_least), osl_check_least⟩)
    (hc_check_least : PySem.W.codeIn K cd_check_least "check_least" = true)
    (hk_check_least : PySem.W.keepIn K (.ref a6) = true)
    (hl_check_factors : K.lookup a7 = some ⟨oc_check_factors, od_check_factors, .func (PySem.W.fnOf "check_factors" "check_factors" (defArgs st_check_factors) (defBody st_check_factors) (defScope st_check_factors) .none kv_check_factors dc_check_factors pm_check_factors an_check_factors cd_check_factors ct_check_factors), osl_check_factors⟩)
    (hc_check_factors : PySem.W.codeIn K cd_check_factors "check_factors" = true)
    (hk_check_factors : PySem.W.keepIn K (.ref a7) = true)
    (hl_is_colour : K.lookup a8 = some ⟨oc_is_colour, od_is_colour, .func (PySem.W.fnOf "is_colour" "is_colour" (defArgs st_is_colour) (defBody st_is_colour) (defScope st_is_colour) .none kv_is_colour dc_is_colour pm_is_colour an_is_colour cd_is_colour ct_is_colour), osl_is_colour⟩)
    (hc_is_colour : PySem.W.codeIn K cd_is_colour "is_colour" = true)
    (hk_is_colour : PySem.W.keepIn K (.ref a8) = true)
    (hl_differences : K.lookup a10 = some ⟨oc_differences, od_differences, .func (PySem.W.fnOf "differences" "differences" (defArgs st_differences) (defBody st_differences) (defScope st_differences) .none kv_differences dc_differences pm_differences an_differences cd_differences ct_differences), osl_differences⟩)
    (hc_differences : PySem.W.codeIn K cd_differences "differences" = true)
    (hk_differences : PySem.W.keepIn K (.ref a10) = true)
    (hl_is_bounded : K.lookup a11 = some ⟨oc_is_bounded, od_is_bounded, .func (PySem.W.fnOf "is_bounded" "is_bounded" (defArgs st_is_bounded) (defBody st_is_bounded) (defScope st_is_bounded) .none kv_is_bounded dc_is_bounded pm_is_bounded an_is_bounded cd_is_bounded ct_is_bounded), osl_is_bounded⟩)
    (hc_is_bounded : PySem.W.codeIn K cd_is_bounded "is_bounded" = true)
    (hk_is_bounded : PySem.W.keepIn K (.ref a11) = true)
    (hl_text_of_sizes : K.lookup a13 = some ⟨oc_text_of_sizes, od_text_of_sizes, .func (PySem.W.fnOf "text_of_sizes" "text_of_sizes" (defArgs st_text_of_sizes) (defBody st_text_of_sizes) (defScope st_text_of_sizes) .none kv_text_of_sizes dc_text_of_sizes pm_text_of_sizes an_text_of_sizes cd_text_of_sizes ct_text_of_sizes), osl_text_of_sizes⟩)
    (hc_text_of_sizes : PySem.W.codeIn K cd_text_of_sizes "text_of_sizes" = true)
    (hk_text_of_sizes : PySem.W.keepIn K (.ref a13) = true)
    (hl_join_of : K.lookup a14 = some ⟨oc_join_of, od_join_of, .func (PySem.W.fnOf "join_of" "join_of" (defArgs st_join_of) (defBody st_join_of) (defScope st_join_of) .none kv_join_of dc_join_of pm_join_of an_join_of cd_join_of ct_join_of), osl_join_of⟩)
    (hc_join_of : PySem.W.codeIn K cd_join_of "join_of" = true)
    (hk_join_of : PySem.W.keepIn K (.ref a14) = true)
    (hl_text_of_sum : K.lookup a16 = some ⟨oc_text_of_sum, od_text_of_sum, .func (PySem.W.fnOf "text_of_sum" "text_of_sum" (defArgs st_text_of_sum) (defBody st_text_of_sum) (defScope st_text_of_sum) .none kv_text_of_sum dc_text_of_sum pm_text_of_sum an_text_of_sum cd_text_of_sum ct_text_of_sum), osl_text_of_sum⟩)
    (hc_text_of_sum : PySem.W.codeIn K cd_text_of_sum "text_of_sum" = true)
    (hk_text_of_sum : PySem.W.keepIn K (.ref a16) = true)
    (hl_text_of_move : K.lookup a17 = some ⟨oc_text_of_move, od_text_of_move, .func (PySem.W.fnOf "text_of_move" "text_of_move" (defArgs st_text_of_move) (defBody st_text_of_move) (defScope st_text_of_move) .none kv_text_of_move dc_text_of_move pm_text_of_move an_text_of_move cd_text_of_move ct_text_of_move), osl_text_of_move⟩)
    (hc_text_of_move : PySem.W.codeIn K cd_text_of_move "text_of_move" = true)
    (hk_text_of_move : PySem.W.keepIn K (.ref a17) = true)
    (hl_text_of : K.lookup a19 = some ⟨oc_text_of, od_text_of, .func (PySem.W.fnOf "text_of" "text_of" (defArgs st_text_of) (defBody st_text_of) (defScope st_text_of) .none kv_text_of dc_text_of pm_text_of an_text_of cd_text_of ct_text_of), osl_text_of⟩)
    (hc_text_of : PySem.W.codeIn K cd_text_of "text_of" = true)
    (hk_text_of : PySem.W.keepIn K (.ref a19) = true)
    (hf_Shape___init__ : PySem.W.findIn K (.ref a20) "__init__" = some (some (.ref a42)))
    (hi_Shape___init__ : PySem.W.isFn K (.ref a42) = true)
    (hl_Shape___init__ : K.lookup a42 = some ⟨oc_Shape___init__, od_Shape___init__, .func (PySem.W.fnOf "__init__" "Shape.__init__" (defArgs st_Shape___init__) (defBody st_Shape___init__) (defScope st_Shape___init__) (.ref dT_Shape___init__) kv_Shape___init__ dc_Shape___init__ pm_Shape___init__ an_Shape___init__ cd_Shape___init__ ct_Shape___init__), osl_Shape___init__⟩)
    (ht_Shape___init__ : K.lookup dT_Shape___init__ = some ⟨dO_Shape___init__, dD_Shape___init__, .seq #[.ref dE_Shape___init__, .none] dN_Shape___init__, dS_Shape___init__⟩)
    (he_Shape___init__ : K.lookup dE_Shape___init__ = some ⟨.type "tuple", dF_Shape___init__, .seq #[] dM_Shape___init__, dU_Shape___init__⟩)
    (hc_Shape___init__ : PySem.W.codeIn K cd_Shape___init__ "Shape.__init__" = true)
    (hk_Shape___init__ : PySem.W.keepIn K (.ref a42) = true)
    (hl_least_of_text : K.lookup a22 = some ⟨oc_least_of_text, od_least_of_text, .func (PySem.W.fnOf "least_of_text" "least_of_text" (defArgs st_least_of_text) (defBody st_least_of_text) (defScope st_least_of_text) .none kv_least_of_text dc_least_of_text pm_least_of_text an_least_of_text cd_least_of_text ct_least_of_text), osl_least_of_text⟩)
    (hc_least_of_text : PySem.W.codeIn K cd_least_of_text "least_of_text" = true)
    (hk_least_of_text : PySem.W.keepIn K (.ref a22) = true)
    (hl_number_of : K.lookup a23 = some ⟨oc_number_of, od_number_of, .func (PySem.W.fnOf "number_of" "number_of" (defArgs st_number_of) (defBody st_number_of) (defScope st_number_of) .none kv_number_of dc_number_of pm_number_of an_number_of cd_number_of ct_number_of), osl_number_of⟩)
    (hc_number_of : PySem.W.codeIn K cd_number_of "number_of" = true)
    (hk_number_of : PySem.W.keepIn K (.ref a23) = true)
    (hl_summand_of : K.lookup a24 = some ⟨oc_summand_of, od_summand_of, .func (PySem.W.fnOf "summand_of" "summand_of" (defArgs st_summand_of) (defBody st_summand_of) (defScope st_summand_of) .none kv_summand_of dc_summand_of pm_summand_of an_summand_of cd_summand_of ct_summand_of), osl_summand_of⟩)
    (hc_summand_of : PySem.W.codeIn K cd_summand_of "summand_of" = true)
    (hk_summand_of : PySem.W.keepIn K (.ref a24) = true)
    (hl_sum_of_text : K.lookup a25 = some ⟨oc_sum_of_text, od_sum_of_text, .func (PySem.W.fnOf "sum_of_text" "sum_of_text" (defArgs st_sum_of_text) (defBody st_sum_of_text) (defScope st_sum_of_text) .none kv_sum_of_text dc_sum_of_text pm_sum_of_text an_sum_of_text cd_sum_of_text ct_sum_of_text), osl_sum_of_text⟩)
    (hc_sum_of_text : PySem.W.codeIn K cd_sum_of_text "sum_of_text" = true)
    (hk_sum_of_text : PySem.W.keepIn K (.ref a25) = true)
    (hl_corner_of_text : K.lookup a26 = some ⟨oc_corner_of_text, od_corner_of_text, .func (PySem.W.fnOf "corner_of_text" "corner_of_text" (defArgs st_corner_of_text) (defBody st_corner_of_text) (defScope st_corner_of_text) .none kv_corner_of_text dc_corner_of_text pm_corner_of_text an_corner_of_text cd_corner_of_text ct_corner_of_text), osl_corner_of_text⟩)
    (hc_corner_of_text : PySem.W.codeIn K cd_corner_of_text "corner_of_text" = true)
    (hk_corner_of_text : PySem.W.keepIn K (.ref a26) = true)
    (hl_colour_of_text : K.lookup a27 = some ⟨oc_colour_of_text, od_colour_of_text, .func (PySem.W.fnOf "colour_of_text" "colour_of_text" (defArgs st_colour_of_text) (defBody st_colour_of_text) (defScope st_colour_of_text) .none kv_colour_of_text dc_colour_of_text pm_colour_of_text an_colour_of_text cd_colour_of_text ct_colour_of_text), osl_colour_of_text⟩)
    (hc_colour_of_text : PySem.W.codeIn K cd_colour_of_text "colour_of_text" = true)
    (hk_colour_of_text : PySem.W.keepIn K (.ref a27) = true)
    (hs_Shape_read : PySem.W.readsIn K a20 (.type "type") = true)
    (hu_Shape_read : PySem.W.specialIn K (.ref a20) "__getattribute__" = some (some (.builtin "type.__getattribute__")))
    (hf_Shape_read : PySem.W.findCls K (.ref a20) (.type "type") "read" = some (.get (.builtin "classmethod.__get__") (.ref a43) .none (.ref a20)))
    (hr_Shape_read : PySem.W.recIn K a43 "classmethod" = some (.ref a44 :: r_Shape_read))
    (hi_Shape_read : PySem.W.fnIn K a44 = true)
    (hl_Shape_read : K.lookup a44 = some ⟨oc_Shape_read, od_Shape_read, .func (PySem.W.fnOf "read" "Shape.read" (defArgs st_Shape_read) (defBody st_Shape_read) (defScope st_Shape_read) .none kv_Shape_read dc_Shape_read pm_Shape_read an_Shape_read cd_Shape_read ct_Shape_read), osl_Shape_read⟩)
    (hc_Shape_read : PySem.W.codeIn K cd_Shape_read "Shape.read" = true)
    (hk_Shape_read : PySem.W.keepIn K (.ref a44) = true)
    (hl__law_sum : K.lookup a30 = some ⟨oc__law_sum, od__law_sum, .func (PySem.W.fnOf "_law_sum" "_law_sum" (defArgs st__law_sum) (defBody st__law_sum) (defScope st__law_sum) .none kv__law_sum dc__law_sum pm__law_sum an__law_sum cd__law_sum ct__law_sum), osl__law_sum⟩)
    (hc__law_sum : PySem.W.codeIn K cd__law_sum "_law_sum" = true)
    (hk__law_sum : PySem.W.keepIn K (.ref a30) = true)
    (hl__law_dot_text : K.lookup a31 = some ⟨oc__law_dot_text, od__law_dot_text, .func (PySem.W.fnOf "_law_dot_text" "_law_dot_text" (defArgs st__law_dot_text) (defBody st__law_dot_text) (defScope st__law_dot_text) .none kv__law_dot_text dc__law_dot_text pm__law_dot_text an__law_dot_text cd__law_dot_text ct__law_dot_text), osl__law_dot_text⟩)
    (hc__law_dot_text : PySem.W.codeIn K cd__law_dot_text "_law_dot_text" = true)
    (hk__law_dot_text : PySem.W.keepIn K (.ref a31) = true)
    (hl__law_figure_text : K.lookup a32 = some ⟨oc__law_figure_text, od__law_figure_text, .func (PySem.W.fnOf "_law_figure_text" "_law_figure_text" (defArgs st__law_figure_text) (defBody st__law_figure_text) (defScope st__law_figure_text) .none kv__law_figure_text dc__law_figure_text pm__law_figure_text an__law_figure_text cd__law_figure_text ct__law_figure_text), osl__law_figure_text⟩)
    (hc__law_figure_text : PySem.W.codeIn K cd__law_figure_text "_law_figure_text" = true)
    (hk__law_figure_text : PySem.W.keepIn K (.ref a32) = true)
    (hl__law_told : K.lookup a33 = some ⟨oc__law_told, od__law_told, .func (PySem.W.fnOf "_law_told" "_law_told" (defArgs st__law_told) (defBody st__law_told) (defScope st__law_told) .none kv__law_told dc__law_told pm__law_told an__law_told cd__law_told ct__law_told), osl__law_told⟩)
    (hc__law_told : PySem.W.codeIn K cd__law_told "_law_told" = true)
    (hk__law_told : PySem.W.keepIn K (.ref a33) = true)
    (hl__law_purse : K.lookup a40 = some ⟨oc__law_purse, od__law_purse, .func (PySem.W.fnOf "_law_purse" "_law_purse" (defArgs st__law_purse) (defBody st__law_purse) (defScope st__law_purse) .none kv__law_purse dc__law_purse pm__law_purse an__law_purse cd__law_purse ct__law_purse), osl__law_purse⟩)
    (hc__law_purse : PySem.W.codeIn K cd__law_purse "_law_purse" = true)
    (hk__law_purse : PySem.W.keepIn K (.ref a40) = true)
    (hl__law_take : K.lookup a34 = some ⟨oc__law_take, od__law_take, .func (PySem.W.fnOf "_law_take" "_law_take" (defArgs st__law_take) (defBody st__law_take) (defScope st__law_take) .none kv__law_take dc__law_take pm__law_take an__law_take cd__law_take ct__law_take), osl__law_take⟩)
    (hc__law_take : PySem.W.codeIn K cd__law_take "_law_take" = true)
    (hk__law_take : PySem.W.keepIn K (.ref a34) = true)
    (hl__law_dot : K.lookup a35 = some ⟨oc__law_dot, od__law_dot, .func (PySem.W.fnOf "_law_dot" "_law_dot" (defArgs st__law_dot) (defBody st__law_dot) (defScope st__law_dot) .none kv__law_dot dc__law_dot pm__law_dot an__law_dot cd__law_dot ct__law_dot), osl__law_dot⟩)
    (hc__law_dot : PySem.W.codeIn K cd__law_dot "_law_dot" = true)
    (hk__law_dot : PySem.W.keepIn K (.ref a35) = true)
    (hl__law_alike : K.lookup a36 = some ⟨oc__law_alike, od__law_alike, .func (PySem.W.fnOf "_law_alike" "_law_alike" (defArgs st__law_alike) (defBody st__law_alike) (defScope st__law_alike) .none kv__law_alike dc__law_alike pm__law_alike an__law_alike cd__law_alike ct__law_alike), osl__law_alike⟩)
    (hc__law_alike : PySem.W.codeIn K cd__law_alike "_law_alike" = true)
    (hk__law_alike : PySem.W.keepIn K (.ref a36) = true)
    (hl__law_tint : K.lookup a37 = some ⟨oc__law_tint, od__law_tint, .func (PySem.W.fnOf "_law_tint" "_law_tint" (defArgs st__law_tint) (defBody st__law_tint) (defScope st__law_tint) .none kv__law_tint dc__law_tint pm__law_tint an__law_tint cd__law_tint ct__law_tint), osl__law_tint⟩)
    (hc__law_tint : PySem.W.codeIn K cd__law_tint "_law_tint" = true)
    (hk__law_tint : PySem.W.keepIn K (.ref a37) = true)
    (hl__law_right : K.lookup a39 = some ⟨oc__law_right, od__law_right, .func (PySem.W.fnOf "_law_right" "_law_right" (defArgs st__law_right) (defBody st__law_right) (defScope st__law_right) .none kv__law_right dc__law_right pm__law_right an__law_right cd__law_right ct__law_right), osl__law_right⟩)
    (hc__law_right : PySem.W.codeIn K cd__law_right "_law_right" = true)
    (hk__law_right : PySem.W.keepIn K (.ref a39) = true)
    (hl__law_cell : K.lookup a38 = some ⟨oc__law_cell, od__law_cell, .func (PySem.W.fnOf "_law_cell" "_law_cell" (defArgs st__law_cell) (defBody st__law_cell) (defScope st__law_cell) .none kv__law_cell dc__law_cell pm__law_cell an__law_cell cd__law_cell ct__law_cell), osl__law_cell⟩)
    (hc__law_cell : PySem.W.codeIn K cd__law_cell "_law_cell" = true)
    (hk__law_cell : PySem.W.keepIn K (.ref a38) = true)
    (hl_law : K.lookup a41 = some ⟨oc_law, od_law, .func (PySem.W.fnOf "law" "law" (defArgs st_law) (defBody st_law) (defScope st_law) .none kv_law dc_law pm_law an_law cd_law ct_law), osl_law⟩)
    (hc_law : PySem.W.codeIn K cd_law "law" = true)
    (hk_law : PySem.W.keepIn K (.ref a41) = true)
    (hf_InvalidColour___init__ : PySem.W.findIn K (.ref a9) "__init__" = some (some (.ref a45)))
    (hi_InvalidColour___init__ : PySem.W.isFn K (.ref a45) = true)
    (hl_InvalidColour___init__ : K.lookup a45 = some ⟨oc_InvalidColour___init__, od_InvalidColour___init__, .func (PySem.W.fnOf "__init__" "InvalidColour.__init__" (defArgs st_InvalidColour___init__) (defBody st_InvalidColour___init__) (defScope st_InvalidColour___init__) .none kv_InvalidColour___init__ dc_InvalidColour___init__ pm_InvalidColour___init__ an_InvalidColour___init__ cd_InvalidColour___init__ ct_InvalidColour___init__), osl_InvalidColour___init__⟩)
    (hc_InvalidColour___init__ : PySem.W.codeIn K cd_InvalidColour___init__ "InvalidColour.__init__" = true)
    (hk_InvalidColour___init__ : PySem.W.keepIn K (.ref a45) = true)
    (hf_InvalidText___init__ : PySem.W.findIn K (.ref a21) "__init__" = some (some (.ref a46)))
    (hi_InvalidText___init__ : PySem.W.isFn K (.ref a46) = true)
    (hl_InvalidText___init__ : K.lookup a46 = some ⟨oc_InvalidText___init__, od_InvalidText___init__, .func (PySem.W.fnOf "__init__" "InvalidText.__init__" (defArgs st_InvalidText___init__) (defBody st_InvalidText___init__) (defScope st_InvalidText___init__) .none kv_InvalidText___init__ dc_InvalidText___init__ pm_InvalidText___init__ an_InvalidText___init__ cd_InvalidText___init__ ct_InvalidText___init__), osl_InvalidText___init__⟩)
    (hc_InvalidText___init__ : PySem.W.codeIn K cd_InvalidText___init__ "InvalidText.__init__" = true)
    (hk_InvalidText___init__ : PySem.W.keepIn K (.ref a46) = true)
    (xmk : PySem.W.makesIn K a20 = true)
    (xkp : PySem.W.keepIn K (.ref a20) = true)
    (hw_SIZES : K.lookup a5 = some ⟨.type "tuple", none, .seq #[.str "s" u0_SIZES, .str "t" u1_SIZES] n_SIZES, sl_SIZES⟩)
    (hw_PLACES : K.lookup a18 = some ⟨.type "tuple", none, .seq #[.str "x" u0_PLACES, .str "y" u1_PLACES] n_PLACES, sl_PLACES⟩)
    (hw_WORDS : K.lookup a15 = some ⟨.type "tuple", none, .seq #[.str "s" u0_WORDS, .str "t" u1_WORDS, .str "" u2_WORDS] n_WORDS, sl_WORDS⟩)
    : Tx K mg (tab [(("is_integer" : Str), a0), (("is_between" : Str), a1), (("is_move" : Str), a2), (("is_corner" : Str), a3), (("check_corners" : Str), a4), (("SIZES" : Str), a5), (("check_least" : Str), a6), (("check_factors" : Str), a7), (("is_colour" : Str), a8), (("InvalidColour" : Str), a9), (("differences" : Str), a10), (("is_bounded" : Str), a11), (("Unbounded" : Str), a12), (("text_of_sizes" : Str), a13), (("join_of" : Str), a14), (("WORDS" : Str), a15), (("text_of_sum" : Str), a16), (("text_of_move" : Str), a17), (("PLACES" : Str), a18), (("text_of" : Str), a19), (("Shape" : Str), a20), (("InvalidText" : Str), a21), (("least_of_text" : Str), a22), (("number_of" : Str), a23), (("summand_of" : Str), a24), (("sum_of_text" : Str), a25), (("corner_of_text" : Str), a26), (("colour_of_text" : Str), a27), (("InvalidCorners" : Str), a28), (("InvalidLeast" : Str), a29), (("_law_sum" : Str), a30), (("_law_dot_text" : Str), a31), (("_law_figure_text" : Str), a32), (("_law_told" : Str), a33), (("_law_take" : Str), a34), (("_law_dot" : Str), a35), (("_law_alike" : Str), a36), (("_law_tint" : Str), a37), (("_law_cell" : Str), a38), (("_law_right" : Str), a39), (("_law_purse" : Str), a40), (("law" : Str), a41), (("Shape.__init__" : Str), a42), (("Shape.read#" : Str), a43), (("Shape.read" : Str), a44), (("InvalidColour.__init__" : Str), a45), (("InvalidText.__init__" : Str), a46)]) := by
  have z_a0 : tab [(("is_integer" : Str), a0), (("is_between" : Str), a1), (("is_move" : Str), a2), (("is_corner" : Str), a3), (("check_corners" : Str), a4), (("SIZES" : Str), a5), (("check_least" : Str), a6), (("check_factors" : Str), a7), (("is_colour" : Str), a8), (("InvalidColour" : Str), a9), (("differences" : Str), a10), (("is_bounded" : Str), a11), (("Unbounded" : Str), a12), (("text_of_sizes" : Str), a13), (("join_of" : Str), a14), (("WORDS" : Str), a15), (("text_of_sum" : Str), a16), (("text_of_move" : Str), a17), (("PLACES" : Str), a18), (("text_of" : Str), a19), (("Shape" : Str), a20), (("InvalidText" : Str), a21), (("least_of_text" : Str), a22), (("number_of" : Str), a23), (("summand_of" : Str), a24), (("sum_of_text" : Str), a25), (("corner_of_text" : Str), a26), (("colour_of_text" : Str), a27), (("InvalidCorners" : Str), a28), (("InvalidLeast" : Str), a29), (("_law_sum" : Str), a30), (("_law_dot_text" : Str), a31), (("_law_figure_text" : Str), a32), (("_law_told" : Str), a33), (("_law_take" : Str), a34), (("_law_dot" : Str), a35), (("_law_alike" : Str), a36), (("_law_tint" : Str), a37), (("_law_cell" : Str), a38), (("_law_right" : Str), a39), (("_law_purse" : Str), a40), (("law" : Str), a41), (("Shape.__init__" : Str), a42), (("Shape.read#" : Str), a43), (("Shape.read" : Str), a44), (("InvalidColour.__init__" : Str), a45), (("InvalidText.__init__" : Str), a46)] "is_integer" = a0 := rfl
  have z_a1 : tab [(("is_integer" : Str), a0), (("is_between" : Str), a1), (("is_move" : Str), a2), (("is_corner" : Str), a3), (("check_corners" : Str), a4), (("SIZES" : Str), a5), (("check_least" : Str), a6), (("check_factors" : Str), a7), (("is_colour" : Str), a8), (("InvalidColour" : Str), a9), (("differences" : Str), a10), (("is_bounded" : Str), a11), (("Unbounded" : Str), a12), (("text_of_sizes" : Str), a13), (("join_of" : Str), a14), (("WORDS" : Str), a15), (("text_of_sum" : Str), a16), (("text_of_move" : Str), a17), (("PLACES" : Str), a18), (("text_of" : Str), a19), (("Shape" : Str), a20), (("InvalidText" : Str), a21), (("least_of_text" : Str), a22), (("number_of" : Str), a23), (("summand_of" : Str), a24), (("sum_of_text" : Str), a25), (("corner_of_text" : Str), a26), (("colour_of_text" : Str), a27), (("InvalidCorners" : Str), a28), (("InvalidLeast" : Str), a29), (("_law_sum" : Str), a30), (("_law_dot_text" : Str), a31), (("_law_figure_text" : Str), a32), (("_law_told" : Str), a33), (("_law_take" : Str), a34), (("_law_dot" : Str), a35), (("_law_alike" : Str), a36), (("_law_tint" : Str), a37), (("_law_cell" : Str), a38), (("_law_right" : Str), a39), (("_law_purse" : Str), a40), (("law" : Str), a41), (("Shape.__init__" : Str), a42), (("Shape.read#" : Str), a43), (("Shape.read" : Str), a44), (("InvalidColour.__init__" : Str), a45), (("InvalidText.__init__" : Str), a46)] "is_between" = a1 := rfl
  have z_a2 : tab [(("is_integer" : Str), a0), (("is_between" : Str), a1), (("is_move" : Str), a2), (("is_corner" : Str), a3), (("check_corners" : Str), a4), (("SIZES" : Str), a5), (("check_least" : Str), a6), (("check_factors" : Str), a7), (("is_colour" : Str), a8), (("InvalidColour" : Str), a9), (("differences" : Str), a10), (("is_bounded" : Str), a11), (("Unbounded" : Str), a12), (("text_of_sizes" : Str), a13), (("join_of" : Str), a14), (("WORDS" : Str), a15), (("text_of_sum" : Str), a16), (("text_of_move" : Str), a17), (("PLACES" : Str), a18), (("text_of" : Str), a19), (("Shape" : Str), a20), (("InvalidText" : Str), a21), (("least_of_text" : Str), a22), (("number_of" : Str), a23), (("summand_of" : Str), a24), (("sum_of_text" : Str), a25), (("corner_of_text" : Str), a26), (("colour_of_text" : Str), a27), (("InvalidCorners" : Str), a28), (("InvalidLeast" : Str), a29), (("_law_sum" : Str), a30), (("_law_dot_text" : Str), a31), (("_law_figure_text" : Str), a32), (("_law_told" : Str), a33), (("_law_take" : Str), a34), (("_law_dot" : Str), a35), (("_law_alike" : Str), a36), (("_law_tint" : Str), a37), (("_law_cell" : Str), a38), (("_law_right" : Str), a39), (("_law_purse" : Str), a40), (("law" : Str), a41), (("Shape.__init__" : Str), a42), (("Shape.read#" : Str), a43), (("Shape.read" : Str), a44), (("InvalidColour.__init__" : Str), a45), (("InvalidText.__init__" : Str), a46)] "is_move" = a2 := rfl
  have z_a3 : tab [(("is_integer" : Str), a0), (("is_between" : Str), a1), (("is_move" : Str), a2), (("is_corner" : Str), a3), (("check_corners" : Str), a4), (("SIZES" : Str), a5), (("check_least" : Str), a6), (("check_factors" : Str), a7), (("is_colour" : Str), a8), (("InvalidColour" : Str), a9), (("differences" : Str), a10), (("is_bounded" : Str), a11), (("Unbounded" : Str), a12), (("text_of_sizes" : Str), a13), (("join_of" : Str), a14), (("WORDS" : Str), a15), (("text_of_sum" : Str), a16), (("text_of_move" : Str), a17), (("PLACES" : Str), a18), (("text_of" : Str), a19), (("Shape" : Str), a20), (("InvalidText" : Str), a21), (("least_of_text" : Str), a22), (("number_of" : Str), a23), (("summand_of" : Str), a24), (("sum_of_text" : Str), a25), (("corner_of_text" : Str), a26), (("colour_of_text" : Str), a27), (("InvalidCorners" : Str), a28), (("InvalidLeast" : Str), a29), (("_law_sum" : Str), a30), (("_law_dot_text" : Str), a31), (("_law_figure_text" : Str), a32), (("_law_told" : Str), a33), (("_law_take" : Str), a34), (("_law_dot" : Str), a35), (("_law_alike" : Str), a36), (("_law_tint" : Str), a37), (("_law_cell" : Str), a38), (("_law_right" : Str), a39), (("_law_purse" : Str), a40), (("law" : Str), a41), (("Shape.__init__" : Str), a42), (("Shape.read#" : Str), a43), (("Shape.read" : Str), a44), (("InvalidColour.__init__" : Str), a45), (("InvalidText.__init__" : Str), a46)] "is_corner" = a3 := rfl
  have z_a4 : tab [(("is_integer" : Str), a0), (("is_between" : Str), a1), (("is_move" : Str), a2), (("is_corner" : Str), a3), (("check_corners" : Str), a4), (("SIZES" : Str), a5), (("check_least" : Str), a6), (("check_factors" : Str), a7), (("is_colour" : Str), a8), (("InvalidColour" : Str), a9), (("differences" : Str), a10), (("is_bounded" : Str), a11), (("Unbounded" : Str), a12), (("text_of_sizes" : Str), a13), (("join_of" : Str), a14), (("WORDS" : Str), a15), (("text_of_sum" : Str), a16), (("text_of_move" : Str), a17), (("PLACES" : Str), a18), (("text_of" : Str), a19), (("Shape" : Str), a20), (("InvalidText" : Str), a21), (("least_of_text" : Str), a22), (("number_of" : Str), a23), (("summand_of" : Str), a24), (("sum_of_text" : Str), a25), (("corner_of_text" : Str), a26), (("colour_of_text" : Str), a27), (("InvalidCorners" : Str), a28), (("InvalidLeast" : Str), a29), (("_law_sum" : Str), a30), (("_law_dot_text" : Str), a31), (("_law_figure_text" : Str), a32), (("_law_told" : Str), a33), (("_law_take" : Str), a34), (("_law_dot" : Str), a35), (("_law_alike" : Str), a36), (("_law_tint" : Str), a37), (("_law_cell" : Str), a38), (("_law_right" : Str), a39), (("_law_purse" : Str), a40), (("law" : Str), a41), (("Shape.__init__" : Str), a42), (("Shape.read#" : Str), a43), (("Shape.read" : Str), a44), (("InvalidColour.__init__" : Str), a45), (("InvalidText.__init__" : Str), a46)] "check_corners" = a4 := rfl
  have z_a5 : tab [(("is_integer" : Str), a0), (("is_between" : Str), a1), (("is_move" : Str), a2), (("is_corner" : Str), a3), (("check_corners" : Str), a4), (("SIZES" : Str), a5), (("check_least" : Str), a6), (("check_factors" : Str), a7), (("is_colour" : Str), a8), (("InvalidColour" : Str), a9), (("differences" : Str), a10), (("is_bounded" : Str), a11), (("Unbounded" : Str), a12), (("text_of_sizes" : Str), a13), (("join_of" : Str), a14), (("WORDS" : Str), a15), (("text_of_sum" : Str), a16), (("text_of_move" : Str), a17), (("PLACES" : Str), a18), (("text_of" : Str), a19), (("Shape" : Str), a20), (("InvalidText" : Str), a21), (("least_of_text" : Str), a22), (("number_of" : Str), a23), (("summand_of" : Str), a24), (("sum_of_text" : Str), a25), (("corner_of_text" : Str), a26), (("colour_of_text" : Str), a27), (("InvalidCorners" : Str), a28), (("InvalidLeast" : Str), a29), (("_law_sum" : Str), a30), (("_law_dot_text" : Str), a31), (("_law_figure_text" : Str), a32), (("_law_told" : Str), a33), (("_law_take" : Str), a34), (("_law_dot" : Str), a35), (("_law_alike" : Str), a36), (("_law_tint" : Str), a37), (("_law_cell" : Str), a38), (("_law_right" : Str), a39), (("_law_purse" : Str), a40), (("law" : Str), a41), (("Shape.__init__" : Str), a42), (("Shape.read#" : Str), a43), (("Shape.read" : Str), a44), (("InvalidColour.__init__" : Str), a45), (("InvalidText.__init__" : Str), a46)] "SIZES" = a5 := rfl
  have z_a6 : tab [(("is_integer" : Str), a0), (("is_between" : Str), a1), (("is_move" : Str), a2), (("is_corner" : Str), a3), (("check_corners" : Str), a4), (("SIZES" : Str), a5), (("check_least" : Str), a6), (("check_factors" : Str), a7), (("is_colour" : Str), a8), (("InvalidColour" : Str), a9), (("differences" : Str), a10), (("is_bounded" : Str), a11), (("Unbounded" : Str), a12), (("text_of_sizes" : Str), a13), (("join_of" : Str), a14), (("WORDS" : Str), a15), (("text_of_sum" : Str), a16), (("text_of_move" : Str), a17), (("PLACES" : Str), a18), (("text_of" : Str), a19), (("Shape" : Str), a20), (("InvalidText" : Str), a21), (("least_of_text" : Str), a22), (("number_of" : Str), a23), (("summand_of" : Str), a24), (("sum_of_text" : Str), a25), (("corner_of_text" : Str), a26), (("colour_of_text" : Str), a27), (("InvalidCorners" : Str), a28), (("InvalidLeast" : Str), a29), (("_law_sum" : Str), a30), (("_law_dot_text" : Str), a31), (("_law_figure_text" : Str), a32), (("_law_told" : Str), a33), (("_law_take" : Str), a34), (("_law_dot" : Str), a35), (("_law_alike" : Str), a36), (("_law_tint" : Str), a37), (("_law_cell" : Str), a38), (("_law_right" : Str), a39), (("_law_purse" : Str), a40), (("law" : Str), a41), (("Shape.__init__" : Str), a42), (("Shape.read#" : Str), a43), (("Shape.read" : Str), a44), (("InvalidColour.__init__" : Str), a45), (("InvalidText.__init__" : Str), a46)] "check_least" = a6 := rfl
  have z_a7 : tab [(("is_integer" : Str), a0), (("is_between" : Str), a1), (("is_move" : Str), a2), (("is_corner" : Str), a3), (("check_corners" : Str), a4), (("SIZES" : Str), a5), (("check_least" : Str), a6), (("check_factors" : Str), a7), (("is_colour" : Str), a8), (("InvalidColour" : Str), a9), (("differences" : Str), a10), (("is_bounded" : Str), a11), (("Unbounded" : Str), a12), (("text_of_sizes" : Str), a13), (("join_of" : Str), a14), (("WORDS" : Str), a15), (("text_of_sum" : Str), a16), (("text_of_move" : Str), a17), (("PLACES" : Str), a18), (("text_of" : Str), a19), (("Shape" : Str), a20), (("InvalidText" : Str), a21), (("least_of_text" : Str), a22), (("number_of" : Str), a23), (("summand_of" : Str), a24), (("sum_of_text" : Str), a25), (("corner_of_text" : Str), a26), (("colour_of_text" : Str), a27), (("InvalidCorners" : Str), a28), (("InvalidLeast" : Str), a29), (("_law_sum" : Str), a30), (("_law_dot_text" : Str), a31), (("_law_figure_text" : Str), a32), (("_law_told" : Str), a33), (("_law_take" : Str), a34), (("_law_dot" : Str), a35), (("_law_alike" : Str), a36), (("_law_tint" : Str), a37), (("_law_cell" : Str), a38), (("_law_right" : Str), a39), (("_law_purse" : Str), a40), (("law" : Str), a41), (("Shape.__init__" : Str), a42), (("Shape.read#" : Str), a43), (("Shape.read" : Str), a44), (("InvalidColour.__init__" : Str), a45), (("InvalidText.__init__" : Str), a46)] "check_factors" = a7 := rfl
  have z_a8 : tab [(("is_integer" : Str), a0), (("is_between" : Str), a1), (("is_move" : Str), a2), (("is_corner" : Str), a3), (("check_corners" : Str), a4), (("SIZES" : Str), a5), (("check_least" : Str), a6), (("check_factors" : Str), a7), (("is_colour" : Str), a8), (("InvalidColour" : Str), a9), (("differences" : Str), a10), (("is_bounded" : Str), a11), (("Unbounded" : Str), a12), (("text_of_sizes" : Str), a13), (("join_of" : Str), a14), (("WORDS" : Str), a15), (("text_of_sum" : Str), a16), (("text_of_move" : Str), a17), (("PLACES" : Str), a18), (("text_of" : Str), a19), (("Shape" : Str), a20), (("InvalidText" : Str), a21), (("least_of_text" : Str), a22), (("number_of" : Str), a23), (("summand_of" : Str), a24), (("sum_of_text" : Str), a25), (("corner_of_text" : Str), a26), (("colour_of_text" : Str), a27), (("InvalidCorners" : Str), a28), (("InvalidLeast" : Str), a29), (("_law_sum" : Str), a30), (("_law_dot_text" : Str), a31), (("_law_figure_text" : Str), a32), (("_law_told" : Str), a33), (("_law_take" : Str), a34), (("_law_dot" : Str), a35), (("_law_alike" : Str), a36), (("_law_tint" : Str), a37), (("_law_cell" : Str), a38), (("_law_right" : Str), a39), (("_law_purse" : Str), a40), (("law" : Str), a41), (("Shape.__init__" : Str), a42), (("Shape.read#" : Str), a43), (("Shape.read" : Str), a44), (("InvalidColour.__init__" : Str), a45), (("InvalidText.__init__" : Str), a46)] "is_colour" = a8 := rfl
  have z_a9 : tab [(("is_integer" : Str), a0), (("is_between" : Str), a1), (("is_move" : Str), a2), (("is_corner" : Str), a3), (("check_corners" : Str), a4), (("SIZES" : Str), a5), (("check_least" : Str), a6), (("check_factors" : Str), a7), (("is_colour" : Str), a8), (("InvalidColour" : Str), a9), (("differences" : Str), a10), (("is_bounded" : Str), a11), (("Unbounded" : Str), a12), (("text_of_sizes" : Str), a13), (("join_of" : Str), a14), (("WORDS" : Str), a15), (("text_of_sum" : Str), a16), (("text_of_move" : Str), a17), (("PLACES" : Str), a18), (("text_of" : Str), a19), (("Shape" : Str), a20), (("InvalidText" : Str), a21), (("least_of_text" : Str), a22), (("number_of" : Str), a23), (("summand_of" : Str), a24), (("sum_of_text" : Str), a25), (("corner_of_text" : Str), a26), (("colour_of_text" : Str), a27), (("InvalidCorners" : Str), a28), (("InvalidLeast" : Str), a29), (("_law_sum" : Str), a30), (("_law_dot_text" : Str), a31), (("_law_figure_text" : Str), a32), (("_law_told" : Str), a33), (("_law_take" : Str), a34), (("_law_dot" : Str), a35), (("_law_alike" : Str), a36), (("_law_tint" : Str), a37), (("_law_cell" : Str), a38), (("_law_right" : Str), a39), (("_law_purse" : Str), a40), (("law" : Str), a41), (("Shape.__init__" : Str), a42), (("Shape.read#" : Str), a43), (("Shape.read" : Str), a44), (("InvalidColour.__init__" : Str), a45), (("InvalidText.__init__" : Str), a46)] "InvalidColour" = a9 := rfl
  have z_a10 : tab [(("is_integer" : Str), a0), (("is_between" : Str), a1), (("is_move" : Str), a2), (("is_corner" : Str), a3), (("check_corners" : Str), a4), (("SIZES" : Str), a5), (("check_least" : Str), a6), (("check_factors" : Str), a7), (("is_colour" : Str), a8), (("InvalidColour" : Str), a9), (("differences" : Str), a10), (("is_bounded" : Str), a11), (("Unbounded" : Str), a12), (("text_of_sizes" : Str), a13), (("join_of" : Str), a14), (("WORDS" : Str), a15), (("text_of_sum" : Str), a16), (("text_of_move" : Str), a17), (("PLACES" : Str), a18), (("text_of" : Str), a19), (("Shape" : Str), a20), (("InvalidText" : Str), a21), (("least_of_text" : Str), a22), (("number_of" : Str), a23), (("summand_of" : Str), a24), (("sum_of_text" : Str), a25), (("corner_of_text" : Str), a26), (("colour_of_text" : Str), a27), (("InvalidCorners" : Str), a28), (("InvalidLeast" : Str), a29), (("_law_sum" : Str), a30), (("_law_dot_text" : Str), a31), (("_law_figure_text" : Str), a32), (("_law_told" : Str), a33), (("_law_take" : Str), a34), (("_law_dot" : Str), a35), (("_law_alike" : Str), a36), (("_law_tint" : Str), a37), (("_law_cell" : Str), a38), (("_law_right" : Str), a39), (("_law_purse" : Str), a40), (("law" : Str), a41), (("Shape.__init__" : Str), a42), (("Shape.read#" : Str), a43), (("Shape.read" : Str), a44), (("InvalidColour.__init__" : Str), a45), (("InvalidText.__init__" : Str), a46)] "differences" = a10 := rfl
  have z_a11 : tab [(("is_integer" : Str), a0), (("is_between" : Str), a1), (("is_move" : Str), a2), (("is_corner" : Str), a3), (("check_corners" : Str), a4), (("SIZES" : Str), a5), (("check_least" : Str), a6), (("check_factors" : Str), a7), (("is_colour" : Str), a8), (("InvalidColour" : Str), a9), (("differences" : Str), a10), (("is_bounded" : Str), a11), (("Unbounded" : Str), a12), (("text_of_sizes" : Str), a13), (("join_of" : Str), a14), (("WORDS" : Str), a15), (("text_of_sum" : Str), a16), (("text_of_move" : Str), a17), (("PLACES" : Str), a18), (("text_of" : Str), a19), (("Shape" : Str), a20), (("InvalidText" : Str), a21), (("least_of_text" : Str), a22), (("number_of" : Str), a23), (("summand_of" : Str), a24), (("sum_of_text" : Str), a25), (("corner_of_text" : Str), a26), (("colour_of_text" : Str), a27), (("InvalidCorners" : Str), a28), (("InvalidLeast" : Str), a29), (("_law_sum" : Str), a30), (("_law_dot_text" : Str), a31), (("_law_figure_text" : Str), a32), (("_law_told" : Str), a33), (("_law_take" : Str), a34), (("_law_dot" : Str), a35), (("_law_alike" : Str), a36), (("_law_tint" : Str), a37), (("_law_cell" : Str), a38), (("_law_right" : Str), a39), (("_law_purse" : Str), a40), (("law" : Str), a41), (("Shape.__init__" : Str), a42), (("Shape.read#" : Str), a43), (("Shape.read" : Str), a44), (("InvalidColour.__init__" : Str), a45), (("InvalidText.__init__" : Str), a46)] "is_bounded" = a11 := rfl
  have z_a12 : tab [(("is_integer" : Str), a0), (("is_between" : Str), a1), (("is_move" : Str), a2), (("is_corner" : Str), a3), (("check_corners" : Str), a4), (("SIZES" : Str), a5), (("check_least" : Str), a6), (("check_factors" : Str), a7), (("is_colour" : Str), a8), (("InvalidColour" : Str), a9), (("differences" : Str), a10), (("is_bounded" : Str), a11), (("Unbounded" : Str), a12), (("text_of_sizes" : Str), a13), (("join_of" : Str), a14), (("WORDS" : Str), a15), (("text_of_sum" : Str), a16), (("text_of_move" : Str), a17), (("PLACES" : Str), a18), (("text_of" : Str), a19), (("Shape" : Str), a20), (("InvalidText" : Str), a21), (("least_of_text" : Str), a22), (("number_of" : Str), a23), (("summand_of" : Str), a24), (("sum_of_text" : Str), a25), (("corner_of_text" : Str), a26), (("colour_of_text" : Str), a27), (("InvalidCorners" : Str), a28), (("InvalidLeast" : Str), a29), (("_law_sum" : Str), a30), (("_law_dot_text" : Str), a31), (("_law_figure_text" : Str), a32), (("_law_told" : Str), a33), (("_law_take" : Str), a34), (("_law_dot" : Str), a35), (("_law_alike" : Str), a36), (("_law_tint" : Str), a37), (("_law_cell" : Str), a38), (("_law_right" : Str), a39), (("_law_purse" : Str), a40), (("law" : Str), a41), (("Shape.__init__" : Str), a42), (("Shape.read#" : Str), a43), (("Shape.read" : Str), a44), (("InvalidColour.__init__" : Str), a45), (("InvalidText.__init__" : Str), a46)] "Unbounded" = a12 := rfl
  have z_a13 : tab [(("is_integer" : Str), a0), (("is_between" : Str), a1), (("is_move" : Str), a2), (("is_corner" : Str), a3), (("check_corners" : Str), a4), (("SIZES" : Str), a5), (("check_least" : Str), a6), (("check_factors" : Str), a7), (("is_colour" : Str), a8), (("InvalidColour" : Str), a9), (("differences" : Str), a10), (("is_bounded" : Str), a11), (("Unbounded" : Str), a12), (("text_of_sizes" : Str), a13), (("join_of" : Str), a14), (("WORDS" : Str), a15), (("text_of_sum" : Str), a16), (("text_of_move" : Str), a17), (("PLACES" : Str), a18), (("text_of" : Str), a19), (("Shape" : Str), a20), (("InvalidText" : Str), a21), (("least_of_text" : Str), a22), (("number_of" : Str), a23), (("summand_of" : Str), a24), (("sum_of_text" : Str), a25), (("corner_of_text" : Str), a26), (("colour_of_text" : Str), a27), (("InvalidCorners" : Str), a28), (("InvalidLeast" : Str), a29), (("_law_sum" : Str), a30), (("_law_dot_text" : Str), a31), (("_law_figure_text" : Str), a32), (("_law_told" : Str), a33), (("_law_take" : Str), a34), (("_law_dot" : Str), a35), (("_law_alike" : Str), a36), (("_law_tint" : Str), a37), (("_law_cell" : Str), a38), (("_law_right" : Str), a39), (("_law_purse" : Str), a40), (("law" : Str), a41), (("Shape.__init__" : Str), a42), (("Shape.read#" : Str), a43), (("Shape.read" : Str), a44), (("InvalidColour.__init__" : Str), a45), (("InvalidText.__init__" : Str), a46)] "text_of_sizes" = a13 := rfl
  have z_a14 : tab [(("is_integer" : Str), a0), (("is_between" : Str), a1), (("is_move" : Str), a2), (("is_corner" : Str), a3), (("check_corners" : Str), a4), (("SIZES" : Str), a5), (("check_least" : Str), a6), (("check_factors" : Str), a7), (("is_colour" : Str), a8), (("InvalidColour" : Str), a9), (("differences" : Str), a10), (("is_bounded" : Str), a11), (("Unbounded" : Str), a12), (("text_of_sizes" : Str), a13), (("join_of" : Str), a14), (("WORDS" : Str), a15), (("text_of_sum" : Str), a16), (("text_of_move" : Str), a17), (("PLACES" : Str), a18), (("text_of" : Str), a19), (("Shape" : Str), a20), (("InvalidText" : Str), a21), (("least_of_text" : Str), a22), (("number_of" : Str), a23), (("summand_of" : Str), a24), (("sum_of_text" : Str), a25), (("corner_of_text" : Str), a26), (("colour_of_text" : Str), a27), (("InvalidCorners" : Str), a28), (("InvalidLeast" : Str), a29), (("_law_sum" : Str), a30), (("_law_dot_text" : Str), a31), (("_law_figure_text" : Str), a32), (("_law_told" : Str), a33), (("_law_take" : Str), a34), (("_law_dot" : Str), a35), (("_law_alike" : Str), a36), (("_law_tint" : Str), a37), (("_law_cell" : Str), a38), (("_law_right" : Str), a39), (("_law_purse" : Str), a40), (("law" : Str), a41), (("Shape.__init__" : Str), a42), (("Shape.read#" : Str), a43), (("Shape.read" : Str), a44), (("InvalidColour.__init__" : Str), a45), (("InvalidText.__init__" : Str), a46)] "join_of" = a14 := rfl
  have z_a15 : tab [(("is_integer" : Str), a0), (("is_between" : Str), a1), (("is_move" : Str), a2), (("is_corner" : Str), a3), (("check_corners" : Str), a4), (("SIZES" : Str), a5), (("check_least" : Str), a6), (("check_factors" : Str), a7), (("is_colour" : Str), a8), (("InvalidColour" : Str), a9), (("differences" : Str), a10), (("is_bounded" : Str), a11), (("Unbounded" : Str), a12), (("text_of_sizes" : Str), a13), (("join_of" : Str), a14), (("WORDS" : Str), a15), (("text_of_sum" : Str), a16), (("text_of_move" : Str), a17), (("PLACES" : Str), a18), (("text_of" : Str), a19), (("Shape" : Str), a20), (("InvalidText" : Str), a21), (("least_of_text" : Str), a22), (("number_of" : Str), a23), (("summand_of" : Str), a24), (("sum_of_text" : Str), a25), (("corner_of_text" : Str), a26), (("colour_of_text" : Str), a27), (("InvalidCorners" : Str), a28), (("InvalidLeast" : Str), a29), (("_law_sum" : Str), a30), (("_law_dot_text" : Str), a31), (("_law_figure_text" : Str), a32), (("_law_told" : Str), a33), (("_law_take" : Str), a34), (("_law_dot" : Str), a35), (("_law_alike" : Str), a36), (("_law_tint" : Str), a37), (("_law_cell" : Str), a38), (("_law_right" : Str), a39), (("_law_purse" : Str), a40), (("law" : Str), a41), (("Shape.__init__" : Str), a42), (("Shape.read#" : Str), a43), (("Shape.read" : Str), a44), (("InvalidColour.__init__" : Str), a45), (("InvalidText.__init__" : Str), a46)] "WORDS" = a15 := rfl
  have z_a16 : tab [(("is_integer" : Str), a0), (("is_between" : Str), a1), (("is_move" : Str), a2), (("is_corner" : Str), a3), (("check_corners" : Str), a4), (("SIZES" : Str), a5), (("check_least" : Str), a6), (("check_factors" : Str), a7), (("is_colour" : Str), a8), (("InvalidColour" : Str), a9), (("differences" : Str), a10), (("is_bounded" : Str), a11), (("Unbounded" : Str), a12), (("text_of_sizes" : Str), a13), (("join_of" : Str), a14), (("WORDS" : Str), a15), (("text_of_sum" : Str), a16), (("text_of_move" : Str), a17), (("PLACES" : Str), a18), (("text_of" : Str), a19), (("Shape" : Str), a20), (("InvalidText" : Str), a21), (("least_of_text" : Str), a22), (("number_of" : Str), a23), (("summand_of" : Str), a24), (("sum_of_text" : Str), a25), (("corner_of_text" : Str), a26), (("colour_of_text" : Str), a27), (("InvalidCorners" : Str), a28), (("InvalidLeast" : Str), a29), (("_law_sum" : Str), a30), (("_law_dot_text" : Str), a31), (("_law_figure_text" : Str), a32), (("_law_told" : Str), a33), (("_law_take" : Str), a34), (("_law_dot" : Str), a35), (("_law_alike" : Str), a36), (("_law_tint" : Str), a37), (("_law_cell" : Str), a38), (("_law_right" : Str), a39), (("_law_purse" : Str), a40), (("law" : Str), a41), (("Shape.__init__" : Str), a42), (("Shape.read#" : Str), a43), (("Shape.read" : Str), a44), (("InvalidColour.__init__" : Str), a45), (("InvalidText.__init__" : Str), a46)] "text_of_sum" = a16 := rfl
  have z_a17 : tab [(("is_integer" : Str), a0), (("is_between" : Str), a1), (("is_move" : Str), a2), (("is_corner" : Str), a3), (("check_corners" : Str), a4), (("SIZES" : Str), a5), (("check_least" : Str), a6), (("check_factors" : Str), a7), (("is_colour" : Str), a8), (("InvalidColour" : Str), a9), (("differences" : Str), a10), (("is_bounded" : Str), a11), (("Unbounded" : Str), a12), (("text_of_sizes" : Str), a13), (("join_of" : Str), a14), (("WORDS" : Str), a15), (("text_of_sum" : Str), a16), (("text_of_move" : Str), a17), (("PLACES" : Str), a18), (("text_of" : Str), a19), (("Shape" : Str), a20), (("InvalidText" : Str), a21), (("least_of_text" : Str), a22), (("number_of" : Str), a23), (("summand_of" : Str), a24), (("sum_of_text" : Str), a25), (("corner_of_text" : Str), a26), (("colour_of_text" : Str), a27), (("InvalidCorners" : Str), a28), (("InvalidLeast" : Str), a29), (("_law_sum" : Str), a30), (("_law_dot_text" : Str), a31), (("_law_figure_text" : Str), a32), (("_law_told" : Str), a33), (("_law_take" : Str), a34), (("_law_dot" : Str), a35), (("_law_alike" : Str), a36), (("_law_tint" : Str), a37), (("_law_cell" : Str), a38), (("_law_right" : Str), a39), (("_law_purse" : Str), a40), (("law" : Str), a41), (("Shape.__init__" : Str), a42), (("Shape.read#" : Str), a43), (("Shape.read" : Str), a44), (("InvalidColour.__init__" : Str), a45), (("InvalidText.__init__" : Str), a46)] "text_of_move" = a17 := rfl
  have z_a18 : tab [(("is_integer" : Str), a0), (("is_between" : Str), a1), (("is_move" : Str), a2), (("is_corner" : Str), a3), (("check_corners" : Str), a4), (("SIZES" : Str), a5), (("check_least" : Str), a6), (("check_factors" : Str), a7), (("is_colour" : Str), a8), (("InvalidColour" : Str), a9), (("differences" : Str), a10), (("is_bounded" : Str), a11), (("Unbounded" : Str), a12), (("text_of_sizes" : Str), a13), (("join_of" : Str), a14), (("WORDS" : Str), a15), (("text_of_sum" : Str), a16), (("text_of_move" : Str), a17), (("PLACES" : Str), a18), (("text_of" : Str), a19), (("Shape" : Str), a20), (("InvalidText" : Str), a21), (("least_of_text" : Str), a22), (("number_of" : Str), a23), (("summand_of" : Str), a24), (("sum_of_text" : Str), a25), (("corner_of_text" : Str), a26), (("colour_of_text" : Str), a27), (("InvalidCorners" : Str), a28), (("InvalidLeast" : Str), a29), (("_law_sum" : Str), a30), (("_law_dot_text" : Str), a31), (("_law_figure_text" : Str), a32), (("_law_told" : Str), a33), (("_law_take" : Str), a34), (("_law_dot" : Str), a35), (("_law_alike" : Str), a36), (("_law_tint" : Str), a37), (("_law_cell" : Str), a38), (("_law_right" : Str), a39), (("_law_purse" : Str), a40), (("law" : Str), a41), (("Shape.__init__" : Str), a42), (("Shape.read#" : Str), a43), (("Shape.read" : Str), a44), (("InvalidColour.__init__" : Str), a45), (("InvalidText.__init__" : Str), a46)] "PLACES" = a18 := rfl
  have z_a19 : tab [(("is_integer" : Str), a0), (("is_between" : Str), a1), (("is_move" : Str), a2), (("is_corner" : Str), a3), (("check_corners" : Str), a4), (("SIZES" : Str), a5), (("check_least" : Str), a6), (("check_factors" : Str), a7), (("is_colour" : Str), a8), (("InvalidColour" : Str), a9), (("differences" : Str), a10), (("is_bounded" : Str), a11), (("Unbounded" : Str), a12), (("text_of_sizes" : Str), a13), (("join_of" : Str), a14), (("WORDS" : Str), a15), (("text_of_sum" : Str), a16), (("text_of_move" : Str), a17), (("PLACES" : Str), a18), (("text_of" : Str), a19), (("Shape" : Str), a20), (("InvalidText" : Str), a21), (("least_of_text" : Str), a22), (("number_of" : Str), a23), (("summand_of" : Str), a24), (("sum_of_text" : Str), a25), (("corner_of_text" : Str), a26), (("colour_of_text" : Str), a27), (("InvalidCorners" : Str), a28), (("InvalidLeast" : Str), a29), (("_law_sum" : Str), a30), (("_law_dot_text" : Str), a31), (("_law_figure_text" : Str), a32), (("_law_told" : Str), a33), (("_law_take" : Str), a34), (("_law_dot" : Str), a35), (("_law_alike" : Str), a36), (("_law_tint" : Str), a37), (("_law_cell" : Str), a38), (("_law_right" : Str), a39), (("_law_purse" : Str), a40), (("law" : Str), a41), (("Shape.__init__" : Str), a42), (("Shape.read#" : Str), a43), (("Shape.read" : Str), a44), (("InvalidColour.__init__" : Str), a45), (("InvalidText.__init__" : Str), a46)] "text_of" = a19 := rfl
  have z_a20 : tab [(("is_integer" : Str), a0), (("is_between" : Str), a1), (("is_move" : Str), a2), (("is_corner" : Str), a3), (("check_corners" : Str), a4), (("SIZES" : Str), a5), (("check_least" : Str), a6), (("check_factors" : Str), a7), (("is_colour" : Str), a8), (("InvalidColour" : Str), a9), (("differences" : Str), a10), (("is_bounded" : Str), a11), (("Unbounded" : Str), a12), (("text_of_sizes" : Str), a13), (("join_of" : Str), a14), (("WORDS" : Str), a15), (("text_of_sum" : Str), a16), (("text_of_move" : Str), a17), (("PLACES" : Str), a18), (("text_of" : Str), a19), (("Shape" : Str), a20), (("InvalidText" : Str), a21), (("least_of_text" : Str), a22), (("number_of" : Str), a23), (("summand_of" : Str), a24), (("sum_of_text" : Str), a25), (("corner_of_text" : Str), a26), (("colour_of_text" : Str), a27), (("InvalidCorners" : Str), a28), (("InvalidLeast" : Str), a29), (("_law_sum" : Str), a30), (("_law_dot_text" : Str), a31), (("_law_figure_text" : Str), a32), (("_law_told" : Str), a33), (("_law_take" : Str), a34), (("_law_dot" : Str), a35), (("_law_alike" : Str), a36), (("_law_tint" : Str), a37), (("_law_cell" : Str), a38), (("_law_right" : Str), a39), (("_law_purse" : Str), a40), (("law" : Str), a41), (("Shape.__init__" : Str), a42), (("Shape.read#" : Str), a43), (("Shape.read" : Str), a44), (("InvalidColour.__init__" : Str), a45), (("InvalidText.__init__" : Str), a46)] "Shape" = a20 := rfl
  have z_a21 : tab [(("is_integer" : Str), a0), (("is_between" : Str), a1), (("is_move" : Str), a2), (("is_corner" : Str), a3), (("check_corners" : Str), a4), (("SIZES" : Str), a5), (("check_least" : Str), a6), (("check_factors" : Str), a7), (("is_colour" : Str), a8), (("InvalidColour" : Str), a9), (("differences" : Str), a10), (("is_bounded" : Str), a11), (("Unbounded" : Str), a12), (("text_of_sizes" : Str), a13), (("join_of" : Str), a14), (("WORDS" : Str), a15), (("text_of_sum" : Str), a16), (("text_of_move" : Str), a17), (("PLACES" : Str), a18), (("text_of" : Str), a19), (("Shape" : Str), a20), (("InvalidText" : Str), a21), (("least_of_text" : Str), a22), (("number_of" : Str), a23), (("summand_of" : Str), a24), (("sum_of_text" : Str), a25), (("corner_of_text" : Str), a26), (("colour_of_text" : Str), a27), (("InvalidCorners" : Str), a28), (("InvalidLeast" : Str), a29), (("_law_sum" : Str), a30), (("_law_dot_text" : Str), a31), (("_law_figure_text" : Str), a32), (("_law_told" : Str), a33), (("_law_take" : Str), a34), (("_law_dot" : Str), a35), (("_law_alike" : Str), a36), (("_law_tint" : Str), a37), (("_law_cell" : Str), a38), (("_law_right" : Str), a39), (("_law_purse" : Str), a40), (("law" : Str), a41), (("Shape.__init__" : Str), a42), (("Shape.read#" : Str), a43), (("Shape.read" : Str), a44), (("InvalidColour.__init__" : Str), a45), (("InvalidText.__init__" : Str), a46)] "InvalidText" = a21 := rfl
  have z_a22 : tab [(("is_integer" : Str), a0), (("is_between" : Str), a1), (("is_move" : Str), a2), (("is_corner" : Str), a3), (("check_corners" : Str), a4), (("SIZES" : Str), a5), (("check_least" : Str), a6), (("check_factors" : Str), a7), (("is_colour" : Str), a8), (("InvalidColour" : Str), a9), (("differences" : Str), a10), (("is_bounded" : Str), a11), (("Unbounded" : Str), a12), (("text_of_sizes" : Str), a13), (("join_of" : Str), a14), (("WORDS" : Str), a15), (("text_of_sum" : Str), a16), (("text_of_move" : Str), a17), (("PLACES" : Str), a18), (("text_of" : Str), a19), (("Shape" : Str), a20), (("InvalidText" : Str), a21), (("least_of_text" : Str), a22), (("number_of" : Str), a23), (("summand_of" : Str), a24), (("sum_of_text" : Str), a25), (("corner_of_text" : Str), a26), (("colour_of_text" : Str), a27), (("InvalidCorners" : Str), a28), (("InvalidLeast" : Str), a29), (("_law_sum" : Str), a30), (("_law_dot_text" : Str), a31), (("_law_figure_text" : Str), a32), (("_law_told" : Str), a33), (("_law_take" : Str), a34), (("_law_dot" : Str), a35), (("_law_alike" : Str), a36), (("_law_tint" : Str), a37), (("_law_cell" : Str), a38), (("_law_right" : Str), a39), (("_law_purse" : Str), a40), (("law" : Str), a41), (("Shape.__init__" : Str), a42), (("Shape.read#" : Str), a43), (("Shape.read" : Str), a44), (("InvalidColour.__init__" : Str), a45), (("InvalidText.__init__" : Str), a46)] "least_of_text" = a22 := rfl
  have z_a23 : tab [(("is_integer" : Str), a0), (("is_between" : Str), a1), (("is_move" : Str), a2), (("is_corner" : Str), a3), (("check_corners" : Str), a4), (("SIZES" : Str), a5), (("check_least" : Str), a6), (("check_factors" : Str), a7), (("is_colour" : Str), a8), (("InvalidColour" : Str), a9), (("differences" : Str), a10), (("is_bounded" : Str), a11), (("Unbounded" : Str), a12), (("text_of_sizes" : Str), a13), (("join_of" : Str), a14), (("WORDS" : Str), a15), (("text_of_sum" : Str), a16), (("text_of_move" : Str), a17), (("PLACES" : Str), a18), (("text_of" : Str), a19), (("Shape" : Str), a20), (("InvalidText" : Str), a21), (("least_of_text" : Str), a22), (("number_of" : Str), a23), (("summand_of" : Str), a24), (("sum_of_text" : Str), a25), (("corner_of_text" : Str), a26), (("colour_of_text" : Str), a27), (("InvalidCorners" : Str), a28), (("InvalidLeast" : Str), a29), (("_law_sum" : Str), a30), (("_law_dot_text" : Str), a31), (("_law_figure_text" : Str), a32), (("_law_told" : Str), a33), (("_law_take" : Str), a34), (("_law_dot" : Str), a35), (("_law_alike" : Str), a36), (("_law_tint" : Str), a37), (("_law_cell" : Str), a38), (("_law_right" : Str), a39), (("_law_purse" : Str), a40), (("law" : Str), a41), (("Shape.__init__" : Str), a42), (("Shape.read#" : Str), a43), (("Shape.read" : Str), a44), (("InvalidColour.__init__" : Str), a45), (("InvalidText.__init__" : Str), a46)] "number_of" = a23 := rfl
  have z_a24 : tab [(("is_integer" : Str), a0), (("is_between" : Str), a1), (("is_move" : Str), a2), (("is_corner" : Str), a3), (("check_corners" : Str), a4), (("SIZES" : Str), a5), (("check_least" : Str), a6), (("check_factors" : Str), a7), (("is_colour" : Str), a8), (("InvalidColour" : Str), a9), (("differences" : Str), a10), (("is_bounded" : Str), a11), (("Unbounded" : Str), a12), (("text_of_sizes" : Str), a13), (("join_of" : Str), a14), (("WORDS" : Str), a15), (("text_of_sum" : Str), a16), (("text_of_move" : Str), a17), (("PLACES" : Str), a18), (("text_of" : Str), a19), (("Shape" : Str), a20), (("InvalidText" : Str), a21), (("least_of_text" : Str), a22), (("number_of" : Str), a23), (("summand_of" : Str), a24), (("sum_of_text" : Str), a25), (("corner_of_text" : Str), a26), (("colour_of_text" : Str), a27), (("InvalidCorners" : Str), a28), (("InvalidLeast" : Str), a29), (("_law_sum" : Str), a30), (("_law_dot_text" : Str), a31), (("_law_figure_text" : Str), a32), (("_law_told" : Str), a33), (("_law_take" : Str), a34), (("_law_dot" : Str), a35), (("_law_alike" : Str), a36), (("_law_tint" : Str), a37), (("_law_cell" : Str), a38), (("_law_right" : Str), a39), (("_law_purse" : Str), a40), (("law" : Str), a41), (("Shape.__init__" : Str), a42), (("Shape.read#" : Str), a43), (("Shape.read" : Str), a44), (("InvalidColour.__init__" : Str), a45), (("InvalidText.__init__" : Str), a46)] "summand_of" = a24 := rfl
  have z_a25 : tab [(("is_integer" : Str), a0), (("is_between" : Str), a1), (("is_move" : Str), a2), (("is_corner" : Str), a3), (("check_corners" : Str), a4), (("SIZES" : Str), a5), (("check_least" : Str), a6), (("check_factors" : Str), a7), (("is_colour" : Str), a8), (("InvalidColour" : Str), a9), (("differences" : Str), a10), (("is_bounded" : Str), a11), (("Unbounded" : Str), a12), (("text_of_sizes" : Str), a13), (("join_of" : Str), a14), (("WORDS" : Str), a15), (("text_of_sum" : Str), a16), (("text_of_move" : Str), a17), (("PLACES" : Str), a18), (("text_of" : Str), a19), (("Shape" : Str), a20), (("InvalidText" : Str), a21), (("least_of_text" : Str), a22), (("number_of" : Str), a23), (("summand_of" : Str), a24), (("sum_of_text" : Str), a25), (("corner_of_text" : Str), a26), (("colour_of_text" : Str), a27), (("InvalidCorners" : Str), a28), (("InvalidLeast" : Str), a29), (("_law_sum" : Str), a30), (("_law_dot_text" : Str), a31), (("_law_figure_text" : Str), a32), (("_law_told" : Str), a33), (("_law_take" : Str), a34), (("_law_dot" : Str), a35), (("_law_alike" : Str), a36), (("_law_tint" : Str), a37), (("_law_cell" : Str), a38), (("_law_right" : Str), a39), (("_law_purse" : Str), a40), (("law" : Str), a41), (("Shape.__init__" : Str), a42), (("Shape.read#" : Str), a43), (("Shape.read" : Str), a44), (("InvalidColour.__init__" : Str), a45), (("InvalidText.__init__" : Str), a46)] "sum_of_text" = a25 := rfl
  have z_a26 : tab [(("is_integer" : Str), a0), (("is_between" : Str), a1), (("is_move" : Str), a2), (("is_corner" : Str), a3), (("check_corners" : Str), a4), (("SIZES" : Str), a5), (("check_least" : Str), a6), (("check_factors" : Str), a7), (("is_colour" : Str), a8), (("InvalidColour" : Str), a9), (("differences" : Str), a10), (("is_bounded" : Str), a11), (("Unbounded" : Str), a12), (("text_of_sizes" : Str), a13), (("join_of" : Str), a14), (("WORDS" : Str), a15), (("text_of_sum" : Str), a16), (("text_of_move" : Str), a17), (("PLACES" : Str), a18), (("text_of" : Str), a19), (("Shape" : Str), a20), (("InvalidText" : Str), a21), (("least_of_text" : Str), a22), (("number_of" : Str), a23), (("summand_of" : Str), a24), (("sum_of_text" : Str), a25), (("corner_of_text" : Str), a26), (("colour_of_text" : Str), a27), (("InvalidCorners" : Str), a28), (("InvalidLeast" : Str), a29), (("_law_sum" : Str), a30), (("_law_dot_text" : Str), a31), (("_law_figure_text" : Str), a32), (("_law_told" : Str), a33), (("_law_take" : Str), a34), (("_law_dot" : Str), a35), (("_law_alike" : Str), a36), (("_law_tint" : Str), a37), (("_law_cell" : Str), a38), (("_law_right" : Str), a39), (("_law_purse" : Str), a40), (("law" : Str), a41), (("Shape.__init__" : Str), a42), (("Shape.read#" : Str), a43), (("Shape.read" : Str), a44), (("InvalidColour.__init__" : Str), a45), (("InvalidText.__init__" : Str), a46)] "corner_of_text" = a26 := rfl
  have z_a27 : tab [(("is_integer" : Str), a0), (("is_between" : Str), a1), (("is_move" : Str), a2), (("is_corner" : Str), a3), (("check_corners" : Str), a4), (("SIZES" : Str), a5), (("check_least" : Str), a6), (("check_factors" : Str), a7), (("is_colour" : Str), a8), (("InvalidColour" : Str), a9), (("differences" : Str), a10), (("is_bounded" : Str), a11), (("Unbounded" : Str), a12), (("text_of_sizes" : Str), a13), (("join_of" : Str), a14), (("WORDS" : Str), a15), (("text_of_sum" : Str), a16), (("text_of_move" : Str), a17), (("PLACES" : Str), a18), (("text_of" : Str), a19), (("Shape" : Str), a20), (("InvalidText" : Str), a21), (("least_of_text" : Str), a22), (("number_of" : Str), a23), (("summand_of" : Str), a24), (("sum_of_text" : Str), a25), (("corner_of_text" : Str), a26), (("colour_of_text" : Str), a27), (("InvalidCorners" : Str), a28), (("InvalidLeast" : Str), a29), (("_law_sum" : Str), a30), (("_law_dot_text" : Str), a31), (("_law_figure_text" : Str), a32), (("_law_told" : Str), a33), (("_law_take" : Str), a34), (("_law_dot" : Str), a35), (("_law_alike" : Str), a36), (("_law_tint" : Str), a37), (("_law_cell" : Str), a38), (("_law_right" : Str), a39), (("_law_purse" : Str), a40), (("law" : Str), a41), (("Shape.__init__" : Str), a42), (("Shape.read#" : Str), a43), (("Shape.read" : Str), a44), (("InvalidColour.__init__" : Str), a45), (("InvalidText.__init__" : Str), a46)] "colour_of_text" = a27 := rfl
  have z_a28 : tab [(("is_integer" : Str), a0), (("is_between" : Str), a1), (("is_move" : Str), a2), (("is_corner" : Str), a3), (("check_corners" : Str), a4), (("SIZES" : Str), a5), (("check_least" : Str), a6), (("check_factors" : Str), a7), (("is_colour" : Str), a8), (("InvalidColour" : Str), a9), (("differences" : Str), a10), (("is_bounded" : Str), a11), (("Unbounded" : Str), a12), (("text_of_sizes" : Str), a13), (("join_of" : Str), a14), (("WORDS" : Str), a15), (("text_of_sum" : Str), a16), (("text_of_move" : Str), a17), (("PLACES" : Str), a18), (("text_of" : Str), a19), (("Shape" : Str), a20), (("InvalidText" : Str), a21), (("least_of_text" : Str), a22), (("number_of" : Str), a23), (("summand_of" : Str), a24), (("sum_of_text" : Str), a25), (("corner_of_text" : Str), a26), (("colour_of_text" : Str), a27), (("InvalidCorners" : Str), a28), (("InvalidLeast" : Str), a29), (("_law_sum" : Str), a30), (("_law_dot_text" : Str), a31), (("_law_figure_text" : Str), a32), (("_law_told" : Str), a33), (("_law_take" : Str), a34), (("_law_dot" : Str), a35), (("_law_alike" : Str), a36), (("_law_tint" : Str), a37), (("_law_cell" : Str), a38), (("_law_right" : Str), a39), (("_law_purse" : Str), a40), (("law" : Str), a41), (("Shape.__init__" : Str), a42), (("Shape.read#" : Str), a43), (("Shape.read" : Str), a44), (("InvalidColour.__init__" : Str), a45), (("InvalidText.__init__" : Str), a46)] "InvalidCorners" = a28 := rfl
  have z_a29 : tab [(("is_integer" : Str), a0), (("is_between" : Str), a1), (("is_move" : Str), a2), (("is_corner" : Str), a3), (("check_corners" : Str), a4), (("SIZES" : Str), a5), (("check_least" : Str), a6), (("check_factors" : Str), a7), (("is_colour" : Str), a8), (("InvalidColour" : Str), a9), (("differences" : Str), a10), (("is_bounded" : Str), a11), (("Unbounded" : Str), a12), (("text_of_sizes" : Str), a13), (("join_of" : Str), a14), (("WORDS" : Str), a15), (("text_of_sum" : Str), a16), (("text_of_move" : Str), a17), (("PLACES" : Str), a18), (("text_of" : Str), a19), (("Shape" : Str), a20), (("InvalidText" : Str), a21), (("least_of_text" : Str), a22), (("number_of" : Str), a23), (("summand_of" : Str), a24), (("sum_of_text" : Str), a25), (("corner_of_text" : Str), a26), (("colour_of_text" : Str), a27), (("InvalidCorners" : Str), a28), (("InvalidLeast" : Str), a29), (("_law_sum" : Str), a30), (("_law_dot_text" : Str), a31), (("_law_figure_text" : Str), a32), (("_law_told" : Str), a33), (("_law_take" : Str), a34), (("_law_dot" : Str), a35), (("_law_alike" : Str), a36), (("_law_tint" : Str), a37), (("_law_cell" : Str), a38), (("_law_right" : Str), a39), (("_law_purse" : Str), a40), (("law" : Str), a41), (("Shape.__init__" : Str), a42), (("Shape.read#" : Str), a43), (("Shape.read" : Str), a44), (("InvalidColour.__init__" : Str), a45), (("InvalidText.__init__" : Str), a46)] "InvalidLeast" = a29 := rfl
  have z_a30 : tab [(("is_integer" : Str), a0), (("is_between" : Str), a1), (("is_move" : Str), a2), (("is_corner" : Str), a3), (("check_corners" : Str), a4), (("SIZES" : Str), a5), (("check_least" : Str), a6), (("check_factors" : Str), a7), (("is_colour" : Str), a8), (("InvalidColour" : Str), a9), (("differences" : Str), a10), (("is_bounded" : Str), a11), (("Unbounded" : Str), a12), (("text_of_sizes" : Str), a13), (("join_of" : Str), a14), (("WORDS" : Str), a15), (("text_of_sum" : Str), a16), (("text_of_move" : Str), a17), (("PLACES" : Str), a18), (("text_of" : Str), a19), (("Shape" : Str), a20), (("InvalidText" : Str), a21), (("least_of_text" : Str), a22), (("number_of" : Str), a23), (("summand_of" : Str), a24), (("sum_of_text" : Str), a25), (("corner_of_text" : Str), a26), (("colour_of_text" : Str), a27), (("InvalidCorners" : Str), a28), (("InvalidLeast" : Str), a29), (("_law_sum" : Str), a30), (("_law_dot_text" : Str), a31), (("_law_figure_text" : Str), a32), (("_law_told" : Str), a33), (("_law_take" : Str), a34), (("_law_dot" : Str), a35), (("_law_alike" : Str), a36), (("_law_tint" : Str), a37), (("_law_cell" : Str), a38), (("_law_right" : Str), a39), (("_law_purse" : Str), a40), (("law" : Str), a41), (("Shape.__init__" : Str), a42), (("Shape.read#" : Str), a43), (("Shape.read" : Str), a44), (("InvalidColour.__init__" : Str), a45), (("InvalidText.__init__" : Str), a46)] "_law_sum" = a30 := rfl
  have z_a31 : tab [(("is_integer" : Str), a0), (("is_between" : Str), a1), (("is_move" : Str), a2), (("is_corner" : Str), a3), (("check_corners" : Str), a4), (("SIZES" : Str), a5), (("check_least" : Str), a6), (("check_factors" : Str), a7), (("is_colour" : Str), a8), (("InvalidColour" : Str), a9), (("differences" : Str), a10), (("is_bounded" : Str), a11), (("Unbounded" : Str), a12), (("text_of_sizes" : Str), a13), (("join_of" : Str), a14), (("WORDS" : Str), a15), (("text_of_sum" : Str), a16), (("text_of_move" : Str), a17), (("PLACES" : Str), a18), (("text_of" : Str), a19), (("Shape" : Str), a20), (("InvalidText" : Str), a21), (("least_of_text" : Str), a22), (("number_of" : Str), a23), (("summand_of" : Str), a24), (("sum_of_text" : Str), a25), (("corner_of_text" : Str), a26), (("colour_of_text" : Str), a27), (("InvalidCorners" : Str), a28), (("InvalidLeast" : Str), a29), (("_law_sum" : Str), a30), (("_law_dot_text" : Str), a31), (("_law_figure_text" : Str), a32), (("_law_told" : Str), a33), (("_law_take" : Str), a34), (("_law_dot" : Str), a35), (("_law_alike" : Str), a36), (("_law_tint" : Str), a37), (("_law_cell" : Str), a38), (("_law_right" : Str), a39), (("_law_purse" : Str), a40), (("law" : Str), a41), (("Shape.__init__" : Str), a42), (("Shape.read#" : Str), a43), (("Shape.read" : Str), a44), (("InvalidColour.__init__" : Str), a45), (("InvalidText.__init__" : Str), a46)] "_law_dot_text" = a31 := rfl
  have z_a32 : tab [(("is_integer" : Str), a0), (("is_between" : Str), a1), (("is_move" : Str), a2), (("is_corner" : Str), a3), (("check_corners" : Str), a4), (("SIZES" : Str), a5), (("check_least" : Str), a6), (("check_factors" : Str), a7), (("is_colour" : Str), a8), (("InvalidColour" : Str), a9), (("differences" : Str), a10), (("is_bounded" : Str), a11), (("Unbounded" : Str), a12), (("text_of_sizes" : Str), a13), (("join_of" : Str), a14), (("WORDS" : Str), a15), (("text_of_sum" : Str), a16), (("text_of_move" : Str), a17), (("PLACES" : Str), a18), (("text_of" : Str), a19), (("Shape" : Str), a20), (("InvalidText" : Str), a21), (("least_of_text" : Str), a22), (("number_of" : Str), a23), (("summand_of" : Str), a24), (("sum_of_text" : Str), a25), (("corner_of_text" : Str), a26), (("colour_of_text" : Str), a27), (("InvalidCorners" : Str), a28), (("InvalidLeast" : Str), a29), (("_law_sum" : Str), a30), (("_law_dot_text" : Str), a31), (("_law_figure_text" : Str), a32), (("_law_told" : Str), a33), (("_law_take" : Str), a34), (("_law_dot" : Str), a35), (("_law_alike" : Str), a36), (("_law_tint" : Str), a37), (("_law_cell" : Str), a38), (("_law_right" : Str), a39), (("_law_purse" : Str), a40), (("law" : Str), a41), (("Shape.__init__" : Str), a42), (("Shape.read#" : Str), a43), (("Shape.read" : Str), a44), (("InvalidColour.__init__" : Str), a45), (("InvalidText.__init__" : Str), a46)] "_law_figure_text" = a32 := rfl
  have z_a33 : tab [(("is_integer" : Str), a0), (("is_between" : Str), a1), (("is_move" : Str), a2), (("is_corner" : Str), a3), (("check_corners" : Str), a4), (("SIZES" : Str), a5), (("check_least" : Str), a6), (("check_factors" : Str), a7), (("is_colour" : Str), a8), (("InvalidColour" : Str), a9), (("differences" : Str), a10), (("is_bounded" : Str), a11), (("Unbounded" : Str), a12), (("text_of_sizes" : Str), a13), (("join_of" : Str), a14), (("WORDS" : Str), a15), (("text_of_sum" : Str), a16), (("text_of_move" : Str), a17), (("PLACES" : Str), a18), (("text_of" : Str), a19), (("Shape" : Str), a20), (("InvalidText" : Str), a21), (("least_of_text" : Str), a22), (("number_of" : Str), a23), (("summand_of" : Str), a24), (("sum_of_text" : Str), a25), (("corner_of_text" : Str), a26), (("colour_of_text" : Str), a27), (("InvalidCorners" : Str), a28), (("InvalidLeast" : Str), a29), (("_law_sum" : Str), a30), (("_law_dot_text" : Str), a31), (("_law_figure_text" : Str), a32), (("_law_told" : Str), a33), (("_law_take" : Str), a34), (("_law_dot" : Str), a35), (("_law_alike" : Str), a36), (("_law_tint" : Str), a37), (("_law_cell" : Str), a38), (("_law_right" : Str), a39), (("_law_purse" : Str), a40), (("law" : Str), a41), (("Shape.__init__" : Str), a42), (("Shape.read#" : Str), a43), (("Shape.read" : Str), a44), (("InvalidColour.__init__" : Str), a45), (("InvalidText.__init__" : Str), a46)] "_law_told" = a33 := rfl
  have z_a34 : tab [(("is_integer" : Str), a0), (("is_between" : Str), a1), (("is_move" : Str), a2), (("is_corner" : Str), a3), (("check_corners" : Str), a4), (("SIZES" : Str), a5), (("check_least" : Str), a6), (("check_factors" : Str), a7), (("is_colour" : Str), a8), (("InvalidColour" : Str), a9), (("differences" : Str), a10), (("is_bounded" : Str), a11), (("Unbounded" : Str), a12), (("text_of_sizes" : Str), a13), (("join_of" : Str), a14), (("WORDS" : Str), a15), (("text_of_sum" : Str), a16), (("text_of_move" : Str), a17), (("PLACES" : Str), a18), (("text_of" : Str), a19), (("Shape" : Str), a20), (("InvalidText" : Str), a21), (("least_of_text" : Str), a22), (("number_of" : Str), a23), (("summand_of" : Str), a24), (("sum_of_text" : Str), a25), (("corner_of_text" : Str), a26), (("colour_of_text" : Str), a27), (("InvalidCorners" : Str), a28), (("InvalidLeast" : Str), a29), (("_law_sum" : Str), a30), (("_law_dot_text" : Str), a31), (("_law_figure_text" : Str), a32), (("_law_told" : Str), a33), (("_law_take" : Str), a34), (("_law_dot" : Str), a35), (("_law_alike" : Str), a36), (("_law_tint" : Str), a37), (("_law_cell" : Str), a38), (("_law_right" : Str), a39), (("_law_purse" : Str), a40), (("law" : Str), a41), (("Shape.__init__" : Str), a42), (("Shape.read#" : Str), a43), (("Shape.read" : Str), a44), (("InvalidColour.__init__" : Str), a45), (("InvalidText.__init__" : Str), a46)] "_law_take" = a34 := rfl
  have z_a35 : tab [(("is_integer" : Str), a0), (("is_between" : Str), a1), (("is_move" : Str), a2), (("is_corner" : Str), a3), (("check_corners" : Str), a4), (("SIZES" : Str), a5), (("check_least" : Str), a6), (("check_factors" : Str), a7), (("is_colour" : Str), a8), (("InvalidColour" : Str), a9), (("differences" : Str), a10), (("is_bounded" : Str), a11), (("Unbounded" : Str), a12), (("text_of_sizes" : Str), a13), (("join_of" : Str), a14), (("WORDS" : Str), a15), (("text_of_sum" : Str), a16), (("text_of_move" : Str), a17), (("PLACES" : Str), a18), (("text_of" : Str), a19), (("Shape" : Str), a20), (("InvalidText" : Str), a21), (("least_of_text" : Str), a22), (("number_of" : Str), a23), (("summand_of" : Str), a24), (("sum_of_text" : Str), a25), (("corner_of_text" : Str), a26), (("colour_of_text" : Str), a27), (("InvalidCorners" : Str), a28), (("InvalidLeast" : Str), a29), (("_law_sum" : Str), a30), (("_law_dot_text" : Str), a31), (("_law_figure_text" : Str), a32), (("_law_told" : Str), a33), (("_law_take" : Str), a34), (("_law_dot" : Str), a35), (("_law_alike" : Str), a36), (("_law_tint" : Str), a37), (("_law_cell" : Str), a38), (("_law_right" : Str), a39), (("_law_purse" : Str), a40), (("law" : Str), a41), (("Shape.__init__" : Str), a42), (("Shape.read#" : Str), a43), (("Shape.read" : Str), a44), (("InvalidColour.__init__" : Str), a45), (("InvalidText.__init__" : Str), a46)] "_law_dot" = a35 := rfl
  have z_a36 : tab [(("is_integer" : Str), a0), (("is_between" : Str), a1), (("is_move" : Str), a2), (("is_corner" : Str), a3), (("check_corners" : Str), a4), (("SIZES" : Str), a5), (("check_least" : Str), a6), (("check_factors" : Str), a7), (("is_colour" : Str), a8), (("InvalidColour" : Str), a9), (("differences" : Str), a10), (("is_bounded" : Str), a11), (("Unbounded" : Str), a12), (("text_of_sizes" : Str), a13), (("join_of" : Str), a14), (("WORDS" : Str), a15), (("text_of_sum" : Str), a16), (("text_of_move" : Str), a17), (("PLACES" : Str), a18), (("text_of" : Str), a19), (("Shape" : Str), a20), (("InvalidText" : Str), a21), (("least_of_text" : Str), a22), (("number_of" : Str), a23), (("summand_of" : Str), a24), (("sum_of_text" : Str), a25), (("corner_of_text" : Str), a26), (("colour_of_text" : Str), a27), (("InvalidCorners" : Str), a28), (("InvalidLeast" : Str), a29), (("_law_sum" : Str), a30), (("_law_dot_text" : Str), a31), (("_law_figure_text" : Str), a32), (("_law_told" : Str), a33), (("_law_take" : Str), a34), (("_law_dot" : Str), a35), (("_law_alike" : Str), a36), (("_law_tint" : Str), a37), (("_law_cell" : Str), a38), (("_law_right" : Str), a39), (("_law_purse" : Str), a40), (("law" : Str), a41), (("Shape.__init__" : Str), a42), (("Shape.read#" : Str), a43), (("Shape.read" : Str), a44), (("InvalidColour.__init__" : Str), a45), (("InvalidText.__init__" : Str), a46)] "_law_alike" = a36 := rfl
  have z_a37 : tab [(("is_integer" : Str), a0), (("is_between" : Str), a1), (("is_move" : Str), a2), (("is_corner" : Str), a3), (("check_corners" : Str), a4), (("SIZES" : Str), a5), (("check_least" : Str), a6), (("check_factors" : Str), a7), (("is_colour" : Str), a8), (("InvalidColour" : Str), a9), (("differences" : Str), a10), (("is_bounded" : Str), a11), (("Unbounded" : Str), a12), (("text_of_sizes" : Str), a13), (("join_of" : Str), a14), (("WORDS" : Str), a15), (("text_of_sum" : Str), a16), (("text_of_move" : Str), a17), (("PLACES" : Str), a18), (("text_of" : Str), a19), (("Shape" : Str), a20), (("InvalidText" : Str), a21), (("least_of_text" : Str), a22), (("number_of" : Str), a23), (("summand_of" : Str), a24), (("sum_of_text" : Str), a25), (("corner_of_text" : Str), a26), (("colour_of_text" : Str), a27), (("InvalidCorners" : Str), a28), (("InvalidLeast" : Str), a29), (("_law_sum" : Str), a30), (("_law_dot_text" : Str), a31), (("_law_figure_text" : Str), a32), (("_law_told" : Str), a33), (("_law_take" : Str), a34), (("_law_dot" : Str), a35), (("_law_alike" : Str), a36), (("_law_tint" : Str), a37), (("_law_cell" : Str), a38), (("_law_right" : Str), a39), (("_law_purse" : Str), a40), (("law" : Str), a41), (("Shape.__init__" : Str), a42), (("Shape.read#" : Str), a43), (("Shape.read" : Str), a44), (("InvalidColour.__init__" : Str), a45), (("InvalidText.__init__" : Str), a46)] "_law_tint" = a37 := rfl
  have z_a38 : tab [(("is_integer" : Str), a0), (("is_between" : Str), a1), (("is_move" : Str), a2), (("is_corner" : Str), a3), (("check_corners" : Str), a4), (("SIZES" : Str), a5), (("check_least" : Str), a6), (("check_factors" : Str), a7), (("is_colour" : Str), a8), (("InvalidColour" : Str), a9), (("differences" : Str), a10), (("is_bounded" : Str), a11), (("Unbounded" : Str), a12), (("text_of_sizes" : Str), a13), (("join_of" : Str), a14), (("WORDS" : Str), a15), (("text_of_sum" : Str), a16), (("text_of_move" : Str), a17), (("PLACES" : Str), a18), (("text_of" : Str), a19), (("Shape" : Str), a20), (("InvalidText" : Str), a21), (("least_of_text" : Str), a22), (("number_of" : Str), a23), (("summand_of" : Str), a24), (("sum_of_text" : Str), a25), (("corner_of_text" : Str), a26), (("colour_of_text" : Str), a27), (("InvalidCorners" : Str), a28), (("InvalidLeast" : Str), a29), (("_law_sum" : Str), a30), (("_law_dot_text" : Str), a31), (("_law_figure_text" : Str), a32), (("_law_told" : Str), a33), (("_law_take" : Str), a34), (("_law_dot" : Str), a35), (("_law_alike" : Str), a36), (("_law_tint" : Str), a37), (("_law_cell" : Str), a38), (("_law_right" : Str), a39), (("_law_purse" : Str), a40), (("law" : Str), a41), (("Shape.__init__" : Str), a42), (("Shape.read#" : Str), a43), (("Shape.read" : Str), a44), (("InvalidColour.__init__" : Str), a45), (("InvalidText.__init__" : Str), a46)] "_law_cell" = a38 := rfl
  have z_a39 : tab [(("is_integer" : Str), a0), (("is_between" : Str), a1), (("is_move" : Str), a2), (("is_corner" : Str), a3), (("check_corners" : Str), a4), (("SIZES" : Str), a5), (("check_least" : Str), a6), (("check_factors" : Str), a7), (("is_colour" : Str), a8), (("InvalidColour" : Str), a9), (("differences" : Str), a10), (("is_bounded" : Str), a11), (("Unbounded" : Str), a12), (("text_of_sizes" : Str), a13), (("join_of" : Str), a14), (("WORDS" : Str), a15), (("text_of_sum" : Str), a16), (("text_of_move" : Str), a17), (("PLACES" : Str), a18), (("text_of" : Str), a19), (("Shape" : Str), a20), (("InvalidText" : Str), a21), (("least_of_text" : Str), a22), (("number_of" : Str), a23), (("summand_of" : Str), a24), (("sum_of_text" : Str), a25), (("corner_of_text" : Str), a26), (("colour_of_text" : Str), a27), (("InvalidCorners" : Str), a28), (("InvalidLeast" : Str), a29), (("_law_sum" : Str), a30), (("_law_dot_text" : Str), a31), (("_law_figure_text" : Str), a32), (("_law_told" : Str), a33), (("_law_take" : Str), a34), (("_law_dot" : Str), a35), (("_law_alike" : Str), a36), (("_law_tint" : Str), a37), (("_law_cell" : Str), a38), (("_law_right" : Str), a39), (("_law_purse" : Str), a40), (("law" : Str), a41), (("Shape.__init__" : Str), a42), (("Shape.read#" : Str), a43), (("Shape.read" : Str), a44), (("InvalidColour.__init__" : Str), a45), (("InvalidText.__init__" : Str), a46)] "_law_right" = a39 := rfl
  have z_a40 : tab [(("is_integer" : Str), a0), (("is_between" : Str), a1), (("is_move" : Str), a2), (("is_corner" : Str), a3), (("check_corners" : Str), a4), (("SIZES" : Str), a5), (("check_least" : Str), a6), (("check_factors" : Str), a7), (("is_colour" : Str), a8), (("InvalidColour" : Str), a9), (("differences" : Str), a10), (("is_bounded" : Str), a11), (("Unbounded" : Str), a12), (("text_of_sizes" : Str), a13), (("join_of" : Str), a14), (("WORDS" : Str), a15), (("text_of_sum" : Str), a16), (("text_of_move" : Str), a17), (("PLACES" : Str), a18), (("text_of" : Str), a19), (("Shape" : Str), a20), (("InvalidText" : Str), a21), (("least_of_text" : Str), a22), (("number_of" : Str), a23), (("summand_of" : Str), a24), (("sum_of_text" : Str), a25), (("corner_of_text" : Str), a26), (("colour_of_text" : Str), a27), (("InvalidCorners" : Str), a28), (("InvalidLeast" : Str), a29), (("_law_sum" : Str), a30), (("_law_dot_text" : Str), a31), (("_law_figure_text" : Str), a32), (("_law_told" : Str), a33), (("_law_take" : Str), a34), (("_law_dot" : Str), a35), (("_law_alike" : Str), a36), (("_law_tint" : Str), a37), (("_law_cell" : Str), a38), (("_law_right" : Str), a39), (("_law_purse" : Str), a40), (("law" : Str), a41), (("Shape.__init__" : Str), a42), (("Shape.read#" : Str), a43), (("Shape.read" : Str), a44), (("InvalidColour.__init__" : Str), a45), (("InvalidText.__init__" : Str), a46)] "_law_purse" = a40 := rfl
  have z_a41 : tab [(("is_integer" : Str), a0), (("is_between" : Str), a1), (("is_move" : Str), a2), (("is_corner" : Str), a3), (("check_corners" : Str), a4), (("SIZES" : Str), a5), (("check_least" : Str), a6), (("check_factors" : Str), a7), (("is_colour" : Str), a8), (("InvalidColour" : Str), a9), (("differences" : Str), a10), (("is_bounded" : Str), a11), (("Unbounded" : Str), a12), (("text_of_sizes" : Str), a13), (("join_of" : Str), a14), (("WORDS" : Str), a15), (("text_of_sum" : Str), a16), (("text_of_move" : Str), a17), (("PLACES" : Str), a18), (("text_of" : Str), a19), (("Shape" : Str), a20), (("InvalidText" : Str), a21), (("least_of_text" : Str), a22), (("number_of" : Str), a23), (("summand_of" : Str), a24), (("sum_of_text" : Str), a25), (("corner_of_text" : Str), a26), (("colour_of_text" : Str), a27), (("InvalidCorners" : Str), a28), (("InvalidLeast" : Str), a29), (("_law_sum" : Str), a30), (("_law_dot_text" : Str), a31), (("_law_figure_text" : Str), a32), (("_law_told" : Str), a33), (("_law_take" : Str), a34), (("_law_dot" : Str), a35), (("_law_alike" : Str), a36), (("_law_tint" : Str), a37), (("_law_cell" : Str), a38), (("_law_right" : Str), a39), (("_law_purse" : Str), a40), (("law" : Str), a41), (("Shape.__init__" : Str), a42), (("Shape.read#" : Str), a43), (("Shape.read" : Str), a44), (("InvalidColour.__init__" : Str), a45), (("InvalidText.__init__" : Str), a46)] "law" = a41 := rfl
  have z_a42 : tab [(("is_integer" : Str), a0), (("is_between" : Str), a1), (("is_move" : Str), a2), (("is_corner" : Str), a3), (("check_corners" : Str), a4), (("SIZES" : Str), a5), (("check_least" : Str), a6), (("check_factors" : Str), a7), (("is_colour" : Str), a8), (("InvalidColour" : Str), a9), (("differences" : Str), a10), (("is_bounded" : Str), a11), (("Unbounded" : Str), a12), (("text_of_sizes" : Str), a13), (("join_of" : Str), a14), (("WORDS" : Str), a15), (("text_of_sum" : Str), a16), (("text_of_move" : Str), a17), (("PLACES" : Str), a18), (("text_of" : Str), a19), (("Shape" : Str), a20), (("InvalidText" : Str), a21), (("least_of_text" : Str), a22), (("number_of" : Str), a23), (("summand_of" : Str), a24), (("sum_of_text" : Str), a25), (("corner_of_text" : Str), a26), (("colour_of_text" : Str), a27), (("InvalidCorners" : Str), a28), (("InvalidLeast" : Str), a29), (("_law_sum" : Str), a30), (("_law_dot_text" : Str), a31), (("_law_figure_text" : Str), a32), (("_law_told" : Str), a33), (("_law_take" : Str), a34), (("_law_dot" : Str), a35), (("_law_alike" : Str), a36), (("_law_tint" : Str), a37), (("_law_cell" : Str), a38), (("_law_right" : Str), a39), (("_law_purse" : Str), a40), (("law" : Str), a41), (("Shape.__init__" : Str), a42), (("Shape.read#" : Str), a43), (("Shape.read" : Str), a44), (("InvalidColour.__init__" : Str), a45), (("InvalidText.__init__" : Str), a46)] "Shape.__init__" = a42 := rfl
  have z_a43 : tab [(("is_integer" : Str), a0), (("is_between" : Str), a1), (("is_move" : Str), a2), (("is_corner" : Str), a3), (("check_corners" : Str), a4), (("SIZES" : Str), a5), (("check_least" : Str), a6), (("check_factors" : Str), a7), (("is_colour" : Str), a8), (("InvalidColour" : Str), a9), (("differences" : Str), a10), (("is_bounded" : Str), a11), (("Unbounded" : Str), a12), (("text_of_sizes" : Str), a13), (("join_of" : Str), a14), (("WORDS" : Str), a15), (("text_of_sum" : Str), a16), (("text_of_move" : Str), a17), (("PLACES" : Str), a18), (("text_of" : Str), a19), (("Shape" : Str), a20), (("InvalidText" : Str), a21), (("least_of_text" : Str), a22), (("number_of" : Str), a23), (("summand_of" : Str), a24), (("sum_of_text" : Str), a25), (("corner_of_text" : Str), a26), (("colour_of_text" : Str), a27), (("InvalidCorners" : Str), a28), (("InvalidLeast" : Str), a29), (("_law_sum" : Str), a30), (("_law_dot_text" : Str), a31), (("_law_figure_text" : Str), a32), (("_law_told" : Str), a33), (("_law_take" : Str), a34), (("_law_dot" : Str), a35), (("_law_alike" : Str), a36), (("_law_tint" : Str), a37), (("_law_cell" : Str), a38), (("_law_right" : Str), a39), (("_law_purse" : Str), a40), (("law" : Str), a41), (("Shape.__init__" : Str), a42), (("Shape.read#" : Str), a43), (("Shape.read" : Str), a44), (("InvalidColour.__init__" : Str), a45), (("InvalidText.__init__" : Str), a46)] "Shape.read#" = a43 := rfl
  have z_a44 : tab [(("is_integer" : Str), a0), (("is_between" : Str), a1), (("is_move" : Str), a2), (("is_corner" : Str), a3), (("check_corners" : Str), a4), (("SIZES" : Str), a5), (("check_least" : Str), a6), (("check_factors" : Str), a7), (("is_colour" : Str), a8), (("InvalidColour" : Str), a9), (("differences" : Str), a10), (("is_bounded" : Str), a11), (("Unbounded" : Str), a12), (("text_of_sizes" : Str), a13), (("join_of" : Str), a14), (("WORDS" : Str), a15), (("text_of_sum" : Str), a16), (("text_of_move" : Str), a17), (("PLACES" : Str), a18), (("text_of" : Str), a19), (("Shape" : Str), a20), (("InvalidText" : Str), a21), (("least_of_text" : Str), a22), (("number_of" : Str), a23), (("summand_of" : Str), a24), (("sum_of_text" : Str), a25), (("corner_of_text" : Str), a26), (("colour_of_text" : Str), a27), (("InvalidCorners" : Str), a28), (("InvalidLeast" : Str), a29), (("_law_sum" : Str), a30), (("_law_dot_text" : Str), a31), (("_law_figure_text" : Str), a32), (("_law_told" : Str), a33), (("_law_take" : Str), a34), (("_law_dot" : Str), a35), (("_law_alike" : Str), a36), (("_law_tint" : Str), a37), (("_law_cell" : Str), a38), (("_law_right" : Str), a39), (("_law_purse" : Str), a40), (("law" : Str), a41), (("Shape.__init__" : Str), a42), (("Shape.read#" : Str), a43), (("Shape.read" : Str), a44), (("InvalidColour.__init__" : Str), a45), (("InvalidText.__init__" : Str), a46)] "Shape.read" = a44 := rfl
  have z_a45 : tab [(("is_integer" : Str), a0), (("is_between" : Str), a1), (("is_move" : Str), a2), (("is_corner" : Str), a3), (("check_corners" : Str), a4), (("SIZES" : Str), a5), (("check_least" : Str), a6), (("check_factors" : Str), a7), (("is_colour" : Str), a8), (("InvalidColour" : Str), a9), (("differences" : Str), a10), (("is_bounded" : Str), a11), (("Unbounded" : Str), a12), (("text_of_sizes" : Str), a13), (("join_of" : Str), a14), (("WORDS" : Str), a15), (("text_of_sum" : Str), a16), (("text_of_move" : Str), a17), (("PLACES" : Str), a18), (("text_of" : Str), a19), (("Shape" : Str), a20), (("InvalidText" : Str), a21), (("least_of_text" : Str), a22), (("number_of" : Str), a23), (("summand_of" : Str), a24), (("sum_of_text" : Str), a25), (("corner_of_text" : Str), a26), (("colour_of_text" : Str), a27), (("InvalidCorners" : Str), a28), (("InvalidLeast" : Str), a29), (("_law_sum" : Str), a30), (("_law_dot_text" : Str), a31), (("_law_figure_text" : Str), a32), (("_law_told" : Str), a33), (("_law_take" : Str), a34), (("_law_dot" : Str), a35), (("_law_alike" : Str), a36), (("_law_tint" : Str), a37), (("_law_cell" : Str), a38), (("_law_right" : Str), a39), (("_law_purse" : Str), a40), (("law" : Str), a41), (("Shape.__init__" : Str), a42), (("Shape.read#" : Str), a43), (("Shape.read" : Str), a44), (("InvalidColour.__init__" : Str), a45), (("InvalidText.__init__" : Str), a46)] "InvalidColour.__init__" = a45 := rfl
  have z_a46 : tab [(("is_integer" : Str), a0), (("is_between" : Str), a1), (("is_move" : Str), a2), (("is_corner" : Str), a3), (("check_corners" : Str), a4), (("SIZES" : Str), a5), (("check_least" : Str), a6), (("check_factors" : Str), a7), (("is_colour" : Str), a8), (("InvalidColour" : Str), a9), (("differences" : Str), a10), (("is_bounded" : Str), a11), (("Unbounded" : Str), a12), (("text_of_sizes" : Str), a13), (("join_of" : Str), a14), (("WORDS" : Str), a15), (("text_of_sum" : Str), a16), (("text_of_move" : Str), a17), (("PLACES" : Str), a18), (("text_of" : Str), a19), (("Shape" : Str), a20), (("InvalidText" : Str), a21), (("least_of_text" : Str), a22), (("number_of" : Str), a23), (("summand_of" : Str), a24), (("sum_of_text" : Str), a25), (("corner_of_text" : Str), a26), (("colour_of_text" : Str), a27), (("InvalidCorners" : Str), a28), (("InvalidLeast" : Str), a29), (("_law_sum" : Str), a30), (("_law_dot_text" : Str), a31), (("_law_figure_text" : Str), a32), (("_law_told" : Str), a33), (("_law_take" : Str), a34), (("_law_dot" : Str), a35), (("_law_alike" : Str), a36), (("_law_tint" : Str), a37), (("_law_cell" : Str), a38), (("_law_right" : Str), a39), (("_law_purse" : Str), a40), (("law" : Str), a41), (("Shape.__init__" : Str), a42), (("Shape.read#" : Str), a43), (("Shape.read" : Str), a44), (("InvalidColour.__init__" : Str), a45), (("InvalidText.__init__" : Str), a46)] "InvalidText.__init__" = a46 := rfl
  exact ⟨by rw [z_a20]; exact isi_mk ⟨⟨xpg, xhd, xpo, xsa⟩, xha, xhn, xtk, xhm⟩ xcc xtt xa0 xa1 xa2 xa3 xa4 xa5 xb0 xb1 xb2 xb3 xb4 xb5 xb6,
    PySem.W.mg_none_of X G hn_tuple,
    PySem.W.mg_none_of X G hn_isinstance,
    PySem.W.mg_none_of X G hn_enumerate,
    ⟨_, PySem.W.mg_of X G hc_MOST_CORNERS⟩,
    PySem.W.mg_none_of X G hn_len,
    PySem.W.mg_none_of X G hn_int,
    PySem.W.mg_none_of X G hn_bool,
    by rw [z_a0]; exact PySem.W.mg_of X G hg_is_integer,
    ⟨_, PySem.W.mg_of X G hc_DISTANCE⟩,
    by rw [z_a1]; exact PySem.W.mg_of X G hg_is_between,
    ⟨_, PySem.W.mg_of X G hc_FACTOR⟩,
    by rw [z_a2]; exact PySem.W.mg_of X G hg_is_move,
    by rw [z_a3]; exact PySem.W.mg_of X G hg_is_corner,
    by rw [z_a4]; exact PySem.W.mg_of X G hg_check_corners,
    fun pu => ⟨⟨_, _, _, by show K.lookup (tab [(("is_integer" : Str), a0), (("is_between" : Str), a1), (("is_move" : Str), a2), (("is_corner" : Str), a3), (("check_corners" : Str), a4), (("SIZES" : Str), a5), (("check_least" : Str), a6), (("check_factors" : Str), a7), (("is_colour" : Str), a8), (("InvalidColour" : Str), a9), (("differences" : Str), a10), (("is_bounded" : Str), a11), (("Unbounded" : Str), a12), (("text_of_sizes" : Str), a13), (("join_of" : Str), a14), (("WORDS" : Str), a15), (("text_of_sum" : Str), a16), (("text_of_move" : Str), a17), (("PLACES" : Str), a18), (("text_of" : Str), a19), (("Shape" : Str), a20), (("InvalidText" : Str), a21), (("least_of_text" : Str), a22), (("number_of" : Str), a23), (("summand_of" : Str), a24), (("sum_of_text" : Str), a25), (("corner_of_text" : Str), a26), (("colour_of_text" : Str), a27), (("InvalidCorners" : Str), a28), (("InvalidLeast" : Str), a29), (("_law_sum" : Str), a30), (("_law_dot_text" : Str), a31), (("_law_figure_text" : Str), a32), (("_law_told" : Str), a33), (("_law_take" : Str), a34), (("_law_dot" : Str), a35), (("_law_alike" : Str), a36), (("_law_tint" : Str), a37), (("_law_cell" : Str), a38), (("_law_right" : Str), a39), (("_law_purse" : Str), a40), (("law" : Str), a41), (("Shape.__init__" : Str), a42), (("Shape.read#" : Str), a43), (("Shape.read" : Str), a44), (("InvalidColour.__init__" : Str), a45), (("InvalidText.__init__" : Str), a46)] "SIZES") = _; rw [z_a5]; exact hw_SIZES, rfl, rfl, rfl, (by simp; decide), (by simpa [ws_SIZES] using (by exact (.cons ⟨_, rfl⟩ (.cons ⟨_, rfl⟩ .nil))))⟩⟩,
    by rw [z_a5]; exact PySem.W.mg_of X G hg_SIZES,
    by rw [z_a6]; exact PySem.W.mg_of X G hg_check_least,
    PySem.W.mg_none_of X G hn_range,
    PySem.W.mg_none_of X G hn_any,
    by rw [z_a7]; exact PySem.W.mg_of X G hg_check_factors,
    ⟨_, PySem.W.mg_of X G hc_MOST_COLOURS⟩,
    PySem.W.mg_none_of X G hn_all,
    by rw [z_a8]; exact PySem.W.mg_of X G hg_is_colour,
    by rw [z_a9]; exact PySem.W.mg_of X G hg_InvalidColour,
    def_mk z_a45 hl_InvalidColour___init__ hc_InvalidColour___init__ hk_InvalidColour___init__,
    by rw [z_a9]; exact ⟨⟨_, _, _, _, _, _, _, _, _, _, _, _, _, _, _, yl_InvalidColour, refs_one⟩, ys_InvalidColour, ye_InvalidColour, yt_InvalidColour, yk_InvalidColour⟩,
    by rw [z_a9, z_a45]; exact ⟨hf_InvalidColour___init__, beq_iff_eq.mp hi_InvalidColour___init__, yn_InvalidColour⟩,
    PySem.W.mg_none_of X G hn_zip,
    by rw [z_a10]; exact PySem.W.mg_of X G hg_differences,
    PySem.W.mg_none_of X G hn_abs,
    by rw [z_a11]; exact PySem.W.mg_of X G hg_is_bounded,
    by rw [z_a12]; exact PySem.W.mg_of X G hg_Unbounded,
    by rw [z_a12]; exact ⟨⟨_, _, _, _, PySem.F.excBase_ArithmeticError, zx_Unbounded⟩, zk_Unbounded, zs_Unbounded, zt_Unbounded⟩,
    by rw [z_a20]; exact ⟨xpg, xhd, xpo, xsa⟩,
    by rw [z_a20]; exact hna_Shape_points,
    by rw [z_a20]; exact hna_Shape_starts,
    by rw [z_a20]; exact hna_Shape_dye,
    by rw [z_a13]; exact PySem.W.mg_of X G hg_text_of_sizes,
    fun pu => ⟨⟨_, _, _, by show K.lookup (tab [(("is_integer" : Str), a0), (("is_between" : Str), a1), (("is_move" : Str), a2), (("is_corner" : Str), a3), (("check_corners" : Str), a4), (("SIZES" : Str), a5), (("check_least" : Str), a6), (("check_factors" : Str), a7), (("is_colour" : Str), a8), (("InvalidColour" : Str), a9), (("differences" : Str), a10), (("is_bounded" : Str), a11), (("Unbounded" : Str), a12), (("text_of_sizes" : Str), a13), (("join_of" : Str), a14), (("WORDS" : Str), a15), (("text_of_sum" : Str), a16), (("text_of_move" : Str), a17), (("PLACES" : Str), a18), (("text_of" : Str), a19), (("Shape" : Str), a20), (("InvalidText" : Str), a21), (("least_of_text" : Str), a22), (("number_of" : Str), a23), (("summand_of" : Str), a24), (("sum_of_text" : Str), a25), (("corner_of_text" : Str), a26), (("colour_of_text" : Str), a27), (("InvalidCorners" : Str), a28), (("InvalidLeast" : Str), a29), (("_law_sum" : Str), a30), (("_law_dot_text" : Str), a31), (("_law_figure_text" : Str), a32), (("_law_told" : Str), a33), (("_law_take" : Str), a34), (("_law_dot" : Str), a35), (("_law_alike" : Str), a36), (("_law_tint" : Str), a37), (("_law_cell" : Str), a38), (("_law_right" : Str), a39), (("_law_purse" : Str), a40), (("law" : Str), a41), (("Shape.__init__" : Str), a42), (("Shape.read#" : Str), a43), (("Shape.read" : Str), a44), (("InvalidColour.__init__" : Str), a45), (("InvalidText.__init__" : Str), a46)] "PLACES") = _; rw [z_a18]; exact hw_PLACES, rfl, rfl, rfl, (by simp; decide), (by simpa [ws_PLACES] using (by exact (.cons ⟨_, rfl⟩ (.cons ⟨_, rfl⟩ .nil))))⟩⟩,
    fun pu => ⟨⟨_, _, _, by show K.lookup (tab [(("is_integer" : Str), a0), (("is_between" : Str), a1), (("is_move" : Str), a2), (("is_corner" : Str), a3), (("check_corners" : Str), a4), (("SIZES" : Str), a5), (("check_least" : Str), a6), (("check_factors" : Str), a7), (("is_colour" : Str), a8), (("InvalidColour" : Str), a9), (("differences" : Str), a10), (("is_bounded" : Str), a11), (("Unbounded" : Str), a12), (("text_of_sizes" : Str), a13), (("join_of" : Str), a14), (("WORDS" : Str), a15), (("text_of_sum" : Str), a16), (("text_of_move" : Str), a17), (("PLACES" : Str), a18), (("text_of" : Str), a19), (("Shape" : Str), a20), (("InvalidText" : Str), a21), (("least_of_text" : Str), a22), (("number_of" : Str), a23), (("summand_of" : Str), a24), (("sum_of_text" : Str), a25), (("corner_of_text" : Str), a26), (("colour_of_text" : Str), a27), (("InvalidCorners" : Str), a28), (("InvalidLeast" : Str), a29), (("_law_sum" : Str), a30), (("_law_dot_text" : Str), a31), (("_law_figure_text" : Str), a32), (("_law_told" : Str), a33), (("_law_take" : Str), a34), (("_law_dot" : Str), a35), (("_law_alike" : Str), a36), (("_law_tint" : Str), a37), (("_law_cell" : Str), a38), (("_law_right" : Str), a39), (("_law_purse" : Str), a40), (("law" : Str), a41), (("Shape.__init__" : Str), a42), (("Shape.read#" : Str), a43), (("Shape.read" : Str), a44), (("InvalidColour.__init__" : Str), a45), (("InvalidText.__init__" : Str), a46)] "WORDS") = _; rw [z_a15]; exact hw_WORDS, rfl, rfl, rfl, (by simp; decide), (by simpa [ws_WORDS] using (by exact (.cons ⟨_, rfl⟩ (.cons ⟨_, rfl⟩ (.cons ⟨_, rfl⟩ .nil)))))⟩⟩,
    PySem.W.mg_none_of X G hn_str,
    by rw [z_a14]; exact PySem.W.mg_of X G hg_join_of,
    by rw [z_a15]; exact PySem.W.mg_of X G hg_WORDS,
    by rw [z_a16]; exact PySem.W.mg_of X G hg_text_of_sum,
    by rw [z_a17]; exact PySem.W.mg_of X G hg_text_of_move,
    by rw [z_a18]; exact PySem.W.mg_of X G hg_PLACES,
    by rw [z_a19]; exact PySem.W.mg_of X G hg_text_of,
    by rw [z_a20]; exact hna_Shape_words,
    by rw [z_a20, z_a42]; exact ⟨xmk, hf_Shape___init__, hi_Shape___init__, xkp⟩,
    by rw [z_a20]; exact PySem.W.mg_of X G hg_Shape,
    by rw [z_a21]; exact PySem.W.mg_of X G hg_InvalidText,
    def_mk z_a46 hl_InvalidText___init__ hc_InvalidText___init__ hk_InvalidText___init__,
    by rw [z_a21]; exact ⟨⟨_, _, _, _, _, _, _, _, _, _, _, _, _, _, _, yl_InvalidText, refs_one⟩, ys_InvalidText, ye_InvalidText, yt_InvalidText, yk_InvalidText⟩,
    by rw [z_a21, z_a46]; exact ⟨hf_InvalidText___init__, beq_iff_eq.mp hi_InvalidText___init__, yn_InvalidText⟩,
    by rw [z_a12]; exact exm_of xe_Unbounded xi_Unbounded xt_Unbounded xs_Unbounded__Unbounded,
    by rw [z_a21, z_a12]; exact exm_of xe_Unbounded xi_Unbounded xt_Unbounded xs_InvalidText__Unbounded,
    by rw [z_a22]; exact PySem.W.mg_of X G hg_least_of_text,
    ⟨_, PySem.W.mg_of X G hc_DIGITS⟩,
    by rw [z_a23]; exact PySem.W.mg_of X G hg_number_of,
    by rw [z_a24]; exact PySem.W.mg_of X G hg_summand_of,
    by rw [z_a25]; exact PySem.W.mg_of X G hg_sum_of_text,
    by rw [z_a26]; exact PySem.W.mg_of X G hg_corner_of_text,
    by rw [z_a27]; exact PySem.W.mg_of X G hg_colour_of_text,
    by rw [z_a28]; exact PySem.W.mg_of X G hg_InvalidCorners,
    by rw [z_a29]; exact PySem.W.mg_of X G hg_InvalidLeast,
    by rw [z_a12, z_a9]; exact exm_of ye_InvalidColour xi_InvalidColour yt_InvalidColour xs_Unbounded__InvalidColour,
    by rw [z_a12, z_a29]; exact exm_of xe_InvalidLeast xi_InvalidLeast xt_InvalidLeast xs_Unbounded__InvalidLeast,
    by rw [z_a12, z_a28]; exact exm_of xe_InvalidCorners xi_InvalidCorners xt_InvalidCorners xs_Unbounded__InvalidCorners,
    by rw [z_a30]; exact PySem.W.mg_of X G hg__law_sum,
    by rw [z_a31]; exact PySem.W.mg_of X G hg__law_dot_text,
    by rw [z_a32]; exact PySem.W.mg_of X G hg__law_figure_text,
    by rw [z_a20, z_a43, z_a44]; exact ⟨⟨hs_Shape_read, hu_Shape_read⟩, ⟨hf_Shape_read, ⟨_, hr_Shape_read⟩, hi_Shape_read⟩⟩,
    by rw [z_a21]; exact exm_of ye_InvalidText xi_InvalidText yt_InvalidText xs_InvalidText__InvalidText,
    by rw [z_a12, z_a21]; exact exm_of ye_InvalidText xi_InvalidText yt_InvalidText xs_Unbounded__InvalidText,
    by rw [z_a33]; exact PySem.W.mg_of X G hg__law_told,
    PySem.W.mg_none_of X G hn_repr,
    PySem.W.mg_none_of X G hn_min,
    PySem.W.mg_none_of X G hn_max,
    PySem.W.mg_none_of X G hn_divmod,
    by rw [z_a34]; exact PySem.W.mg_of X G hg__law_take,
    by rw [z_a35]; exact PySem.W.mg_of X G hg__law_dot,
    by rw [z_a36]; exact PySem.W.mg_of X G hg__law_alike,
    by rw [z_a37]; exact PySem.W.mg_of X G hg__law_tint,
    by rw [z_a38]; exact PySem.W.mg_of X G hg__law_cell,
    by rw [z_a39]; exact PySem.W.mg_of X G hg__law_right,
    by rw [z_a40]; exact PySem.W.mg_of X G hg__law_purse,
    def_mk z_a0 hl_is_integer hc_is_integer hk_is_integer,
    def_mk z_a1 hl_is_between hc_is_between hk_is_between,
    def_mk z_a2 hl_is_move hc_is_move hk_is_move,
    def_mk z_a3 hl_is_corner hc_is_corner hk_is_corner,
    def_mk z_a4 hl_check_corners hc_check_corners hk_check_corners,
    def_mk z_a6 hl_check_least hc_check_least hk_check_least,
    def_mk z_a7 hl_check_factors hc_check_factors hk_check_factors,
    def_mk z_a8 hl_is_colour hc_is_colour hk_is_colour,
    def_mk z_a10 hl_differences hc_differences hk_differences,
    def_mk z_a11 hl_is_bounded hc_is_bounded hk_is_bounded,
    def_mk z_a13 hl_text_of_sizes hc_text_of_sizes hk_text_of_sizes,
    def_mk z_a14 hl_join_of hc_join_of hk_join_of,
    def_mk z_a16 hl_text_of_sum hc_text_of_sum hk_text_of_sum,
    def_mk z_a17 hl_text_of_move hc_text_of_move hk_text_of_move,
    def_mk z_a19 hl_text_of hc_text_of hk_text_of,
    def_mkD2 z_a42 hl_Shape___init__ hc_Shape___init__ hk_Shape___init__ ht_Shape___init__ he_Shape___init__,
    def_mk z_a22 hl_least_of_text hc_least_of_text hk_least_of_text,
    def_mk z_a23 hl_number_of hc_number_of hk_number_of,
    def_mk z_a24 hl_summand_of hc_summand_of hk_summand_of,
    def_mk z_a25 hl_sum_of_text hc_sum_of_text hk_sum_of_text,
    def_mk z_a26 hl_corner_of_text hc_corner_of_text hk_corner_of_text,
    def_mk z_a27 hl_colour_of_text hc_colour_of_text hk_colour_of_text,
    def_mk z_a44 hl_Shape_read hc_Shape_read hk_Shape_read,
    def_mk z_a30 hl__law_sum hc__law_sum hk__law_sum,
    def_mk z_a31 hl__law_dot_text hc__law_dot_text hk__law_dot_text,
    def_mk z_a32 hl__law_figure_text hc__law_figure_text hk__law_figure_text,
    def_mk z_a33 hl__law_told hc__law_told hk__law_told,
    def_mk z_a40 hl__law_purse hc__law_purse hk__law_purse,
    def_mk z_a34 hl__law_take hc__law_take hk__law_take,
    def_mk z_a35 hl__law_dot hc__law_dot hk__law_dot,
    def_mk z_a36 hl__law_alike hc__law_alike hk__law_alike,
    def_mk z_a37 hl__law_tint hc__law_tint hk__law_tint,
    def_mk z_a39 hl__law_right hc__law_right hk__law_right,
    def_mk z_a38 hl__law_cell hc__law_cell hk__law_cell,
    def_mk z_a41 hl_law hc_law hk_law,
    by rw [z_a41]; exact PySem.W.mg_of X G hg_law⟩
theorem fin {P : Program} {w : World} {K : PySem.W.Frag} {mg : Str → Option Value} {fa : Addr} {n : Nat} (hmg : mg "law" = some (.ref fa)) (hT : ∃ adr, Tx K mg adr)
    (ht : ∀ ns : List Int, ns.length ≤ n → (∀ z ∈ ns, Builtin.Int.intBits z ≤ 1048576) → ∃ P', f_law [.scr (ns.map .int)] (.pl []) = .ok (.bl true) P') :
    ∃ (fd : FuncData) (adr : Str → Addr), (∀ (s : Shared) (u : Value), BindsTo s fd ⟨[u], []⟩ [("_law_script", u)]) ∧
      (∀ base : Heap, K.In base → base.Ns mainGlobals mg → FnG P w K mg base (L2N.CX P w) 11 fa fd ["_law_script"] (spD K adr 1 f_law)) ∧
      ∀ ns : List Int, ns.length ≤ n → (∀ z ∈ ns, Builtin.Int.intBits z ≤ 1048576) → ∃ P', f_law [.scr (ns.map .int)] (.pl []) = .ok (.bl true) P' := by
  obtain ⟨adr, T⟩ := hT
  have e := hmg.symm.trans T.g_law
  cases e
  obtain ⟨fd, h1, h2⟩ := q_law (P := P) (w := w) T
  exact ⟨fd, adr, h1, fun base _ _ => h2 base, ht⟩

end K13

set_option Elab.async false
set_option linter.all false
set_option maxRecDepth 100000
/-! PE1: plain maths over mirrors: what loops and comprehensions give -/
namespace PD
open PySem PySem.Spec PyProof.Rows L2
theorem log_small {n : Nat} (h : n < 2 ^ 64) : n.log2 ≤ 64 := by
  by_cases z : n = 0
  · subst z; simp
  · have := (Nat.log2_lt z).mpr h
    omega
theorem mulOk_small {i j : Int} (h1 : -9223372036854775808 < i) (h2 : i < 9223372036854775808) (h3 : -9223372036854775808 < j) (h4 : j < 9223372036854775808) : mulOk i j = true := by
  unfold mulOk
  have a1 := log_small (n := i.natAbs) (by omega)
  have a2 := log_small (n := j.natAbs) (by omega)
  simp; omega
/-! ### one test -/
theorem eqD_of {x y : D} {p q : PyData} (h1 : toPy x = some p) (h2 : toPy y = some q) (h3 : SeqAt.shaped p = true) (h4 : SeqAt.shaped q = true) : eqD x y = M.ok (PyData.eqv p q) := by
  unfold eqD; rw [h1, h2]; simp [h3, h4]
theorem dec_beq {α : Type} [DecidableEq α] (i j : α) : (i == j) = decide (i = j) := by
  by_cases h : i = j <;> simp [h]
theorem eqD_int (i j : Int) : eqD (.int i) (.int j) = M.ok (decide (i = j)) := by
  rw [eqD_of (x := .int i) (y := .int j) rfl rfl rfl rfl, PyData.eqv, dec_beq]
theorem neD_int (i j : Int) : neD (.int i) (.int j) = M.ok (!decide (i = j)) := by
  rw [neD, eqD_int]; rfl
theorem sh_str {x : Str} (h : PyData.strOk x = true) : SeqAt.shaped (.str x) = true := by
  simp [SeqAt.shaped, PyData.canLay0, PyData.depth, h]
theorem eqD_str {x y : Str} (h : PyData.strOk x = true) (k : PyData.strOk y = true) : eqD (.str x) (.str y) = M.ok (decide (x = y)) := by
  rw [eqD_of (x := .str x) (y := .str y) rfl rfl (sh_str h) (sh_str k), PyData.eqv, dec_beq]
theorem neD_str {x y : Str} (h : PyData.strOk x = true) (k : PyData.strOk y = true) : neD (.str x) (.str y) = M.ok (!decide (x = y)) := by
  rw [neD, eqD_str h k]; rfl
theorem strOk_app {x y : Str} (h : PyData.strOk x = true) (k : PyData.strOk y = true) : PyData.strOk (x ++ y) = true := by
  unfold PyData.strOk at *
  rw [Str.cps_append, Array.all_append, h, k]; rfl
theorem eqD_pair (a b c d : Int) : eqD (.tup [.int a, .int b]) (.tup [.int c, .int d]) = M.ok (decide (a = c ∧ b = d)) := by
  rw [eqD_of (x := .tup [.int a, .int b]) (y := .tup [.int c, .int d]) rfl rfl rfl rfl]
  by_cases h : a = c <;> by_cases k : b = d <;> simp [PyData.eqv, PyData.eqvAll, dec_beq, h, k]
theorem neD_pair (a b c d : Int) : neD (.tup [.int a, .int b]) (.tup [.int c, .int d]) = M.ok (!decide (a = c ∧ b = d)) := by
  rw [neD, eqD_pair]; rfl
/-! ### comprehensions -/
theorem bindR {α β : Type} {m : M α} {f : α → M β} {P P1 : Pu} {a : α} (h : m P = .ok a P1) : M.bind m f P = f a P1 := by
  unfold M.bind; rw [h]
theorem noexcR {α : Type} {m : M α} {P P1 : Pu} {a : α} (h : m P = .ok a P1) : noexc m P = .ok a P1 := by
  unfold noexc; rw [h]
theorem lcM_map {α : Type} (c g : α → D) {t : D → Ev → Option Ev} {tt : Ev → M Bool} {te : Ev → M D} {env : Ev} {P : Pu} : ∀ {as : List α},
    (∀ a ∈ as, ∃ e1, t (c a) env = some e1 ∧ tt e1 P = .ok true P ∧ te e1 P = .ok (g a) P) → lcM t tt te env (as.map c) P = .ok (as.map g) P
  | [], _ => rfl
  | a :: as, h => by
    obtain ⟨e1, h1, h2, h3⟩ := h a (by simp)
    show M.bind (optM (t (c a) env)) _ P = _
    rw [h1]
    show M.bind (noexc (tt e1)) _ P = _
    rw [bindR (noexcR h2)]
    show M.bind (noexc (te e1)) _ P = _
    rw [bindR (noexcR h3), bindR (lcM_map c g (as := as) fun b hb => h b (by simp [hb]))]
    rfl
theorem lcM_st {I : Pu → Prop} {Q : D → Prop} {t : D → Ev → Option Ev} {tt : Ev → M Bool} {te : Ev → M D} {env : Ev} : ∀ {xs : List D} {P : Pu},
    (∀ x ∈ xs, ∀ P, I P → ∃ e1 d P2, t x env = some e1 ∧ tt e1 P = .ok true P ∧ te e1 P = .ok d P2 ∧ Q d ∧ I P2) → I P → ∃ ys P2, lcM t tt te env xs P = .ok ys P2 ∧ ys.length = xs.length ∧ (∀ y ∈ ys, Q y) ∧ I P2
  | [], P, _, i => ⟨[], P, rfl, rfl, by simp, i⟩
  | x :: xs, P, h, i => by
    obtain ⟨e1, d, P2, h1, h2, h3, q, i2⟩ := h x (by simp) P i
    obtain ⟨ys, P3, h4, l, qs, i3⟩ := lcM_st (xs := xs) (fun b hb => h b (by simp [hb])) i2
    refine ⟨d :: ys, P3, ?_, by simp [l], fun y hy => ?_, i3⟩
    · show M.bind (optM (t x env)) _ P = _
      rw [h1]
      show M.bind (noexc (tt e1)) _ P = _
      rw [bindR (noexcR h2)]
      show M.bind (noexc (te e1)) _ P = _
      rw [bindR (noexcR h3), bindR h4]
      rfl
    · rcases List.mem_cons.mp hy with rfl | hy
      · exact q
      · exact qs y hy
/-! ### loops -/
theorem forM_step {t : D → Ev → Option Ev} {body : Ev → M Out} {x : D} {xs : List D} {env e1 e2 : Ev} {P P1 : Pu} {r : Res Out} (h1 : t x env = some e1) (h2 : body e1 P = .ok (.next e2) P1) (h3 : forM t body xs e2 P1 = r) : forM t body (x :: xs) env P = r := by
  show M.bind (optM (t x env)) _ P = _
  rw [h1]
  show M.bind (body e1) _ P = _
  rw [bindR h2]
  exact h3
theorem forM_inv {I : List D → Ev → Pu → Prop} {t : D → Ev → Option Ev} {body : Ev → M Out} (h : ∀ x xs env P, I (x :: xs) env P → ∃ e1 e2 P2, t x env = some e1 ∧ body e1 P = .ok (.next e2) P2 ∧ I xs e2 P2) :
    ∀ xs env P, I xs env P → ∃ e2 P2, forM t body xs env P = .ok (.next e2) P2 ∧ I [] e2 P2
  | [], env, P, i => ⟨env, P, rfl, i⟩
  | x :: xs, env, P, i => by
    obtain ⟨e1, e2, P2, h1, h2, i2⟩ := h x xs env P i
    obtain ⟨e3, P3, h3, i3⟩ := forM_inv h xs e2 P2 i2
    refine ⟨e3, P3, ?_, i3⟩
    show M.bind (optM (t x env)) _ P = _
    rw [h1]
    show M.bind (body e1) _ P = _
    rw [bindR h2]
    exact h3
theorem forM_each {Inv : Ev → Prop} {Good : D → Prop} {t : D → Ev → Option Ev} {body : Ev → M Out} {P : Pu} {d0 : D} : ∀ {xs : List D} {env : Ev},
    (∀ x ∈ xs, ∀ env, Inv env → ∃ e1, t x env = some e1 ∧ ((∃ e2, body e1 P = .ok (.next e2) P ∧ Inv e2 ∧ Good x) ∨ body e1 P = .ok (.ret d0) P)) → Inv env →
    (∃ e2, forM t body xs env P = .ok (.next e2) P ∧ Inv e2 ∧ ∀ x ∈ xs, Good x) ∨ forM t body xs env P = .ok (.ret d0) P
  | [], env, _, i => .inl ⟨env, rfl, i, by simp⟩
  | x :: xs, env, h, i => by
    obtain ⟨e1, h1, h2⟩ := h x (by simp) env i
    have ex : forM t body (x :: xs) env P = M.bind (body e1) (fun o => match o with
      | .next env2 => forM t body xs env2
      | .cont env2 => forM t body xs env2
      | .brk env2 => M.ok (.next env2)
      | .ret d => M.ok (.ret d)) P := by
      show M.bind (optM (t x env)) _ P = _
      rw [h1]; rfl
    rcases h2 with ⟨e2, h2, i2, g⟩ | h2
    · rw [bindR h2] at ex
      rcases forM_each (xs := xs) (env := e2) (fun b hb => h b (by simp [hb])) i2 with ⟨e3, h3, i3, gs⟩ | h3
      · refine .inl ⟨e3, by rw [ex]; exact h3, i3, fun y hy => ?_⟩
        rcases List.mem_cons.mp hy with rfl | hy
        · exact g
        · exact gs y hy
      · exact .inr (by rw [ex]; exact h3)
    · rw [bindR h2] at ex
      exact .inr ex
theorem forM_nx {Inv : Ev → Prop} {t : D → Ev → Option Ev} {body : Ev → M Out} {P : Pu} : ∀ {xs : List D} {env : Ev},
    (∀ x ∈ xs, ∀ env, Inv env → ∃ e1 e2, t x env = some e1 ∧ body e1 P = .ok (.next e2) P ∧ Inv e2) → Inv env → ∃ e2, forM t body xs env P = .ok (.next e2) P ∧ Inv e2
  | [], env, _, i => ⟨env, rfl, i⟩
  | x :: xs, env, h, i => by
    obtain ⟨e1, e2, h1, h2, i2⟩ := h x (by simp) env i
    obtain ⟨e3, h3, i3⟩ := forM_nx (xs := xs) (env := e2) (fun b hb => h b (by simp [hb])) i2
    refine ⟨e3, ?_, i3⟩
    show M.bind (optM (t x env)) _ P = _
    rw [h1]
    show M.bind (body e1) _ P = _
    rw [bindR h2]
    exact h3
/-! ### a purse -/
def Pp (P : Pu) : Prop := ∃ a b c : Int, P = .pl [a, b, c] ∧ (0 ≤ a ∧ a < 2147483648) ∧ (0 ≤ b ∧ b < 2147483648) ∧ 0 ≤ c
theorem all_map_of {α : Type} {c : α → D} {q : D → Prop} {ok : α → Prop} (hq : ∀ d, q d → ∃ a, d = c a ∧ ok a) : ∀ {ys : List D}, (∀ y ∈ ys, q y) → ∃ as : List α, ys = as.map c ∧ ∀ a ∈ as, ok a
  | [], _ => ⟨[], rfl, by simp⟩
  | y :: ys, h => by
    obtain ⟨a, rfl, h1⟩ := hq y (h y (by simp))
    obtain ⟨as, rfl, h2⟩ := all_map_of hq (ys := ys) fun z hz => h z (by simp [hz])
    refine ⟨a :: as, rfl, fun b hb => ?_⟩
    rcases List.mem_cons.mp hb with rfl | hb
    · exact h1
    · exact h2 b hb
/-! ### runs, one combinator at a time -/
section
variable {env : Ev} {P P1 P2 P3 : Pu} {α β γ : Type}
theorem ev_c {d : D} : mC d env P = .ok d P := rfl
theorem ev_var {i : Nat} {d : D} (h : env[i]? = some (.val d)) : mVar i env P = .ok d P := by unfold mVar; rw [h]; rfl
theorem ev_varR {i : Nat} {d : D} (h : env[i]? = some (.val d)) : mVarR i env P = .ok d P := by unfold mVarR; rw [h]; rfl
theorem ev_varO {i : Nat} {xs : List D} (h : env[i]? = some (.own xs)) : mVarR i env P = .ok (.lst xs) P := by unfold mVarR; rw [h]; rfl
theorem ev_nil : mNil env P = .ok [] P := rfl
theorem ev_cons {m : Ev → M D} {ms : Ev → M (List D)} {x : D} {xs : List D} (h1 : m env P = .ok x P1) (h2 : ms env P1 = .ok xs P2) : mCons m ms env P = .ok (x :: xs) P2 := by
  unfold mCons; rw [bindR h1, bindR h2]; rfl
theorem ev_un {ma : Ev → M α} {f : α → M β} {a : α} {r : Res β} (h1 : ma env P = .ok a P1) (h2 : f a P1 = r) : mUn ma f env P = r := by
  unfold mUn; rw [bindR h1, h2]
theorem ev_bi {ma : Ev → M α} {mb : Ev → M β} {f : α → β → M γ} {a : α} {b : β} {r : Res γ} (h1 : ma env P = .ok a P1) (h2 : mb env P1 = .ok b P2) (h3 : f a b P2 = r) : mBi ma mb f env P = r := by
  unfold mBi; rw [bindR h1, bindR h2, h3]
theorem ev_tup {ms : Ev → M (List D)} {ds : List D} (h1 : ms env P = .ok ds P1) (h2 : ds.length ≤ cap) : mTup ms env P = .ok (.tup ds) P1 := by
  unfold mTup; rw [bindR h1, decide_eq_true h2]; rfl
theorem ev_lst {ms : Ev → M (List D)} {ds : List D} (h1 : ms env P = .ok ds P1) (h2 : ds.length ≤ cap) : mLst ms env P = .ok ds P1 := by
  unfold mLst; rw [bindR h1, decide_eq_true h2]; rfl
theorem ev_fz {m : Ev → M (List D)} {ds : List D} (h1 : m env P = .ok ds P1) : mFz m env P = .ok (.lst ds) P1 := by
  unfold mFz; rw [bindR h1]; rfl
theorem ev_val {m : Ev → M D} {d : D} (h1 : m env P = .ok d P1) : mVal m env P = .ok (.val d) P1 := by
  unfold mVal; rw [bindR h1]; rfl
theorem ev_own {m : Ev → M (List D)} {d : List D} (h1 : m env P = .ok d P1) : mOwn m env P = .ok (.own d) P1 := by
  unfold mOwn; rw [bindR h1]; rfl
theorem ev_seq {m1 m2 : Ev → M Out} {e2 : Ev} {r : Res Out} (h1 : m1 env P = .ok (.next e2) P1) (h2 : m2 e2 P1 = r) : mSeq m1 m2 env P = r := by
  unfold mSeq; rw [bindR h1]; exact h2
theorem ev_seqR {m1 m2 : Ev → M Out} {d : D} (h1 : m1 env P = .ok (.ret d) P1) : mSeq m1 m2 env P = .ok (.ret d) P1 := by
  unfold mSeq; rw [bindR h1]; rfl
theorem ev_set {i : Nat} {m : Ev → M Sl} {s : Sl} (h1 : m env P = .ok s P1) : mSet i m env P = .ok (.next (env.set i s)) P1 := by
  unfold mSet; rw [bindR h1]; rfl
theorem ev_par {i j : Nat} {m1 m2 : Ev → M Sl} {s t : Sl} (h1 : m1 env P = .ok s P1) (h2 : m2 env P1 = .ok t P2) : mPar i j m1 m2 env P = .ok (.next ((env.set i s).set j t)) P2 := by
  unfold mPar; rw [bindR h1, bindR h2]; rfl
theorem ev_ret {m : Ev → M D} {d : D} (h1 : m env P = .ok d P1) : mRet m env P = .ok (.ret d) P1 := by
  unfold mRet; rw [bindR h1]; rfl
theorem ev_drop {m : Ev → M α} {d : α} (h1 : m env P = .ok d P1) : mDrop m env P = .ok (.next env) P1 := by
  unfold mDrop; rw [bindR h1]; rfl
theorem ev_skip : mSkip env P = .ok (.next env) P := rfl
theorem ev_ifT {nc : Ev → M Bool} {m1 m2 : Ev → M Out} {r : Res Out} (h1 : nc env P = .ok true P1) (h2 : m1 env P1 = r) : mIfS nc m1 m2 env P = r := by
  unfold mIfS; rw [bindR h1]; exact h2
theorem ev_ifF {nc : Ev → M Bool} {m1 m2 : Ev → M Out} {r : Res Out} (h1 : nc env P = .ok false P1) (h2 : m2 env P1 = r) : mIfS nc m1 m2 env P = r := by
  unfold mIfS; rw [bindR h1]; exact h2
theorem ev_ifeT {nc : Ev → M Bool} {m1 m2 : Ev → M α} {r : Res α} (h1 : nc env P = .ok true P1) (h2 : m1 env P1 = r) : mIf nc m1 m2 env P = r := by
  unfold mIf; rw [bindR h1]; exact h2
theorem ev_ifeF {nc : Ev → M Bool} {m1 m2 : Ev → M α} {r : Res α} (h1 : nc env P = .ok false P1) (h2 : m2 env P1 = r) : mIf nc m1 m2 env P = r := by
  unfold mIf; rw [bindR h1]; exact h2
theorem ev_not {m : Ev → M Bool} {k : Bool} (h1 : m env P = .ok k P1) : mNot m env P = .ok (!k) P1 := by
  unfold mNot; rw [bindR h1]; rfl
theorem ev_T {m : Ev → M D} {k : Bool} (h1 : m env P = .ok (.bl k) P1) : mT m env P = .ok k P1 := by
  unfold mT; rw [bindR h1]; rfl
theorem ev_andT {m1 m2 : Ev → M Bool} {r : Res Bool} (h1 : m1 env P = .ok true P1) (h2 : m2 env P1 = r) : mAnd m1 m2 env P = r := by
  unfold mAnd; rw [bindR h1]; exact h2
theorem ev_andF {m1 m2 : Ev → M Bool} (h1 : m1 env P = .ok false P1) : mAnd m1 m2 env P = .ok false P1 := by
  unfold mAnd; rw [bindR h1]; rfl
theorem ev_orF {m1 m2 : Ev → M Bool} {r : Res Bool} (h1 : m1 env P = .ok false P1) (h2 : m2 env P1 = r) : mOr m1 m2 env P = r := by
  unfold mOr; rw [bindR h1]; exact h2
theorem ev_orT {m1 m2 : Ev → M Bool} (h1 : m1 env P = .ok true P1) : mOr m1 m2 env P = .ok true P1 := by
  unfold mOr; rw [bindR h1]; rfl
theorem ev_andvT {m1 m2 : Ev → M D} {r : Res D} (h1 : m1 env P = .ok (.bl true) P1) (h2 : m2 env P1 = r) : mAndV m1 m2 env P = r := by
  unfold mAndV; rw [bindR (a := true) (P1 := P1) (by rw [bindR h1]; rfl)]; exact h2
theorem ev_orv {m1 m2 : Ev → M D} {k j : Bool} (h1 : m1 env P = .ok (.bl k) P1) (h2 : m2 env P1 = .ok (.bl j) P1) : mOrV m1 m2 env P = .ok (.bl (k || j)) P1 := by
  unfold mOrV; rw [bindR (a := k) (P1 := P1) (by rw [bindR h1]; rfl)]
  cases k
  · exact h2
  · rfl
theorem ev_opt {o : Option α} {a : α} (h : o = some a) : optM o P = .ok a P := by rw [h]; rfl
theorem ev_lc {own : List Nat} {t : D → Ev → Option Ev} {te : Ev → M D} {mi : Ev → M (List D)} {as : List α} (c g : α → D) (hi : mi env P = .ok (as.map c) P1) (hl : as.length ≤ cap) (h : ∀ a ∈ as, ∃ e1, t (c a) (wipeE env own) = some e1 ∧ te e1 P1 = .ok (g a) P1) :
    mLc own t mTrue te mi env P = .ok (as.map g) P1 := by
  unfold mLc; rw [bindR hi, if_pos (by simpa using hl)]
  refine lcM_map c g fun a ha => ?_
  obtain ⟨e1, h1, h2⟩ := h a ha
  exact ⟨e1, h1, rfl, h2⟩
theorem ev_lcS {I : Pu → Prop} {Q : D → Prop} {own : List Nat} {t : D → Ev → Option Ev} {te : Ev → M D} {mi : Ev → M (List D)} {xs : List D} (hi : mi env P = .ok xs P1) (hl : xs.length ≤ cap) (i : I P1) (h : ∀ x ∈ xs, ∀ P, I P → ∃ e1 d P2, t x (wipeE env own) = some e1 ∧ te e1 P = .ok d P2 ∧ Q d ∧ I P2) :
    ∃ ys P2, mLc own t mTrue te mi env P = .ok ys P2 ∧ ys.length = xs.length ∧ (∀ y ∈ ys, Q y) ∧ I P2 := by
  unfold mLc; rw [bindR hi, if_pos hl]
  refine lcM_st (fun x hx P i => ?_) i
  obtain ⟨e1, d, P2, h1, h2, h3⟩ := h x hx P i
  exact ⟨e1, d, P2, h1, rfl, h2, h3⟩
theorem ev_for {mi : Ev → M (List D)} {t : D → Ev → Option Ev} {body : Ev → M Out} {ds : List D} {r : Res Out} (h1 : mi env P = .ok ds P1) (h2 : forM t body ds env P1 = r) : mFor mi t body env P = r := by
  unfold mFor; rw [bindR h1, h2]
theorem ev_unpk {t : D → Ev → Option Ev} {m : Ev → M D} {d : D} {e2 : Ev} (h1 : m env P = .ok d P1) (h2 : t d env = some e2) : mUnpk t m env P = .ok (.next e2) P1 := by
  unfold mUnpk; rw [bindR h1, h2]; rfl
theorem ev_m {f : D → D → Option α} {ma mb : Ev → M D} {x : Str} {y : D} {a : α} (h1 : ma env P = .ok (.str x) P1) (h2 : mb env P1 = .ok y P2) (h3 : f (.str x) y = some a) : mM1 f ma mb env P = .ok a P2 := by
  unfold mM1; rw [bindR h1]
  show M.bind (mb env) _ P1 = _
  rw [bindR h2, h3]; rfl
theorem ev_fr {i : Nat} {m : Ev → M Out} {xs : List D} {r : Res Out} (h1 : env[i]? = some (.own xs)) (h2 : m (env.set i (.val (.lst xs))) P = r) : mFreeze i m env P = r := by
  unfold mFreeze; rw [h1]; exact h2
theorem ev_frV {i : Nat} {m : Ev → M Out} {d : D} {r : Res Out} (h1 : env[i]? = some (.val d)) (h2 : m env P = r) : mFreeze i m env P = r := by
  unfold mFreeze; rw [h1]; exact h2
theorem ev_setF {cn f : Str} {ma m : Ev → M D} {d : D} {fs gs : List (Str × D)} (h1 : m env P = .ok d P1) (h2 : ma env P1 = .ok .pur (.slf cn fs)) (h3 : fs.length < 1000) (h4 : putD f d fs = gs) : mSetF cn f ma m env P = .ok (.next env) (.slf cn gs) := by
  unfold mSetF
  refine (bindR h1).trans ((bindR h2).trans ?_)
  simp [h3, h4]
theorem ev_make {cn : Str} {mf : List D → M D} {ms : Ev → M (List D)} {ds : List D} {fs : List (Str × D)} (h1 : ms env P = .ok ds P1) (hp : noPurs ds = true) (h2 : mf (.pur :: ds) (.slf cn []) = .ok .non (.slf cn fs)) (hq : noPurF fs = true) : mMake cn mf ms env P = .ok (.obj cn fs) P1 := by
  unfold mMake
  refine (bindR h1).trans ?_
  simp [hp, h2, hq]
theorem ev_makeL {i : Nat} {cn : Str} {mf : List D → M D} {ms : Ev → M (List D)} {ds : List D} {fs : List (Str × D)} (h0 : env[i]? = some (.val (.cls cn))) (h1 : ms env P = .ok ds P1) (hp : noPurs ds = true) (h2 : mf (.pur :: ds) (.slf cn []) = .ok .non (.slf cn fs)) (hq : noPurF fs = true) : mMakeL i cn mf ms env P = .ok (.obj cn fs) P1 := by
  unfold mMakeL
  have e : (env[i]?).bind (clsO cn) = some () := by rw [h0]; simp [clsO]
  rw [e]
  exact ev_make h1 hp h2 hq
theorem ev_cmeth {cn : Str} {mf : List D → M D} {ms : Ev → M (List D)} {ds : List D} {d : D} (h1 : ms env P = .ok ds P1) (h2 : mf (.cls cn :: ds) P1 = .ok d P2) : mCmeth cn mf ms env P = .ok d P2 := by
  unfold mCmeth; rw [bindR h1]
  exact noexcR h2
theorem ev_nox {m : Ev → M Out} {o : Out} (h : m env P = .ok o P1) : mNox m env P = .ok o P1 := noexcR h
theorem ev_D {n : Nat} {m : Ev → M Out} {ds : List D} {d : D} (h : m (PD.envOf n ds) P = .ok (.ret d) P1) : runD n (mNox m) ds P = .ok d P1 := by
  unfold runD mNox; rw [noexcR h]; rfl
theorem ev_DN {n : Nat} {m : Ev → M Out} {ds : List D} {e : Ev} (h : m (PD.envOf n ds) P = .ok (.next e) P1) : runD n (mNox m) ds P = .ok .non P1 := by
  unfold runD mNox; rw [noexcR h]; rfl
theorem bools_map (q : α → Bool) : ∀ as : List α, bools (as.map fun a => .bl (q a)) = some (as.map q)
  | [] => rfl
  | a :: as => by simp [bools, bools_map q as]
theorem ev_all {q : α → Bool} {as : List α} : optM (allO [.lst (as.map fun a => .bl (q a))]) P = .ok (.bl (as.all q)) P := by
  simp [allO, bools_map, optM, M.ok, List.all_map, Function.comp_def]
theorem ev_any {q : α → Bool} {as : List α} : optM (anyO [.lst (as.map fun a => .bl (q a))]) P = .ok (.bl (as.any q)) P := by
  simp [anyO, bools_map, optM, M.ok, List.any_map, Function.comp_def]
theorem ev_meth {cn nm : Str} {mf : List D → M D} {mo : Ev → M D} {ms : Ev → M (List D)} {fs : List (Str × D)} {ds : List D} {d : D} (h1 : mo env P = .ok (.obj cn fs) P1) (hn : fs.lookup nm = none) (h2 : ms env P1 = .ok ds P2) (h3 : mf (.obj cn fs :: ds) P2 = .ok d P3) : mMeth cn nm mf mo ms env P = .ok d P3 := by
  unfold mMeth; rw [bindR h1]
  have : recvO cn nm (.obj cn fs) = some (.obj cn fs) := by simp [recvO, hn]
  rw [this]
  show M.bind (ms env) _ P1 = _
  rw [bindR h2]
  exact noexcR h3
theorem ev_prop {cn : Str} {mf : List D → M D} {mo : Ev → M D} {fs : List (Str × D)} {d : D} (h1 : mo env P = .ok (.obj cn fs) P1) (h3 : mf [.obj cn fs] P1 = .ok d P3) : mProp cn mf mo env P = .ok d P3 := by
  unfold mProp; rw [bindR h1]
  have : objO cn (.obj cn fs) = some (.obj cn fs) := by simp [objO]
  rw [this]
  exact noexcR h3
end
end PD

set_option Elab.async false
set_option linter.all false
set_option maxRecDepth 100000
/-! PE2: plain maths over mirrors: texts as lists of signs -/
namespace PD
open PySem PySem.Spec PyProof.Rows L2 SX TL
abbrev asc (a : List Nat) : Prop := ∀ c ∈ a, c < 128
theorem asc_app {a b : List Nat} (h : asc a) (k : asc b) : asc (a ++ b) := fun c hc => by
  rcases List.mem_append.mp hc with hc | hc
  · exact h c hc
  · exact k c hc
theorem asc_nil : asc [] := fun c hc => by simp at hc
theorem strOk_asc {a : List Nat} (h : asc a) : PyData.strOk (S a) = true := by
  unfold PyData.strOk
  simp only [List.all_toArray, List.all_eq_true, decide_eq_true_eq]
  intro c hc
  have := h c hc
  omega
theorem eqS {a b : List Nat} (h : asc a) (k : asc b) : eqD (.str (S a)) (.str (S b)) = M.ok (decide (a = b)) := by
  rw [eqD_str (strOk_asc h) (strOk_asc k)]
  congr 1
  by_cases e : a = b
  · simp [e]
  · rw [decide_eq_false e, decide_eq_false fun z => e (S_inj z)]
theorem neS {a b : List Nat} (h : asc a) (k : asc b) : neD (.str (S a)) (.str (S b)) = M.ok (!decide (a = b)) := by
  rw [neD, eqS h k]; rfl
theorem addS {a b : List Nat} (h : a.length + b.length ≤ cap) : addD (.str (S a)) (.str (S b)) = M.ok (.str (S (a ++ b))) := by
  show okIf (decide ((S a).length + (S b).length ≤ cap)) (D.str (S a ++ S b)) = _
  rw [S_len, S_len, S_cat, decide_eq_true h]; rfl
theorem numL_asc (n : Nat) : asc (numL n) := fun c hc => by
  have := numL_digits n c hc
  omega
theorem strS {f : Int} (h : f.natAbs < 2 ^ 64) : strO [.int (if f < 0 then -f else f)] = some (.str (S (numL f.natAbs))) := by
  have e : (if f < 0 then -f else f) = ((f.natAbs : Nat) : Int) := by
    by_cases z : f < 0
    · rw [if_pos z]; omega
    · rw [if_neg z]; omega
  rw [e]
  have := log_small h
  simp only [strO, Int.natAbs_natCast]
  rw [if_pos (by omega), num_S]
/-! ### comprehensions with a condition -/
theorem lcM_fil {α : Type} (c g : α → D) (q : α → Bool) {t : D → Ev → Option Ev} {tt : Ev → M Bool} {te : Ev → M D} {env : Ev} {P : Pu} : ∀ {as : List α},
    (∀ a ∈ as, ∃ e1, t (c a) env = some e1 ∧ tt e1 P = .ok (q a) P ∧ te e1 P = .ok (g a) P) → lcM t tt te env (as.map c) P = .ok ((as.filter q).map g) P
  | [], _ => rfl
  | a :: as, h => by
    obtain ⟨e1, h1, h2, h3⟩ := h a (by simp)
    have ih := lcM_fil c g q (as := as) fun b hb => h b (by simp [hb])
    show M.bind (optM (t (c a) env)) _ P = _
    rw [h1]
    show M.bind (noexc (tt e1)) _ P = _
    rw [bindR (noexcR h2)]
    cases e : q a with
    | true =>
      show M.bind (noexc (te e1)) _ P = _
      rw [bindR (noexcR h3), bindR ih, List.filter_cons_of_pos e]
      rfl
    | false =>
      show lcM t tt te env (as.map c) P = _
      rw [ih, List.filter_cons_of_neg (by simp [e])]
theorem ev_lcf {α : Type} {env : Ev} {P P1 : Pu} {own : List Nat} {t : D → Ev → Option Ev} {tt : Ev → M Bool} {te : Ev → M D} {mi : Ev → M (List D)} {as : List α} (c g : α → D) (q : α → Bool) (hi : mi env P = .ok (as.map c) P1) (hl : as.length ≤ cap) (h : ∀ a ∈ as, ∃ e1, t (c a) (wipeE env own) = some e1 ∧ tt e1 P1 = .ok (q a) P1 ∧ te e1 P1 = .ok (g a) P1) :
    mLc own t tt te mi env P = .ok ((as.filter q).map g) P1 := by
  unfold mLc; rw [bindR hi, if_pos (by simpa using hl)]
  exact lcM_fil c g q h
/-- one sign among signs -/
theorem inS {c : Nat} {a : List Nat} : inD (.str (S [c])) (.str (S a)) = M.ok (decide (c ∈ a)) := by
  show optM (some (!(Builtin.Str.occurrences (S a) (S [c]) 0 (S a).length 1).isEmpty)) = _
  rw [in_one]; rfl
theorem seqS (a : List Nat) : seqO (.str (S a)) = some (a.map fun c => .str (S [c])) := rfl
theorem lenS {a : List Nat} (h : a.length ≤ cap) : lenO [.str (S a)] = some (.int (a.length : Nat)) := by
  show (if (S a).length ≤ cap then some (D.int ((S a).length : Nat)) else none) = _
  rw [S_len, if_pos h]
theorem toS {a : List Nat} {i : Int} (h : a.length ≤ cap) (hi : 0 ≤ i) : slO (.str (S a)) none (some i) = some (.str (S (a.take i.toNat))) := by
  show (if (S a).length ≤ cap then some (D.str (cutS (S a) none (some i))) else none) = _
  rw [S_len, if_pos h, C8.cutS_slice, slice_to hi]
theorem fromS {a : List Nat} {i : Int} (h : a.length ≤ cap) (hi : 0 ≤ i) : slO (.str (S a)) (some i) none = some (.str (S (a.drop i.toNat))) := by
  show (if (S a).length ≤ cap then some (D.str (cutS (S a) (some i) none)) else none) = _
  rw [S_len, if_pos h, C8.cutS_slice, slice_from hi]
theorem numL_head : ∀ {n : Nat}, 0 < n → ∀ {c : Nat} {r : List Nat}, numL n = c :: r → c ≠ 48 := fun {n} => by
  induction n using Nat.strongRecOn with
  | ind n ih =>
    intro h c r e
    by_cases k : n < 10
    · rw [numL_lt k] at e
      have : c = 48 + n := (List.cons.inj e).1.symm
      omega
    · rw [numL_step (by omega)] at e
      match hq : numL (n / 10) with
      | [] => exact absurd hq (numL_ne _)
      | d :: q =>
        rw [hq] at e
        have : c = d := (List.cons.inj e).1.symm
        subst this
        exact ih (n / 10) (by omega) (by omega) hq
theorem kS (s : String) (l : List Nat) (h : Str.ofString s = S l) : (D.str (Str.ofString s)) = .str (S l) := by rw [h]
end PD

set_option Elab.async false
set_option linter.all false
set_option maxRecDepth 100000
/-! PE3: plain maths over mirrors: what repr tells, its length and its signs -/
namespace PD
open PySem PySem.Spec PyProof.Rows L2 SX TL PyData
def Fit (s : Str) (n : Nat) : Prop := s.length ≤ n ∧ PyData.strOk s = true
theorem Fit.mono {s : Str} {m n : Nat} (h : Fit s m) (k : m ≤ n) : Fit s n := ⟨Nat.le_trans h.1 k, h.2⟩
theorem fit_app {a b : Str} {m n : Nat} (h : Fit a m) (k : Fit b n) : Fit (a ++ b) (m + n) := ⟨by rw [Str.length_append]; have := h.1; have := k.1; omega, strOk_app h.2 k.2⟩
theorem fit_from {n : Nat} : ∀ (ts : List Str) (k : Nat) (acc : Str) (a : Nat), Fit acc a → (∀ t ∈ ts, Fit t n) → Fit (textFrom k acc ts) (a + ts.length * (n + 2))
  | [], k, acc, a, h, _ => by
    show Fit acc _
    exact h.mono (by omega)
  | t :: r, k, acc, a, h, ht => by
    show Fit (textFrom (k + 1) (acc ++ (if k > 0 then ", " else "" : String) ++ t) r) _
    have h1 : Fit (Str.ofString (if k > 0 then ", " else "" : String)) 2 := by
      by_cases q : k > 0
      · rw [if_pos q]; exact ⟨by decide +kernel, by decide +kernel⟩
      · rw [if_neg q]; exact ⟨by decide +kernel, by decide +kernel⟩
    have h2 := fit_app (fit_app h h1) (ht t (by simp))
    have h3 := fit_from r (k + 1) _ _ h2 fun x hx => ht x (by simp [hx])
    refine h3.mono ?_
    simp only [List.length_cons, Nat.add_mul, Nat.one_mul]
    omega
theorem fit_join {n : Nat} : ∀ (ts : List Str), (∀ t ∈ ts, Fit t n) → Fit (Str.join ", " ts) (ts.length * (n + 2))
  | [], _ => ⟨Nat.zero_le _, by decide +kernel⟩
  | [x], h => (h x (by simp)).mono (by simp)
  | x :: y :: r, h => by
    have h1 := fit_join (y :: r) fun t ht => h t (by simp only [List.mem_cons] at ht ⊢; exact .inr ht)
    have h2 : Fit (Str.ofString ", ") 2 := ⟨by decide +kernel, by decide +kernel⟩
    have h3 := fit_app (fit_app (h x (by simp)) h2) h1
    refine Fit.mono h3 ?_
    simp only [List.length_cons, Nat.add_mul, Nat.one_mul]
    omega
theorem fit_list {ts : List Str} {n : Nat} (h : ∀ t ∈ ts, Fit t n) : Fit (listText ts) (1 + ts.length * (n + 2) + 1) :=
  fit_app (fit_from ts 0 _ 1 ⟨by decide +kernel, by decide +kernel⟩ h) ⟨by decide +kernel, by decide +kernel⟩
theorem fit_tuple {ts : List Str} {n : Nat} (h : ∀ t ∈ ts, Fit t n) : Fit (tupleText ts) (1 + ts.length * (n + 2) + 2) := by
  refine fit_app (fit_app ⟨by decide +kernel, by decide +kernel⟩ (fit_join ts h)) ?_
  by_cases q : (ts.length == 1) = true
  · rw [if_pos q]; exact ⟨by decide +kernel, by decide +kernel⟩
  · rw [if_neg q]; exact ⟨by decide +kernel, by decide +kernel⟩
theorem shown_int30 {i : Int} (h : -30 ≤ i ∧ i ≤ 30) : Fit (PyData.shown (.int i)) 3 := by
  have key : ((List.range 61).all fun (k : Nat) => decide ((Str.ofString (toString ((k : Int) - 30))).length ≤ 3) && PyData.strOk (Str.ofString (toString ((k : Int) - 30)))) = true := by decide +kernel
  have := List.all_eq_true.mp key (i + 30).toNat (by simp; omega)
  rw [show (((i + 30).toNat : Nat) : Int) - 30 = i by omega] at this
  simp only [Bool.and_eq_true, decide_eq_true_eq] at this
  exact this
theorem shownAll_map {α : Type} (f : α → PyData) : ∀ as : List α, PyData.shownAll (as.map f) = as.map fun a => PyData.shown (f a)
  | [] => rfl
  | a :: as => by simp only [List.map_cons, PyData.shownAll, shownAll_map f as]
end PD

set_option Elab.async false
set_option linter.all false
set_option maxRecDepth 100000
/-! PE4: what repr tells of a text -/
namespace PD
open PySem PySem.Spec PyProof.Rows L2 SX TL PyData PySem.Builtin PySem.Builtin.Str
theorem repr_sign : ∀ c, c < 128 → ∀ q, q = 34 ∨ q = 39 → ∀ d ∈ reprChar q c, d < 1114112 := by
  have key : ((List.range 128).all fun c => [34, 39].all fun q => (reprChar q c).all fun d => decide (d < 1114112)) = true := by decide +kernel
  intro c hc q hq d hd
  have h1 := List.all_eq_true.mp key c (List.mem_range.mpr hc)
  have h2 := List.all_eq_true.mp h1 q (by rcases hq with rfl | rfl <;> simp)
  exact of_decide_eq_true (List.all_eq_true.mp h2 d hd)
theorem repr_quote (x : Str) : reprQuote x = 34 ∨ reprQuote x = 39 := by
  unfold reprQuote
  split <;> simp
theorem foldl_repr_mem (q : Nat) : ∀ (l : List Nat) (acc : Array Nat), (∀ d ∈ acc, d < 1114112) → (∀ c ∈ l, ∀ d ∈ reprChar q c, d < 1114112) → ∀ d ∈ l.foldl (fun out c => out ++ (reprChar q c).toArray) acc, d < 1114112
  | [], acc, h, _ => h
  | c :: r, acc, h, k => by
    simp only [List.foldl_cons]
    refine foldl_repr_mem q r _ (fun d hd => ?_) fun x hx => k x (by simp [hx])
    rcases Array.mem_append.mp hd with hd | hd
    · exact h d hd
    · exact k c (by simp) d (by simpa using hd)
theorem fit_text {a : List Nat} (h : asc a) : Fit (reprText (S a)) (10 * a.length + 2) := by
  refine ⟨?_, ?_⟩
  · have := StrLaws.reprText_len (S a) (fun c hc => by have := h c hc; omega)
    rw [S_len] at this
    exact this
  · unfold PyData.strOk
    rw [Array.all_eq_true']
    intro d hd
    unfold reprText at hd
    simp only [Array.mem_push] at hd
    have hq := repr_quote (S a)
    rcases hd with hd | hd
    · rw [← Array.foldl_toList] at hd
      refine decide_eq_true (foldl_repr_mem (reprQuote (S a)) a #[reprQuote (S a)] (fun x hx => ?_) (fun c hc x hx => repr_sign c (h c hc) _ hq x hx) d hd)
      have : x = reprQuote (S a) := by simpa using hx
      omega
    · refine decide_eq_true ?_
      omega
/-- d can be shown, with at most n signs -/
structure Shw (d : D) (n k : Nat) : Prop where
  ex : ∃ p, toPy d = some p ∧ p.showable = true ∧ p.hasDict = false ∧ p.depth ≤ k ∧ Fit p.shown n
theorem Shw.mono {d : D} {n k n' k' : Nat} (h : Shw d n k) (hn : n ≤ n') (hk : k ≤ k') : Shw d n' k' := by
  obtain ⟨p, a, b, c, e, f⟩ := h.ex
  exact ⟨p, a, b, c, Nat.le_trans e hk, f.mono hn⟩
theorem shw_non : Shw .non 4 0 := ⟨.none, rfl, rfl, rfl, Nat.le_refl _, by decide +kernel, by decide +kernel⟩
theorem shw_bl (b : Bool) : Shw (.bl b) 5 0 := ⟨.bool b, rfl, rfl, rfl, Nat.le_refl _, by cases b <;> decide +kernel, by cases b <;> decide +kernel⟩
theorem shw_str {a : List Nat} (h : asc a) : Shw (.str (S a)) (10 * a.length + 2) 0 := ⟨.str (S a), rfl, rfl, rfl, Nat.le_refl _, fit_text h⟩
theorem tl_int (i : Int) : tl (Str.ofString (toString i)) = (if i < 0 then [45] else []) ++ numL i.natAbs := by
  cases i with
  | ofNat n =>
    have := TL.tl_num n
    rw [if_neg (by show ¬ ((n : Nat) : Int) < 0; omega)]
    exact this
  | negSucc n =>
    have e : toString (Int.negSucc n) = "-" ++ toString (n + 1) := rfl
    rw [e, TL.tl_ofString, String.toList_append, List.map_append]
    have h2 := TL.tl_num (n + 1)
    rw [TL.tl_ofString] at h2
    have e2 : toString (((n + 1 : Nat)) : Int) = toString (n + 1) := rfl
    rw [e2] at h2
    rw [h2, if_pos (by omega)]
    have e3 : List.map Char.toNat "-".toList = [45] := by decide +kernel
    rw [e3]
    rfl
theorem shw_int {i : Int} (h : i.natAbs < 10 ^ 60) : Shw (.int i) 61 0 := by
  have e : Str.ofString (toString i) = S ((if i < 0 then [45] else []) ++ numL i.natAbs) := TL.ext_tl (tl_int i)
  have a1 : asc ((if i < 0 then [45] else []) ++ numL i.natAbs) := asc_app (by
    by_cases k : i < 0
    · rw [if_pos k]; decide
    · rw [if_neg k]; exact asc_nil) (numL_asc _)
  have l1 : (if i < 0 then [45] else ([] : List Nat)).length ≤ 1 := by by_cases k : i < 0 <;> simp [k]
  have l2 := numL_len (n := i.natAbs) (k := 60) (by decide) h
  refine ⟨.int i, rfl, ?_, rfl, Nat.le_refl _, ?_⟩
  · refine decide_eq_true ?_
    by_cases z : i.natAbs = 0
    · rw [z]; decide
    · have : i.natAbs < 2 ^ 200 := Nat.lt_of_lt_of_le h (by decide)
      have := (Nat.log2_lt z).mpr this
      omega
  · show Fit (Str.ofString (toString i)) 61
    rw [e]
    exact ⟨by rw [S_len, List.length_append]; omega, strOk_asc a1⟩
theorem shw_all {n k : Nat} : ∀ {ds : List D}, (∀ d ∈ ds, Shw d n k) → ∃ ps, toPys ds = some ps ∧ PyData.showableAll ps = true ∧ PyData.hasDictAll ps = false ∧ PyData.depthAll ps ≤ k ∧ (∀ t ∈ PyData.shownAll ps, Fit t n) ∧ (PyData.shownAll ps).length = ds.length
  | [], _ => ⟨[], rfl, rfl, rfl, Nat.zero_le _, fun t ht => by simp [PyData.shownAll] at ht, rfl⟩
  | d :: ds, h => by
    obtain ⟨p, a, b, c, e, f⟩ := (h d (by simp)).ex
    obtain ⟨ps, a2, b2, c2, e2, f2, l2⟩ := shw_all (ds := ds) fun x hx => h x (by simp [hx])
    refine ⟨p :: ps, by simp only [toPys, a, a2], ?_, ?_, ?_, fun t ht => ?_, ?_⟩
    · show (p.showable && PyData.showableAll ps) = true
      rw [b, b2]; rfl
    · show (p.hasDict || PyData.hasDictAll ps) = false
      rw [c, c2]; rfl
    · show max p.depth (PyData.depthAll ps) ≤ k
      omega
    · have ht : t ∈ p.shown :: PyData.shownAll ps := ht
      rcases List.mem_cons.mp ht with rfl | ht
      · exact f
      · exact f2 t ht
    · show (PyData.shownAll ps).length + 1 = _
      rw [l2]; rfl
theorem shw_tup {ds : List D} {n k : Nat} (h : ∀ d ∈ ds, Shw d n k) : Shw (.tup ds) (1 + ds.length * (n + 2) + 2) (k + 1) := by
  obtain ⟨ps, a, b, c, e, f, l⟩ := shw_all h
  refine ⟨.tuple ps, by simp only [toPy, a, Option.map], b, c, Nat.add_le_add_right e 1, ?_⟩
  have := fit_tuple f
  rw [l] at this
  exact this
theorem shw_lst {ds : List D} {n k : Nat} (h : ∀ d ∈ ds, Shw d n k) : Shw (.lst ds) (1 + ds.length * (n + 2) + 1) (k + 1) := by
  obtain ⟨ps, a, b, c, e, f, l⟩ := shw_all h
  refine ⟨.list ps, by simp only [toPy, a, Option.map], b, c, Nat.add_le_add_right e 1, ?_⟩
  have := fit_list f
  rw [l] at this
  exact this
theorem repr_of {d : D} {n k : Nat} (h : Shw d n k) (hb : boxD d = true) (hk : k ≤ 40) (hn : n ≤ cap) : ∃ s, reprO [d] = some (.str s) ∧ PyData.strOk s = true := by
  obtain ⟨p, a, b, c, e, f⟩ := h.ex
  refine ⟨p.shown, ?_, f.2⟩
  unfold reprO
  simp only [a, b, c, hb, decide_eq_true (Nat.le_trans e hk), decide_eq_true (Nat.le_trans f.1 hn)]
  rfl
end PD

set_option Elab.async false
set_option linter.all false
set_option maxRecDepth 100000
/-! PE5: runs of the newer combinators -/
namespace PD
open PySem PySem.Spec PyProof.Rows L2 SX TL
section
variable {env : Ev} {P P1 P2 P3 : Pu} {α β γ : Type}
theorem ev_methK {cn nm : Str} {is : List Nat} {mf : List D → M D} {mo : Ev → M D} {ms : Ev → M (List D)} {fs : List (Str × D)} {ds es : List D} {d : D} (h1 : mo env P = .ok (.obj cn fs) P1) (hn : fs.lookup nm = none) (h2 : ms env P1 = .ok ds P2) (hp : pick is ds = es) (hl : es.length = is.length ∧ ds.length = is.length) (h3 : mf (.obj cn fs :: es) P2 = .ok d P3) : mMethK cn nm is mf mo ms env P = .ok d P3 := by
  unfold mMethK; rw [bindR h1]
  have : recvO cn nm (.obj cn fs) = some (.obj cn fs) := by simp [recvO, hn]
  rw [this]
  show M.bind (ms env) _ P1 = _
  rw [bindR h2, hp, if_pos hl]
  exact noexcR h3
theorem ev_cmethK {cn : Str} {is : List Nat} {mf : List D → M D} {ms : Ev → M (List D)} {ds es : List D} {d : D} (h2 : ms env P = .ok ds P1) (hp : pick is ds = es) (hl : es.length = is.length ∧ ds.length = is.length) (h3 : mf (.cls cn :: es) P1 = .ok d P2) : mCmethK cn is mf ms env P = .ok d P2 := by
  unfold mCmethK; rw [bindR h2, hp, if_pos hl]
  exact noexcR h3
theorem ev_strOwn {cn : Str} {mf : List D → M D} {fs : List (Str × D)} {x : Str} (h : mf [.obj cn fs] P = .ok (.str x) P1) : strOwn cn mf [.obj cn fs] P = .ok (.str x) P1 := by
  have e : objO cn (.obj cn fs) = some (.obj cn fs) := by simp [objO]
  show M.bind (optM (objO cn (.obj cn fs))) _ P = _
  rw [e]
  exact noexcR (bindR h)
theorem ev_ne {cn : Str} {mf : List D → M D} {x y : D} {b : Bool} (h : eqOwn cn mf x y P = .ok b P1) : neOwn cn mf x y P = .ok (!b) P1 := by
  unfold neOwn; rw [bindR h]; rfl
theorem all_true {ys : List D} (h : ∀ y ∈ ys, y = .bl true) : optM (allO [.lst ys]) P = .ok (.bl true) P := by
  obtain ⟨as, rfl, _⟩ := all_map_of (α := Unit) (c := fun _ => D.bl true) (ok := fun _ => True) (q := fun d => d = .bl true) (fun d h => ⟨(), h, trivial⟩) h
  refine ev_all.trans ?_
  simp
end
end PD

set_option Elab.async false
set_option linter.all false
set_option maxRecDepth 100000
/-! PE6: runs that raise, and runs that catch -/
namespace PD
open PySem PySem.Spec PyProof.Rows L2 SX TL
section
variable {env : Ev} {P P1 P2 P3 : Pu} {α β γ : Type}
theorem bindX {m : M α} {f : α → M β} {x : D} (h : m P = .exc x P1) : M.bind m f P = .exc x P1 := by
  unfold M.bind; rw [h]
theorem ev_nx {m : Ev → M α} {a : α} (h : m env P = .ok a P1) : nx m env P = .ok a P1 := noexcR h
theorem ex_seq {m1 m2 : Ev → M Out} {x : D} (h : m1 env P = .exc x P1) : mSeq m1 m2 env P = .exc x P1 := bindX h
theorem ex_drop {m : Ev → M α} {x : D} (h : m env P = .exc x P1) : mDrop m env P = .exc x P1 := bindX h
theorem ex_set {i : Nat} {m : Ev → M Sl} {x : D} (h : m env P = .exc x P1) : mSet i m env P = .exc x P1 := bindX h
theorem ex_val {m : Ev → M D} {x : D} (h : m env P = .exc x P1) : mVal m env P = .exc x P1 := bindX h
theorem ex_ret {m : Ev → M D} {x : D} (h : m env P = .exc x P1) : mRet m env P = .exc x P1 := bindX h
theorem ex_tup {ms : Ev → M (List D)} {x : D} (h : ms env P = .exc x P1) : mTup ms env P = .exc x P1 := bindX h
theorem ex_cons1 {m : Ev → M D} {ms : Ev → M (List D)} {x : D} (h : m env P = .exc x P1) : mCons m ms env P = .exc x P1 := bindX h
theorem ex_cons2 {m : Ev → M D} {ms : Ev → M (List D)} {x d : D} (h0 : m env P = .ok d P1) (h : ms env P1 = .exc x P2) : mCons m ms env P = .exc x P2 := by
  unfold mCons; rw [bindR h0]; exact bindX h
theorem ev_raise1 {c f : Str} {m : Ev → M D} {d : D} (h : m env P = .ok d P1) : mRaise1 c f m env P = .exc (.exc c [(f, d)]) P1 := by
  unfold mRaise1; rw [bindR h]; rfl
theorem ev_XR {n : Nat} {m : Ev → M Out} {ds : List D} {d : D} (h : m (PD.envOf n ds) P = .ok (.ret d) P1) : runD n m ds P = .ok d P1 := by
  unfold runD; rw [h]; rfl
theorem ev_XN {n : Nat} {m : Ev → M Out} {ds : List D} {e : Ev} (h : m (PD.envOf n ds) P = .ok (.next e) P1) : runD n m ds P = .ok .non P1 := by
  unfold runD; rw [h]; rfl
theorem ev_XE {n : Nat} {m : Ev → M Out} {ds : List D} {x : D} (h : m (PD.envOf n ds) P = .exc x P1) : runD n m ds P = .exc x P1 := by
  unfold runD; rw [h]; rfl
theorem ev_methX {cn nm : Str} {mf : List D → M D} {mo : Ev → M D} {ms : Ev → M (List D)} {fs : List (Str × D)} {ds : List D} {r : Res D} (h1 : mo env P = .ok (.obj cn fs) P1) (hn : fs.lookup nm = none) (h2 : ms env P1 = .ok ds P2) (h3 : mf (.obj cn fs :: ds) P2 = r) : mMethX cn nm mf mo ms env P = r := by
  unfold mMethX; rw [bindR h1]
  have : recvO cn nm (.obj cn fs) = some (.obj cn fs) := by simp [recvO, hn]
  rw [this]
  show M.bind (ms env) _ P1 = _
  rw [bindR h2]
  exact h3
theorem ev_methKX {cn nm : Str} {is : List Nat} {mf : List D → M D} {mo : Ev → M D} {ms : Ev → M (List D)} {fs : List (Str × D)} {ds es : List D} {r : Res D} (h1 : mo env P = .ok (.obj cn fs) P1) (hn : fs.lookup nm = none) (h2 : ms env P1 = .ok ds P2) (hp : pick is ds = es) (hl : es.length = is.length ∧ ds.length = is.length) (h3 : mf (.obj cn fs :: es) P2 = r) : mMethKX cn nm is mf mo ms env P = r := by
  unfold mMethKX; rw [bindR h1]
  have : recvO cn nm (.obj cn fs) = some (.obj cn fs) := by simp [recvO, hn]
  rw [this]
  show M.bind (ms env) _ P1 = _
  rw [bindR h2, hp, if_pos hl]
  exact h3
theorem ev_try {cs : List Str} {f w : Str} {i ix : Nat} {mb : Ev → M Out} {o : Out} (h : mb env P = .ok o P1) : mTryT cs f w i ix mb env P = .ok o P1 := by
  unfold mTryT; rw [h]
theorem ev_tryX {cs : List Str} {f w c : Str} {i ix : Nat} {mb : Ev → M Out} {fs : List (Str × D)} {d : D} (h : mb env P = .exc (.exc c fs) P1) (h1 : cs.contains c = true) (h2 : env[i]? = some .no) (h3 : i ≠ ix) (h4 : fs.lookup f = some d) : mTryT cs f w i ix mb env P = .ok (.next (env.set ix (.val (.tup [.str w, d])))) P1 := by
  unfold mTryT; rw [h]
  have h5 : isNo env[i]? = true := by rw [h2]; rfl
  show (if cs.contains c = true ∧ isNo env[i]? = true ∧ i ≠ ix then _ else _) = _
  rw [if_pos ⟨h1, h5, h3⟩, h4]
theorem ix_list {xs : List D} {v : Int} (h : 0 ≤ v ∧ v < xs.length) : ∃ d ∈ xs, ixO (.lst xs) (.int v) = some d := by
  have hv : v.toNat < xs.length := by omega
  refine ⟨xs[v.toNat], List.getElem_mem hv, ?_⟩
  show atI xs v = _
  unfold atI ixN
  rw [if_pos h.1, if_pos h.2]
  simp [List.getElem?_eq_getElem hv]
/-- repr tells something of it, in plain signs -/
def Rp (d : D) : Prop := ∃ s, reprX [d] = some (.str s) ∧ PyData.strOk s = true
theorem rp_of {d : D} {n k : Nat} (h : Shw d n k) (hb : boxD d = true) (hk : k ≤ 40) (hn : n ≤ cap) : Rp d := by
  obtain ⟨s, h1, h2⟩ := repr_of h hb hk hn
  exact ⟨s, by unfold reprX; rw [h1], h2⟩
theorem ne_repr {d : D} (h : Rp d) {ma mb : Ev → M (List D)} (h1 : ma env P = .ok [d] P1) (h2 : mb env P1 = .ok [d] P2) : (mBi (mUn ma fun ds => optM (reprX ds)) (mUn mb fun ds => optM (reprX ds)) neD) env P = .ok false P2 := by
  obtain ⟨s, r, so⟩ := h
  refine ev_bi (ev_un h1 (ev_opt r)) (ev_un h2 (ev_opt r)) ?_
  rw [neD_str so so]; simp [M.ok]
end
end PD

set_option Elab.async false
set_option linter.all false
set_option maxRecDepth 100000
/-! PE7: cones of directions with numbers up to 2. -/
namespace PD
abbrev V2 := Int × Int
def dt (l v : V2) : Int := l.1 * v.1 + l.2 * v.2
def rays : List V2 := [(1, 0), (2, 1), (1, 1), (1, 2), (0, 1), (-1, 2), (-1, 1), (-2, 1), (-1, 0), (-2, -1), (-1, -1), (-1, -2), (0, -1), (1, -2), (1, -1), (2, -1)]
def ray (i : Nat) : V2 := rays.getD i (0, 0)
def smalls : List V2 := [(-2, -2), (-2, -1), (-2, 0), (-2, 1), (-2, 2), (-1, -2), (-1, -1), (-1, 0), (-1, 1), (-1, 2), (0, -2), (0, -1), (0, 1), (0, 2), (1, -2), (1, -1), (1, 0), (1, 1), (1, 2), (2, -2), (2, -1), (2, 0), (2, 1), (2, 2)]
def Sm (l : V2) : Prop := (-2 ≤ l.1 ∧ l.1 ≤ 2) ∧ (-2 ≤ l.2 ∧ l.2 ≤ 2) ∧ (l.1 ≠ 0 ∨ l.2 ≠ 0)
theorem five {a : Int} (h : -2 ≤ a ∧ a ≤ 2) : a = -2 ∨ a = -1 ∨ a = 0 ∨ a = 1 ∨ a = 2 := by omega
theorem mem_smalls {l : V2} (h : Sm l) : l ∈ smalls := by
  obtain ⟨a, b⟩ := l
  obtain ⟨h1, h2, h3⟩ := h
  rcases five h1 with rfl | rfl | rfl | rfl | rfl <;> rcases five h2 with rfl | rfl | rfl | rfl | rfl <;> first | decide | simp at h3
def neg2 (v : V2) : V2 := (-v.1, -v.2)
def dbl (v : V2) : V2 := (2 * v.1, 2 * v.2)
theorem chk1 : ((List.range 16).all fun i => smalls.all fun l => decide (0 ≤ dt l (ray i) → dt l (ray ((i + 1) % 16)) < 0 → dt l (ray i) = 0)) = true := by decide +kernel
theorem chk2 : ((List.range 16).all fun i => smalls.all fun l => decide (dt l (ray i) = 0 → (l.2, -l.1) = ray i ∨ (l.2, -l.1) = dbl (ray i) ∨ (-l.2, l.1) = ray i ∨ (-l.2, l.1) = dbl (ray i))) = true := by decide +kernel
theorem chk3 : ((List.range 16).all fun i => decide (ray ((i + 8) % 16) = neg2 (ray i))) = true := by decide +kernel
theorem all2 {p : Nat → V2 → Bool} (h : ((List.range 16).all fun i => smalls.all fun l => p i l) = true) {i : Nat} (hi : i < 16) {l : V2} (hl : Sm l) : p i l = true :=
  List.all_eq_true.mp (List.all_eq_true.mp h i (List.mem_range.mpr hi)) l (mem_smalls hl)
/-- all keep the direction -/
def Fz (ls : List V2) (v : V2) : Prop := ∀ m ∈ ls, 0 ≤ dt m v
theorem dt_dbl (m v : V2) : dt m (dbl v) = 2 * dt m v := by
  obtain ⟨a, b⟩ := m
  obtain ⟨x, y⟩ := v
  show a * (2 * x) + b * (2 * y) = 2 * (a * x + b * y)
  rw [Int.mul_add, Int.mul_left_comm, Int.mul_left_comm b]
theorem dt_neg (m v : V2) : dt m (neg2 v) = -dt m v := by
  obtain ⟨a, b⟩ := m
  obtain ⟨x, y⟩ := v
  show a * -x + b * -y = -(a * x + b * y)
  rw [Int.mul_neg, Int.mul_neg]; omega
def Bord (ls : List V2) : Prop := ∃ l ∈ ls, Fz ls (l.2, -l.1) ∨ Fz ls (-l.2, l.1)
theorem bord_of {ls : List V2} (hs : ∀ l ∈ ls, Sm l) {i : Nat} (hi : i < 16) (hf : Fz ls (ray i)) {l : V2} (hl : l ∈ ls) (h0 : dt l (ray i) = 0) : Bord ls := by
  have h := of_decide_eq_true (all2 chk2 hi (hs l hl)) h0
  have f2 : Fz ls (dbl (ray i)) := fun m hm => by
    have := hf m hm
    rw [dt_dbl]; omega
  rcases h with h | h | h | h
  · exact ⟨l, hl, .inl (by rw [h]; exact hf)⟩
  · exact ⟨l, hl, .inl (by rw [h]; exact f2)⟩
  · exact ⟨l, hl, .inr (by rw [h]; exact hf)⟩
  · exact ⟨l, hl, .inr (by rw [h]; exact f2)⟩
/-- if one small direction is kept, one along a line is -/
theorem bord_ray {ls : List V2} (hs : ∀ l ∈ ls, Sm l) (hne : ls ≠ []) {i : Nat} (hi : i < 16) (hf : Fz ls (ray i)) : Bord ls := by
  apply Classical.byContradiction
  intro nb
  have step : ∀ j : Nat, j < 16 → Fz ls (ray j) → Fz ls (ray ((j + 1) % 16)) := fun j hj f m hm => by
    apply Classical.byContradiction
    intro n
    have h0 := of_decide_eq_true (all2 chk1 hj (hs m hm)) (f m hm) (by omega)
    exact nb (bord_of hs hj f hm h0)
  have walk : ∀ k : Nat, Fz ls (ray ((i + k) % 16)) := by
    intro k
    induction k with
    | zero => rw [Nat.add_zero, Nat.mod_eq_of_lt hi]; exact hf
    | succ k ih =>
      have := step ((i + k) % 16) (Nat.mod_lt _ (by decide)) ih
      rw [show ((i + k) % 16 + 1) % 16 = (i + (k + 1)) % 16 by omega] at this
      exact this
  have h8 := walk 8
  rw [of_decide_eq_true (List.all_eq_true.mp chk3 i (List.mem_range.mpr hi))] at h8
  match ls, hne, hs, hf, nb, h8 with
  | l :: r, _, hs, hf, nb, h8 =>
    have h1 := hf l (by simp)
    have h2 := h8 l (by simp)
    rw [dt_neg] at h2
    exact nb (bord_of hs hi hf (l := l) (by simp) (by omega))
/-- any direction lies beside a small one that each line keeps if it keeps the first -/
theorem near_ray (x y : Int) (h : x ≠ 0 ∨ y ≠ 0) : ∃ i, i < 16 ∧ ∀ l : V2, Sm l → 0 ≤ dt l (x, y) → 0 ≤ dt l (ray i) := by
  have key : ∀ i : Nat, (∀ a b : Int, (-2 ≤ a ∧ a ≤ 2) → (-2 ≤ b ∧ b ≤ 2) → 0 ≤ a * x + b * y → 0 ≤ a * (ray i).1 + b * (ray i).2) → i < 16 → ∃ i, i < 16 ∧ ∀ l : V2, Sm l → 0 ≤ dt l (x, y) → 0 ≤ dt l (ray i) := fun i k hi => ⟨i, hi, fun l hl q => k l.1 l.2 hl.1 hl.2.1 q⟩
  by_cases hy : 0 ≤ y
  · by_cases hx : 0 < x
    · by_cases k1 : 2 * y < x
      · refine key 0 (fun a b ha hb q => ?_) (by decide)
        show 0 ≤ a * 1 + b * 0
        rcases five ha with rfl | rfl | rfl | rfl | rfl <;> rcases five hb with rfl | rfl | rfl | rfl | rfl <;> omega
      · by_cases k2 : y < x
        · refine key 1 (fun a b ha hb q => ?_) (by decide)
          show 0 ≤ a * 2 + b * 1
          rcases five ha with rfl | rfl | rfl | rfl | rfl <;> rcases five hb with rfl | rfl | rfl | rfl | rfl <;> omega
        · by_cases k3 : y < 2 * x
          · refine key 2 (fun a b ha hb q => ?_) (by decide)
            show 0 ≤ a * 1 + b * 1
            rcases five ha with rfl | rfl | rfl | rfl | rfl <;> rcases five hb with rfl | rfl | rfl | rfl | rfl <;> omega
          · refine key 3 (fun a b ha hb q => ?_) (by decide)
            show 0 ≤ a * 1 + b * 2
            rcases five ha with rfl | rfl | rfl | rfl | rfl <;> rcases five hb with rfl | rfl | rfl | rfl | rfl <;> omega
    · by_cases h0 : 0 < y
      · by_cases k1 : 2 * -x < y
        · refine key 4 (fun a b ha hb q => ?_) (by decide)
          show 0 ≤ a * 0 + b * 1
          rcases five ha with rfl | rfl | rfl | rfl | rfl <;> rcases five hb with rfl | rfl | rfl | rfl | rfl <;> omega
        · by_cases k2 : -x < y
          · refine key 5 (fun a b ha hb q => ?_) (by decide)
            show 0 ≤ a * -1 + b * 2
            rcases five ha with rfl | rfl | rfl | rfl | rfl <;> rcases five hb with rfl | rfl | rfl | rfl | rfl <;> omega
          · by_cases k3 : -x < 2 * y
            · refine key 6 (fun a b ha hb q => ?_) (by decide)
              show 0 ≤ a * -1 + b * 1
              rcases five ha with rfl | rfl | rfl | rfl | rfl <;> rcases five hb with rfl | rfl | rfl | rfl | rfl <;> omega
            · refine key 7 (fun a b ha hb q => ?_) (by decide)
              show 0 ≤ a * -2 + b * 1
              rcases five ha with rfl | rfl | rfl | rfl | rfl <;> rcases five hb with rfl | rfl | rfl | rfl | rfl <;> omega
      · refine key 8 (fun a b ha hb q => ?_) (by decide)
        show 0 ≤ a * -1 + b * 0
        rcases five ha with rfl | rfl | rfl | rfl | rfl <;> rcases five hb with rfl | rfl | rfl | rfl | rfl <;> omega
  · by_cases hx : x < 0
    · by_cases k1 : 2 * -y < -x
      · refine key 8 (fun a b ha hb q => ?_) (by decide)
        show 0 ≤ a * -1 + b * 0
        rcases five ha with rfl | rfl | rfl | rfl | rfl <;> rcases five hb with rfl | rfl | rfl | rfl | rfl <;> omega
      · by_cases k2 : -y < -x
        · refine key 9 (fun a b ha hb q => ?_) (by decide)
          show 0 ≤ a * -2 + b * -1
          rcases five ha with rfl | rfl | rfl | rfl | rfl <;> rcases five hb with rfl | rfl | rfl | rfl | rfl <;> omega
        · by_cases k3 : -y < 2 * -x
          · refine key 10 (fun a b ha hb q => ?_) (by decide)
            show 0 ≤ a * -1 + b * -1
            rcases five ha with rfl | rfl | rfl | rfl | rfl <;> rcases five hb with rfl | rfl | rfl | rfl | rfl <;> omega
          · refine key 11 (fun a b ha hb q => ?_) (by decide)
            show 0 ≤ a * -1 + b * -2
            rcases five ha with rfl | rfl | rfl | rfl | rfl <;> rcases five hb with rfl | rfl | rfl | rfl | rfl <;> omega
    · by_cases k1 : 2 * x < -y
      · refine key 12 (fun a b ha hb q => ?_) (by decide)
        show 0 ≤ a * 0 + b * -1
        rcases five ha with rfl | rfl | rfl | rfl | rfl <;> rcases five hb with rfl | rfl | rfl | rfl | rfl <;> omega
      · by_cases k2 : x < -y
        · refine key 13 (fun a b ha hb q => ?_) (by decide)
          show 0 ≤ a * 1 + b * -2
          rcases five ha with rfl | rfl | rfl | rfl | rfl <;> rcases five hb with rfl | rfl | rfl | rfl | rfl <;> omega
        · by_cases k3 : x < 2 * -y
          · refine key 14 (fun a b ha hb q => ?_) (by decide)
            show 0 ≤ a * 1 + b * -1
            rcases five ha with rfl | rfl | rfl | rfl | rfl <;> rcases five hb with rfl | rfl | rfl | rfl | rfl <;> omega
          · refine key 15 (fun a b ha hb q => ?_) (by decide)
            show 0 ≤ a * 2 + b * -1
            rcases five ha with rfl | rfl | rfl | rfl | rfl <;> rcases five hb with rfl | rfl | rfl | rfl | rfl <;> omega
/-- a direction that all keep, and one along a line: both or none -/
theorem bord_any {ls : List V2} (hs : ∀ l ∈ ls, Sm l) (hne : ls ≠ []) {x y : Int} (h : x ≠ 0 ∨ y ≠ 0) (hf : Fz ls (x, y)) : Bord ls := by
  obtain ⟨i, hi, k⟩ := near_ray x y h
  exact bord_ray hs hne hi fun m hm => k m (hs m hm) (hf m hm)
end PD

set_option Elab.async false
set_option linter.all false
set_option maxRecDepth 100000
/-! PE8: runs of the combinators for texts with fields, appends, two clauses, fields set at once; loops that may return -/
namespace PD
open PySem PySem.Spec PyProof.Rows L2 SX TL
section
variable {env : Ev} {P P1 P2 P3 : Pu} {α β γ : Type}
theorem ev_app {i : Nat} {m : Ev → M D} {xs : List D} {d : D} (h0 : env[i]? = some (.own xs)) (h1 : m env P = .ok d P1) (h2 : xs.length < cap) : mApp i m env P = .ok (.next (env.set i (.own (xs ++ [d])))) P1 := by
  unfold mApp
  rw [h0]
  show M.bind (m env) _ P = _
  rw [bindR h1, decide_eq_true h2]; rfl
theorem ev_jn {acc : Str} : mJn env acc P = .ok acc P := rfl
theorem ev_jc {m : Ev → M D} {ml : Ev → Str → M Str} {a b : List Nat} {r : Res Str} (h1 : m env P = .ok (.str (S b)) P1) (hl : (a ++ b).length ≤ cap) (h2 : ml env (S (a ++ b)) P1 = r) : mJc m ml env (S a) P = r := by
  have e : catO (S a) (.str (S b)) = some (S (a ++ b)) := by
    show (if (S a ++ S b).length ≤ cap then some (S a ++ S b) else none) = _
    rw [S_cat, S_len, if_pos hl]
  refine (bindR h1).trans ?_
  show M.bind (optM (catO (S a) (.str (S b)))) _ P1 = _
  rw [e]
  exact h2
theorem ev_join {ml : Ev → Str → M Str} {a : List Nat} (h : ml env (S []) P = .ok (S a) P1) : mJoin ml env P = .ok (.str (S a)) P1 := by
  refine (bindR (m := ml env Str.empty) (a := S a) ?_).trans rfl
  exact h
theorem ev_fmtS {m : Ev → M D} {b : List Nat} (h : m env P = .ok (.str (S b)) P1) (hl : b.length ≤ cap) : (mUn m fun d => optM (fmtO d)) env P = .ok (.str (S b)) P1 := by
  refine ev_un h (ev_opt ?_)
  show (if (S b).length ≤ cap then some (D.str (S b)) else none) = _
  rw [S_len, if_pos hl]
theorem txtsS : ∀ ls : List (List Nat), txts (ls.map fun l => .str (S l)) = some (ls.map S)
  | [] => rfl
  | l :: r => by simp [txts, txtsS r]
theorem joinS {a : List Nat} {ls : List (List Nat)} (h : ((ls.map S).map (·.length)).sum + (ls.map S).length * (S a).length ≤ cap) : joinO (.str (S a)) (.lst (ls.map fun l => .str (S l))) = some (.str (S (joinL a ls))) := by
  unfold joinO
  simp only [txtsS]
  rw [if_pos h, join_S]
theorem ev_setF3 {cn f1 f2 f3 : Str} {ma m : Ev → M D} {x y z : D} {fs g1 g2 g3 : List (Str × D)} (h1 : m env P = .ok (.tup [x, y, z]) (.slf cn fs)) (h2 : ∀ P, ma env P = .ok .pur P) (l1 : fs.length < 1000) (l2 : g1.length < 1000) (l3 : g2.length < 1000) (e1 : putD f1 x fs = g1) (e2 : putD f2 y g1 = g2) (e3 : putD f3 z g2 = g3) :
    mSetF3 cn f1 f2 f3 ma m env P = .ok (.next env) (.slf cn g3) := by
  unfold mSetF3
  refine (bindR h1).trans ?_
  show M.bind (ma env) _ (.slf cn fs) = _
  refine (bindR (h2 _)).trans ?_
  have s1 : setFM cn f1 .pur x (.slf cn fs) = .ok () (.slf cn g1) := by simp [setFM, l1, e1]
  refine (bindR s1).trans ((bindR (h2 _)).trans ?_)
  have s2 : setFM cn f2 .pur y (.slf cn g1) = .ok () (.slf cn g2) := by simp [setFM, l2, e2]
  refine (bindR s2).trans ((bindR (h2 _)).trans ?_)
  have s3 : setFM cn f3 .pur z (.slf cn g2) = .ok () (.slf cn g3) := by simp [setFM, l3, e3]
  exact (bindR s3).trans rfl
/-- a loop each of whose turns either goes on (and tells something) or returns d0 -/
theorem ev_par3 {i j l : Nat} {m1 m2 m3 : Ev → M D} {x y z : D} (h1 : m1 env P = .ok x P1) (h2 : m2 env P1 = .ok y P2) (h3 : m3 env P2 = .ok z P3) : mPar3 i j l m1 m2 m3 env P = .ok (.next (((env.set i (.val x)).set j (.val y)).set l (.val z))) P3 := by
  unfold mPar3; rw [bindR h1, bindR h2, bindR h3]; rfl
theorem ev_oS {mk : Ev → M D} {k : Int} (h : mk env P = .ok (.int k) P1) : mOSome mk env P = .ok (some k) P1 := ev_un h rfl
theorem ev_sl {f : D → Option Int → Option Int → Option α} {ma : Ev → M D} {ml mh : Ev → M (Option Int)} {x : D} {l h : Option Int} {r : α} (h1 : ma env P = .ok x P1) (h2 : ml env P1 = .ok l P2) (h3 : mh env P2 = .ok h P3) (h4 : f x l h = some r) : mSl f ma ml mh env P = .ok r P3 := by
  refine (bindR h1).trans ((bindR h2).trans ((bindR h3).trans ?_))
  rw [h4]; rfl
theorem ev_slTo {f : D → Option Int → Option Int → Option α} {ma mk : Ev → M D} {x : D} {k : Int} {r : α} (h1 : ma env P = .ok x P1) (h2 : mk env P1 = .ok (.int k) P2) (h3 : f x none (some k) = some r) : mSl f ma mONone (mOSome mk) env P = .ok r P2 := ev_sl h1 rfl (ev_oS h2) h3
theorem ev_slFrom {f : D → Option Int → Option Int → Option α} {ma mk : Ev → M D} {x : D} {k : Int} {r : α} (h1 : ma env P = .ok x P1) (h2 : mk env P1 = .ok (.int k) P2) (h3 : f x (some k) none = some r) : mSl f ma (mOSome mk) mONone env P = .ok r P2 := ev_sl h1 (ev_oS h2) rfl h3
end
end PD

set_option Elab.async false
set_option linter.all false
set_option maxRecDepth 100000
namespace K13
open PySem PySem.Spec PyProof.Rows L2 RZ ClX PD SX TL
abbrev Mv := Int × Int × Int
def mvD (m : Mv) : D := .tup [.int m.1, .int m.2.1, .int m.2.2]
def sumD (m : Mv) : D := .tup [.int m.2.1, .int m.2.2, .int m.1]
def lawD (m : Mv) : D := .lst [.tup [.int m.2.1, .str "s"], .tup [.int m.2.2, .str "t"], .tup [.int m.1, .str ""]]
def i11 : List Int := [-5, -4, -3, -2, -1, 0, 1, 2, 3, 4, 5]
def i5 : List Int := [-2, -1, 0, 1, 2]
def mvs : List Mv := i11.flatMap fun a => i5.flatMap fun b => i5.map fun c => (a, b, c)
def strL : Res D → List Nat
  | .ok (.str s) _ => s.cps.toList
  | _ => []
def tmL (m : Mv) : List Nat := strL (f_text_of_sum [sumD m, .cls "WORDS"] (.pl []))
def fine (l : List Nat) (n : Nat) : Bool := (l.all fun c => decide (c < 128) && decide (c ≠ 44) && decide (c ≠ 10)) && decide (l.length ≤ n)
theorem map_mem {α β : Type} {f g : α → β} {xs : List α} (h : xs.map f = xs.map g) {x : α} (hx : x ∈ xs) : f x = g x := List.map_inj_left.mp h x hx
theorem tab_a (P : Pu) : (mvs.map fun m => f_text_of_sum [sumD m, .cls "WORDS"] P) = mvs.map fun m => .ok (.str (S (tmL m))) P := by kernel_rfl
theorem tab_b (P : Pu) : (mvs.map fun m => f__law_sum [lawD m] P) = mvs.map fun m => .ok (.str (S (tmL m))) P := by kernel_rfl
theorem tab_c (P : Pu) : (mvs.map fun m => f_sum_of_text [.str (S (tmL m)), .cls "WORDS"] P) = mvs.map fun m => .ok (sumD m) P := by kernel_rfl
theorem tab_d : (mvs.all fun m => fine (tmL m) 20) = true := by kernel_rfl
theorem tab_e (P : Pu) : (mvs.map fun m => f_is_move [mvD m] P) = mvs.map fun _ => .ok (.bl true) P := by kernel_rfl
/-! colours -/
abbrev Col := Int × Int × Int × Int
def coD (c : Col) : D := .tup [.int c.1, .int c.2.1, .int c.2.2.1, .int c.2.2.2]
def below (n : Nat) : List Int := (List.range n).map fun i : Nat => (i : Int)
def cols : List Col := [2, 3, 4].flatMap fun n => ((below n).flatMap fun p => (below n).flatMap fun q => (below n).map fun r => (p, q, (n : Int), r)).filter fun c => !(c.1 == 0 && c.2.1 == 0)
def tcL (p q : Int) : List Nat := strL (f_text_of_sum [.tup [.int p, .int q], .cls "PLACES"] (.pl []))
def kcol : List Nat := [99, 111, 108, 111, 117, 114, 32]
def klea : List Nat := [32, 108, 101, 97, 118, 101, 115, 32]
def kby : List Nat := [32, 98, 121, 32]
def dg (i : Int) : List Nat := [48 + i.toNat]
def crL (c : Col) : List Nat := kcol ++ (tcL c.1 c.2.1 ++ (klea ++ (dg c.2.2.2 ++ (kby ++ dg c.2.2.1))))
theorem tab_f (P : Pu) : (cols.map fun c => f_text_of_sum [.tup [.int c.1, .int c.2.1], .cls "PLACES"] P) = cols.map fun c => .ok (.str (S (tcL c.1 c.2.1))) P := by kernel_rfl
theorem tab_g (P : Pu) : (cols.map fun c => f__law_sum [.lst [.tup [.int c.1, .str "x"], .tup [.int c.2.1, .str "y"]]] P) = cols.map fun c => .ok (.str (S (tcL c.1 c.2.1))) P := by kernel_rfl
theorem tab_h (P : Pu) : (cols.map fun c => f_colour_of_text [.str (S (crL c))] P) = cols.map fun c => .ok (coD c) P := by kernel_rfl
theorem tab_i : (cols.all fun c => fine (crL c) 60 && fine (tcL c.1 c.2.1) 20) = true := by kernel_rfl
theorem tab_j (P : Pu) : (cols.map fun c => f_is_colour [coD c] P) = cols.map fun _ => .ok (.bl true) P := by kernel_rfl
theorem tab_k : (cols.map fun c => (fmtO (.int c.2.2.1), fmtO (.int c.2.2.2), strO [.int c.2.2.1], strO [.int c.2.2.2])) = cols.map fun c => (some (.str (S (dg c.2.2.1))), some (.str (S (dg c.2.2.2))), some (.str (S (dg c.2.2.1))), some (.str (S (dg c.2.2.2)))) := by kernel_rfl
theorem tab_l : (cols.map fun c => startsO (.str (S (crL c))) (.str "colour ")) = cols.map fun _ => some (.bl true) := by kernel_rfl
/-! sizes -/
def szs : List (List Int) := [[], [0], [1], [0, 0], [0, 1], [1, 0], [1, 1]]
def szD (l : List Int) : D := .tup (l.map .int)
def szL (l : List Int) : List Nat := strL (f_text_of_sizes [szD l] (.pl []))
theorem tab_m (P : Pu) : (szs.map fun l => f_text_of_sizes [szD l] P) = szs.map fun l => .ok (.str (S (szL l))) P := by kernel_rfl
theorem tab_n (P : Pu) : (szs.map fun l => f_least_of_text [.str (S (szL l))] P) = szs.map fun l => .ok (szD l) P := by kernel_rfl
theorem tab_o : (szs.all fun l => (szL l).all (fun c => decide (c < 128) && decide (c ≠ 10)) && decide ((szL l).length ≤ 30)) = true := by kernel_rfl
theorem tab_p (P : Pu) : (szs.map fun l => f_check_least [szD l] P) = szs.map fun _ => .ok .non P := by kernel_rfl
theorem fine_of {l : List Nat} {n : Nat} (h : fine l n = true) : asc l ∧ 44 ∉ l ∧ 10 ∉ l ∧ l.length ≤ n := by
  unfold fine at h
  obtain ⟨h1, h2⟩ := Bool.and_eq_true_iff.mp h
  have h1 := List.all_eq_true.mp h1
  refine ⟨fun c hc => ?_, fun hc => ?_, fun hc => ?_, of_decide_eq_true h2⟩
  · have := h1 c hc; simp only [Bool.and_eq_true, decide_eq_true_eq] at this; exact this.1.1
  · have := h1 _ hc; simp at this
  · have := h1 _ hc; simp at this
theorem mem_i11 {a : Int} (h : -5 ≤ a ∧ a ≤ 5) : a ∈ i11 := by
  simp only [i11, List.mem_cons, List.not_mem_nil, or_false]; omega
theorem mem_i5 {a : Int} (h : -2 ≤ a ∧ a ≤ 2) : a ∈ i5 := by
  simp only [i5, List.mem_cons, List.not_mem_nil, or_false]; omega
theorem mem_mvs {a b c : Int} (ha : -5 ≤ a ∧ a ≤ 5) (hb : -2 ≤ b ∧ b ≤ 2) (hc : -2 ≤ c ∧ c ≤ 2) : (a, b, c) ∈ mvs :=
  List.mem_flatMap.mpr ⟨a, mem_i11 ha, List.mem_flatMap.mpr ⟨b, mem_i5 hb, List.mem_map.mpr ⟨c, mem_i5 hc, rfl⟩⟩⟩
/-- a triple within its bounds, without factors for sizes that are not there -/
structure MvOk (k : Nat) (m : Mv) : Prop where
  a : -5 ≤ m.1 ∧ m.1 ≤ 5
  b : -2 ≤ m.2.1 ∧ m.2.1 ≤ 2
  c : -2 ≤ m.2.2 ∧ m.2.2 ≤ 2
  b0 : k = 0 → m.2.1 = 0
  c0 : k ≤ 1 → m.2.2 = 0
theorem MvOk.mem {k : Nat} {m : Mv} (h : MvOk k m) : m ∈ mvs := mem_mvs h.a h.b h.c
theorem mv_fine {k : Nat} {m : Mv} (h : MvOk k m) : asc (tmL m) ∧ 44 ∉ tmL m ∧ 10 ∉ tmL m ∧ (tmL m).length ≤ 20 := fine_of (List.all_eq_true.mp tab_d m h.mem)
abbrev Cr := Mv × Mv
def cnD (c : Cr) : D := .tup [mvD c.1, mvD c.2]
structure CrOk (k : Nat) (c : Cr) : Prop where
  u : MvOk k c.1
  v : MvOk k c.2
def kcor : List Nat := [99, 111, 114, 110, 101, 114, 32]
def ksep : List Nat := [44, 32]
def coL (c : Cr) : List Nat := kcor ++ (tmL c.1 ++ (ksep ++ tmL c.2))
theorem ecor : Str.ofString "corner " = S kcor := by kernel_rfl
theorem esep : Str.ofString ", " = S ksep := by kernel_rfl
theorem ecol : Str.ofString "colour " = S kcol := by kernel_rfl
theorem elea : Str.ofString " leaves " = S klea := by kernel_rfl
theorem eby : Str.ofString " by " = S kby := by kernel_rfl
theorem ezero : Str.ofString "" = S [] := by kernel_rfl
theorem enl : Str.ofString "\n" = S [10] := by kernel_rfl
theorem co_fine {k : Nat} {c : Cr} (h : CrOk k c) : asc (coL c) ∧ 10 ∉ coL c ∧ (coL c).length ≤ 49 := by
  obtain ⟨a1, _, b1, l1⟩ := mv_fine h.u
  obtain ⟨a2, _, b2, l2⟩ := mv_fine h.v
  refine ⟨asc_app (by decide) (asc_app a1 (asc_app (by decide) a2)), fun z => ?_, ?_⟩
  · simp only [coL, List.mem_append] at z
    rcases z with z | z | z | z
    · revert z; decide
    · exact b1 z
    · revert z; decide
    · exact b2 z
  · simp only [coL, kcor, ksep, List.length_append, List.length_cons, List.length_nil]; omega
theorem sub_pre (a b : List Nat) : Builtin.Str.subAt (S (a ++ b)) (S a) 0 = true := by
  rw [StrLaws.subAt_eq]
  simp [Str.length]
theorem starts_pre (a b : List Nat) : startsO (.str (S (a ++ b))) (.str (S a)) = some (.bl true) := by
  show some (D.bl (Txt.startswith (S (a ++ b)) (S a))) = _
  unfold Txt.startswith
  rw [sub_pre, S_len, S_len, Bool.and_true, decide_eq_true (by simp)]
theorem rm_pre (a b : List Nat) (h : (a ++ b).length ≤ cap) : rmpreO (.str (S (a ++ b))) (.str (S a)) = some (.str (S b)) := by
  show (if (S (a ++ b)).length ≤ cap then some (D.str (Txt.removeprefix (S (a ++ b)) (S a))) else none) = _
  rw [S_len, if_pos h, StrLaws.removeprefix_eq, sub_pre, S_len, S_len, Bool.and_true, if_pos (decide_eq_true (by simp))]
  congr 2
  show S _ = S b
  congr 1
  simp
theorem split_parts {s : Nat} {r : List Nat} {ps : List (List Nat)} (hne : ps ≠ []) (hp : ∀ p ∈ ps, s ∉ p) (hk : (s :: r).all (· < 256) = true) (hl : (TL.joinL (s :: r) ps).length + 2 ≤ cap) : splitO (.str (S (TL.joinL (s :: r) ps))) (.str (S (s :: r))) = some (ps.map fun p => .str (S p)) := by
  show (if ((S (s :: r)).length == 0) = false ∧ (S (TL.joinL (s :: r) ps)).length + 2 ≤ cap then some ((Txt.split (S (TL.joinL (s :: r) ps)) (S (s :: r))).map D.str) else none) = _
  rw [if_pos ⟨rfl, by rw [S_len]; exact hl⟩, split_S (by simp) hk, TL.spl_join hne hp, List.map_map]
  rfl
theorem move_text {k : Nat} {m : Mv} (h : MvOk k m) {P : Pu} : f_text_of_move [mvD m] P = .ok (.str (S (tmL m))) P :=
  ev_D (ev_ret (ev_un (P1 := P) (a := [sumD m, .cls "WORDS"]) (by kernel_rfl) (map_mem (tab_a P) h.mem)))
theorem move_is {k : Nat} {m : Mv} (h : MvOk k m) {P : Pu} : f_is_move [mvD m] P = .ok (.bl true) P := map_mem (tab_e P) h.mem
theorem corner_is {k : Nat} {c : Cr} (h : CrOk k c) {P : Pu} : f_is_corner [cnD c] P = .ok (.bl true) P := by
  have e1 : (mUn (mCons (mVarR 0) (mCons (mC (.ty "tuple")) mNil)) fun ds => optM ((isiQ "Shape") ds)) (envOf 1 [cnD c]) P = .ok (.bl true) P := by kernel_rfl
  have e2 : (mBi (mUn (mCons (mVarR 0) mNil) fun ds => optM (lenO ds)) (mC (.int 2)) fun x y => blM (eqD x y)) (envOf 1 [cnD c]) P = .ok (.bl true) P := by kernel_rfl
  have e3 : (mCons (mIx (mVarR 0) (mC (.int 0))) mNil) (envOf 1 [cnD c]) P = .ok [mvD c.1] P := by kernel_rfl
  have e4 : (mCons (mIx (mVarR 0) (mC (.int 1))) mNil) (envOf 1 [cnD c]) P = .ok [mvD c.2] P := by kernel_rfl
  exact ev_D (ev_ret (ev_andvT e1 (ev_andvT e2 (ev_andvT (ev_un e3 (move_is h.u)) (ev_un e4 (move_is h.v))))))
/-- the row of a corner, read -/
theorem corner_back {k : Nat} {c : Cr} (h : CrOk k c) {P : Pu} : f_corner_of_text [.str (S (coL c))] P = .ok (cnD c) P := by
  obtain ⟨a1, b1, _, l1⟩ := mv_fine h.u
  obtain ⟨a2, b2, _, l2⟩ := mv_fine h.v
  have hl : (coL c).length ≤ 49 := (co_fine h).2.2
  have s1 : splitO (.str (S (tmL c.1 ++ (ksep ++ tmL c.2)))) (.str (S ksep)) = some [.str (S (tmL c.1)), .str (S (tmL c.2))] := by
    refine (split_parts (s := 44) (r := [32]) (ps := [tmL c.1, tmL c.2]) (by simp) (fun p hp => ?_) (by decide) ?_).trans rfl
    · simp only [List.mem_cons, List.not_mem_nil, or_false] at hp
      rcases hp with rfl | rfl
      · exact b1
      · exact b2
    · simp only [TL.joinL, List.length_append, List.length_cons, List.length_nil]; unfold cap; omega
  let R : List D := [.str (S (tmL c.1)), .str (S (tmL c.2))]
  let U : List D := [sumD c.1, sumD c.2]
  refine ev_D (ev_seq (e2 := [.val (.str (S (coL c))), .own R, .no, .no, .no]) (P1 := P) (ev_set (ev_own (ev_m (ev_m (ev_varR rfl) ev_c (by rw [ecor]; exact rm_pre _ _ (by unfold cap; exact Nat.le_trans hl (by decide)))) ev_c (by rw [esep]; exact s1)))) ?_)
  refine ev_fr (xs := R) rfl (ev_seq (e2 := [.val (.str (S (coL c))), .val (.lst R), .own U, .no, .no]) (P1 := P) (ev_set (ev_own (ev_lc (as := [c.1, c.2]) (fun m => .str (S (tmL m))) sumD (ev_un (ev_var rfl) rfl) (by unfold cap; simp) fun m hm => ⟨_, rfl, ?_⟩))) ?_)
  · have hm : m ∈ mvs := by
      simp only [List.mem_cons, List.not_mem_nil, or_false] at hm
      rcases hm with rfl | rfl
      · exact h.u.mem
      · exact h.v.mem
    exact ev_un (ev_cons (ev_var rfl) (ev_cons ev_c ev_nil)) (map_mem (tab_c P) hm)
  · refine ev_seq (e2 := [.val (.str (S (coL c))), .val (.lst R), .own U, .no, .no]) (P1 := P) (ev_ifF (P1 := P) (ev_orF (P1 := P) (ev_not (k := true) (ev_T (ev_m (ev_varR rfl) ev_c (by rw [ecor]; exact starts_pre _ _)))) ?_) ev_skip) ?_
    · kernel_rfl
    · refine ev_fr (xs := U) rfl (ev_ret (ev_un (P1 := P) (a := [.lst [mvD c.1, mvD c.2]]) (ev_cons (ev_fz (ev_lc (as := [c.1, c.2]) sumD mvD (ev_un (ev_var rfl) rfl) (by unfold cap; simp) fun m _ => ⟨_, rfl, by kernel_rfl⟩)) ev_nil) rfl))
def colD : Option Col → D
  | none => .non
  | some c => coD c
def endR : Option Col → List (List Nat)
  | none => []
  | some c => [crL c]
def rowsL (cs : List Cr) (ls : List Int) (t : Option Col) : List (List Nat) := szL ls :: (cs.map coL ++ endR t)
def figL (cs : List Cr) (ls : List Int) (t : Option Col) : List Nat := TL.joinL [10] (rowsL cs ls t)
/-- the parts of a shape -/
structure Fig (cs : List Cr) (k : Nat) (ls : List Int) (t : Option Col) : Prop where
  len : 1 ≤ cs.length ∧ cs.length ≤ 4
  ok : ∀ c ∈ cs, CrOk k c
  nd : cs.Nodup
  kl : ls.length = k
  sz : ls ∈ szs
  co : ∀ c, t = some c → c ∈ cols
theorem col_fine {c : Col} (h : c ∈ cols) : (asc (crL c) ∧ 44 ∉ crL c ∧ 10 ∉ crL c ∧ (crL c).length ≤ 60) ∧ asc (tcL c.1 c.2.1) ∧ 44 ∉ tcL c.1 c.2.1 ∧ 10 ∉ tcL c.1 c.2.1 ∧ (tcL c.1 c.2.1).length ≤ 20 := by
  have := List.all_eq_true.mp tab_i c h
  obtain ⟨h1, h2⟩ := Bool.and_eq_true_iff.mp this
  exact ⟨fine_of h1, fine_of h2⟩
theorem sz_fine {l : List Int} (h : l ∈ szs) : asc (szL l) ∧ 10 ∉ szL l ∧ (szL l).length ≤ 30 := by
  have := List.all_eq_true.mp tab_o l h
  obtain ⟨h1, h2⟩ := Bool.and_eq_true_iff.mp this
  have h1 := List.all_eq_true.mp h1
  refine ⟨fun c hc => ?_, fun hc => ?_, of_decide_eq_true h2⟩
  · have := h1 c hc; simp only [Bool.and_eq_true, decide_eq_true_eq] at this; exact this.1
  · have := h1 _ hc; simp at this
/-- each row: plain signs, no line feed, not long -/
theorem row_fine {cs : List Cr} {k : Nat} {ls : List Int} {t : Option Col} (h : Fig cs k ls t) : ∀ r ∈ rowsL cs ls t, asc r ∧ 10 ∉ r ∧ r.length ≤ 60 := fun r hr => by
  rcases List.mem_cons.mp hr with rfl | hr
  · obtain ⟨a, b, c⟩ := sz_fine h.sz
    exact ⟨a, b, by omega⟩
  · rcases List.mem_append.mp hr with hr | hr
    · obtain ⟨c, hc, rfl⟩ := List.mem_map.mp hr
      obtain ⟨a, b, d⟩ := co_fine (h.ok c hc)
      exact ⟨a, b, by omega⟩
    · cases t with
      | none => simp [endR] at hr
      | some c =>
        have : r = crL c := by simpa [endR] using hr
        subst this
        obtain ⟨⟨a, _, b, d⟩, _⟩ := col_fine (h.co c rfl)
        exact ⟨a, b, d⟩
theorem rows_len {cs : List Cr} {k : Nat} {ls : List Int} {t : Option Col} (h : Fig cs k ls t) : (rowsL cs ls t).length ≤ 6 := by
  have := h.len.2
  cases t <;> simp [rowsL, endR] <;> omega
theorem join_len {n : Nat} : ∀ {ps : List (List Nat)}, (∀ p ∈ ps, p.length ≤ n) → (TL.joinL [10] ps).length ≤ ps.length * (n + 1)
  | [], _ => by simp [TL.joinL]
  | [p], h => by have := h p (by simp); simp [TL.joinL]; omega
  | p :: q :: r, h => by
    have h1 := h p (by simp)
    have h2 := join_len (ps := q :: r) fun x hx => h x (by simp only [List.mem_cons] at hx ⊢; exact .inr hx)
    simp only [TL.joinL, List.length_append, List.length_cons, List.length_nil, Nat.add_mul] at h2 ⊢
    omega
theorem join_asc : ∀ {ps : List (List Nat)}, (∀ p ∈ ps, asc p) → asc (TL.joinL [10] ps)
  | [], _ => asc_nil
  | [p], h => h p (by simp)
  | p :: q :: r, h => asc_app (h p (by simp)) (asc_app (by decide) (join_asc (ps := q :: r) fun x hx => h x (by simp only [List.mem_cons] at hx ⊢; exact .inr hx)))
theorem fig_len {cs : List Cr} {k : Nat} {ls : List Int} {t : Option Col} (h : Fig cs k ls t) : (figL cs ls t).length ≤ 366 := by
  have h1 := join_len (n := 60) fun p hp => (row_fine h p hp).2.2
  have h2 := rows_len h
  unfold figL
  omega
theorem fig_asc {cs : List Cr} {k : Nat} {ls : List Int} {t : Option Col} (h : Fig cs k ls t) : asc (figL cs ls t) := join_asc fun p hp => (row_fine h p hp).1
theorem sum_le {n : Nat} : ∀ {ps : List (List Nat)}, (∀ p ∈ ps, p.length ≤ n) → ((ps.map S).map (·.length)).sum ≤ ps.length * n
  | [], _ => by simp
  | p :: r, h => by
    have h1 := h p (by simp)
    have h2 := sum_le (ps := r) fun x hx => h x (by simp [hx])
    simp only [List.map_cons, List.sum_cons, List.length_cons, S_len, Nat.add_mul] at h2 ⊢
    omega
theorem fig_join {cs : List Cr} {k : Nat} {ls : List Int} {t : Option Col} (h : Fig cs k ls t) : joinO (.str "\n") (.lst ((rowsL cs ls t).map fun l => .str (S l))) = some (.str (S (figL cs ls t))) := by
  rw [enl]
  have h1 := sum_le (n := 60) fun p hp => (row_fine h p hp).2.2
  have h2 := rows_len h
  refine joinS ?_
  simp only [List.length_map, S_len, List.length_cons, List.length_nil]
  unfold cap
  omega
/-! the program's text -/
def cbody : Ev → M Out := (mApp 3 (mJoin (mJc (mC (.str "corner ")) (mJc (mUn (mUn (mCons (mVar 4) mNil) f_text_of_move) fun d => optM (fmtO d)) (mJc (mC (.str ", ")) (mJc (mUn (mUn (mCons (mVar 5) mNil) f_text_of_move) fun d => optM (fmtO d)) mJn))))))
theorem corner_row {k : Nat} {c : Cr} (h : CrOk k c) (A B C : Sl) (acc : List D) (hl : acc.length < 100) {P : Pu} : cbody [A, B, C, .own acc, .val (mvD c.1), .val (mvD c.2)] P = .ok (.next [A, B, C, .own (acc ++ [.str (S (coL c))]), .val (mvD c.1), .val (mvD c.2)]) P := by
  obtain ⟨_, _, _, l1⟩ := mv_fine h.u
  obtain ⟨_, _, _, l2⟩ := mv_fine h.v
  refine ev_app rfl (ev_join (a := coL c) (ev_jc (a := []) (b := kcor) (P1 := P) (by rw [← ecor]; rfl) (by decide) ?_)) (by unfold cap; omega)
  refine ev_jc (P1 := P) (ev_fmtS (ev_un (ev_cons (ev_var rfl) ev_nil) (move_text h.u)) (by unfold cap; omega)) (by simp only [kcor, List.length_append, List.length_cons, List.length_nil]; unfold cap; omega) ?_
  refine ev_jc (P1 := P) (b := ksep) (by rw [← esep]; rfl) (by simp only [kcor, ksep, List.length_append, List.length_cons, List.length_nil]; unfold cap; omega) ?_
  refine ev_jc (P1 := P) (ev_fmtS (ev_un (ev_cons (ev_var rfl) ev_nil) (move_text h.v)) (by unfold cap; omega)) (by simp only [kcor, ksep, List.length_append, List.length_cons, List.length_nil]; unfold cap; omega) ?_
  show Res.ok _ P = _
  simp only [coL, List.nil_append, List.append_assoc]
theorem corner_rows {k : Nat} (A B C : Sl) {P : Pu} : ∀ (cs : List Cr) (acc : List D) (s4 s5 : Sl), (∀ c ∈ cs, CrOk k c) → acc.length + cs.length ≤ 50 → ∃ a b, forM (unpD [4, 5]) cbody (cs.map cnD) [A, B, C, .own acc, s4, s5] P = .ok (.next [A, B, C, .own (acc ++ cs.map fun c => .str (S (coL c))), a, b]) P
  | [], acc, s4, s5, _, _ => ⟨s4, s5, by simp [PD.forM, M.ok]⟩
  | c :: cs, acc, s4, s5, h, hl => by
    simp only [List.length_cons] at hl
    obtain ⟨a, b, e⟩ := corner_rows A B C (P := P) cs (acc ++ [.str (S (coL c))]) (.val (mvD c.1)) (.val (mvD c.2)) (fun x hx => h x (by simp [hx])) (by simp only [List.length_append, List.length_cons, List.length_nil]; omega)
    refine ⟨a, b, forM_step (e1 := [A, B, C, .own acc, .val (mvD c.1), .val (mvD c.2)]) rfl (corner_row (h c (by simp)) A B C acc (by omega)) ?_⟩
    rw [e]
    simp [List.append_assoc]
theorem text_of_ok {cs : List Cr} {k : Nat} {ls : List Int} {t : Option Col} (h : Fig cs k ls t) {P : Pu} : f_text_of [.tup (cs.map cnD), szD ls, colD t] P = .ok (.str (S (figL cs ls t))) P := by
  let A : Sl := .val (.tup (cs.map cnD))
  let B : Sl := .val (szD ls)
  let C : Sl := .val (colD t)
  obtain ⟨a, b, e⟩ := corner_rows (k := k) A B C (P := P) cs [.str (S (szL ls))] .no .no h.ok (by have := h.len.2; simp only [List.length_cons, List.length_nil]; omega)
  refine ev_D (ev_seq (e2 := [A, B, C, .own [.str (S (szL ls))], .no, .no]) (P1 := P) (ev_set (ev_own (ev_lst (ev_cons (ev_un (ev_cons (ev_var rfl) ev_nil) (map_mem (tab_m P) h.sz)) ev_nil) (by unfold cap; simp)))) ?_)
  refine ev_seq (P1 := P) (ev_for (ev_un (ev_var rfl) rfl) e) ?_
  have fin : ∀ R : List D, R = (rowsL cs ls t).map (fun l => .str (S l)) → mRet (mM1 joinO (mC (.str "\n")) (mVarR 3)) [A, B, C, .own R, a, b] P = .ok (.ret (.str (S (figL cs ls t)))) P := fun R hR => by
    refine ev_ret (ev_m ev_c (ev_varO rfl) ?_)
    rw [hR]; exact fig_join h
  cases t with
  | none =>
    refine ev_seq (e2 := [A, B, C, .own ([.str (S (szL ls))] ++ cs.map fun c => .str (S (coL c))), a, b]) (P1 := P) (ev_ifF (P1 := P) (ev_bi (P1 := P) (P2 := P) (ev_varR rfl) ev_c rfl) ev_skip) (fin _ ?_)
    simp [rowsL, endR]
  | some c =>
    obtain ⟨_, _, _, _, l1⟩ := col_fine (h.co c rfl)
    have k1 := congrArg Prod.fst (map_mem tab_k (h.co c rfl))
    have k2 := congrArg (fun q => q.2.1) (map_mem tab_k (h.co c rfl))
    have hd : ∀ i : Int, (dg i).length = 1 := fun i => rfl
    refine ev_seq (e2 := [A, B, C, .own (([.str (S (szL ls))] ++ cs.map fun c => .str (S (coL c))) ++ [.str (S (crL c))]), a, b]) (P1 := P) (ev_ifT (P1 := P) (ev_bi (P1 := P) (P2 := P) (ev_varR rfl) ev_c rfl) (ev_app rfl (ev_join (a := crL c) ?_) ?_)) (fin _ ?_)
    · refine ev_jc (a := []) (P1 := P) (b := kcol) (by rw [← ecol]; rfl) (by decide) ?_
      refine ev_jc (P1 := P) (b := tcL c.1 c.2.1) (ev_fmtS (ev_un (P1 := P) (a := [.tup [.int c.1, .int c.2.1], .cls "PLACES"]) (by kernel_rfl) (map_mem (tab_f P) (h.co c rfl))) (by unfold cap; omega)) (by simp only [kcol, List.length_append, List.length_cons, List.length_nil]; unfold cap; omega) ?_
      refine ev_jc (P1 := P) (b := klea) (by rw [← elea]; rfl) (by simp only [kcol, klea, List.length_append, List.length_cons, List.length_nil]; unfold cap; omega) ?_
      refine ev_jc (P1 := P) (b := dg c.2.2.2) (ev_un (P1 := P) (a := .int c.2.2.2) (by kernel_rfl) (ev_opt k2)) (by simp only [kcol, klea, hd, List.length_append, List.length_cons, List.length_nil]; unfold cap; omega) ?_
      refine ev_jc (P1 := P) (b := kby) (by rw [← eby]; rfl) (by simp only [kcol, klea, kby, hd, List.length_append, List.length_cons, List.length_nil]; unfold cap; omega) ?_
      refine ev_jc (P1 := P) (b := dg c.2.2.1) (ev_un (P1 := P) (a := .int c.2.2.1) (by kernel_rfl) (ev_opt k1)) (by simp only [kcol, klea, kby, hd, List.length_append, List.length_cons, List.length_nil]; unfold cap; omega) ?_
      show Res.ok _ P = _
      simp only [crL, List.nil_append, List.append_assoc]
    · have := h.len.2
      simp only [List.length_append, List.length_map, List.length_cons, List.length_nil]; unfold cap; omega
    · simp [rowsL, endR]
/-! the law's text -/
theorem dot_text {k : Nat} {c : Cr} (h : CrOk k c) {P : Pu} : f__law_dot_text [cnD c] P = .ok (.str (S (coL c))) P := by
  obtain ⟨_, _, _, l1⟩ := mv_fine h.u
  obtain ⟨_, _, _, l2⟩ := mv_fine h.v
  have hj : TL.joinL ksep [tmL c.1, tmL c.2] = tmL c.1 ++ (ksep ++ tmL c.2) := rfl
  refine ev_D (ev_ret (ev_bi ev_c (ev_m ev_c (ev_fz (ev_lc (as := [c.1, c.2]) mvD (fun m => .str (S (tmL m))) (ev_un (ev_var rfl) rfl) (by unfold cap; simp) fun m hm => ⟨_, rfl, ?_⟩)) (x := ", ") (a := .str (S (tmL c.1 ++ (ksep ++ tmL c.2)))) ?_) ?_))
  · have hm : m ∈ mvs := by
      simp only [List.mem_cons, List.not_mem_nil, or_false] at hm
      rcases hm with rfl | rfl
      · exact h.u.mem
      · exact h.v.mem
    exact ev_un (P1 := P) (a := [lawD m]) (by kernel_rfl) (map_mem (tab_b P) hm)
  · rw [esep, ← hj]
    refine joinS (ls := [tmL c.1, tmL c.2]) ?_
    simp only [List.map_cons, List.map_nil, List.sum_cons, List.sum_nil, S_len, List.length_cons, List.length_nil, ksep]
    unfold cap; omega
  · rw [ecor, addS (by simp only [kcor, ksep, List.length_append, List.length_cons, List.length_nil]; unfold cap; omega)]
    rfl
def hdE : Ev → M (List D) := (mLc [7, 8] (unpD [7, 8]) mTrue (mBi (mBi (mVar 7) (mC (.str " from ")) addD) (mUn (mCons (mVarR 8) mNil) fun ds => optM (strO ds)) addD) (mUn (mCons (mFz (mLst (mCons (mC (.str "s")) (mCons (mC (.str "t")) mNil)))) (mCons (mIx (mVarR 0) (mC (.int 1))) mNil)) fun ds => optM (zipMO ds)))
def rowE : Ev → M D := (mBi (mC (.str "sizes ")) (mIf (mBi (mVarR 1) (mFz (mLst mNil)) neD) (mM1 joinO (mC (.str ", ")) (mVarR 1)) (mC (.str "none"))) addD)
def hds (l : List Int) : List D := match hdE [.val (.tup [.non, szD l, .non]), .no, .no, .no, .no, .no, .no, .no, .no, .no] (.pl []) with
  | .ok x _ => x
  | _ => []
theorem tab_q (X Y : D) (P : Pu) : (szs.map fun l => hdE [.val (.tup [X, szD l, Y]), .no, .no, .no, .no, .no, .no, .no, .no, .no] P) = szs.map fun l => .ok (hds l) P := by kernel_rfl
theorem tab_r (X Y : D) (P : Pu) : (szs.map fun l => rowE [.val (.tup [X, szD l, Y]), .own (hds l), .no, .no, .no, .no, .no, .no, .no, .no] P) = szs.map fun l => .ok (.str (S (szL l))) P := by kernel_rfl
def figD (cs : List Cr) (ls : List Int) (t : Option Col) : D := .tup [.tup (cs.map cnD), szD ls, colD t]
theorem figure_text {cs : List Cr} {k : Nat} {ls : List Int} {t : Option Col} (h : Fig cs k ls t) {P : Pu} : f__law_figure_text [figD cs ls t] P = .ok (.str (S (figL cs ls t))) P := by
  let F : Sl := .val (figD cs ls t)
  let G : Sl := .own (hds ls)
  let R : List D := [.str (S (szL ls))] ++ cs.map fun c => .str (S (coL c))
  refine ev_D (ev_seq (e2 := [F, G, .no, .no, .no, .no, .no, .no, .no, .no]) (P1 := P) (ev_set (ev_own (map_mem (tab_q (.tup (cs.map cnD)) (colD t) P) h.sz))) ?_)
  have eA : (mFz (mLst (mCons rowE mNil))) [F, G, .no, .no, .no, .no, .no, .no, .no, .no] P = .ok (.lst [.str (S (szL ls))]) P := ev_fz (ev_lst (ev_cons (map_mem (tab_r (.tup (cs.map cnD)) (colD t) P) h.sz) ev_nil) (by unfold cap; simp))
  have eB : (mFz (mLc [9] (tgN 9) mTrue (mUn (mCons (mVar 9) mNil) f__law_dot_text) (mUn (mIx (mVarR 0) (mC (.int 0))) fun d => optM (seqO d)))) [F, G, .no, .no, .no, .no, .no, .no, .no, .no] P = .ok (.lst (cs.map fun c => .str (S (coL c)))) P :=
    ev_fz (ev_lc (as := cs) cnD (fun c => .str (S (coL c))) (ev_un (P1 := P) (a := .tup (cs.map cnD)) (by kernel_rfl) rfl) (by have := h.len.2; unfold cap; omega) fun c hc => ⟨_, rfl, ev_un (ev_cons (ev_var rfl) ev_nil) (dot_text (h.ok c hc))⟩)
  have eC : catF (.lst [.str (S (szL ls))]) (.lst (cs.map fun c => .str (S (coL c)))) P = .ok R P := by
    have e : ([D.str (S (szL ls))].length + (cs.map fun c => D.str (S (coL c))).length ≤ cap) := by
      have := h.len.2
      simp only [List.length_map, List.length_cons, List.length_nil]; unfold cap; omega
    show okIf _ _ P = _
    rw [decide_eq_true e]; rfl
  refine ev_seq (e2 := [F, G, .own R, .no, .no, .no, .no, .no, .no, .no]) (P1 := P) (ev_set (ev_own (ev_bi eA eB eC))) ?_
  have fin : ∀ (Q : List D) (a b c d : Sl), Q = (rowsL cs ls t).map (fun l => .str (S l)) → mRet (mM1 joinO (mC (.str "\n")) (mVarR 2)) [F, G, .own Q, a, b, c, d, .no, .no, .no] P = .ok (.ret (.str (S (figL cs ls t)))) P := fun Q a b c d hQ => by
    refine ev_ret (ev_m ev_c (ev_varO rfl) ?_)
    rw [hQ]; exact fig_join h
  cases t with
  | none =>
    refine ev_seq (e2 := [F, G, .own R, .no, .no, .no, .no, .no, .no, .no]) (P1 := P) (ev_ifF (P1 := P) (by kernel_rfl) ev_skip) (fin _ _ _ _ _ ?_)
    simp [R, rowsL, endR]
  | some c =>
    obtain ⟨⟨_, _, _, l0⟩, _, _, _, l1⟩ := col_fine (h.co c rfl)
    have k1 := congrArg (fun q => q.2.2.1) (map_mem tab_k (h.co c rfl))
    have k2 := congrArg (fun q => q.2.2.2) (map_mem tab_k (h.co c rfl))
    have hd : ∀ i : Int, (dg i).length = 1 := fun i => rfl
    let E : Ev := [F, G, .own R, .val (.int c.1), .val (.int c.2.1), .val (.int c.2.2.1), .val (.int c.2.2.2), .no, .no, .no]
    have s1 : addD (.str (S kcol)) (.str (S (tcL c.1 c.2.1))) = M.ok (.str (S (kcol ++ tcL c.1 c.2.1))) := addS (by simp only [kcol, List.length_cons, List.length_nil]; unfold cap; omega)
    have s2 : addD (.str (S (kcol ++ tcL c.1 c.2.1))) (.str (S klea)) = M.ok (.str (S (kcol ++ tcL c.1 c.2.1 ++ klea))) := addS (by simp only [kcol, klea, List.length_append, List.length_cons, List.length_nil]; unfold cap; omega)
    have s3 : addD (.str (S (kcol ++ tcL c.1 c.2.1 ++ klea))) (.str (S (dg c.2.2.2))) = M.ok (.str (S (kcol ++ tcL c.1 c.2.1 ++ klea ++ dg c.2.2.2))) := addS (by simp only [kcol, klea, hd, List.length_append, List.length_cons, List.length_nil]; unfold cap; omega)
    have s4 : addD (.str (S (kcol ++ tcL c.1 c.2.1 ++ klea ++ dg c.2.2.2))) (.str (S kby)) = M.ok (.str (S (kcol ++ tcL c.1 c.2.1 ++ klea ++ dg c.2.2.2 ++ kby))) := addS (by simp only [kcol, klea, kby, hd, List.length_append, List.length_cons, List.length_nil]; unfold cap; omega)
    have s5 : addD (.str (S (kcol ++ tcL c.1 c.2.1 ++ klea ++ dg c.2.2.2 ++ kby))) (.str (S (dg c.2.2.1))) = M.ok (.str (S (kcol ++ tcL c.1 c.2.1 ++ klea ++ dg c.2.2.2 ++ kby ++ dg c.2.2.1))) := addS (by simp only [kcol, klea, kby, hd, List.length_append, List.length_cons, List.length_nil]; unfold cap; omega)
    have e0 : kcol ++ tcL c.1 c.2.1 ++ klea ++ dg c.2.2.2 ++ kby ++ dg c.2.2.1 = crL c := by simp only [crL, List.append_assoc]
    refine ev_seq (e2 := [F, G, .own (R ++ [.str (S (crL c))]), .val (.int c.1), .val (.int c.2.1), .val (.int c.2.2.1), .val (.int c.2.2.2), .no, .no, .no]) (P1 := P) (ev_ifT (P1 := P) (by kernel_rfl) (ev_seq (e2 := E) (P1 := P) (ev_unpk (d := coD c) (by kernel_rfl) rfl) (ev_app rfl ?_ ?_))) (fin _ _ _ _ _ ?_)
    · rw [← e0]
      refine ev_bi (P1 := P) (P2 := P) (ev_bi (P1 := P) (P2 := P) (ev_bi (P1 := P) (P2 := P) (ev_bi (P1 := P) (P2 := P) (ev_bi (P1 := P) (P2 := P) ev_c (ev_un (P1 := P) (a := [.lst [.tup [.int c.1, .str "x"], .tup [.int c.2.1, .str "y"]]]) (by kernel_rfl) (map_mem (tab_g P) (h.co c rfl))) (by rw [ecol]; exact congrFun s1 P)) ev_c (by rw [elea]; exact congrFun s2 P)) (ev_un (ev_cons (ev_varR rfl) ev_nil) (ev_opt k2)) (congrFun s3 P)) ev_c (by rw [eby]; exact congrFun s4 P)) (ev_un (ev_cons (ev_varR rfl) ev_nil) (ev_opt k1)) (congrFun s5 P)
    · have := h.len.2
      simp only [R, List.length_append, List.length_map, List.length_cons, List.length_nil]; unfold cap; omega
    · simp [R, rowsL, endR]
theorem ev_makeX {cn : Str} {mf : List D → M D} {ms : Ev → M (List D)} {ds : List D} {fs : List (Str × D)} {env : Ev} {P P1 : Pu} (h1 : ms env P = .ok ds P1) (hp : noPurs ds = true) (h2 : mf (.pur :: ds) (.slf cn []) = .ok .non (.slf cn fs)) (hq : noPurF fs = true) : mMakeX cn mf ms env P = .ok (.obj cn fs) P1 := by
  unfold mMakeX
  refine (bindR h1).trans ?_
  simp [hp, h2, hq]
theorem ex_makeX {cn : Str} {mf : List D → M D} {ms : Ev → M (List D)} {ds : List D} {c : Str} {fs : List (Str × D)} {env : Ev} {P P1 P2 : Pu} (h1 : ms env P = .ok ds P1) (hp : noPurs ds = true) (h2 : mf (.pur :: ds) (.slf cn []) = .exc (.exc c fs) P2) (hq : noPurF fs = true) : mMakeX cn mf ms env P = .exc (.exc c fs) P1 := by
  unfold mMakeX
  refine (bindR h1).trans ?_
  simp [hp, h2, hq]
theorem ev_tryC {cl : List Cla} {ix : Nat} {mb : Ev → M Out} {o : Out} {env : Ev} {P P1 : Pu} (h : mb env P = .ok o P1) : mTryC cl ix mb env P = .ok o P1 := by
  unfold mTryC; rw [h]
theorem ex_tryC {cl : List Cla} {ix i : Nat} {mb : Ev → M Out} {c : Str} {fs : List (Str × D)} {g : List (Str × D) → Option D} {d : D} {env : Ev} {P P1 : Pu} (h : mb env P = .exc (.exc c fs) P1) (hp : pickC cl c = some (i, g)) (hn : env[i]? = some .no) (hi : i ≠ ix) (hg : g fs = some d) : mTryC cl ix mb env P = .ok (.next (env.set ix (.val d))) P1 := by
  unfold mTryC; rw [h]
  simp only [hp]
  have h5 : isNo env[i]? = true := by rw [hn]; rfl
  rw [if_pos ⟨h5, hi⟩, hg]
theorem ex_prop {cn : Str} {mf : List D → M D} {mo : Ev → M D} {x : D} {env : Ev} {P P1 : Pu} (h : mo env P = .exc x P1) : mProp cn mf mo env P = .exc x P1 := bindX h
/-! runs of what may raise, where an error has a context -/
theorem any_makeLX {i : Nat} {cn : Str} {mf : List D → M D} {ms : Ev → M (List D)} {env : Ev} {P : Pu} {r : Res D} (h0 : env[i]? = some (.val (.cls cn))) (h : mMakeX cn mf ms env P = r) : mMakeLX i cn mf ms env P = r := by
  unfold mMakeLX
  have e : (env[i]?).bind (clsO cn) = some () := by rw [h0]; simp [clsO]
  rw [e]
  exact h
theorem ev_tryH {ys : List Str} {m2 mb : Ev → M Out} {o : Out} {env : Ev} {P P1 : Pu} (h : mb env P = .ok o P1) : mTryH ys m2 mb env P = .ok o P1 := by
  unfold mTryH; rw [h]
theorem ex_tryH {ys : List Str} {m2 mb : Ev → M Out} {c : Str} {fs : List (Str × D)} {env : Ev} {P P1 : Pu} {r : Res Out} (h : mb env P = .exc (.exc c fs) P1) (hc : ys.contains c = true) (h2 : m2 env P1 = r) : mTryH ys m2 mb env P = r := by
  unfold mTryH; rw [h]
  show (if ys.contains c = true then m2 env P1 else .stuck) = r
  rw [if_pos hc, h2]
theorem any_cmethX {cn : Str} {mf : List D → M D} {ms : Ev → M (List D)} {ds : List D} {env : Ev} {P P1 : Pu} {r : Res D} (h1 : ms env P = .ok ds P1) (h2 : mf (.cls cn :: ds) P1 = r) : mCmethX cn mf ms env P = r := by
  unfold mCmethX; rw [bindR h1]
  exact h2
theorem ex_fr {i : Nat} {m : Ev → M Out} {xs : List D} {r : Res Out} {env : Ev} {P : Pu} (h1 : env[i]? = some (.own xs)) (h2 : m (env.set i (.val (.lst xs))) P = r) : mFreeze i m env P = r := ev_fr h1 h2
theorem ev_par3M {i j l : Nat} {m1 m3 : Ev → M D} {m2 : Ev → M Sl} {x z : D} {s : Sl} {env : Ev} {P P1 P2 P3 : Pu} (h1 : m1 env P = .ok x P1) (h2 : m2 env P1 = .ok s P2) (h3 : m3 env P2 = .ok z P3) : mPar3M i j l m1 m2 m3 env P = .ok (.next (((env.set j s).set i (.val x)).set l (.val z))) P3 := by
  unfold mPar3M; rw [bindR h1, bindR h2, bindR h3]; rfl
def mvP (m : Mv) : PyData := .tuple [.int m.1, .int m.2.1, .int m.2.2]
def cnP (c : Cr) : PyData := .tuple [mvP c.1, mvP c.2]
theorem toPy_cn (c : Cr) : toPy (cnD c) = some (cnP c) := rfl
theorem toPys_cns : ∀ cs : List Cr, toPys (cs.map cnD) = some (cs.map cnP)
  | [] => rfl
  | c :: r => by
    show (match toPy (cnD c), toPys (r.map cnD) with
      | some p, some ps => some (p :: ps)
      | _, _ => none) = _
    rw [toPys_cns r]; rfl
theorem can_cns : ∀ cs : List Cr, PyData.canLayAll0 (cs.map cnP) = true
  | [] => rfl
  | c :: r => by
    show (PyData.canLay0 (cnP c) && PyData.canLayAll0 (r.map cnP)) = true
    rw [can_cns r]; rfl
theorem dep_cns : ∀ cs : List Cr, PyData.depthAll (cs.map cnP) ≤ 2
  | [] => by decide
  | c :: r => by
    show max (PyData.depth (cnP c)) (PyData.depthAll (r.map cnP)) ≤ 2
    have := dep_cns r
    have h : PyData.depth (cnP c) = 2 := rfl
    omega
theorem sh_cns (cs : List Cr) : SeqAt.shaped (.tuple (cs.map cnP)) = true := by
  have h := dep_cns cs
  simp [SeqAt.shaped, PyData.canLay0, PyData.depth, can_cns]
  omega
theorem sh_cnl (cs : List Cr) : SeqAt.shaped (.list (cs.map cnP)) = true := by
  have h := dep_cns cs
  simp [SeqAt.shaped, PyData.canLay0, PyData.depth, can_cns]
  omega
theorem eqv_mv (a b : Mv) : PyData.eqv (mvP a) (mvP b) = decide (a = b) := by
  obtain ⟨a1, a2, a3⟩ := a
  obtain ⟨b1, b2, b3⟩ := b
  by_cases h1 : a1 = b1 <;> by_cases h2 : a2 = b2 <;> by_cases h3 : a3 = b3 <;> simp [mvP, PyData.eqv, PyData.eqvAll, dec_beq, h1, h2, h3]
theorem eqv_cn (a b : Cr) : PyData.eqv (cnP a) (cnP b) = decide (a = b) := by
  obtain ⟨a1, a2⟩ := a
  obtain ⟨b1, b2⟩ := b
  show (PyData.eqv (mvP a1) (mvP b1) && (PyData.eqv (mvP a2) (mvP b2) && true)) = _
  rw [eqv_mv, eqv_mv]
  by_cases h1 : a1 = b1 <;> by_cases h2 : a2 = b2 <;> simp [h1, h2]
theorem any_cn (c : Cr) : ∀ cs : List Cr, (cs.map cnP).any (fun z => PyData.eqv z (cnP c)) = decide (c ∈ cs)
  | [] => by simp
  | b :: r => by
    rw [List.map_cons, List.any_cons, any_cn c r, eqv_cn]
    by_cases h : b = c
    · simp [h]
    · have : ¬ c = b := fun e => h e.symm
      simp [h, this]
theorem inT_cn (c : Cr) (cs : List Cr) : inTD (cnD c) (.tup (cs.map cnD)) = M.ok (decide (c ∈ cs)) := by
  have e : inTO (cnD c) (.tup (cs.map cnD)) = some (decide (c ∈ cs)) := by
    unfold inTO
    simp only [toPy_cn, toPys_cns]
    rw [if_pos (by rw [sh_cnl, sh_cns]; rfl), any_cn]
  unfold inTD
  rw [e]; rfl
theorem in_cn (c : Cr) (cs : List Cr) : inD (cnD c) (.lst (cs.map cnD)) = M.ok (decide (c ∈ cs)) := by
  have e : inO (cnD c) (.lst (cs.map cnD)) = some (decide (c ∈ cs)) := by
    unfold inO
    have f : flatD (cnD c) = none := rfl
    simp only [f, toPy_cn, toPys_cns]
    rw [if_pos (by rw [sh_cnl]; rfl), any_cn]
  unfold inD
  rw [e]; rfl
theorem slT_to (xs : List D) (i : Nat) (h : i ≤ xs.length) : slO (.tup xs) none (some (i : Nat)) = some (.tup (xs.take i)) := by
  show some (D.tup (PD.cutD xs none (some (i : Nat)))) = _
  unfold PD.cutD
  rw [HT.sIx_none, HT.sIx_nat, List.drop_zero, Nat.sub_zero, Nat.min_eq_left h]
theorem enum_cns : ∀ (k : Nat) (cs : List Cr) (x : D), x ∈ enumD k (cs.map cnD) → ∃ (i : Nat) (c : Cr), x = .tup [.int ((k + i : Nat) : Int), cnD c] ∧ cs[i]? = some c
  | k, [], x, h => by simp [enumD] at h
  | k, c :: r, x, h => by
    simp only [List.map_cons, enumD, List.mem_cons] at h
    rcases h with rfl | h
    · exact ⟨0, c, rfl, rfl⟩
    · obtain ⟨i, d, e, h1⟩ := enum_cns (k + 1) r x h
      exact ⟨i + 1, d, by rw [e]; congr 3; omega, by simpa using h1⟩
theorem nd_take : ∀ {cs : List Cr} {i : Nat} {c : Cr}, cs.Nodup → cs[i]? = some c → c ∉ cs.take i
  | [], i, c, _, h => by simp at h
  | b :: r, 0, c, _, _ => by simp
  | b :: r, i + 1, c, n, h => by
    have h : r[i]? = some c := by simpa using h
    obtain ⟨n1, n2⟩ := List.nodup_cons.mp n
    intro z
    rw [List.take_succ_cons, List.mem_cons] at z
    rcases z with rfl | z
    · exact n1 (List.mem_of_getElem? h)
    · exact nd_take n2 h z
theorem check_corners_ok {k : Nat} {cs : List Cr} (hl : 1 ≤ cs.length ∧ cs.length ≤ 4) (ho : ∀ c ∈ cs, CrOk k c) (hn : cs.Nodup) {P : Pu} : f_check_corners [.tup (cs.map cnD)] P = .ok .non P := by
  let A : Sl := .val (.tup (cs.map cnD))
  have e1 : isiQ "Shape" [.tup (cs.map cnD), .ty "tuple"] = some (.bl true) := by kernel_rfl
  have e2 : eqD (.tup (cs.map cnD)) (.tup []) = M.ok false := by
    rw [eqD_of (x := .tup (cs.map cnD)) (p := .tuple (cs.map cnP)) (by unfold toPy; rw [toPys_cns]; rfl) (y := .tup []) rfl (sh_cns cs) rfl]
    match cs, hl.1 with
    | c :: r, _ => rfl
  obtain ⟨e, h3, a, b, rfl⟩ := forM_nx (Inv := fun env => ∃ a b, env = [A, a, b]) (t := unpD [1, 2]) (P := P) (xs := enumD 0 (cs.map cnD)) (env := [A, .no, .no])
    (body := mIfS (mOr (mBi (mVarR 1) (mC (.int 4)) eqD) (mOr (mNot (mT (mUn (mCons (mVar 2) mNil) f_is_corner))) (mBi (mVarR 2) (mSl slO (mVarR 0) mONone (mOSome (mVar 1))) inTD))) mNever mSkip) (by
    rintro x hx env ⟨a, b, rfl⟩
    obtain ⟨i, c, rfl, hi⟩ := enum_cns 0 cs x hx
    have hlt : i < cs.length := (List.getElem?_eq_some_iff.mp hi).1
    have hm : c ∈ cs := List.mem_of_getElem? hi
    have k := corner_is (ho c hm) (P := P)
    have n : ¬ ((i : Int) = 4) := by omega
    have s := slT_to (cs.map cnD) i (by rw [List.length_map]; omega)
    rw [← List.map_take] at s
    have q := inT_cn c (cs.take i)
    rw [decide_eq_false (nd_take hn hi)] at q
    rw [Nat.zero_add]
    refine ⟨_, [A, .val (.int (i : Nat)), .val (cnD c)], rfl, ev_ifF (P1 := P) (ev_orF (P1 := P) (ev_bi (P1 := P) (P2 := P) (ev_varR rfl) ev_c (by rw [eqD_int, decide_eq_false n]; rfl)) (ev_orF (P1 := P) (ev_not (k := true) (ev_T (ev_un (ev_cons (ev_var rfl) ev_nil) k))) (ev_bi (P1 := P) (P2 := P) (b := .tup ((cs.take i).map cnD)) (ev_varR rfl) (ev_slTo (ev_varR rfl) (ev_var rfl) s) (by rw [q]; rfl)))) ev_skip, _, _, rfl⟩) ⟨_, _, rfl⟩
  refine ev_DN (e := [A, a, b]) (ev_seq (P1 := P) (ev_ifF (P1 := P) ?_ ev_skip) (ev_for (ds := enumD 0 (cs.map cnD)) (P1 := P) rfl h3))
  simp [mOr, mNot, mT, mUn, mBi, mCons, mNil, mVarR, mVar, slR, slD, mC, M.bind, M.ok, PD.envOf, e1, e2, optM, asB, mTup, okIf]
def fbody : Ev → M Out := (mIfS (mT (mUn (mCons (mFz (mLc2 [4, 5] (tgN 4) (mUn (mVar 3) fun d => optM (seqO d)) [5] (tgN 5) (mUn (mCons (mVarR 1) (mCons (mUn (mCons (mUn (mC (.cls "SIZES")) fun d => optM (ktO "SIZES" ws_SIZES d)) mNil) fun ds => optM (lenO ds)) mNil)) fun ds => optM (rng2O ds)) (mBi (mIx (mVarR 4) (mBi (mC (.int 1)) (mVar 5) addD)) (mC (.int 0)) fun x y => blM (neD x y)))) mNil) fun ds => optM (anyO ds))) mNever mSkip)
theorem factors_step {k : Nat} {c : Cr} (hk : k ≤ 2) (h : CrOk k c) (A : Sl) (i : Int) {P : Pu} : fbody [A, .val (.int (k : Nat)), .val (.int i), .val (cnD c), .no, .no] P = .ok (.next [A, .val (.int (k : Nat)), .val (.int i), .val (cnD c), .no, .no]) P := by
  obtain ⟨⟨a, b, d⟩, ⟨a', b', d'⟩⟩ := c
  have q1 := h.u.b0
  have q2 := h.u.c0
  have q3 := h.v.b0
  have q4 := h.v.c0
  dsimp only at q1 q2 q3 q4
  match k, hk with
  | 0, _ =>
    rw [q1 rfl, q2 (by decide), q3 rfl, q4 (by decide)]
    kernel_rfl
  | 1, _ =>
    rw [q2 (by decide), q4 (by decide)]
    kernel_rfl
  | 2, _ => kernel_rfl
theorem check_factors_ok {k : Nat} {cs : List Cr} (hk : k ≤ 2) (ho : ∀ c ∈ cs, CrOk k c) {P : Pu} : f_check_factors [.tup (cs.map cnD), .int (k : Nat)] P = .ok .non P := by
  let A : Sl := .val (.tup (cs.map cnD))
  obtain ⟨e, h3, a, b, rfl⟩ := forM_nx (Inv := fun env => ∃ a b, env = [A, .val (.int (k : Nat)), a, b, .no, .no]) (t := unpD [2, 3]) (P := P) (xs := enumD 0 (cs.map cnD)) (env := [A, .val (.int (k : Nat)), .no, .no, .no, .no]) (body := fbody) (by
    rintro x hx env ⟨a, b, rfl⟩
    obtain ⟨i, c, rfl, hi⟩ := enum_cns 0 cs x hx
    exact ⟨_, _, rfl, factors_step hk (ho c (List.mem_of_getElem? hi)) A _, _, _, rfl⟩) ⟨_, _, rfl⟩
  exact ev_DN (e := [A, .val (.int (k : Nat)), a, b, .no, .no]) (ev_for (ds := enumD 0 (cs.map cnD)) (P1 := P) rfl h3)
theorem Fig.k2 {cs : List Cr} {k : Nat} {ls : List Int} {t : Option Col} (h : Fig cs k ls t) : k ≤ 2 := by
  have h1 := h.sz
  have h2 := h.kl
  simp only [szs, List.mem_cons, List.not_mem_nil, or_false] at h1
  rcases h1 with rfl | rfl | rfl | rfl | rfl | rfl | rfl <;> simp at h2 <;> omega
def shpF (cs : List Cr) (ls : List Int) (t : Option Col) : List (Str × D) := [("points", .tup (cs.map cnD)), ("starts", szD ls), ("dye", colD t), ("words", .str (S (figL cs ls t)))]
def shpD (cs : List Cr) (ls : List Int) (t : Option Col) : D := .obj "Shape" (shpF cs ls t)
theorem len_sz {cs : List Cr} {k : Nat} {ls : List Int} {t : Option Col} (h : Fig cs k ls t) : lenO [szD ls] = some (.int (k : Nat)) := by
  have h1 := h.sz
  have h2 := h.kl
  simp only [szs, List.mem_cons, List.not_mem_nil, or_false] at h1
  rcases h1 with rfl | rfl | rfl | rfl | rfl | rfl | rfl <;> subst h2 <;> rfl
def BdIs (cs : List Cr) (k : Nat) (b : Bool) : Prop := ∀ P, f_is_bounded [.tup (cs.map cnD), .int (k : Nat)] P = .ok (.bl b) P
theorem init_head {cs : List Cr} {k : Nat} {ls : List Int} {t : Option Col} (h : Fig cs k ls t) {b : Bool} (hb : BdIs cs k b) {r : Res Out} {P : Pu}
    (hr : mSeq (mIfS (nx (mNot (mT (mUn (mCons (mVar 1) (mCons (mUn (mCons (mVarR 2) mNil) fun ds => optM (lenO ds)) mNil)) f_is_bounded)))) (mRaise0 "Unbounded") mSkip) (mSeq (mNox (mSetF3 "Shape" "points" "starts" "dye" (mVar 0) (mTup (mCons (mVar 1) (mCons (mVar 2) (mCons (mVar 3) mNil)))))) (mSetF "Shape" "words" (mVar 0) (nx (mUn (mCons (mVar 1) (mCons (mVar 2) (mCons (mVar 3) mNil))) f_text_of)))) [.val .pur, .val (.tup (cs.map cnD)), .val (szD ls), .val (colD t)] P = r) :
    f_Shape___init__ [.pur, .tup (cs.map cnD), szD ls, colD t] P = endD r := by
  let E : Ev := [.val .pur, .val (.tup (cs.map cnD)), .val (szD ls), .val (colD t)]
  have eL : (mUn (mCons (mVarR 2) mNil) fun ds => optM (lenO ds)) E P = .ok (.int (k : Nat)) P := ev_un (ev_cons (ev_varR rfl) ev_nil) (ev_opt (len_sz h))
  have s1 : mDrop (nx (mUn (mCons (mVar 1) mNil) f_check_corners)) E P = .ok (.next E) P := ev_drop (ev_nx (ev_un (ev_cons (ev_var rfl) ev_nil) (check_corners_ok h.len h.ok h.nd)))
  have s2 : mDrop (nx (mUn (mCons (mVar 2) mNil) f_check_least)) E P = .ok (.next E) P := ev_drop (ev_nx (ev_un (ev_cons (ev_var rfl) ev_nil) (map_mem (tab_p P) h.sz)))
  have s3 : mDrop (nx (mUn (mCons (mVar 1) (mCons (mUn (mCons (mVarR 2) mNil) fun ds => optM (lenO ds)) mNil)) f_check_factors)) E P = .ok (.next E) P := ev_drop (ev_nx (ev_un (ev_cons (ev_var rfl) (ev_cons eL ev_nil)) (check_factors_ok h.k2 h.ok)))
  have s4 : mIfS (nx (mAnd (mBi (mVarR 3) (mC .non) isNotD) (mNot (mT (mUn (mCons (mVar 3) mNil) f_is_colour))))) (mRaise1 "InvalidColour" "given" (mVar 3)) mSkip E P = .ok (.next E) P := by
    cases t with
    | none => exact ev_ifF (P1 := P) (ev_nx (ev_andF (P1 := P) (by kernel_rfl))) ev_skip
    | some c => exact ev_ifF (P1 := P) (ev_nx (ev_andT (P1 := P) (by kernel_rfl) (ev_not (k := true) (ev_T (ev_un (ev_cons (ev_var rfl) ev_nil) (map_mem (tab_j P) (h.co c rfl))))))) ev_skip
  subst hr
  show endD (b_Shape___init__ E P) = _
  congr 1
  exact ev_seq (P1 := P) s1 (ev_seq (P1 := P) s2 (ev_seq (P1 := P) s3 (ev_seq (P1 := P) s4 rfl)))
theorem bd_cond {cs : List Cr} {k : Nat} {ls : List Int} {t : Option Col} (h : Fig cs k ls t) {b : Bool} (hb : BdIs cs k b) {P : Pu} : nx (mNot (mT (mUn (mCons (mVar 1) (mCons (mUn (mCons (mVarR 2) mNil) fun ds => optM (lenO ds)) mNil)) f_is_bounded))) [.val .pur, .val (.tup (cs.map cnD)), .val (szD ls), .val (colD t)] P = .ok (!b) P :=
  ev_nx (ev_not (ev_T (ev_un (ev_cons (ev_var rfl) (ev_cons (ev_un (ev_cons (ev_varR rfl) ev_nil) (ev_opt (len_sz h))) ev_nil)) (hb P))))
theorem init_ok {cs : List Cr} {k : Nat} {ls : List Int} {t : Option Col} (h : Fig cs k ls t) (hb : BdIs cs k true) : f_Shape___init__ [.pur, .tup (cs.map cnD), szD ls, colD t] (.slf "Shape" []) = .ok .non (.slf "Shape" (shpF cs ls t)) := by
  let E : Ev := [.val .pur, .val (.tup (cs.map cnD)), .val (szD ls), .val (colD t)]
  have s6 : mNox (mSetF3 "Shape" "points" "starts" "dye" (mVar 0) (mTup (mCons (mVar 1) (mCons (mVar 2) (mCons (mVar 3) mNil))))) E (.slf "Shape" []) = .ok (.next E) (.slf "Shape" [("points", .tup (cs.map cnD)), ("starts", szD ls), ("dye", colD t)]) :=
    ev_nox (ev_setF3 (x := .tup (cs.map cnD)) (y := szD ls) (z := colD t) (g1 := [("points", .tup (cs.map cnD))]) (g2 := [("points", .tup (cs.map cnD)), ("starts", szD ls)]) (ev_tup (ev_cons (ev_var rfl) (ev_cons (ev_var rfl) (ev_cons (ev_var rfl) ev_nil))) (by unfold cap; simp)) (fun _ => ev_var rfl) (by simp) (by simp) (by simp) rfl (by kernel_rfl) (by kernel_rfl))
  have s7 : mSetF "Shape" "words" (mVar 0) (nx (mUn (mCons (mVar 1) (mCons (mVar 2) (mCons (mVar 3) mNil))) f_text_of)) E (.slf "Shape" [("points", .tup (cs.map cnD)), ("starts", szD ls), ("dye", colD t)]) = .ok (.next E) (.slf "Shape" (shpF cs ls t)) :=
    ev_setF (ev_nx (ev_un (ev_cons (ev_var rfl) (ev_cons (ev_var rfl) (ev_cons (ev_var rfl) ev_nil))) (text_of_ok h))) (ev_var rfl) (by simp) (by kernel_rfl)
  exact init_head h hb (r := .ok (.next E) (.slf "Shape" (shpF cs ls t))) (ev_seq (e2 := E) (ev_ifF (bd_cond h hb) ev_skip) (ev_seq s6 s7))
theorem init_unb {cs : List Cr} {k : Nat} {ls : List Int} {t : Option Col} (h : Fig cs k ls t) (hb : BdIs cs k false) {P : Pu} : f_Shape___init__ [.pur, .tup (cs.map cnD), szD ls, colD t] P = .exc (.exc "Unbounded" []) P :=
  init_head h hb (r := .exc (.exc "Unbounded" []) P) (ex_seq (ev_ifT (bd_cond h hb) rfl))
theorem noPurs_cns : ∀ cs : List Cr, noPurs (cs.map cnD) = true
  | [] => rfl
  | c :: r => by
    show (noPur (cnD c) && noPurs (r.map cnD)) = true
    rw [noPurs_cns r]; rfl
theorem noPurs_ints : ∀ ls : List Int, noPurs (ls.map .int) = true
  | [] => rfl
  | c :: r => by
    show (noPur (.int c) && noPurs (r.map .int)) = true
    rw [noPurs_ints r]; rfl
theorem noPur_col (t : Option Col) : noPur (colD t) = true := by cases t <;> rfl
theorem noPur_args (cs : List Cr) (ls : List Int) (t : Option Col) : noPurs [.tup (cs.map cnD), szD ls, colD t] = true := by
  show (noPurs (cs.map cnD) && (noPurs (ls.map .int) && (noPur (colD t) && true))) = true
  rw [noPurs_cns, noPurs_ints, noPur_col]; rfl
theorem noPur_shp (cs : List Cr) (ls : List Int) (t : Option Col) : noPurF (shpF cs ls t) = true := by
  show (noPurs (cs.map cnD) && (noPurs (ls.map .int) && (noPur (colD t) && true))) = true
  rw [noPurs_cns, noPurs_ints, noPur_col]; rfl
theorem made_X {cs : List Cr} {k : Nat} {ls : List Int} {t : Option Col} (h : Fig cs k ls t) (hb : BdIs cs k true) {ms : Ev → M (List D)} {env : Ev} {P P1 : Pu} (h1 : ms env P = .ok [.tup (cs.map cnD), szD ls, colD t] P1) : mMakeX "Shape" f_Shape___init__ ms env P = .ok (shpD cs ls t) P1 := ev_makeX h1 (noPur_args cs ls t) (init_ok h hb) (noPur_shp cs ls t)
theorem unb_X {cs : List Cr} {k : Nat} {ls : List Int} {t : Option Col} (h : Fig cs k ls t) (hb : BdIs cs k false) {ms : Ev → M (List D)} {env : Ev} {P P1 : Pu} (h1 : ms env P = .ok [.tup (cs.map cnD), szD ls, colD t] P1) : mMakeX "Shape" f_Shape___init__ ms env P = .exc (.exc "Unbounded" []) P1 := ex_makeX h1 (noPur_args cs ls t) (init_unb h hb) rfl
theorem fld_points (cs : List Cr) (ls : List Int) (t : Option Col) : fldO "Shape" "points" (shpD cs ls t) = some (.tup (cs.map cnD)) := by kernel_rfl
theorem fld_starts (cs : List Cr) (ls : List Int) (t : Option Col) : fldO "Shape" "starts" (shpD cs ls t) = some (szD ls) := by kernel_rfl
theorem fld_dye (cs : List Cr) (ls : List Int) (t : Option Col) : fldO "Shape" "dye" (shpD cs ls t) = some (colD t) := by kernel_rfl
theorem fld_words (cs : List Cr) (ls : List Int) (t : Option Col) : fldO "Shape" "words" (shpD cs ls t) = some (.str (S (figL cs ls t))) := by kernel_rfl
theorem ix_last (xs : List D) (x : D) : ixO (.lst (xs ++ [x])) (.int (-1)) = some x := by
  show atI (xs ++ [x]) (-1) = some x
  unfold atI ixN
  rw [if_neg (by decide), if_pos (by simp only [List.length_append, List.length_cons, List.length_nil]; omega)]
  show (xs ++ [x])[(-1 + (((xs ++ [x]).length : Nat) : Int)).toNat]? = some x
  have : (-1 + (((xs ++ [x]).length : Nat) : Int)).toNat = xs.length := by simp only [List.length_append, List.length_cons, List.length_nil]; omega
  rw [this]; simp
theorem sl_tail (x : D) (xs : List D) : slF (.lst (x :: xs)) (some 1) none = some xs := by
  show some (PD.cutD (x :: xs) (some ((1 : Nat) : Int)) none) = some xs
  unfold PD.cutD
  rw [HT.sIx_nat, HT.sIx_none]
  have : min 1 (x :: xs).length = 1 := by simp
  rw [this]
  simp
theorem sl_mid (x y : D) (xs : List D) : slF (.lst (x :: (xs ++ [y]))) (some 1) (some (-1)) = some xs := by
  show some (PD.cutD (x :: (xs ++ [y])) (some ((1 : Nat) : Int)) (some (-1))) = some xs
  unfold PD.cutD
  rw [HT.sIx_nat]
  have h1 : min 1 (x :: (xs ++ [y])).length = 1 := by simp
  have h2 : HT.sIx (x :: (xs ++ [y])).length (x :: (xs ++ [y])).length (some (-1)) = xs.length + 1 := by
    unfold HT.sIx
    dsimp only
    rw [if_pos (by decide)]
    simp only [List.length_append, List.length_cons, List.length_nil]; omega
  rw [h1, h2]
  simp
theorem no_col (x : List Nat) : startsO (.str (S (kcor ++ x))) (.str (S kcol)) = some (.bl false) := by
  show some (D.bl (Txt.startswith (S (kcor ++ x)) (S kcol))) = _
  unfold Txt.startswith
  rw [StrLaws.subAt_eq]
  have e : (((S (kcor ++ x)).cps.toList.drop 0).take (S kcol).length == (S kcol).cps.toList) = false := by
    show ((kcor ++ x).take 7 == kcol) = false
    have : (kcor ++ x).take 7 = kcor := by simp [kcor]
    rw [this]; decide
  rw [e, Bool.and_false]
theorem yes_col {c : Col} (h : c ∈ cols) : startsO (.str (S (crL c))) (.str (S kcol)) = some (.bl true) := by
  rw [← ecol]; exact map_mem tab_l h
theorem col_back {c : Col} (h : c ∈ cols) {P : Pu} : f_colour_of_text [.str (S (crL c))] P = .ok (coD c) P := map_mem (tab_h P) h
theorem least_back {l : List Int} (h : l ∈ szs) {P : Pu} : f_least_of_text [.str (S (szL l))] P = .ok (szD l) P := map_mem (tab_n P) h
theorem rows_ne (cs : List Cr) (ls : List Int) (t : Option Col) : rowsL cs ls t ≠ [] := by simp [rowsL]
def rdE : Ev → M (List D) := (mLc [7] (tgN 7) mTrue (mUn (mCons (mVar 7) mNil) f_corner_of_text) (mIf (mT (mVar 5)) (mSl slF (mVarR 2) (mOSome (mC (.int 1))) (mOSome (mUn (mC (.int 1)) negD))) (mSl slF (mVarR 2) (mOSome (mC (.int 1))) mONone)))
def lastE : Ev → M D := mIx (mVarR 2) (mUn (mC (.int 1)) negD)
theorem neg1 {env : Ev} {P : Pu} : (mUn (mC (.int 1)) negD) env P = .ok (.int (-1)) P := rfl
theorem last_ok {R0 : List D} {x : D} {a b d e f g : Sl} {P : Pu} : lastE [a, b, .own (R0 ++ [x]), d, e, f, g, .no] P = .ok x P := by
  unfold lastE mIx
  exact ev_bi (ev_varO rfl) neg1 (ev_opt (ix_last _ _))
theorem rd_none {cs : List Cr} {k : Nat} (hl : cs.length ≤ 4) (ho : ∀ c ∈ cs, CrOk k c) {x : D} {a b d e : Sl} {P : Pu} : rdE [a, b, .own (x :: cs.map fun c => .str (S (coL c))), d, e, .val (.bl false), .no, .no] P = .ok (cs.map cnD) P :=
  ev_lc (as := cs) (fun c => .str (S (coL c))) cnD (P1 := P) (ev_ifeF (P1 := P) (ev_T (ev_var rfl)) (ev_slFrom (ev_varO rfl) ev_c (sl_tail _ _))) (by unfold cap; omega) fun c hc => ⟨_, rfl, ev_un (ev_cons (ev_var rfl) ev_nil) (corner_back (ho c hc))⟩
theorem rd_some {cs : List Cr} {k : Nat} (hl : cs.length ≤ 4) (ho : ∀ c ∈ cs, CrOk k c) {x y : D} {a b d e : Sl} {P : Pu} : rdE [a, b, .own (x :: ((cs.map fun c => .str (S (coL c))) ++ [y])), d, e, .val (.bl true), .no, .no] P = .ok (cs.map cnD) P :=
  ev_lc (as := cs) (fun c => .str (S (coL c))) cnD (P1 := P) (ev_ifeT (P1 := P) (ev_T (ev_var rfl)) (ev_sl (l := some 1) (h := some (-1)) (ev_varO rfl) (ev_oS ev_c) (ev_oS neg1) (sl_mid _ _ _))) (by unfold cap; omega) fun c hc => ⟨_, rfl, ev_un (ev_cons (ev_var rfl) ev_nil) (corner_back (ho c hc))⟩
def xText (d : D) : D := .exc "InvalidText" [("given", d)]
def mkE : Ev → M D := (mMakeLX 0 "Shape" f_Shape___init__ (mCons (mVar 3) (mCons (mVar 4) (mCons (nx (mIf (mT (mVar 5)) (mUn (mCons (mIx (mVarR 2) (mUn (mC (.int 1)) negD)) mNil) f_colour_of_text) (mC .non))) mNil))))
def rdT : Ev → M Out := mTryH ["Unbounded"] (mRaise1 "InvalidText" "given" (mVar 1)) (mSet 6 (mVal mkE))
def rdZ : Ev → M Out := (mSeq (mIfS (nx (mBi (mUn (mVar 6) fun d => optM (fldO "Shape" "words" d)) (mVarR 1) neD)) (mRaise1 "InvalidText" "given" (mVar 1)) mSkip) (mRet (mVar 6)))
/-- the rows, as they are split: the parts are read out of them -/
theorem read_of {cs : List Cr} {k : Nat} {ls : List Int} {t : Option Col} (h : Fig cs k ls t) (R : List D) (b : Bool) {P : Pu} {r : Res Out} (e2 : splitO (.str (S (figL cs ls t))) (.str (S [10])) = some R) (e3 : ixO (.lst R) (.int 0) = some (.str (S (szL ls))))
    (hlast : ∀ T Q : Sl, (mM1 startsO lastE (mC (.str "colour "))) [.val (.cls "Shape"), T, .own R, .no, .no, .no, .no, .no] P = .ok (.bl b) P)
    (hmap : ∀ T Q : Sl, rdE [.val (.cls "Shape"), T, .own R, .no, Q, .val (.bl b), .no, .no] P = .ok (cs.map cnD) P)
    (hr : mSeq rdT rdZ [.val (.cls "Shape"), .val (.str (S (figL cs ls t))), .own R, .val (.tup (cs.map cnD)), .val (szD ls), .val (.bl b), .no, .no] P = r) : f_Shape_read [.cls "Shape", .str (S (figL cs ls t))] P = endD r := by
  let Tx : Sl := .val (.str (S (figL cs ls t)))
  let Cx : Sl := .val (.cls "Shape")
  have e1 : isiQ "Shape" [.str (S (figL cs ls t)), .ty "str"] = some (.bl true) := by kernel_rfl
  have s1 : (mNox (mSet 2 (mOwn (mIf (mT (mUn (mCons (mVarR 1) (mCons (mC (.ty "str")) mNil)) fun ds => optM ((isiQ "Shape") ds))) (mM1 splitO (mVarR 1) (mC (.str "\n"))) (mLst (mCons (mC (.str "")) mNil)))))) [Cx, Tx, .no, .no, .no, .no, .no, .no] P = .ok (.next [Cx, Tx, .own R, .no, .no, .no, .no, .no]) P :=
    ev_nox (ev_set (ev_own (ev_ifeT (P1 := P) (ev_T (ev_un (ev_cons (ev_varR rfl) (ev_cons ev_c ev_nil)) (ev_opt e1))) (ev_m (ev_varR rfl) ev_c (by rw [enl]; exact e2)))))
  have eF : (mUn (mCons (mIx (mVarR 2) (mC (.int 0))) mNil) f_least_of_text) [Cx, Tx, .own R, .no, .no, .no, .no, .no] P = .ok (szD ls) P := by
    have q := least_back h.sz (P := P)
    have q1 : (mCons (mIx (mVarR 2) (mC (.int 0))) mNil) [Cx, Tx, .own R, .no, .no, .no, .no, .no] P = .ok [.str (S (szL ls))] P := by
      refine ev_cons ?_ ev_nil
      unfold mIx
      exact ev_bi (ev_varO rfl) ev_c (ev_opt e3)
    unfold mUn
    rw [bindR q1]
    exact q
  have s2 : (mNox (mPar 4 5 (mVal (mUn (mCons (mIx (mVarR 2) (mC (.int 0))) mNil) f_least_of_text)) (mVal (mM1 startsO (mIx (mVarR 2) (mUn (mC (.int 1)) negD)) (mC (.str "colour ")))))) [Cx, Tx, .own R, .no, .no, .no, .no, .no] P = .ok (.next [Cx, Tx, .own R, .no, .val (szD ls), .val (.bl b), .no, .no]) P :=
    ev_nox (ev_par (ev_val eF) (ev_val (hlast _ .no)))
  have s3 : (mSet 3 (mVal (nx (mUn (mCons (mFz rdE) mNil) fun ds => optM (tupleO ds))))) [Cx, Tx, .own R, .no, .val (szD ls), .val (.bl b), .no, .no] P = .ok (.next [Cx, Tx, .own R, .val (.tup (cs.map cnD)), .val (szD ls), .val (.bl b), .no, .no]) P :=
    ev_set (ev_val (ev_nx (ev_un (ev_cons (ev_fz (hmap _ _)) ev_nil) rfl)))
  subst hr
  show endD (b_Shape_read [Cx, Tx, .no, .no, .no, .no, .no, .no] P) = _
  congr 1
  exact ev_seq (P1 := P) s1 (ev_seq (P1 := P) s2 (ev_seq (P1 := P) s3 rfl))
theorem fig_split {cs : List Cr} {k : Nat} {ls : List Int} {t : Option Col} (h : Fig cs k ls t) : splitO (.str (S (figL cs ls t))) (.str (S [10])) = some ((rowsL cs ls t).map fun l => .str (S l)) := by
  have hl := fig_len h
  exact split_parts (s := 10) (r := []) (rows_ne cs ls t) (fun p hp => (row_fine h p hp).2.1) (by decide) (by show (figL cs ls t).length + 2 ≤ cap; unfold cap; omega)
theorem ix_first (x : D) (xs : List D) : ixO (.lst (x :: xs)) (.int 0) = some x := by
  show atI (x :: xs) 0 = some x
  unfold atI ixN
  rw [if_pos (by decide), if_pos (by simp only [List.length_cons]; omega)]
  rfl
/-- what the rows tell -/
theorem read_any {cs : List Cr} {k : Nat} {ls : List Int} {t : Option Col} (h : Fig cs k ls t) {P : Pu} {r : Res Out} (hr : ∀ R b, (∀ T U Q : Sl, (mIf (mT (mVar 5)) (mUn (mCons lastE mNil) f_colour_of_text) (mC .non)) [.val (.cls "Shape"), T, .own R, U, Q, .val (.bl b), .no, .no] P = .ok (colD t) P) → mSeq rdT rdZ [.val (.cls "Shape"), .val (.str (S (figL cs ls t))), .own R, .val (.tup (cs.map cnD)), .val (szD ls), .val (.bl b), .no, .no] P = r) : f_Shape_read [.cls "Shape", .str (S (figL cs ls t))] P = endD r := by
  have hs := fig_split h
  cases t with
  | none =>
    obtain ⟨ci, cl, hc⟩ : ∃ ci cl, cs = ci ++ [cl] := by
      have := h.len.1
      exact ⟨cs.dropLast, cs.getLast (by intro e; rw [e] at this; simp at this), (List.dropLast_concat_getLast _).symm⟩
    have e1 : ((rowsL cs ls none).map fun l => D.str (S l)) = .str (S (szL ls)) :: cs.map fun c => .str (S (coL c)) := by simp [rowsL, endR]
    have e2 : ((rowsL cs ls none).map fun l => D.str (S l)) = (.str (S (szL ls)) :: ci.map fun c => .str (S (coL c))) ++ [.str (S (coL cl))] := by simp [rowsL, endR, hc]
    refine read_of h _ false hs (by rw [e1]; exact ix_first _ _) (fun T Q => ?_) (fun T Q => ?_) (hr _ _ fun T U Q => ev_ifeF (P1 := P) (ev_T (ev_var rfl)) ev_c)
    · rw [e2, ecol]; exact ev_m last_ok ev_c (no_col _)
    · rw [e1]; exact rd_none h.len.2 h.ok
  | some c =>
    have e1 : ((rowsL cs ls (some c)).map fun l => D.str (S l)) = .str (S (szL ls)) :: ((cs.map fun c => .str (S (coL c))) ++ [.str (S (crL c))]) := by simp [rowsL, endR]
    have e2 : ((rowsL cs ls (some c)).map fun l => D.str (S l)) = (.str (S (szL ls)) :: cs.map fun c => .str (S (coL c))) ++ [.str (S (crL c))] := by simp [rowsL, endR]
    refine read_of h _ true hs (by rw [e1]; exact ix_first _ _) (fun T Q => ?_) (fun T Q => ?_) (hr _ _ fun T U Q => ?_)
    · rw [e2, ecol]; exact ev_m last_ok ev_c (yes_col (h.co c rfl))
    · rw [e1]; exact rd_some h.len.2 h.ok
    · rw [e2]; exact ev_ifeT (P1 := P) (ev_T (ev_var rfl)) (ev_un (ev_cons last_ok ev_nil) (col_back (h.co c rfl)))
theorem mk_arg {ls : List Int} {t : Option Col} {A B R : Sl} {cs : List Cr} {b : Bool} {P : Pu} (hc : ∀ T U Q : Sl, (mIf (mT (mVar 5)) (mUn (mCons lastE mNil) f_colour_of_text) (mC .non)) [A, T, R, U, Q, .val (.bl b), .no, .no] P = .ok (colD t) P) : (mCons (mVar 3) (mCons (mVar 4) (mCons (nx (mIf (mT (mVar 5)) (mUn (mCons (mIx (mVarR 2) (mUn (mC (.int 1)) negD)) mNil) f_colour_of_text) (mC .non))) mNil))) [A, B, R, .val (.tup (cs.map cnD)), .val (szD ls), .val (.bl b), .no, .no] P = .ok [.tup (cs.map cnD), szD ls, colD t] P :=
  ev_cons (ev_var rfl) (ev_cons (ev_var rfl) (ev_cons (ev_nx (hc _ _ _)) ev_nil))
theorem read_ok {cs : List Cr} {k : Nat} {ls : List Int} {t : Option Col} (h : Fig cs k ls t) (hb : BdIs cs k true) {P : Pu} : f_Shape_read [.cls "Shape", .str (S (figL cs ls t))] P = .ok (shpD cs ls t) P := by
  refine read_any h (r := .ok (.ret (shpD cs ls t)) P) fun R b hc => ?_
  have e9 := neS (fig_asc h) (fig_asc h)
  have s1 : rdT [.val (.cls "Shape"), .val (.str (S (figL cs ls t))), .own R, .val (.tup (cs.map cnD)), .val (szD ls), .val (.bl b), .no, .no] P = .ok (.next [.val (.cls "Shape"), .val (.str (S (figL cs ls t))), .own R, .val (.tup (cs.map cnD)), .val (szD ls), .val (.bl b), .val (shpD cs ls t), .no]) P :=
    ev_tryH (ev_set (ev_val (any_makeLX rfl (made_X h hb (mk_arg hc)))))
  exact ev_seq (P1 := P) s1 (ev_seq (P1 := P) (ev_ifF (P1 := P) (ev_nx (ev_bi (P1 := P) (a := .str (S (figL cs ls t))) (ev_un (ev_var rfl) (ev_opt (fld_words cs ls t))) (ev_varR rfl) (by rw [e9]; simp [M.ok]))) ev_skip) (ev_ret (ev_var rfl)))
theorem read_no {cs : List Cr} {k : Nat} {ls : List Int} {t : Option Col} (h : Fig cs k ls t) (hb : BdIs cs k false) {P : Pu} : f_Shape_read [.cls "Shape", .str (S (figL cs ls t))] P = .exc (xText (.str (S (figL cs ls t)))) P :=
  read_any h (r := .exc (xText (.str (S (figL cs ls t)))) P) fun R b hc => ex_seq (ex_tryH (ex_set (ex_val (any_makeLX rfl (unb_X h hb (mk_arg hc))))) rfl (ev_raise1 (ev_var rfl)))
abbrev P2 := Int × Int
def prD (p : P2) : D := .tup [.int p.1, .int p.2]
def diff (b c : Cr) : List P2 := [(c.1.2.1 - b.1.2.1, c.1.2.2 - b.1.2.2), (c.2.2.1 - b.2.2.1, c.2.2.2 - b.2.2.2)]
def dpair : Ev → M Out := (mApp 1 (mTup (mCons (mBi (mIx (mVarR 3) (mC (.int 1))) (mIx (mVarR 4) (mC (.int 1))) subD) (mCons (mBi (mIx (mVarR 3) (mC (.int 2))) (mIx (mVarR 4) (mC (.int 2))) subD) mNil))))
def dbody : Ev → M Out := (mFor (mUn (mCons (mVar 2) (mCons (mIx (mVarR 0) (mC (.int 0))) mNil)) fun ds => optM (zipO ds)) (unpD [3, 4]) dpair)
theorem dpair_ok (m n : Mv) (A x : Sl) (acc : List D) (hl : acc.length < 100) {P : Pu} : dpair [A, .own acc, x, .val (mvD m), .val (mvD n)] P = .ok (.next [A, .own (acc ++ [prD (m.2.1 - n.2.1, m.2.2 - n.2.2)]), x, .val (mvD m), .val (mvD n)]) P :=
  ev_app rfl (by kernel_rfl) (by unfold cap; omega)
theorem dbody_ok (b c : Cr) (r : List D) (acc : List D) (s3 s4 : Sl) (hl : acc.length < 90) {P : Pu} : dbody [.val (.tup (cnD b :: r)), .own acc, .val (cnD c), s3, s4] P = .ok (.next [.val (.tup (cnD b :: r)), .own (acc ++ (diff b c).map prD), .val (cnD c), .val (mvD c.2), .val (mvD b.2)]) P := by
  have e1 : (mUn (mCons (mVar 2) (mCons (mIx (mVarR 0) (mC (.int 0))) mNil)) fun ds => optM (zipO ds)) [.val (.tup (cnD b :: r)), .own acc, .val (cnD c), s3, s4] P = .ok [.tup [mvD c.1, mvD b.1], .tup [mvD c.2, mvD b.2]] P := by
    refine ev_un (P1 := P) (a := [cnD c, cnD b]) (ev_cons (ev_var rfl) (ev_cons ?_ ev_nil)) rfl
    unfold mIx
    refine ev_bi (ev_varR rfl) ev_c (ev_opt ?_)
    show atI (cnD b :: r) 0 = _
    unfold atI ixN
    rw [if_pos (by decide), if_pos (by simp only [List.length_cons]; omega)]
    rfl
  refine ev_for e1 (forM_step (e1 := [.val (.tup (cnD b :: r)), .own acc, .val (cnD c), .val (mvD c.1), .val (mvD b.1)]) rfl (dpair_ok _ _ _ _ _ (by omega)) (forM_step (e1 := [.val (.tup (cnD b :: r)), .own (acc ++ [prD (c.1.2.1 - b.1.2.1, c.1.2.2 - b.1.2.2)]), .val (cnD c), .val (mvD c.2), .val (mvD b.2)]) rfl (dpair_ok _ _ _ _ _ (by simp only [List.length_append, List.length_cons, List.length_nil]; omega)) ?_))
  show Res.ok _ P = _
  simp [diff]
theorem diffs_loop (b : Cr) (r : List D) {P : Pu} : ∀ (cs : List Cr) (acc : List D) (s2 s3 s4 : Sl), acc.length + 2 * cs.length ≤ 80 → ∃ a c d, forM (tgN 2) dbody (cs.map cnD) [.val (.tup (cnD b :: r)), .own acc, s2, s3, s4] P = .ok (.next [.val (.tup (cnD b :: r)), .own (acc ++ (cs.flatMap (diff b)).map prD), a, c, d]) P
  | [], acc, s2, s3, s4, _ => ⟨s2, s3, s4, by simp [PD.forM, M.ok]⟩
  | c :: cs, acc, s2, s3, s4, hl => by
    simp only [List.length_cons] at hl
    obtain ⟨x, y, z, e⟩ := diffs_loop b r (P := P) cs (acc ++ (diff b c).map prD) (.val (cnD c)) (.val (mvD c.2)) (.val (mvD b.2)) (by simp only [diff, List.length_append, List.length_map, List.length_cons, List.length_nil]; omega)
    refine ⟨x, y, z, forM_step (e1 := [.val (.tup (cnD b :: r)), .own acc, .val (cnD c), s3, s4]) rfl (dbody_ok b c r acc s3 s4 (by omega)) ?_⟩
    rw [e]
    simp [List.append_assoc]
theorem slT_from1 (x : D) (xs : List D) : slO (.tup (x :: xs)) (some 1) none = some (.tup xs) := by
  show some (D.tup (PD.cutD (x :: xs) (some ((1 : Nat) : Int)) none)) = _
  unfold PD.cutD
  rw [HT.sIx_nat, HT.sIx_none]
  have : min 1 (x :: xs).length = 1 := by simp
  rw [this]
  simp
def diffs : List Cr → List P2
  | [] => []
  | b :: cs => cs.flatMap (diff b)
theorem diffs_ok {b : Cr} {cs : List Cr} (hl : cs.length ≤ 3) {P : Pu} : f_differences [.tup ((b :: cs).map cnD)] P = .ok (.lst ((diffs (b :: cs)).map prD)) P := by
  obtain ⟨x, y, z, e⟩ := diffs_loop b (cs.map cnD) (P := P) cs [] .no .no .no (by simp only [List.length_nil]; omega)
  refine ev_D (ev_seq (e2 := [.val (.tup (cnD b :: cs.map cnD)), .own [], .no, .no, .no]) (P1 := P) (ev_set (ev_own (ev_lst ev_nil (by unfold cap; simp)))) (ev_seq (P1 := P) (ev_for (ev_un (P1 := P) (a := .tup (cs.map cnD)) (ev_slFrom (ev_varR rfl) ev_c (slT_from1 _ _)) rfl) e) (ev_fr rfl (ev_ret (ev_var rfl)))))
theorem diff_bd {k : Nat} {b c : Cr} (hb : CrOk k b) (hc : CrOk k c) : ∀ p ∈ diff b c, (-4 ≤ p.1 ∧ p.1 ≤ 4) ∧ (-4 ≤ p.2 ∧ p.2 ≤ 4) := fun p hp => by
  have h1 := hb.u; have h2 := hb.v; have h3 := hc.u; have h4 := hc.v
  have a1 := h1.b; have a2 := h1.c; have a3 := h2.b; have a4 := h2.c
  have a5 := h3.b; have a6 := h3.c; have a7 := h4.b; have a8 := h4.c
  simp only [diff, List.mem_cons, List.not_mem_nil, or_false] at hp
  rcases hp with rfl | rfl
  · dsimp only; omega
  · dsimp only; omega
theorem diffs_bd {k : Nat} {cs : List Cr} (ho : ∀ c ∈ cs, CrOk k c) : ∀ p ∈ diffs cs, (-4 ≤ p.1 ∧ p.1 ≤ 4) ∧ (-4 ≤ p.2 ∧ p.2 ≤ 4) := fun p hp => by
  cases cs with
  | nil => simp [diffs] at hp
  | cons b cs =>
    obtain ⟨c, hc, hp⟩ := List.mem_flatMap.mp hp
    exact diff_bd (ho b (by simp)) (ho c (by simp [hc])) p hp
def ways (k : Nat) (rows : List P2) : List P2 := [((1 : Int), (0 : Int)), (0, 1)].take k ++ (if k = 2 then (rows.filter fun r => decide (r.1 * r.2 < 0)).map fun r => ((r.2.natAbs : Int), (r.1.natAbs : Int)) else [])
theorem diffs_len {b : Cr} {cs : List Cr} : (diffs (b :: cs)).length = 2 * cs.length := by
  show (cs.flatMap (diff b)).length = _
  induction cs with
  | nil => rfl
  | cons c cs ih => simp only [List.flatMap_cons, List.length_append, List.length_cons, ih, diff, List.length_nil]; omega
theorem abs_eq (f : Int) : (if f < 0 then -f else f) = ((f.natAbs : Nat) : Int) := by
  by_cases z : f < 0
  · rw [if_pos z]; omega
  · rw [if_neg z]; omega
def wall (w r : P2) : Bool := decide (r.1 * w.1 + r.2 * w.2 = 0)
def wE1 : Ev → M D := (mUn (mCons (mFz (mLc [5, 6] (unpD [5, 6]) mTrue (mBi (mBi (mBi (mVar 5) (mIx (mVarR 4) (mC (.int 0))) mulD) (mBi (mVar 6) (mIx (mVarR 4) (mC (.int 1))) mulD) addD) (mC (.int 0)) fun x y => blM (eqD x y)) (mUn (mVar 2) fun d => optM (seqO d)))) mNil) fun ds => optM (allO ds))
theorem wE1_ok {rows : List P2} (hl : rows.length ≤ 100) (hb : ∀ p ∈ rows, (-4 ≤ p.1 ∧ p.1 ≤ 4) ∧ (-4 ≤ p.2 ∧ p.2 ≤ 4)) {w : P2} (hw : (0 ≤ w.1 ∧ w.1 ≤ 4) ∧ (0 ≤ w.2 ∧ w.2 ≤ 4)) (A B s3 s5 s6 : Sl) {P : Pu} : wE1 [A, B, .val (.lst (rows.map prD)), s3, .val (prD w), s5, s6] P = .ok (.bl (rows.all (wall w))) P := by
  refine ev_un (ev_cons (ev_fz (ev_lc (as := rows) prD (fun r => .bl (wall w r)) (ev_un (ev_var rfl) rfl) (by unfold cap; omega) fun r hr => ⟨_, rfl, ?_⟩)) ev_nil) ev_all
  have := hb r hr
  have k1 : mulOk r.1 w.1 = true := mulOk_small (by omega) (by omega) (by omega) (by omega)
  have k2 : mulOk r.2 w.2 = true := mulOk_small (by omega) (by omega) (by omega) (by omega)
  have i0 : ixO (prD w) (.int 0) = some (.int w.1) := by kernel_rfl
  have i1 : ixO (prD w) (.int 1) = some (.int w.2) := by kernel_rfl
  simp [setAll, wipeE, mBi, mIx, mVar, mVarR, mC, M.bind, M.ok, slD, slR, mulD, addD, optM, okIf, k1, k2, i0, i1, blM, eqD_int, wall]
theorem bounded_val {b : Cr} {cs : List Cr} {k : Nat} (hk : k ≤ 2) (hl : cs.length ≤ 3) (ho : ∀ c ∈ b :: cs, CrOk k c) {P : Pu} : f_is_bounded [.tup ((b :: cs).map cnD), .int (k : Nat)] P = .ok (.bl (!((ways k (diffs (b :: cs))).any fun w => (diffs (b :: cs)).all (wall w)))) P := by
  have hb := diffs_bd ho
  have hn := diffs_len (b := b) (cs := cs)
  generalize hr : diffs (b :: cs) = rows at hb hn ⊢
  let A : Sl := .val (.tup ((b :: cs).map cnD))
  let K : Sl := .val (.int (k : Nat))
  let R : Sl := .val (.lst (rows.map prD))
  have wb : ∀ w ∈ ways k rows, (0 ≤ w.1 ∧ w.1 ≤ 4) ∧ (0 ≤ w.2 ∧ w.2 ≤ 4) := fun w hm => by
    rcases List.mem_append.mp hm with hm | hm
    · have := List.mem_of_mem_take hm
      simp only [List.mem_cons, List.not_mem_nil, or_false] at this
      rcases this with rfl | rfl <;> simp
    · by_cases k2 : k = 2
      · rw [if_pos k2] at hm
        obtain ⟨r, hr, rfl⟩ := List.mem_map.mp hm
        have := hb r (List.mem_filter.mp hr).1
        dsimp only; omega
      · rw [if_neg k2] at hm; simp at hm
  have wl : (ways k rows).length ≤ 100 := by
    have h1 : ([((1 : Int), (0 : Int)), (0, 1)].take k).length ≤ 2 := by rw [List.length_take]; simp only [List.length_cons, List.length_nil]; omega
    have h2 : (if k = 2 then (rows.filter fun r => decide (r.1 * r.2 < 0)).map fun r : P2 => (((r.2.natAbs : Nat) : Int), ((r.1.natAbs : Nat) : Int)) else []).length ≤ rows.length := by
      by_cases k2 : k = 2
      · rw [if_pos k2, List.length_map]; exact List.length_filter_le _ _
      · rw [if_neg k2]; simp
    unfold ways
    rw [List.length_append]; omega
  have s1 : (mSet 2 (mVal (mUn (mCons (mVar 0) mNil) f_differences))) [A, K, .no, .no, .no, .no, .no] P = .ok (.next [A, K, R, .no, .no, .no, .no]) P := by
    have q := diffs_ok (b := b) hl (P := P)
    rw [hr] at q
    exact ev_set (ev_val (ev_un (ev_cons (ev_var rfl) ev_nil) q))
  have s2 : (mSet 3 (mOwn (mSl slF (mFz (mLst (mCons (mTup (mCons (mC (.int 1)) (mCons (mC (.int 0)) mNil))) (mCons (mTup (mCons (mC (.int 0)) (mCons (mC (.int 1)) mNil))) mNil)))) mONone (mOSome (mVar 1))))) [A, .val (.int (k : Nat)), R, .no, .no, .no, .no] P = .ok (.next [A, .val (.int (k : Nat)), R, .own (([((1 : Int), (0 : Int)), (0, 1)].take k).map prD), .no, .no, .no]) P := by
    match k, hk with
    | 0, _ => kernel_rfl
    | 1, _ => kernel_rfl
    | 2, _ => kernel_rfl
  have s3 : (mIfS (mBi (mVarR 1) (mUn (mCons (mUn (mC (.cls "SIZES")) fun d => optM (ktO "SIZES" ws_SIZES d)) mNil) fun ds => optM (lenO ds)) eqD) (mSet 3 (mOwn (mBi (mVarR 3) (mFz (mLc [5, 6] (unpD [5, 6]) (mBi (mBi (mVar 5) (mVar 6) mulD) (mC (.int 0)) ltD) (mTup (mCons (mUn (mCons (mVarR 6) mNil) fun ds => optM (absO ds)) (mCons (mUn (mCons (mVarR 5) mNil) fun ds => optM (absO ds)) mNil))) (mUn (mVar 2) fun d => optM (seqO d)))) catF))) mSkip) [A, K, R, .own (([((1 : Int), (0 : Int)), (0, 1)].take k).map prD), .no, .no, .no] P = .ok (.next [A, K, R, .own ((ways k rows).map prD), .no, .no, .no]) P := by
    by_cases k2 : k = 2
    · subst k2
      refine ev_ifT (P1 := P) (by kernel_rfl) (ev_set (ev_own (ev_bi (P1 := P) (P2 := P) (ev_varO rfl) (ev_fz (ev_lcf (as := rows) prD (fun r => prD (((r.2.natAbs : Nat) : Int), ((r.1.natAbs : Nat) : Int))) (fun r => decide (r.1 * r.2 < 0)) (ev_un (ev_var rfl) rfl) (by unfold cap; omega) fun r hr => ⟨_, rfl, ?_, ?_⟩)) ?_)))
      · have := hb r hr
        have k1 : mulOk r.1 r.2 = true := mulOk_small (by omega) (by omega) (by omega) (by omega)
        simp [setAll, wipeE, mBi, mVar, mC, M.bind, M.ok, slD, mulD, ltD, okIf, k1]
      · simp [setAll, wipeE, mTup, mUn, mCons, mNil, mVarR, M.bind, M.ok, slR, absO, optM, okIf, cap, prD, abs_eq]
      · have hz : ((([((1 : Int), (0 : Int)), (0, 1)].take 2).map prD).length + ((rows.filter fun r => decide (r.1 * r.2 < 0)).map fun r : P2 => prD (((r.2.natAbs : Nat) : Int), ((r.1.natAbs : Nat) : Int))).length ≤ cap) := by
          have := List.length_filter_le (fun r : P2 => decide (r.1 * r.2 < 0)) rows
          simp only [List.length_map, List.length_take, List.length_cons, List.length_nil]; unfold cap; omega
        show okIf _ _ P = _
        rw [decide_eq_true hz]
        simp [okIf, M.ok, ways, List.map_append, List.map_map, Function.comp_def]
    · have e : ways k rows = [((1 : Int), (0 : Int)), (0, 1)].take k := by unfold ways; rw [if_neg k2, List.append_nil]
      rw [e]
      exact ev_ifF (P1 := P) (ev_bi (P1 := P) (P2 := P) (b := .int 2) (ev_varR rfl) (by kernel_rfl) (by rw [eqD_int, decide_eq_false (by omega)]; rfl)) ev_skip
  refine ev_D (ev_seq s1 (ev_seq s2 (ev_seq s3 (ev_fr rfl (ev_ret (ev_un (P1 := P) (a := .bl ((ways k rows).any fun w => rows.all (wall w))) (ev_un (ev_cons (ev_fz (ev_lc (as := ways k rows) prD (fun w => .bl (rows.all (wall w))) (ev_un (ev_var rfl) rfl) (by unfold cap; omega) fun w hm => ⟨_, rfl, wE1_ok (by omega) hb (wb w hm) A K _ _ _⟩)) ev_nil) ev_any) ?_))))))
  rfl
theorem bounded_of {b : Cr} {cs : List Cr} {k : Nat} (hk : k ≤ 2) (hl : cs.length ≤ 3) (ho : ∀ c ∈ b :: cs, CrOk k c) (hw : ∀ w ∈ ways k (diffs (b :: cs)), ∃ r ∈ diffs (b :: cs), ¬ (r.1 * w.1 + r.2 * w.2 = 0)) {P : Pu} : f_is_bounded [.tup ((b :: cs).map cnD), .int (k : Nat)] P = .ok (.bl true) P := by
  have fin : (ways k (diffs (b :: cs))).any (fun w => (diffs (b :: cs)).all (wall w)) = false := by
    rw [List.any_eq_false]
    intro w hm
    obtain ⟨r, hr, hne⟩ := hw w hm
    intro z
    have := List.all_eq_true.mp z r hr
    exact hne (of_decide_eq_true this)
  rw [bounded_val hk hl ho, fin]; rfl
theorem take_spec (a b c m : Int) (ha : 0 ≤ a ∧ a < 2147483648) (hb : 0 ≤ b ∧ b < 2147483648) (hc : 0 ≤ c) (hm : 0 < m) (hm2 : m < 1073741824) :
    ∃ v a' b' c', f__law_take [.pur, .int m] (.pl [a, b, c]) = .ok (.int v) (.pl [a', b', c']) ∧ (0 ≤ v ∧ v < m) ∧ (0 ≤ a' ∧ a' < 2147483648) ∧ (0 ≤ b' ∧ b' < 2147483648) ∧ 0 ≤ c' := by
  have hm0 : m ≠ 0 := by omega
  by_cases h : 0 < c
  · refine ⟨c % m, a, b, c / m, ?_, ⟨Int.emod_nonneg _ hm0, Int.emod_lt_of_pos _ hm⟩, ha, hb, Int.ediv_nonneg hc (by omega)⟩
    simp [f__law_take, runD, endD, PD.envOf, b__law_take, mNox, noexc, mSeq, mIfS, mBi, mPix, mVar, mVarR, mC, M.bind, M.ok, slD, slR, purO, optM, natO, getP, gtD, mPdiv, mUn, mCons, mNil, divmodO, pairO, putP, mRet, mSkip, h, hm0, hm, hm2]
  · have k1 : mulOk a 40692 = true := mulOk_small (by omega) (by omega) (by omega) (by omega)
    have k2 : mulOk b 40014 = true := mulOk_small (by omega) (by omega) (by omega) (by omega)
    refine ⟨_, _, _, c, by
      simp [f__law_take, runD, endD, PD.envOf, b__law_take, mNox, noexc, mSeq, mIfS, mBi, mPix, mPset, mVar, mVarR, mC, M.bind, M.ok, slD, slR, purO, optM, natO, getP, gtD, mUn, mCons, mNil, intO, intV, putP, mRet, mSkip, mulD, addD, modD, fdivD, okIf, divOk, k1, k2, h, hm0]
      exact ⟨rfl, rfl, rfl⟩, ?_, ?_, ?_, hc⟩
    · exact ⟨Int.fmod_nonneg_of_pos _ hm, Int.fmod_lt_of_pos _ hm⟩
    · refine ⟨Int.fmod_nonneg_of_pos _ (by decide), ?_⟩
      exact Int.lt_trans (Int.fmod_lt_of_pos _ (by decide)) (by decide)
    · refine ⟨Int.fmod_nonneg_of_pos _ (by decide), ?_⟩
      exact Int.lt_trans (Int.fmod_lt_of_pos _ (by decide)) (by decide)
theorem take_ok {P : Pu} (h : Pp P) (m : Int) (hm : 0 < m) (hm2 : m < 1073741824) : ∃ v P', f__law_take [.pur, .int m] P = .ok (.int v) P' ∧ (0 ≤ v ∧ v < m) ∧ Pp P' := by
  obtain ⟨a, b, c, rfl, ha, hb, hc⟩ := h
  obtain ⟨v, a', b', c', e, hv, h1, h2, h3⟩ := take_spec a b c m ha hb hc hm hm2
  exact ⟨v, _, e, hv, a', b', c', rfl, h1, h2, h3⟩
theorem fac_ok {e : Ev} {k : Nat} (h0 : e[0]? = some (.val .pur)) (h1 : e[1]? = some (.val (.int (k : Nat)))) (j : Int) {P : Pu} (p : Pp P) :
    ∃ v P', (mIf (mBi (mVarR 1) (mC (.int j)) gtD) (mBi (mUn (mCons (mVar 0) (mCons (mC (.int 5)) mNil)) f__law_take) (mC (.int 2)) subD) (mC (.int 0))) e P = .ok (.int v) P' ∧ (-2 ≤ v ∧ v ≤ 2) ∧ (¬ (j < (k : Int)) → v = 0) ∧ Pp P' := by
  by_cases q : j < (k : Int)
  · obtain ⟨v, P', e1, b, p'⟩ := take_ok p 5 (by decide) (by decide)
    refine ⟨v - 2, P', ev_ifeT (P1 := P) (ev_bi (ev_varR h1) ev_c (by show M.ok (decide (j < (k : Int))) P = _; rw [decide_eq_true q]; rfl)) (ev_bi (ev_un (ev_cons (ev_var h0) (ev_cons ev_c ev_nil)) e1) ev_c rfl), by omega, fun n => absurd q n, p'⟩
  · exact ⟨0, P, ev_ifeF (P1 := P) (ev_bi (ev_varR h1) ev_c (by show M.ok (decide (j < (k : Int))) P = _; rw [decide_eq_false q]; rfl)) ev_c, by decide, fun _ => rfl, p⟩
def tbody : Ev → M Out := (mSeq (mSet 4 (mVal (mBi (mUn (mCons (mVar 0) (mCons (mC (.int 11)) mNil)) f__law_take) (mC (.int 5)) subD))) (mSeq (mSet 5 (mVal (mIf (mBi (mVarR 1) (mC (.int 0)) gtD) (mBi (mUn (mCons (mVar 0) (mCons (mC (.int 5)) mNil)) f__law_take) (mC (.int 2)) subD) (mC (.int 0))))) (mSeq (mSet 6 (mVal (mIf (mBi (mVarR 1) (mC (.int 1)) gtD) (mBi (mUn (mCons (mVar 0) (mCons (mC (.int 5)) mNil)) f__law_take) (mC (.int 2)) subD) (mC (.int 0))))) (mApp 2 (mTup (mCons (mVar 4) (mCons (mVar 5) (mCons (mVar 6) mNil))))))))
theorem tbody_ok {k : Nat} (acc : List D) (hl : acc.length < 50) (x s4 s5 s6 : Sl) {P : Pu} (p : Pp P) : ∃ (m : Mv) (P' : Pu), tbody [.val .pur, .val (.int (k : Nat)), .own acc, x, s4, s5, s6] P = .ok (.next [.val .pur, .val (.int (k : Nat)), .own (acc ++ [mvD m]), x, .val (.int m.1), .val (.int m.2.1), .val (.int m.2.2)]) P' ∧ MvOk k m ∧ Pp P' := by
  obtain ⟨a, P1, e1, b1, p1⟩ := take_ok p 11 (by decide) (by decide)
  obtain ⟨b, P2, e2, b2, z2, p2⟩ := fac_ok (e := [.val .pur, .val (.int (k : Nat)), .own acc, x, .val (.int (a - 5)), s5, s6]) (k := k) rfl rfl 0 p1
  obtain ⟨c, P3, e3, b3, z3, p3⟩ := fac_ok (e := [.val .pur, .val (.int (k : Nat)), .own acc, x, .val (.int (a - 5)), .val (.int b), s6]) (k := k) rfl rfl 1 p2
  refine ⟨(a - 5, b, c), P3, ev_seq (P1 := P1) (ev_set (ev_val (ev_bi (ev_un (ev_cons (ev_var rfl) (ev_cons ev_c ev_nil)) e1) ev_c rfl))) (ev_seq (P1 := P2) (ev_set (ev_val e2)) (ev_seq (P1 := P3) (ev_set (ev_val e3)) (ev_app rfl (ev_tup (ev_cons (ev_var rfl) (ev_cons (ev_var rfl) (ev_cons (ev_var rfl) ev_nil))) (by unfold cap; simp)) (by unfold cap; omega)))), ⟨by dsimp only; omega, b2, b3, fun h => z2 (by omega), fun h => z3 (by omega)⟩, p3⟩
theorem dot_ok {k : Nat} {P : Pu} (p : Pp P) : ∃ (c : Cr) (P' : Pu), f__law_dot [.pur, .int (k : Nat)] P = .ok (cnD c) P' ∧ CrOk k c ∧ Pp P' := by
  obtain ⟨m, P1, e1, o1, p1⟩ := tbody_ok (k := k) [] (by simp) (.val (.int 0)) .no .no .no p
  obtain ⟨n, P2, e2, o2, p2⟩ := tbody_ok (k := k) [mvD m] (by simp) (.val (.int 1)) (.val (.int m.1)) (.val (.int m.2.1)) (.val (.int m.2.2)) p1
  refine ⟨(m, n), P2, ?_, ⟨o1, o2⟩, p2⟩
  have q : (mTup (mCons (mIx (mVarR 2) (mC (.int 0))) (mCons (mIx (mVarR 2) (mC (.int 1))) mNil))) [.val .pur, .val (.int (k : Nat)), .own ([mvD m] ++ [mvD n]), .val (.int 1), .val (.int n.1), .val (.int n.2.1), .val (.int n.2.2)] P2 = .ok (cnD (m, n)) P2 := by kernel_rfl
  exact ev_D (ev_seq (e2 := [.val .pur, .val (.int (k : Nat)), .own [], .no, .no, .no, .no]) (P1 := P) (ev_set (ev_own (ev_lst ev_nil (by unfold cap; simp)))) (ev_seq (P1 := P2) (ev_for (P1 := P) (ds := [.int 0, .int 1]) (ev_un (ev_cons ev_c ev_nil) rfl) (forM_step (e1 := [.val .pur, .val (.int (k : Nat)), .own [], .val (.int 0), .no, .no, .no]) rfl e1 (forM_step (e1 := [.val .pur, .val (.int (k : Nat)), .own [mvD m], .val (.int 1), .val (.int m.1), .val (.int m.2.1), .val (.int m.2.2)]) rfl e2 rfl))) (ev_ret q)))
theorem forM_eachW {W : Prop} {Inv : Ev → Prop} {Good : D → Prop} {t : D → Ev → Option Ev} {body : Ev → M Out} {P : Pu} {d0 : D} : ∀ {xs : List D} {env : Ev},
    (∀ x ∈ xs, ∀ env, Inv env → ∃ e1, t x env = some e1 ∧ ((∃ e2, body e1 P = .ok (.next e2) P ∧ Inv e2 ∧ Good x) ∨ (body e1 P = .ok (.ret d0) P ∧ W))) → Inv env →
    (∃ e2, forM t body xs env P = .ok (.next e2) P ∧ Inv e2 ∧ ∀ x ∈ xs, Good x) ∨ (forM t body xs env P = .ok (.ret d0) P ∧ W)
  | [], env, _, i => .inl ⟨env, rfl, i, by simp⟩
  | x :: xs, env, h, i => by
    obtain ⟨e1, h1, h2⟩ := h x (by simp) env i
    have ex : forM t body (x :: xs) env P = M.bind (body e1) (fun o => match o with
      | .next env2 => forM t body xs env2
      | .cont env2 => forM t body xs env2
      | .brk env2 => M.ok (.next env2)
      | .ret d => M.ok (.ret d)) P := by
      show M.bind (optM (t x env)) _ P = _
      rw [h1]; rfl
    rcases h2 with ⟨e2, h2, i2, g⟩ | ⟨h2, w⟩
    · rw [bindR h2] at ex
      rcases forM_eachW (xs := xs) (env := e2) (fun b hb => h b (by simp [hb])) i2 with ⟨e3, h3, i3, gs⟩ | ⟨h3, w⟩
      · refine .inl ⟨e3, by rw [ex]; exact h3, i3, fun y hy => ?_⟩
        rcases List.mem_cons.mp hy with rfl | hy
        · exact g
        · exact gs y hy
      · exact .inr ⟨by rw [ex]; exact h3, w⟩
    · rw [bindR h2] at ex
      exact .inr ⟨ex, w⟩
def mvv (c : Cr) (s t : Int) : P2 := (c.1.2.1 * s + c.1.2.2 * t, c.2.2.1 * s + c.2.2.2 * t)
def Same2 (b : Cr) (cs : List Cr) (s t : Int) : Prop := ∀ c ∈ cs, mvv c s t = mvv b s t
def abody : Ev → M Out := (mSeq (mSet 4 (mOwn (mLc [5, 6] (unpD [5, 6]) mTrue (mTup (mCons (mBi (mBi (mIx (mVarR 5) (mC (.int 1))) (mVar 2) mulD) (mBi (mIx (mVarR 5) (mC (.int 2))) (mVar 3) mulD) addD) (mCons (mBi (mBi (mIx (mVarR 6) (mC (.int 1))) (mVar 2) mulD) (mBi (mIx (mVarR 6) (mC (.int 2))) (mVar 3) mulD) addD) mNil))) (mUn (mVar 0) fun d => optM (seqO d))))) (mFreeze 4 (mIfS (mAnd (mBi (mBi (mVar 2) (mVar 3) addD) (mC (.int 0)) gtD) (mT (mUn (mCons (mFz (mLc [7] (tgN 7) mTrue (mBi (mVarR 7) (mIx (mVarR 4) (mC (.int 0))) fun x y => blM (eqD x y)) (mUn (mVar 4) fun d => optM (seqO d)))) mNil) fun ds => optM (allO ds)))) (mRet (mC (.bl true))) mSkip)))
theorem abody_ok {k : Nat} {b : Cr} {cs : List Cr} (hl : cs.length ≤ 3) (ho : ∀ c ∈ b :: cs, CrOk k c) {s t : Int} (hs : 0 ≤ s ∧ s ≤ 4) (ht : 0 ≤ t ∧ t ≤ 4) (K x4 : Sl) {P : Pu} :
    (∃ y4, abody [.val (.lst ((b :: cs).map cnD)), K, .val (.int s), .val (.int t), x4, .no, .no, .no] P = .ok (.next [.val (.lst ((b :: cs).map cnD)), K, .val (.int s), .val (.int t), y4, .no, .no, .no]) P ∧ ¬ (0 < s + t ∧ Same2 b (b :: cs) s t)) ∨
      abody [.val (.lst ((b :: cs).map cnD)), K, .val (.int s), .val (.int t), x4, .no, .no, .no] P = .ok (.ret (.bl true)) P ∧ (0 < s + t ∧ Same2 b (b :: cs) s t) := by
  let A : Sl := .val (.lst ((b :: cs).map cnD))
  let V : List D := (b :: cs).map fun c => prD (mvv c s t)
  have s1 : (mSet 4 (mOwn (mLc [5, 6] (unpD [5, 6]) mTrue (mTup (mCons (mBi (mBi (mIx (mVarR 5) (mC (.int 1))) (mVar 2) mulD) (mBi (mIx (mVarR 5) (mC (.int 2))) (mVar 3) mulD) addD) (mCons (mBi (mBi (mIx (mVarR 6) (mC (.int 1))) (mVar 2) mulD) (mBi (mIx (mVarR 6) (mC (.int 2))) (mVar 3) mulD) addD) mNil))) (mUn (mVar 0) fun d => optM (seqO d))))) [A, K, .val (.int s), .val (.int t), x4, .no, .no, .no] P = .ok (.next [A, K, .val (.int s), .val (.int t), .own V, .no, .no, .no]) P := by
    refine ev_set (ev_own (ev_lc (as := b :: cs) cnD (fun c => prD (mvv c s t)) (ev_un (ev_var rfl) rfl) (by simp only [List.length_cons]; unfold cap; omega) fun c hc => ⟨_, rfl, ?_⟩))
    have h := ho c hc
    have a1 := h.u.b; have a2 := h.u.c; have a3 := h.v.b; have a4 := h.v.c
    have k1 : mulOk c.1.2.1 s = true := mulOk_small (by omega) (by omega) (by omega) (by omega)
    have k2 : mulOk c.1.2.2 t = true := mulOk_small (by omega) (by omega) (by omega) (by omega)
    have k3 : mulOk c.2.2.1 s = true := mulOk_small (by omega) (by omega) (by omega) (by omega)
    have k4 : mulOk c.2.2.2 t = true := mulOk_small (by omega) (by omega) (by omega) (by omega)
    have i1 : ixO (mvD c.1) (.int 1) = some (.int c.1.2.1) := by kernel_rfl
    have i2 : ixO (mvD c.1) (.int 2) = some (.int c.1.2.2) := by kernel_rfl
    have i3 : ixO (mvD c.2) (.int 1) = some (.int c.2.2.1) := by kernel_rfl
    have i4 : ixO (mvD c.2) (.int 2) = some (.int c.2.2.2) := by kernel_rfl
    simp [setAll, wipeE, mTup, mCons, mNil, mBi, mIx, mVar, mVarR, mC, M.bind, M.ok, slD, slR, mulD, addD, optM, okIf, k1, k2, k3, k4, i1, i2, i3, i4, cap, prD, mvv]
  have e0 : (mBi (mBi (mVar 2) (mVar 3) addD) (mC (.int 0)) gtD) [A, K, .val (.int s), .val (.int t), .val (.lst V), .no, .no, .no] P = .ok (decide (0 < s + t)) P := ev_bi (P1 := P) (P2 := P) (a := .int (s + t)) (by kernel_rfl) ev_c rfl
  have e1 : (mT (mUn (mCons (mFz (mLc [7] (tgN 7) mTrue (mBi (mVarR 7) (mIx (mVarR 4) (mC (.int 0))) fun x y => blM (eqD x y)) (mUn (mVar 4) fun d => optM (seqO d)))) mNil) fun ds => optM (allO ds))) [A, K, .val (.int s), .val (.int t), .val (.lst V), .no, .no, .no] P = .ok ((b :: cs).all fun c => decide (mvv c s t = mvv b s t)) P := by
    refine ev_T (ev_un (ev_cons (ev_fz (ev_lc (as := b :: cs) (fun c => prD (mvv c s t)) (fun c => .bl (decide (mvv c s t = mvv b s t))) (ev_un (ev_var rfl) rfl) (by simp only [List.length_cons]; unfold cap; omega) fun c hc => ⟨_, rfl, ?_⟩)) ev_nil) ev_all)
    unfold mIx
    refine ev_bi (P1 := P) (P2 := P) (b := prD (mvv b s t)) (ev_varR rfl) (ev_bi (ev_varR rfl) ev_c (ev_opt (ix_first _ _))) ?_
    have e := eqD_pair (mvv c s t).1 (mvv c s t).2 (mvv b s t).1 (mvv b s t).2
    show blM (eqD (.tup [.int (mvv c s t).1, .int (mvv c s t).2]) (.tup [.int (mvv b s t).1, .int (mvv b s t).2])) P = _
    rw [e]
    simp [blM, M.bind, M.ok, Prod.ext_iff]
  by_cases q : 0 < s + t
  · cases h : (b :: cs).all fun c => decide (mvv c s t = mvv b s t) with
    | true =>
      rw [h] at e1
      rw [decide_eq_true q] at e0
      exact .inr ⟨ev_seq s1 (ev_fr (xs := V) rfl (ev_ifT (P1 := P) (ev_andT e0 e1) (ev_ret ev_c))), q, fun c hc => of_decide_eq_true (List.all_eq_true.mp h c hc)⟩
    | false =>
      rw [h] at e1
      rw [decide_eq_true q] at e0
      refine .inl ⟨.val (.lst V), ev_seq s1 (ev_fr (xs := V) rfl (ev_ifF (P1 := P) (ev_andT e0 e1) ev_skip)), fun z => ?_⟩
      rw [List.all_eq_false] at h
      obtain ⟨c, hc, hn⟩ := h
      exact hn (decide_eq_true (z.2 c hc))
  · rw [decide_eq_false q] at e0
    exact .inl ⟨.val (.lst V), ev_seq s1 (ev_fr (xs := V) rfl (ev_ifF (P1 := P) (ev_andF e0) ev_skip)), fun z => q z.1⟩
theorem rng_mem {n : Nat} {x : D} (h : x ∈ (List.range n).map fun i => D.int (0 + (i : Nat))) : ∃ i : Nat, i < n ∧ x = .int (i : Nat) := by
  obtain ⟨i, hi, rfl⟩ := List.mem_map.mp h
  exact ⟨i, List.mem_range.mp hi, by rw [Int.zero_add]⟩
def lbody : Ev → M Out := (mFor (mUn (mCons (mIf (mBi (mVarR 1) (mC (.int 1)) gtD) (mC (.int 5)) (mC (.int 1))) mNil) fun ds => optM (rng1O ds)) (tgN 3) abody)
def nt (k : Nat) : Nat := if 1 < k then 5 else 1
theorem lbody_ok {k : Nat} {b : Cr} {cs : List Cr} (hl : cs.length ≤ 3) (ho : ∀ c ∈ b :: cs, CrOk k c) {s : Int} (hs : 0 ≤ s ∧ s ≤ 4) (x3 x4 : Sl) {P : Pu} :
    (∃ y3 y4, lbody [.val (.lst ((b :: cs).map cnD)), .val (.int (k : Nat)), .val (.int s), x3, x4, .no, .no, .no] P = .ok (.next [.val (.lst ((b :: cs).map cnD)), .val (.int (k : Nat)), .val (.int s), y3, y4, .no, .no, .no]) P ∧ ∀ t : Nat, t < nt k → ¬ (0 < s + t ∧ Same2 b (b :: cs) s t)) ∨
      lbody [.val (.lst ((b :: cs).map cnD)), .val (.int (k : Nat)), .val (.int s), x3, x4, .no, .no, .no] P = .ok (.ret (.bl true)) P ∧ ∃ t : Nat, t < nt k ∧ 0 < s + t ∧ Same2 b (b :: cs) s t := by
  let A : Sl := .val (.lst ((b :: cs).map cnD))
  let K : Sl := .val (.int (k : Nat))
  have en : (mUn (mCons (mIf (mBi (mVarR 1) (mC (.int 1)) gtD) (mC (.int 5)) (mC (.int 1))) mNil) fun ds => optM (rng1O ds)) [A, K, .val (.int s), x3, x4, .no, .no, .no] P = .ok ((List.range (nt k)).map fun i => .int (0 + (i : Nat))) P := by
    unfold nt
    by_cases q : 1 < k
    · rw [if_pos q]
      exact ev_un (P1 := P) (a := [.int 5]) (ev_cons (ev_ifeT (P1 := P) (ev_bi (ev_varR rfl) ev_c (by show M.ok (decide ((1 : Int) < (k : Int))) P = _; rw [decide_eq_true (by omega)]; rfl)) ev_c) ev_nil) rfl
    · rw [if_neg q]
      exact ev_un (P1 := P) (a := [.int 1]) (ev_cons (ev_ifeF (P1 := P) (ev_bi (ev_varR rfl) ev_c (by show M.ok (decide ((1 : Int) < (k : Int))) P = _; rw [decide_eq_false (by omega)]; rfl)) ev_c) ev_nil) rfl
  have ht5 : nt k ≤ 5 := by unfold nt; by_cases q : 1 < k <;> simp [q]
  rcases forM_eachW (W := ∃ t : Nat, t < nt k ∧ 0 < s + t ∧ Same2 b (b :: cs) s t) (Inv := fun env => ∃ y3 y4, env = [A, K, .val (.int s), y3, y4, .no, .no, .no]) (Good := fun x => ∀ t : Nat, x = .int (t : Nat) → ¬ (0 < s + t ∧ Same2 b (b :: cs) s t)) (t := tgN 3) (body := abody) (P := P) (d0 := .bl true) (xs := (List.range (nt k)).map fun i => .int (0 + (i : Nat))) (env := [A, K, .val (.int s), x3, x4, .no, .no, .no]) (by
    rintro x hx env ⟨y3, y4, rfl⟩
    obtain ⟨t, htn, rfl⟩ := rng_mem hx
    refine ⟨[A, K, .val (.int s), .val (.int (t : Nat)), y4, .no, .no, .no], rfl, ?_⟩
    rcases abody_ok hl ho hs (t := (t : Int)) (by omega) K y4 (P := P) with ⟨z4, e, g⟩ | ⟨e, w⟩
    · refine .inl ⟨_, e, ⟨_, _, rfl⟩, fun t' ht' => ?_⟩
      injection ht' with ht'
      rw [← ht']; exact g
    · exact .inr ⟨e, t, htn, w⟩) ⟨_, _, rfl⟩ with ⟨e2, e, ⟨y3, y4, rfl⟩, g⟩ | ⟨e, w⟩
  · exact .inl ⟨y3, y4, ev_for en e, fun t ht => g (.int (t : Nat)) (List.mem_map.mpr ⟨t, List.mem_range.mpr ht, by rw [Int.zero_add]⟩) t rfl⟩
  · exact .inr ⟨ev_for en e, w⟩
theorem alike_ok {k : Nat} {b : Cr} {cs : List Cr} (hl : cs.length ≤ 3) (ho : ∀ c ∈ b :: cs, CrOk k c) {P : Pu} :
    (f__law_alike [.lst ((b :: cs).map cnD), .int (k : Nat)] P = .ok (.bl true) P ∧ 1 ≤ k ∧ ∃ s : Nat, s < 5 ∧ ∃ t : Nat, t < nt k ∧ 0 < (s : Int) + t ∧ Same2 b (b :: cs) s t) ∨
      (f__law_alike [.lst ((b :: cs).map cnD), .int (k : Nat)] P = .ok (.bl false) P ∧ (1 ≤ k → ∀ s t : Nat, s < 5 → t < nt k → ¬ (0 < (s : Int) + t ∧ Same2 b (b :: cs) s t))) := by
  let A : Sl := .val (.lst ((b :: cs).map cnD))
  let K : Sl := .val (.int (k : Nat))
  by_cases q : 0 < k
  · have en : (mUn (mCons (mIf (mBi (mVarR 1) (mC (.int 0)) gtD) (mC (.int 5)) (mC (.int 0))) mNil) fun ds => optM (rng1O ds)) [A, K, .no, .no, .no, .no, .no, .no] P = .ok ((List.range 5).map fun i => .int (0 + (i : Nat))) P :=
      ev_un (P1 := P) (a := [.int 5]) (ev_cons (ev_ifeT (P1 := P) (ev_bi (ev_varR rfl) ev_c (by show M.ok (decide ((0 : Int) < (k : Int))) P = _; rw [decide_eq_true (by omega)]; rfl)) ev_c) ev_nil) rfl
    rcases forM_eachW (W := ∃ s : Nat, s < 5 ∧ ∃ t : Nat, t < nt k ∧ 0 < (s : Int) + t ∧ Same2 b (b :: cs) s t) (Inv := fun env => ∃ x2 y3 y4, env = [A, K, x2, y3, y4, .no, .no, .no]) (Good := fun x => ∀ s : Nat, x = .int (s : Nat) → ∀ t : Nat, t < nt k → ¬ (0 < (s : Int) + t ∧ Same2 b (b :: cs) s t)) (t := tgN 2) (body := lbody) (P := P) (d0 := .bl true) (xs := (List.range 5).map fun i => .int (0 + (i : Nat))) (env := [A, K, .no, .no, .no, .no, .no, .no]) (by
      rintro x hx env ⟨x2, y3, y4, rfl⟩
      obtain ⟨s, hsn, rfl⟩ := rng_mem hx
      refine ⟨[A, K, .val (.int (s : Nat)), y3, y4, .no, .no, .no], rfl, ?_⟩
      rcases lbody_ok hl ho (s := (s : Int)) (by omega) y3 y4 (P := P) with ⟨z3, z4, e, g⟩ | ⟨e, w⟩
      · refine .inl ⟨_, e, ⟨_, _, _, rfl⟩, fun s' hs' => ?_⟩
        injection hs' with hs'
        have : s = s' := by omega
        subst this; exact g
      · exact .inr ⟨e, s, hsn, w⟩) ⟨_, _, _, rfl⟩ with ⟨e2, e, ⟨x2, y3, y4, rfl⟩, g⟩ | ⟨e, w⟩
    · exact .inr ⟨ev_D (ev_seq (P1 := P) (ev_for en e) (ev_ret ev_c)), fun _ s t hs ht => g (.int (s : Nat)) (List.mem_map.mpr ⟨s, List.mem_range.mpr hs, by rw [Int.zero_add]⟩) s rfl t ht⟩
    · exact .inl ⟨ev_D (ev_seqR (ev_for en e)), q, w⟩
  · have k0 : k = 0 := by omega
    subst k0
    refine .inr ⟨?_, fun h => absurd h (by decide)⟩
    exact ev_D (ev_seq (e2 := [A, K, .no, .no, .no, .no, .no, .no]) (P1 := P) (ev_for (P1 := P) (ds := []) (by kernel_rfl) rfl) (ev_ret ev_c))
theorem diff_zero {b c : Cr} {w : P2} (h : ∀ r ∈ diff b c, r.1 * w.1 + r.2 * w.2 = 0) : mvv c w.1 w.2 = mvv b w.1 w.2 := by
  have h1 := h (c.1.2.1 - b.1.2.1, c.1.2.2 - b.1.2.2) (by simp [diff])
  have h2 := h (c.2.2.1 - b.2.2.1, c.2.2.2 - b.2.2.2) (by simp [diff])
  dsimp only at h1 h2
  rw [Int.sub_mul, Int.sub_mul] at h1 h2
  unfold mvv
  refine Prod.ext ?_ ?_
  · dsimp only; omega
  · dsimp only; omega
theorem bounded_dots {b : Cr} {cs : List Cr} {k : Nat} (hk : k ≤ 2) (hl : cs.length ≤ 3) (ho : ∀ c ∈ b :: cs, CrOk k c) (hn : 1 ≤ k → ∀ s t : Nat, s < 5 → t < nt k → ¬ (0 < (s : Int) + t ∧ Same2 b (b :: cs) s t)) {P : Pu} : f_is_bounded [.tup ((b :: cs).map cnD), .int (k : Nat)] P = .ok (.bl true) P := by
  refine bounded_of hk hl ho fun w hw => ?_
  have key : ∀ s t : Nat, w = ((s : Int), (t : Int)) → 1 ≤ k → s < 5 → t < nt k → 0 < s + t → ∃ r ∈ diffs (b :: cs), ¬ (r.1 * w.1 + r.2 * w.2 = 0) := fun s t e h1 hs ht h0 => by
    apply Classical.byContradiction
    intro z
    have z' : ∀ r ∈ diffs (b :: cs), r.1 * w.1 + r.2 * w.2 = 0 := fun r hr => Classical.byContradiction fun q => z ⟨r, hr, q⟩
    refine hn h1 s t hs ht ⟨by omega, fun c hc => ?_⟩
    rcases List.mem_cons.mp hc with rfl | hc
    · rfl
    · have := diff_zero (b := b) (c := c) (w := w) fun r hr => z' r (List.mem_flatMap.mpr ⟨c, hc, hr⟩)
      rw [e] at this
      exact this
  rcases List.mem_append.mp hw with hm | hm
  · match k, hk, hm with
    | 0, _, hm => simp at hm
    | 1, _, hm =>
      have : w = (1, 0) := by simpa using hm
      exact key 1 0 this (by decide) (by decide) (by decide) (by decide)
    | 2, _, hm =>
      have : w = (1, 0) ∨ w = (0, 1) := by simpa using hm
      rcases this with e | e
      · exact key 1 0 e (by decide) (by decide) (by decide) (by decide)
      · exact key 0 1 e (by decide) (by decide) (by decide) (by decide)
  · by_cases k2 : k = 2
    · subst k2
      rw [if_pos rfl] at hm
      obtain ⟨r, hr, e⟩ := List.mem_map.mp hm
      obtain ⟨h1, h2⟩ := List.mem_filter.mp hr
      have h2 := of_decide_eq_true h2
      have hb := diffs_bd ho r h1
      have n1 : r.1 ≠ 0 := fun z => by rw [z] at h2; simp at h2
      refine key r.2.natAbs r.1.natAbs e.symm (by decide) (by omega) ?_ (by omega)
      show r.1.natAbs < 5
      omega
    · rw [if_neg k2] at hm; simp at hm
theorem diff_back {b c : Cr} {s t : Int} (h : mvv c s t = mvv b s t) : ∀ r ∈ diff b c, r.1 * s + r.2 * t = 0 := fun r hr => by
  unfold mvv at h
  have h1 := (Prod.ext_iff.mp h).1
  have h2 := (Prod.ext_iff.mp h).2
  dsimp only at h1 h2
  simp only [diff, List.mem_cons, List.not_mem_nil, or_false] at hr
  rcases hr with rfl | rfl
  · dsimp only; rw [Int.sub_mul, Int.sub_mul]; omega
  · dsimp only; rw [Int.sub_mul, Int.sub_mul]; omega
theorem cross {a b c d s t : Int} (ht : t ≠ 0) (h1 : a * s + b * t = 0) (h2 : c * s + d * t = 0) : a * d = b * c := by
  have e1 : a * s = -(b * t) := by omega
  have e2 : d * t = -(c * s) := by omega
  refine Int.eq_of_mul_eq_mul_left ht ?_
  have : t * (a * d) = a * (d * t) := by simp [Int.mul_comm, Int.mul_left_comm]
  rw [this, e2, Int.mul_neg]
  have : a * (c * s) = c * (a * s) := by simp [Int.mul_comm, Int.mul_left_comm]
  rw [this, e1, Int.mul_neg, Int.neg_neg]
  simp [Int.mul_comm, Int.mul_left_comm]
theorem zero_mul' {a s : Int} (hs : 0 < s) (h : a * s = 0) : a = 0 := by
  rcases Int.mul_eq_zero.mp h with h | h
  · exact h
  · omega
theorem bounded_not {b : Cr} {cs : List Cr} {k : Nat} (hk : k ≤ 2) (h1 : 1 ≤ k) (hl : cs.length ≤ 3) (ho : ∀ c ∈ b :: cs, CrOk k c) {s t : Nat} (ht : t < nt k) (h0 : 0 < (s : Int) + t) (hs : Same2 b (b :: cs) s t) {P : Pu} : f_is_bounded [.tup ((b :: cs).map cnD), .int (k : Nat)] P = .ok (.bl false) P := by
  rw [bounded_val hk hl ho]
  have rz : ∀ r ∈ diffs (b :: cs), r.1 * (s : Int) + r.2 * (t : Int) = 0 := fun r hr => by
    obtain ⟨c, hc, hr⟩ := List.mem_flatMap.mp hr
    exact diff_back (hs c (by simp [hc])) r hr
  have key : ∀ w ∈ ways k (diffs (b :: cs)), (∀ r ∈ diffs (b :: cs), r.1 * w.1 + r.2 * w.2 = 0) → ((ways k (diffs (b :: cs))).any fun w => (diffs (b :: cs)).all (wall w)) = true := fun w hw h => List.any_eq_true.mpr ⟨w, hw, List.all_eq_true.mpr fun r hr => decide_eq_true (h r hr)⟩
  have e : ((ways k (diffs (b :: cs))).any fun w => (diffs (b :: cs)).all (wall w)) = true := by
    match k, hk, h1, ht with
    | 1, _, _, ht =>
      have ht : t < 1 := ht
      have t0 : t = 0 := by omega
      subst t0
      refine key (1, 0) (by simp [ways]) fun r hr => ?_
      have := rz r hr
      have := zero_mul' (a := r.1) (s := (s : Int)) (by omega) (by omega)
      simp [this]
    | 2, _, _, ht =>
      by_cases t0 : t = 0
      · subst t0
        refine key (1, 0) (by simp [ways]) fun r hr => ?_
        have := rz r hr
        have := zero_mul' (a := r.1) (s := (s : Int)) (by omega) (by omega)
        simp [this]
      · by_cases s0 : s = 0
        · subst s0
          refine key (0, 1) (by simp [ways]) fun r hr => ?_
          have := rz r hr
          have := zero_mul' (a := r.2) (s := (t : Int)) (by omega) (by omega)
          simp [this]
        · by_cases z : ∀ r ∈ diffs (b :: cs), r.1 = 0
          · refine key (1, 0) (by simp [ways]) fun r hr => ?_
            simp [z r hr]
          · obtain ⟨q, hq, n⟩ : ∃ q ∈ diffs (b :: cs), q.1 ≠ 0 := by
              apply Classical.byContradiction
              intro y
              exact z fun r hr => Classical.byContradiction fun n => y ⟨r, hr, n⟩
            have eq := rz q hq
            have sp : (0 : Int) < s := by omega
            have tp : (0 : Int) < t := by omega
            have neg : q.1 * q.2 < 0 := by
              rcases Int.lt_or_gt_of_ne n with lt | gt
              · have : q.1 * (s : Int) < 0 := Int.mul_neg_of_neg_of_pos lt sp
                have p2 : 0 < (t : Int) * q.2 := by rw [Int.mul_comm]; omega
                have q2 : 0 < q.2 := Int.pos_of_mul_pos_right p2 tp
                exact Int.mul_neg_of_neg_of_pos lt q2
              · have : 0 < q.1 * (s : Int) := Int.mul_pos gt sp
                have p2 : 0 < (t : Int) * (-q.2) := by rw [Int.mul_comm, Int.neg_mul]; omega
                have q2 : 0 < -q.2 := Int.pos_of_mul_pos_right p2 tp
                exact Int.mul_neg_of_pos_of_neg gt (by omega)
            refine key ((q.2.natAbs : Int), (q.1.natAbs : Int)) ?_ fun r hr => ?_
            · unfold ways
              rw [if_pos rfl]
              exact List.mem_append_right _ (List.mem_map.mpr ⟨q, List.mem_filter.mpr ⟨hq, decide_eq_true neg⟩, rfl⟩)
            · have c := cross (by omega) (rz r hr) eq
              dsimp only
              rcases Int.lt_or_gt_of_ne n with lt | gt
              · have q2 : 0 < q.2 := by
                  apply Classical.byContradiction
                  intro y
                  have : 0 ≤ q.1 * q.2 := Int.mul_nonneg_of_nonpos_of_nonpos (by omega) (by omega)
                  omega
                have a1 : (q.2.natAbs : Int) = q.2 := by omega
                have a2 : (q.1.natAbs : Int) = -q.1 := by omega
                rw [a1, a2, Int.mul_neg]; omega
              · have q2 : q.2 < 0 := by
                  apply Classical.byContradiction
                  intro y
                  have : 0 ≤ q.1 * q.2 := Int.mul_nonneg (by omega) (by omega)
                  omega
                have a1 : (q.2.natAbs : Int) = -q.2 := by omega
                have a2 : (q.1.natAbs : Int) = q.1 := by omega
                rw [a1, a2, Int.mul_neg]; omega
  rw [e]; rfl
theorem rng_key (n : Nat) (h : n ≤ 1000) : rng1O [.int (n : Nat)] = some (rngD 0 n) := by
  have key : ∀ m : Int, (0 ≤ m ∧ m ≤ 1000) → rng1O [.int m] = some (rngD 0 m.toNat) := fun m hm => by
    show (if -(2 ^ 62) ≤ m ∧ m < 2 ^ 62 then some (rngD 0 m.toNat) else none) = _
    rw [if_pos (by omega)]
  have := key (n : Nat) (by omega)
  rw [Int.toNat_natCast] at this
  exact this
theorem mem_below {n : Nat} {i : Int} (h : 0 ≤ i ∧ i < n) : i ∈ below n := List.mem_map.mpr ⟨i.toNat, List.mem_range.mpr (by omega), by omega⟩
theorem mem_cols {p q n r : Int} (hn : 2 ≤ n ∧ n ≤ 4) (hp : 0 ≤ p ∧ p < n) (hq : 0 ≤ q ∧ q < n) (hr : 0 ≤ r ∧ r < n) (h : ¬ (p = 0 ∧ q = 0)) : (p, q, n, r) ∈ cols := by
  have key : ∀ m : Nat, m ∈ [2, 3, 4] → n = (m : Int) → (p, q, n, r) ∈ cols := fun m hm e => by
    subst e
    refine List.mem_flatMap.mpr ⟨m, hm, List.mem_filter.mpr ⟨List.mem_flatMap.mpr ⟨p, mem_below hp, List.mem_flatMap.mpr ⟨q, mem_below hq, List.mem_map.mpr ⟨r, mem_below hr, rfl⟩⟩⟩, ?_⟩⟩
    by_cases hp0 : p = 0
    · have hq0 : q ≠ 0 := fun z => h ⟨hp0, z⟩
      simp [hp0, hq0]
    · simp [hp0]
  by_cases h2 : n = 2
  · exact key 2 (by simp) h2
  · by_cases h3 : n = 3
    · exact key 3 (by simp) h3
    · exact key 4 (by simp) (by omega)
theorem tint_ok {P : Pu} (p : Pp P) : ∃ (t : Option Col) (P' : Pu), f__law_tint [.pur] P = .ok (colD t) P' ∧ (∀ c, t = some c → c ∈ cols) ∧ Pp P' := by
  obtain ⟨v, P1, e1, b1, p1⟩ := take_ok p 3 (by decide) (by decide)
  have c1 : (mBi (mUn (mCons (mVar 0) (mCons (mC (.int 3)) mNil)) f__law_take) (mC (.int 0)) eqD) [.val .pur, .no, .no, .no, .no] P = .ok (decide (v = 0)) P1 := ev_bi (ev_un (ev_cons (ev_var rfl) (ev_cons ev_c ev_nil)) e1) ev_c (by rw [eqD_int]; rfl)
  by_cases h : v = 0
  · rw [decide_eq_true h] at c1
    exact ⟨none, P1, ev_D (ev_seqR (ev_ifT c1 (ev_ret ev_c))), fun c hc => by simp at hc, p1⟩
  · rw [decide_eq_false h] at c1
    obtain ⟨n, P2, e2, b2, p2⟩ := take_ok p1 3 (by decide) (by decide)
    obtain ⟨x, P3, e3, b3, p3⟩ := take_ok p2 (2 + n) (by omega) (by omega)
    obtain ⟨y, P4, e4, b4, p4⟩ := take_ok p3 (2 + n) (by omega) (by omega)
    obtain ⟨r, P5, e5, b5, p5⟩ := take_ok p4 (2 + n) (by omega) (by omega)
    let E : Ev := [.val .pur, .val (.int (2 + n)), .no, .no, .no]
    let G : Ev := [.val .pur, .val (.int (2 + n)), .val (.int x), .val (.int y), .val (.int r)]
    have c2 : (mBi (mTup (mCons (mVar 2) (mCons (mVar 3) mNil))) (mTup (mCons (mC (.int 0)) (mCons (mC (.int 0)) mNil))) neD) G P5 = .ok (!decide (x = 0 ∧ y = 0)) P5 := ev_bi (ev_tup (ev_cons (ev_var rfl) (ev_cons (ev_var rfl) ev_nil)) (by unfold cap; simp)) (ev_tup (ev_cons ev_c (ev_cons ev_c ev_nil)) (by unfold cap; simp)) (by rw [neD_pair]; rfl)
    have go : ∀ d : D, (mIf (mBi (mTup (mCons (mVar 2) (mCons (mVar 3) mNil))) (mTup (mCons (mC (.int 0)) (mCons (mC (.int 0)) mNil))) neD) (mTup (mCons (mVar 2) (mCons (mVar 3) (mCons (mVar 1) (mCons (mVar 4) mNil))))) (mTup (mCons (mC (.int 1)) (mCons (mC (.int 0)) (mCons (mVar 1) (mCons (mVar 4) mNil)))))) G P5 = .ok d P5 → f__law_tint [.pur] P = .ok d P5 := fun d hd =>
      ev_D (ev_seq (ev_ifF c1 ev_skip) (ev_seq (e2 := E) (P1 := P2) (ev_set (ev_val (ev_bi ev_c (ev_un (ev_cons (ev_var rfl) (ev_cons ev_c ev_nil)) e2) rfl))) (ev_seq (e2 := G) (P1 := P5) (ev_par3 (ev_un (ev_cons (ev_var rfl) (ev_cons (ev_var rfl) ev_nil)) e3) (ev_un (ev_cons (ev_var rfl) (ev_cons (ev_var rfl) ev_nil)) e4) (ev_un (ev_cons (ev_var rfl) (ev_cons (ev_var rfl) ev_nil)) e5)) (ev_ret hd))))
    by_cases z : x = 0 ∧ y = 0
    · rw [decide_eq_true z] at c2
      exact ⟨some (1, 0, 2 + n, r), P5, go _ (ev_ifeF c2 (ev_tup (ev_cons ev_c (ev_cons ev_c (ev_cons (ev_var rfl) (ev_cons (ev_var rfl) ev_nil)))) (by unfold cap; simp))), fun c hc => by
        cases hc
        exact mem_cols (by omega) (by omega) (by omega) b5 (by omega), p5⟩
    · rw [decide_eq_false z] at c2
      exact ⟨some (x, y, 2 + n, r), P5, go _ (ev_ifeT c2 (ev_tup (ev_cons (ev_var rfl) (ev_cons (ev_var rfl) (ev_cons (ev_var rfl) (ev_cons (ev_var rfl) ev_nil)))) (by unfold cap; simp))), fun c hc => by
        cases hc
        exact mem_cols (by omega) b3 b4 b5 z, p5⟩
theorem ints_of : ∀ {ys : List D}, (∀ y ∈ ys, ∃ v : Int, y = .int v ∧ (0 ≤ v ∧ v < 2)) → ∃ ls : List Int, ys = ls.map .int ∧ ∀ v ∈ ls, 0 ≤ v ∧ v < 2
  | [], _ => ⟨[], rfl, by simp⟩
  | y :: ys, h => by
    obtain ⟨v, rfl, hv⟩ := h y (by simp)
    obtain ⟨ls, rfl, hl⟩ := ints_of (ys := ys) fun z hz => h z (by simp [hz])
    refine ⟨v :: ls, rfl, fun x hx => ?_⟩
    rcases List.mem_cons.mp hx with rfl | hx
    · exact hv
    · exact hl x hx
theorem mem_szs {ls : List Int} (hl : ls.length ≤ 2) (h : ∀ v ∈ ls, 0 ≤ v ∧ v < 2) : ls ∈ szs := by
  match ls, hl with
  | [], _ => simp [szs]
  | [a], _ =>
    have := h a (by simp)
    have : a = 0 ∨ a = 1 := by omega
    rcases this with rfl | rfl <;> simp [szs]
  | [a, b], _ =>
    have h1 := h a (by simp)
    have h2 := h b (by simp)
    have h1 : a = 0 ∨ a = 1 := by omega
    have h2 : b = 0 ∨ b = 1 := by omega
    rcases h1 with rfl | rfl <;> rcases h2 with rfl | rfl <;> simp [szs]
/-! ### k13: told, the corners that are drawn, right -/
def clA : List Cla := [(["Unbounded"], ["InvalidText"], 3, hCst (.bl false))]
def clB : List Cla := [(["InvalidText"], ["Unbounded"], 3, hCst (.bl false))]
theorem told_un {E : Sl} {P : Pu} : mUnpk (unpD [1, 2]) (mTup (mCons (mC (.bl true)) (mCons (mC (.bl true)) mNil))) [E, .no, .no, .no] P = .ok (.next [E, .val (.bl true), .val (.bl true), .no]) P :=
  ev_unpk (ev_tup (ev_cons ev_c (ev_cons ev_c ev_nil)) (by unfold cap; simp)) rfl
def pE : Ev → M (List D) := (mCons (nx (mIx (mVarR 0) (mC (.int 0)))) (mCons (nx (mIx (mVarR 0) (mC (.int 1)))) (mCons (nx (mIx (mVarR 0) (mC (.int 2)))) mNil)))
theorem parts_ok (cs : List Cr) (ls : List Int) (t : Option Col) (x y z : Sl) {P : Pu} : pE [.val (figD cs ls t), x, y, z] P = .ok [.tup (cs.map cnD), szD ls, colD t] P := by kernel_rfl
theorem told_g {cs : List Cr} {k : Nat} {ls : List Int} {t : Option Col} (h : Fig cs k ls t) (hb : BdIs cs k true) {P : Pu} : f__law_told [figD cs ls t] P = .ok (.lst [.bl true, .bl true]) P := by
  have s1 : mTryC clA 1 (mDrop (mMakeX "Shape" f_Shape___init__ pE)) [.val (figD cs ls t), .val (.bl true), .val (.bl true), .no] P = .ok (.next [.val (figD cs ls t), .val (.bl true), .val (.bl true), .no]) P := ev_tryC (ev_drop (made_X h hb (parts_ok cs ls t _ _ _)))
  have s2 : mTryC clB 2 (mDrop (mCmethX "Shape" f_Shape_read (mCons (nx (mUn (mCons (mVar 0) mNil) f__law_figure_text)) mNil))) [.val (figD cs ls t), .val (.bl true), .val (.bl true), .no] P = .ok (.next [.val (figD cs ls t), .val (.bl true), .val (.bl true), .no]) P :=
    ev_tryC (ev_drop (any_cmethX (ev_cons (ev_nx (ev_un (ev_cons (ev_var rfl) ev_nil) (figure_text h))) ev_nil) (read_ok h hb)))
  exact ev_D (ev_seq (P1 := P) told_un (ev_seq (P1 := P) s1 (ev_seq (P1 := P) s2 (ev_ret (ev_fz (ev_lst (ev_cons (ev_var rfl) (ev_cons (ev_var rfl) ev_nil)) (by unfold cap; simp)))))))
theorem told_b {cs : List Cr} {k : Nat} {ls : List Int} {t : Option Col} (h : Fig cs k ls t) (hb : BdIs cs k false) {P : Pu} : f__law_told [figD cs ls t] P = .ok (.lst [.bl false, .bl false]) P := by
  have s1 : mTryC clA 1 (mDrop (mMakeX "Shape" f_Shape___init__ pE)) [.val (figD cs ls t), .val (.bl true), .val (.bl true), .no] P = .ok (.next [.val (figD cs ls t), .val (.bl false), .val (.bl true), .no]) P :=
    ex_tryC (ex_drop (unb_X h hb (parts_ok cs ls t _ _ _))) (by kernel_rfl : pickC clA "Unbounded" = some (3, hCst (.bl false))) rfl (by decide) rfl
  have s2 : mTryC clB 2 (mDrop (mCmethX "Shape" f_Shape_read (mCons (nx (mUn (mCons (mVar 0) mNil) f__law_figure_text)) mNil))) [.val (figD cs ls t), .val (.bl false), .val (.bl true), .no] P = .ok (.next [.val (figD cs ls t), .val (.bl false), .val (.bl false), .no]) P :=
    ex_tryC (ex_drop (any_cmethX (ev_cons (ev_nx (ev_un (ev_cons (ev_var rfl) ev_nil) (figure_text h))) ev_nil) (read_no h hb))) (by kernel_rfl : pickC clB "InvalidText" = some (3, hCst (.bl false))) rfl (by decide) rfl
  exact ev_D (ev_seq (P1 := P) told_un (ev_seq (P1 := P) s1 (ev_seq (P1 := P) s2 (ev_ret (ev_fz (ev_lst (ev_cons (ev_var rfl) (ev_cons (ev_var rfl) ev_nil)) (by unfold cap; simp)))))))
theorem told_is {cs : List Cr} {k : Nat} {ls : List Int} {t : Option Col} (h : Fig cs k ls t) {b : Bool} (hb : BdIs cs k b) {P : Pu} : f__law_told [figD cs ls t] P = .ok (.lst [.bl b, .bl b]) P := by
  cases b
  · exact told_b h hb
  · exact told_g h hb
def jb : Ev → M Out := (mSeq (mUnpk (unpD [9, 10]) (mUn (mCons (mVar 0) (mCons (mVar 6) mNil)) f__law_dot)) (mSeq (mIfS (mOr (mBi (mVarR 8) (mC (.int 0)) eqD) (mAnd (mBi (mVarR 8) (mC (.int 1)) eqD) (mBi (mVarR 3) (mC (.int 0)) gtD))) (mPar 9 10 (mVal (mTup (mCons (mIx (mVarR 9) (mC (.int 0))) (mCons (mIx (mIx (mVarR 2) (mC (.int 0))) (mC (.int 1))) (mCons (mIx (mIx (mVarR 2) (mC (.int 0))) (mC (.int 2))) mNil))))) (mVal (mTup (mCons (mIx (mVarR 10) (mC (.int 0))) (mCons (mIx (mIx (mVarR 2) (mC (.int 1))) (mC (.int 1))) (mCons (mIx (mIx (mVarR 2) (mC (.int 1))) (mC (.int 2))) mNil)))))) mSkip) (mSeq (mIfS (mBi (mVarR 8) (mC (.int 2)) eqD) (mPar 9 10 (mVal (mTup (mCons (mIx (mVarR 9) (mC (.int 0))) (mCons (mIx (mIx (mVarR 2) (mC (.int 0))) (mC (.int 1))) (mCons (mIx (mVarR 9) (mC (.int 2))) mNil))))) (mVal (mTup (mCons (mIx (mVarR 10) (mC (.int 0))) (mCons (mIx (mIx (mVarR 2) (mC (.int 1))) (mC (.int 1))) (mCons (mIx (mVarR 10) (mC (.int 2))) mNil)))))) mSkip) (mIfS (mBi (mTup (mCons (mVar 9) (mCons (mVar 10) mNil))) (mVarR 7) notInD) (mApp 7 (mTup (mCons (mVar 9) (mCons (mVar 10) mNil)))) mSkip))))
def rb : Ev → M Out := (mSeq (mPar3M 6 7 8 (mUn (mCons (mVar 0) (mCons (mC (.int 3)) mNil)) f__law_take) (mOwn (mLst mNil)) (mUn (mCons (mVar 0) (mCons (mC (.int 4)) mNil)) f__law_take)) (mSeq (mSet 2 (mVal (mUn (mCons (mVar 0) (mCons (mVar 6) mNil)) f__law_dot))) (mSeq (mFor (mUn (mCons (mBi (mC (.int 1)) (mUn (mCons (mVar 0) (mCons (mC (.int 4)) mNil)) f__law_take) addD) mNil) fun ds => optM (rng1O ds)) (tgN 3) jb) (mSeq (mSet 4 (mVal (mUn (mCons (mFz (mLc [3] (tgN 3) mTrue (mUn (mCons (mVar 0) (mCons (mC (.int 2)) mNil)) f__law_take) (mUn (mCons (mVarR 6) mNil) fun ds => optM (rng1O ds)))) mNil) fun ds => optM (tupleO ds)))) (mFreeze 7 (mSeq (mSet 5 (mVal (mUn (mUn (mCons (mVar 7) (mCons (mVar 6) mNil)) f__law_alike) notD))) (mIfS (mBi (mUn (mCons (mUn (mCons (mTup (mCons (mUn (mCons (mVarR 7) mNil) fun ds => optM (tupleO ds)) (mCons (mVar 4) (mCons (mUn (mCons (mVar 0) mNil) f__law_tint) mNil)))) mNil) f__law_told) mNil) fun ds => optM (reprO ds)) (mUn (mCons (mFz (mLst (mCons (mVar 5) (mCons (mVar 5) mNil)))) mNil) fun ds => optM (reprO ds)) neD) (mRet (mC (.bl false))) mSkip)))))))
def jc1 : Ev → M Bool := (mOr (mBi (mVarR 8) (mC (.int 0)) eqD) (mAnd (mBi (mVarR 8) (mC (.int 1)) eqD) (mBi (mVarR 3) (mC (.int 0)) gtD)))
def jt1 : Ev → M Out := (mPar 9 10 (mVal (mTup (mCons (mIx (mVarR 9) (mC (.int 0))) (mCons (mIx (mIx (mVarR 2) (mC (.int 0))) (mC (.int 1))) (mCons (mIx (mIx (mVarR 2) (mC (.int 0))) (mC (.int 2))) mNil))))) (mVal (mTup (mCons (mIx (mVarR 10) (mC (.int 0))) (mCons (mIx (mIx (mVarR 2) (mC (.int 1))) (mC (.int 1))) (mCons (mIx (mIx (mVarR 2) (mC (.int 1))) (mC (.int 2))) mNil))))))
def jc2 : Ev → M Bool := (mBi (mVarR 8) (mC (.int 2)) eqD)
def jt2 : Ev → M Out := (mPar 9 10 (mVal (mTup (mCons (mIx (mVarR 9) (mC (.int 0))) (mCons (mIx (mIx (mVarR 2) (mC (.int 0))) (mC (.int 1))) (mCons (mIx (mVarR 9) (mC (.int 2))) mNil))))) (mVal (mTup (mCons (mIx (mVarR 10) (mC (.int 0))) (mCons (mIx (mIx (mVarR 2) (mC (.int 1))) (mC (.int 1))) (mCons (mIx (mVarR 10) (mC (.int 2))) mNil))))))
def mix (a c : Cr) : Cr := ((c.1.1, a.1.2.1, a.1.2.2), (c.2.1, a.2.2.1, a.2.2.2))
def mix2 (a c : Cr) : Cr := ((c.1.1, a.1.2.1, c.1.2.2), (c.2.1, a.2.2.1, c.2.2.2))
theorem mix_ok {k : Nat} {a c : Cr} (ha : CrOk k a) (hc : CrOk k c) : CrOk k (mix a c) := ⟨⟨hc.u.a, ha.u.b, ha.u.c, ha.u.b0, ha.u.c0⟩, ⟨hc.v.a, ha.v.b, ha.v.c, ha.v.b0, ha.v.c0⟩⟩
theorem mix2_ok {k : Nat} {a c : Cr} (ha : CrOk k a) (hc : CrOk k c) : CrOk k (mix2 a c) := ⟨⟨hc.u.a, ha.u.b, hc.u.c, ha.u.b0, hc.u.c0⟩, ⟨hc.v.a, ha.v.b, hc.v.c, ha.v.b0, hc.v.c0⟩⟩
structure Dots (k : Nat) (cs : List Cr) : Prop where
  ok : ∀ c ∈ cs, CrOk k c
  nd : cs.Nodup
abbrev jv (x1 : Sl) (a : Cr) (x3 x4 x5 : Sl) (k : Nat) (x7 : Sl) (w : Int) (u v : Sl) : Ev := [.val .pur, x1, .val (cnD a), x3, x4, x5, .val (.int (k : Nat)), x7, .val (.int w), u, v]
theorem jc1_ok (x1 x4 x5 x7 u v : Sl) (a : Cr) (j w : Int) (k : Nat) {P : Pu} : ∃ b, jc1 (jv x1 a (.val (.int j)) x4 x5 k x7 w u v) P = .ok b P := by
  by_cases w0 : w = 0
  · exact ⟨true, ev_orT (ev_bi (ev_varR rfl) ev_c (by rw [eqD_int, decide_eq_true w0]; rfl))⟩
  · by_cases w1 : w = 1
    · exact ⟨_, ev_orF (P1 := P) (ev_bi (ev_varR rfl) ev_c (by rw [eqD_int, decide_eq_false w0]; rfl)) (ev_andT (P1 := P) (ev_bi (ev_varR rfl) ev_c (by rw [eqD_int, decide_eq_true w1]; rfl)) (ev_bi (ev_varR rfl) ev_c rfl))⟩
    · exact ⟨_, ev_orF (P1 := P) (ev_bi (ev_varR rfl) ev_c (by rw [eqD_int, decide_eq_false w0]; rfl)) (ev_andF (P1 := P) (ev_bi (ev_varR rfl) ev_c (by rw [eqD_int, decide_eq_false w1]; rfl)))⟩
theorem jc2_ok (x1 x4 x5 x7 u v : Sl) (a : Cr) (j w : Int) (k : Nat) {P : Pu} : ∃ b, jc2 (jv x1 a (.val (.int j)) x4 x5 k x7 w u v) P = .ok b P := ⟨decide (w = 2), ev_bi (ev_varR rfl) ev_c (by rw [eqD_int]; rfl)⟩
theorem jt1_ok (x1 x4 x5 x7 : Sl) (a c : Cr) (j w : Int) (k : Nat) {P : Pu} : jt1 (jv x1 a (.val (.int j)) x4 x5 k x7 w (.val (mvD c.1)) (.val (mvD c.2))) P = .ok (.next (jv x1 a (.val (.int j)) x4 x5 k x7 w (.val (mvD (mix a c).1)) (.val (mvD (mix a c).2)))) P := by kernel_rfl
theorem jt2_ok (x1 x4 x5 x7 : Sl) (a c : Cr) (j w : Int) (k : Nat) {P : Pu} : jt2 (jv x1 a (.val (.int j)) x4 x5 k x7 w (.val (mvD c.1)) (.val (mvD c.2))) P = .ok (.next (jv x1 a (.val (.int j)) x4 x5 k x7 w (.val (mvD (mix2 a c).1)) (.val (mvD (mix2 a c).2)))) P := by kernel_rfl
theorem jb_ok {k : Nat} {a : Cr} (ha : CrOk k a) (x1 x4 x5 u v : Sl) (j w : Int) {ds : List Cr} (hd : Dots k ds) (hl : ds.length ≤ 3) {P : Pu} (p : Pp P) : ∃ (es : List Cr) (y z : Sl) (P' : Pu), jb (jv x1 a (.val (.int j)) x4 x5 k (.own (ds.map cnD)) w u v) P = .ok (.next (jv x1 a (.val (.int j)) x4 x5 k (.own (es.map cnD)) w y z)) P' ∧ Dots k es ∧ (1 ≤ es.length ∧ es.length ≤ ds.length + 1) ∧ Pp P' := by
  obtain ⟨c0, P1, e1, o0, p1⟩ := dot_ok (k := k) p
  let X7 : Sl := .own (ds.map cnD)
  have s1 : (mUnpk (unpD [9, 10]) (mUn (mCons (mVar 0) (mCons (mVar 6) mNil)) f__law_dot)) (jv x1 a (.val (.int j)) x4 x5 k X7 w u v) P = .ok (.next (jv x1 a (.val (.int j)) x4 x5 k X7 w (.val (mvD c0.1)) (.val (mvD c0.2)))) P1 :=
    ev_unpk (ev_un (ev_cons (ev_var rfl) (ev_cons (ev_var rfl) ev_nil)) e1) (by kernel_rfl)
  have s2 : ∃ c1, CrOk k c1 ∧ mIfS jc1 jt1 mSkip (jv x1 a (.val (.int j)) x4 x5 k X7 w (.val (mvD c0.1)) (.val (mvD c0.2))) P1 = .ok (.next (jv x1 a (.val (.int j)) x4 x5 k X7 w (.val (mvD c1.1)) (.val (mvD c1.2)))) P1 := by
    obtain ⟨b, hb⟩ := jc1_ok x1 x4 x5 X7 (.val (mvD c0.1)) (.val (mvD c0.2)) a j w k (P := P1)
    cases b
    · exact ⟨c0, o0, ev_ifF hb ev_skip⟩
    · exact ⟨mix a c0, mix_ok ha o0, ev_ifT hb (jt1_ok ..)⟩
  obtain ⟨c1, o1, s2⟩ := s2
  have s3 : ∃ c2, CrOk k c2 ∧ mIfS jc2 jt2 mSkip (jv x1 a (.val (.int j)) x4 x5 k X7 w (.val (mvD c1.1)) (.val (mvD c1.2))) P1 = .ok (.next (jv x1 a (.val (.int j)) x4 x5 k X7 w (.val (mvD c2.1)) (.val (mvD c2.2)))) P1 := by
    obtain ⟨b, hb⟩ := jc2_ok x1 x4 x5 X7 (.val (mvD c1.1)) (.val (mvD c1.2)) a j w k (P := P1)
    cases b
    · exact ⟨c1, o1, ev_ifF hb ev_skip⟩
    · exact ⟨mix2 a c1, mix2_ok ha o1, ev_ifT hb (jt2_ok ..)⟩
  obtain ⟨c, oc, s3⟩ := s3
  have tp : ∀ P, (mTup (mCons (mVar 9) (mCons (mVar 10) mNil))) (jv x1 a (.val (.int j)) x4 x5 k X7 w (.val (mvD c.1)) (.val (mvD c.2))) P = .ok (cnD c) P := fun P => ev_tup (ev_cons (ev_var rfl) (ev_cons (ev_var rfl) ev_nil)) (by unfold cap; simp)
  have e3 : (mBi (mTup (mCons (mVar 9) (mCons (mVar 10) mNil))) (mVarR 7) notInD) (jv x1 a (.val (.int j)) x4 x5 k X7 w (.val (mvD c.1)) (.val (mvD c.2))) P1 = .ok (!decide (c ∈ ds)) P1 := by
    refine ev_bi (P1 := P1) (P2 := P1) (tp P1) (ev_varO rfl) ?_
    unfold notInD
    rw [in_cn]; rfl
  by_cases q : c ∈ ds
  · rw [decide_eq_true q] at e3
    exact ⟨ds, _, _, P1, ev_seq s1 (ev_seq s2 (ev_seq s3 (ev_ifF e3 ev_skip))), hd, ⟨List.length_pos_iff.mpr (List.ne_nil_of_mem q), by omega⟩, p1⟩
  · rw [decide_eq_false q] at e3
    have h' : Dots k (ds ++ [c]) := ⟨fun d hdm => by
      rcases List.mem_append.mp hdm with hdm | hdm
      · exact hd.ok d hdm
      · rw [List.mem_singleton.mp hdm]; exact oc, by
      rw [List.nodup_append]
      refine ⟨hd.nd, by simp, fun x hx y hy => ?_⟩
      rw [List.mem_singleton.mp hy]
      exact fun z => q (z ▸ hx)⟩
    have s4 : mApp 7 (mTup (mCons (mVar 9) (mCons (mVar 10) mNil))) (jv x1 a (.val (.int j)) x4 x5 k X7 w (.val (mvD c.1)) (.val (mvD c.2))) P1 = .ok (.next (jv x1 a (.val (.int j)) x4 x5 k (.own ((ds ++ [c]).map cnD)) w (.val (mvD c.1)) (.val (mvD c.2)))) P1 := by
      rw [List.map_append]
      exact ev_app rfl (tp P1) (by rw [List.length_map]; unfold cap; omega)
    exact ⟨ds ++ [c], _, _, P1, ev_seq s1 (ev_seq s2 (ev_seq s3 (ev_ifT e3 s4))), h', ⟨by simp, by simp⟩, p1⟩
theorem jloop {k : Nat} {a : Cr} (ha : CrOk k a) (x1 x4 x5 : Sl) (w : Int) : ∀ (js : List Int) (ds : List Cr) (x3 u v : Sl) (P : Pu), Dots k ds → ds.length + js.length ≤ 4 → Pp P → ∃ (es : List Cr) (y3 y z : Sl) (P' : Pu), forM (tgN 3) jb (js.map .int) (jv x1 a x3 x4 x5 k (.own (ds.map cnD)) w u v) P = .ok (.next (jv x1 a y3 x4 x5 k (.own (es.map cnD)) w y z)) P' ∧ Dots k es ∧ es.length ≤ 4 ∧ (1 ≤ ds.length ∨ 1 ≤ js.length → 1 ≤ es.length) ∧ Pp P'
  | [], ds, x3, u, v, P, hd, hl, p => ⟨ds, x3, u, v, P, rfl, hd, by simpa using hl, fun q => by simpa using q, p⟩
  | j :: js, ds, x3, u, v, P, hd, hl, p => by
    simp only [List.length_cons] at hl
    obtain ⟨es, y, z, P1, e1, h1, l1, p1⟩ := jb_ok ha x1 x4 x5 u v j w hd (by omega) p
    obtain ⟨fs, y3, y', z', P2, e2, h2, l2, n2, p2⟩ := jloop ha x1 x4 x5 w js es (.val (.int j)) y z P1 h1 (by omega) p1
    exact ⟨fs, y3, y', z', P2, forM_step (e1 := jv x1 a (.val (.int j)) x4 x5 k (.own (ds.map cnD)) w u v) rfl e1 e2, h2, l2, fun _ => n2 (.inl l1.1), p2⟩
theorem repr2 (b : Bool) : ∃ s, reprO [.lst [.bl b, .bl b]] = some (.str s) ∧ PyData.strOk s = true := by
  cases b
  · exact ⟨"[False, False]", by kernel_rfl, by decide +kernel⟩
  · exact ⟨"[True, True]", by kernel_rfl, by decide +kernel⟩
theorem bd_alike {k : Nat} (hk : k ≤ 2) {ds : List Cr} (hd : Dots k ds) (hl : 1 ≤ ds.length ∧ ds.length ≤ 4) : ∃ b, BdIs ds k b ∧ ∀ P, f__law_alike [.lst (ds.map cnD), .int (k : Nat)] P = .ok (.bl (!b)) P := by
  match ds, hl, hd with
  | [], hl, _ => exact absurd hl.1 (by decide)
  | b :: cs, hl, hd =>
    have hl3 : cs.length ≤ 3 := by have := hl.2; simp only [List.length_cons] at this; omega
    by_cases q : f__law_alike [.lst ((b :: cs).map cnD), .int (k : Nat)] (.pl []) = .ok (.bl true) (.pl [])
    · rcases alike_ok hl3 hd.ok (P := .pl []) with ⟨_, h1, s, _, t, ht, h0, hs⟩ | ⟨e, _⟩
      · refine ⟨false, fun P => bounded_not hk h1 hl3 hd.ok ht h0 hs, fun P => ?_⟩
        rcases alike_ok hl3 hd.ok (P := P) with ⟨e, _⟩ | ⟨_, n⟩
        · exact e
        · exact absurd ⟨h0, hs⟩ (n h1 s t (by omega) ht)
      · rw [e] at q; cases q
    · rcases alike_ok hl3 hd.ok (P := .pl []) with ⟨e, _⟩ | ⟨_, n⟩
      · exact absurd e q
      · refine ⟨true, fun P => bounded_dots hk hl3 hd.ok n, fun P => ?_⟩
        rcases alike_ok hl3 hd.ok (P := P) with ⟨_, h1, s, s5, t, ht, h0, hs⟩ | ⟨e, _⟩
        · exact absurd ⟨h0, hs⟩ (n h1 s t s5 ht)
        · exact e
theorem rb_ok (x1 x2 x3 x4 x5 x6 x7 x8 x9 x10 : Sl) {P : Pu} (p : Pp P) : ∃ y2 y3 y4 y5 y6 y7 y8 y9 y10 P', rb [.val .pur, x1, x2, x3, x4, x5, x6, x7, x8, x9, x10] P = .ok (.next [.val .pur, x1, y2, y3, y4, y5, y6, y7, y8, y9, y10]) P' ∧ Pp P' := by
  obtain ⟨v1, P1, e1, b1, p1⟩ := take_ok p 3 (by decide) (by decide)
  obtain ⟨k, rfl⟩ : ∃ k : Nat, v1 = (k : Int) := ⟨v1.toNat, by omega⟩
  have hk : k ≤ 2 := by omega
  obtain ⟨w, P2, e2, b2, p2⟩ := take_ok p1 4 (by decide) (by decide)
  have s1 : (mPar3M 6 7 8 (mUn (mCons (mVar 0) (mCons (mC (.int 3)) mNil)) f__law_take) (mOwn (mLst mNil)) (mUn (mCons (mVar 0) (mCons (mC (.int 4)) mNil)) f__law_take)) [.val .pur, x1, x2, x3, x4, x5, x6, x7, x8, x9, x10] P = .ok (.next [.val .pur, x1, x2, x3, x4, x5, .val (.int (k : Nat)), .own [], .val (.int w), x9, x10]) P2 :=
    ev_par3M (ev_un (ev_cons (ev_var rfl) (ev_cons ev_c ev_nil)) e1) (ev_own (ev_lst ev_nil (by unfold cap; simp))) (ev_un (ev_cons (ev_var rfl) (ev_cons ev_c ev_nil)) e2)
  obtain ⟨a, P3, e3, oa, p3⟩ := dot_ok (k := k) p2
  have s2 : (mSet 2 (mVal (mUn (mCons (mVar 0) (mCons (mVar 6) mNil)) f__law_dot))) [.val .pur, x1, x2, x3, x4, x5, .val (.int (k : Nat)), .own [], .val (.int w), x9, x10] P2 = .ok (.next (jv x1 a x3 x4 x5 k (.own (([] : List Cr).map cnD)) w x9 x10)) P3 :=
    ev_set (ev_val (ev_un (ev_cons (ev_var rfl) (ev_cons (ev_var rfl) ev_nil)) e3))
  obtain ⟨n, P4, e4, b4, p4⟩ := take_ok p3 4 (by decide) (by decide)
  have er : rng1O [.int (1 + n)] = some (rngD 0 (1 + n).toNat) := by
    have := rng_key (1 + n).toNat (by omega)
    rwa [Int.toNat_of_nonneg (by omega)] at this
  have ej : rngD 0 (1 + n).toNat = ((List.range (1 + n).toNat).map fun i : Nat => (0 : Int) + (i : Int)).map D.int := by
    unfold rngD
    rw [List.map_map]
    rfl
  obtain ⟨ds, y3, y9, y10, P5, e5, hd, l5, n5, p5⟩ := jloop oa x1 x4 x5 w ((List.range (1 + n).toNat).map fun i : Nat => (0 : Int) + (i : Int)) [] x3 x9 x10 P4 ⟨by simp, by simp⟩ (by simp; omega) p4
  have hl : 1 ≤ ds.length ∧ ds.length ≤ 4 := ⟨n5 (.inr (by simp; omega)), l5⟩
  rw [← ej] at e5
  have s3 : (mFor (mUn (mCons (mBi (mC (.int 1)) (mUn (mCons (mVar 0) (mCons (mC (.int 4)) mNil)) f__law_take) addD) mNil) fun ds => optM (rng1O ds)) (tgN 3) jb) (jv x1 a x3 x4 x5 k (.own (([] : List Cr).map cnD)) w x9 x10) P3 = .ok (.next (jv x1 a y3 x4 x5 k (.own (ds.map cnD)) w y9 y10)) P5 :=
    ev_for (P1 := P4) (ev_un (ev_cons (ev_bi ev_c (ev_un (ev_cons (ev_var rfl) (ev_cons ev_c ev_nil)) e4) rfl) ev_nil) (ev_opt er)) e5
  have rl : (rngD 0 k).length = k := by simp [rngD]
  obtain ⟨ys, P6, e6, hy, hq, p6⟩ := ev_lcS (I := Pp) (Q := fun d => ∃ v : Int, d = .int v ∧ (0 ≤ v ∧ v < 2)) (own := [3]) (t := tgN 3) (te := mUn (mCons (mVar 0) (mCons (mC (.int 2)) mNil)) f__law_take) (mi := mUn (mCons (mVarR 6) mNil) fun ds => optM (rng1O ds)) (env := jv x1 a y3 x4 x5 k (.own (ds.map cnD)) w y9 y10) (P := P5) (P1 := P5) (xs := rngD 0 k) (ev_un (ev_cons (ev_varR rfl) ev_nil) (ev_opt (rng_key k (by omega)))) (by rw [rl]; unfold cap; omega) p5 (by
    intro x hx P p
    obtain ⟨w, P', e, b, p'⟩ := take_ok p 2 (by decide) (by decide)
    exact ⟨_, _, _, rfl, ev_un (ev_cons (ev_var rfl) (ev_cons ev_c ev_nil)) e, ⟨w, rfl, b⟩, p'⟩)
  obtain ⟨ls, rfl, hs⟩ := ints_of hq
  have ll : ls.length = k := by rw [List.length_map] at hy; rw [hy, rl]
  have s4 : (mSet 4 (mVal (mUn (mCons (mFz (mLc [3] (tgN 3) mTrue (mUn (mCons (mVar 0) (mCons (mC (.int 2)) mNil)) f__law_take) (mUn (mCons (mVarR 6) mNil) fun ds => optM (rng1O ds)))) mNil) fun ds => optM (tupleO ds)))) (jv x1 a y3 x4 x5 k (.own (ds.map cnD)) w y9 y10) P5 = .ok (.next (jv x1 a y3 (.val (szD ls)) x5 k (.own (ds.map cnD)) w y9 y10)) P6 :=
    ev_set (ev_val (ev_un (ev_cons (ev_fz e6) ev_nil) rfl))
  obtain ⟨b, hb, ha⟩ := bd_alike hk hd hl
  obtain ⟨t, P7, e7, ht, p7⟩ := tint_ok p6
  have hf : Fig ds k ls t := ⟨hl, hd.ok, hd.nd, ll, mem_szs (by omega) hs, ht⟩
  obtain ⟨s, rs, so⟩ := repr2 b
  let X7 : Sl := .val (.lst (ds.map cnD))
  have hn : notD (.bl (!b)) P6 = .ok (.bl b) P6 := by cases b <;> rfl
  have s5 : (mSet 5 (mVal (mUn (mUn (mCons (mVar 7) (mCons (mVar 6) mNil)) f__law_alike) notD))) (jv x1 a y3 (.val (szD ls)) x5 k X7 w y9 y10) P6 = .ok (.next (jv x1 a y3 (.val (szD ls)) (.val (.bl b)) k X7 w y9 y10)) P6 :=
    ev_set (ev_val (ev_un (ev_un (ev_cons (ev_var rfl) (ev_cons (ev_var rfl) ev_nil)) (ha P6)) hn))
  have tp : (mTup (mCons (mUn (mCons (mVarR 7) mNil) fun ds => optM (tupleO ds)) (mCons (mVar 4) (mCons (mUn (mCons (mVar 0) mNil) f__law_tint) mNil)))) (jv x1 a y3 (.val (szD ls)) (.val (.bl b)) k X7 w y9 y10) P6 = .ok (figD ds ls t) P7 :=
    ev_tup (ev_cons (ev_un (ev_cons (ev_varR rfl) ev_nil) rfl) (ev_cons (ev_var rfl) (ev_cons (ev_un (ev_cons (ev_var rfl) ev_nil) e7) ev_nil))) (by unfold cap; simp)
  have s6 : (mIfS (mBi (mUn (mCons (mUn (mCons (mTup (mCons (mUn (mCons (mVarR 7) mNil) fun ds => optM (tupleO ds)) (mCons (mVar 4) (mCons (mUn (mCons (mVar 0) mNil) f__law_tint) mNil)))) mNil) f__law_told) mNil) fun ds => optM (reprO ds)) (mUn (mCons (mFz (mLst (mCons (mVar 5) (mCons (mVar 5) mNil)))) mNil) fun ds => optM (reprO ds)) neD) (mRet (mC (.bl false))) mSkip) (jv x1 a y3 (.val (szD ls)) (.val (.bl b)) k X7 w y9 y10) P6 = .ok (.next (jv x1 a y3 (.val (szD ls)) (.val (.bl b)) k X7 w y9 y10)) P7 :=
    ev_ifF (P1 := P7) (ev_bi (P1 := P7) (P2 := P7) (ev_un (ev_cons (ev_un (ev_cons tp ev_nil) (told_is hf hb)) ev_nil) (ev_opt rs)) (ev_un (ev_cons (ev_fz (ev_lst (ev_cons (ev_var rfl) (ev_cons (ev_var rfl) ev_nil)) (by unfold cap; simp))) ev_nil) (ev_opt rs)) (by rw [neD_str so so]; simp [M.ok])) ev_skip
  exact ⟨_, _, _, _, _, _, _, _, _, P7, ev_seq (P1 := P2) s1 (ev_seq (P1 := P3) s2 (ev_seq (P1 := P5) s3 (ev_seq (P1 := P6) s4 (ev_fr rfl (ev_seq (P1 := P6) s5 s6))))), p7⟩
theorem right_ok {P : Pu} (p : Pp P) : ∃ P', f__law_right [.pur] P = .ok (.bl true) P' := by
  have loop := forM_inv (I := fun xs env P => Pp P ∧ ∃ a1 a2 a3 a4 a5 a6 a7 a8 a9 a10, env = [.val .pur, a1, a2, a3, a4, a5, a6, a7, a8, a9, a10]) (t := tgN 1) (body := rb) (by
    rintro x xs env P ⟨p, a1, a2, a3, a4, a5, a6, a7, a8, a9, a10, rfl⟩
    obtain ⟨b2, b3, b4, b5, b6, b7, b8, b9, b10, P', h, p'⟩ := rb_ok (.val x) a2 a3 a4 a5 a6 a7 a8 a9 a10 p
    exact ⟨_, _, P', rfl, h, p', _, _, _, _, _, _, _, _, _, _, rfl⟩) (rngD 0 2) [.val .pur, .no, .no, .no, .no, .no, .no, .no, .no, .no, .no] P ⟨p, _, _, _, _, _, _, _, _, _, _, rfl⟩
  obtain ⟨e3, P3, l1, p3, a1, a2, a3, a4, a5, a6, a7, a8, a9, a10, rfl⟩ := loop
  exact ⟨P3, ev_D (ev_seq (P1 := P3) (ev_for (ev_un (ev_cons ev_c ev_nil) rfl) l1) (ev_ret ev_c))⟩
theorem m4 {a b : Int} (h1 : -1000000000000 ≤ a) (h2 : a ≤ 1000000000000) (h3 : -1000000000000 ≤ b) (h4 : b ≤ 1000000000000) : mulOk a b = true := mulOk_small (by omega) (by omega) (by omega) (by omega)
theorem cut_to {xs : List D} {k : Int} (h : 0 ≤ k) : PD.cutD xs none (some k) = xs.take k.toNat := by
  obtain ⟨n, rfl⟩ := Int.eq_ofNat_of_zero_le h
  unfold PD.cutD
  rw [HT.sIx_none, HT.sIx_nat]
  simp only [List.drop_zero, Nat.sub_zero, Int.toNat_natCast]
  rw [Nat.min_def]
  by_cases q : n ≤ xs.length
  · rw [if_pos q]
  · rw [if_neg q, List.take_of_length_le (Nat.le_refl _), List.take_of_length_le (by omega)]
theorem log_mul (a b : Nat) : (a * b).log2 ≤ a.log2 + b.log2 + 1 := by
  by_cases z : a * b = 0
  · rw [z]; simp
  · have h1 : a < 2 ^ (a.log2 + 1) := Nat.lt_log2_self
    have h2 : b < 2 ^ (b.log2 + 1) := Nat.lt_log2_self
    have h3 : a * b < 2 ^ (a.log2 + b.log2 + 2) := by
      have := Nat.mul_lt_mul'' h1 h2
      rw [← Nat.pow_add] at this
      exact Nat.lt_of_lt_of_le this (Nat.pow_le_pow_right (by decide) (by omega))
    have := (Nat.log2_lt z).mpr h3
    omega
def Big (z : Int) : Prop := z.natAbs.log2 ≤ 1100000
theorem big_small {z : Int} (h1 : -9223372036854775808 < z) (h2 : z < 9223372036854775808) : Big z := by
  have := log_small (n := z.natAbs) (by omega)
  unfold Big; omega
theorem mul_big {z w : Int} (hz : Big z) (hw : w.natAbs.log2 ≤ 64) : mulOk z w = true := by
  unfold mulOk Big at *
  exact decide_eq_true (by omega)
theorem purse_ok {z : Int} (hz : Big z) {P : Pu} : ∃ a b c : Int, f__law_purse [.int z] P = .ok [.int a, .int b, .int c] P ∧ Pp (.pl [a, b, c]) := by
  have k1 : mulOk z z = true := by
    unfold mulOk Big at *
    exact decide_eq_true (by omega)
  have k2 : mulOk (z * z) 7 = true := by
    unfold mulOk Big at *
    have := log_mul z.natAbs z.natAbs
    rw [← Int.natAbs_mul] at this
    have h7 : (7 : Int).natAbs.log2 = 2 := by decide +kernel
    exact decide_eq_true (by omega)
  have k3 : mulOk z 48271 = true := mul_big hz (by decide +kernel)
  have k4 : mulOk z 69621 = true := mul_big hz (by decide +kernel)
  have pw : powD (.int 10) (.int 18) P = .ok (.int 1000000000000000000) P := by kernel_rfl
  have hd : ∃ c : Int, 0 ≤ c ∧ b__law_purse (PD.envOf 2 [.int z]) P = .ok (.next [.val (.int z), .val (.int c)]) P := by
    by_cases k : z < 0
    · refine ⟨-z, by omega, ev_set (ev_val (ev_ifeT (P1 := P) (ev_orT (ev_bi (ev_varR rfl) ev_c (by show Res.ok _ _ = _; rw [decide_eq_true k]))) (ev_un (ev_cons (ev_varR rfl) ev_nil) (ev_opt ?_))))⟩
      simp [absO, k]
    · by_cases q : 1000000000000000000 ≤ z
      · refine ⟨z, by omega, ev_set (ev_val (ev_ifeT (P1 := P) (ev_orF (P1 := P) (ev_bi (ev_varR rfl) ev_c (by show Res.ok _ _ = _; rw [decide_eq_false k])) (ev_bi (ev_varR rfl) (ev_bi ev_c ev_c pw) (by show Res.ok _ _ = _; rw [decide_eq_true q]))) (ev_un (ev_cons (ev_varR rfl) ev_nil) (ev_opt ?_))))⟩
        simp [absO, k]
      · exact ⟨0, by omega, ev_set (ev_val (ev_ifeF (P1 := P) (ev_orF (P1 := P) (ev_bi (ev_varR rfl) ev_c (by show Res.ok _ _ = _; rw [decide_eq_false k])) (ev_bi (ev_varR rfl) (ev_bi ev_c ev_c pw) (by show Res.ok _ _ = _; rw [decide_eq_false q]))) ev_c))⟩
  obtain ⟨c, hc, hd⟩ := hd
  refine ⟨(z * z * 7 + z * 48271 + 11).fmod 2147483399, (z * 69621 + 101).fmod 2147483563, c, ?_, ⟨_, _, _, rfl, ⟨Int.fmod_nonneg_of_pos _ (by decide), Int.lt_trans (Int.fmod_lt_of_pos _ (by decide)) (by decide)⟩, ⟨Int.fmod_nonneg_of_pos _ (by decide), Int.lt_trans (Int.fmod_lt_of_pos _ (by decide)) (by decide)⟩, hc⟩⟩
  unfold f__law_purse runF
  rw [bindR hd]
  refine noexcR ?_
  simp [l__law_purse, mLst, mCons, mNil, mBi, mUn, mVar, mC, M.bind, M.ok, slD, mulD, addD, modD, intO, optM, okIf, cap, k1, k2, k3, k4]
theorem cell_ok {ns : List Int} (hl : ns.length ≤ 63) (hb : ∀ z ∈ ns, Big z) {k : Nat} (hk : k < 10) {P : Pu} : ∃ z, f__law_cell [.scr (ns.map .int), .int (k : Nat)] P = .ok (.int z) P ∧ Big z := by
  have e1 : lenO [.scr (ns.map .int)] = some (.int (ns.length : Nat)) := by simp [lenO]
  by_cases q : k < ns.length
  · have q2 : (k : Int) < (ns.length : Nat) := by omega
    have e2 : ixO (.scr (ns.map .int)) (.int (k : Nat)) = some (.int ns[k]) := by
      show atI (ns.map D.int) (k : Nat) = _
      unfold atI ixN
      rw [List.length_map, if_pos (by omega), if_pos q2]
      simp [List.getElem?_eq_getElem q]
    refine ⟨ns[k], ev_D (ev_seqR (ev_ifT (P1 := P) (ev_bi (ev_varR rfl) (ev_un (ev_cons (ev_varR rfl) ev_nil) (ev_opt e1)) (by show Res.ok _ _ = _; rw [decide_eq_true q2])) (ev_ret (ev_bi (ev_varR rfl) (ev_var rfl) (ev_opt e2))))), hb _ (List.getElem_mem q)⟩
  · have q2 : ¬ (k : Int) < (ns.length : Nat) := by omega
    have k1 : mulOk 977 ((k : Int) + 3) = true := m4 (by omega) (by omega) (by omega) (by omega)
    have k2 : mulOk (977 * ((k : Int) + 3)) ((k : Int) + 41) = true := m4 (by omega) (by omega) (by omega) (by omega)
    have b0 : ∃ m : Int, m = 977 * ((k : Int) + 3) * ((k : Int) + 41) + 29 ∧ (0 ≤ m ∧ m < 2147483629) := by
      refine ⟨_, rfl, ?_⟩
      have : k = 0 ∨ k = 1 ∨ k = 2 ∨ k = 3 ∨ k = 4 ∨ k = 5 ∨ k = 6 ∨ k = 7 ∨ k = 8 ∨ k = 9 := by omega
      rcases this with rfl | rfl | rfl | rfl | rfl | rfl | rfl | rfl | rfl | rfl <;> decide
    obtain ⟨m, hm, bm⟩ := b0
    obtain ⟨e, h3, w, s3, rfl, bw⟩ := forM_nx (Inv := fun env => ∃ (w : Int) (s3 : Sl), env = [.val (.scr (ns.map D.int)), .val (.int (k : Nat)), .val (.int w), s3] ∧ (0 ≤ w ∧ w < 2147483629)) (t := tgN 3) (body := mSet 2 (mVal (mBi (mUn (mCons (mBi (mBi (mVar 2) (mC (.int 52361)) mulD) (mVar 3) addD) mNil) fun ds => optM (intO ds)) (mC (.int 2147483629)) modD))) (P := P) (xs := (ns.take 4).map D.int) (env := [.val (.scr (ns.map D.int)), .val (.int (k : Nat)), .val (.int m), .no]) (by
      rintro x hx env ⟨w, s3, rfl, bw⟩
      obtain ⟨z, hz, rfl⟩ := List.mem_map.mp hx
      have k3 : mulOk w 52361 = true := mulOk_small (by omega) (by omega) (by omega) (by omega)
      refine ⟨_, _, rfl, ev_set (ev_val (d := .int ((w * 52361 + z).fmod 2147483629)) ?_), _, _, rfl, Int.fmod_nonneg_of_pos _ (by decide), Int.fmod_lt_of_pos _ (by decide)⟩
      simp [mBi, mUn, mCons, mNil, mVar, mC, M.bind, M.ok, slD, mulD, addD, modD, intO, optM, okIf, k3]) ⟨_, _, rfl, bm⟩
    have k4 : mulOk w 31847 = true := mulOk_small (by omega) (by omega) (by omega) (by omega)
    have r1 := Int.fmod_nonneg_of_pos (w * 31847 + 7) (b := 2147483629) (by decide)
    have r2 := Int.fmod_lt_of_pos (w * 31847 + 7) (b := 2147483629) (by decide)
    refine ⟨(w * 31847 + 7).fmod 2147483629, ev_D (ev_seq (P1 := P) (ev_ifF (P1 := P) (ev_bi (ev_varR rfl) (ev_un (ev_cons (ev_varR rfl) ev_nil) (ev_opt e1)) (by show Res.ok _ _ = _; rw [decide_eq_false q2])) ev_skip) (ev_seq (e2 := [.val (.scr (ns.map .int)), .val (.int (k : Nat)), .val (.int m), .no]) (P1 := P) (ev_set (ev_val ?_)) (ev_seq (P1 := P) (ev_for (P1 := P) ?_ h3) (ev_ret ?_)))), big_small (by omega) (by omega)⟩
    · simp [mBi, mUn, mCons, mNil, mVar, mC, M.bind, M.ok, slD, mulD, addD, okIf, k1, k2, PD.envOf, hm]
    · simp [mSl, mVarR, mONone, mOSome, mUn, mC, M.bind, M.ok, slR, asO, optM, slF, cut_to, List.map_take]
    · simp [mBi, mUn, mCons, mNil, mVar, mC, M.bind, M.ok, slD, mulD, addD, modD, intO, optM, okIf, k4]
theorem big_bits {z : Int} (h : Builtin.Int.intBits z ≤ 1048576) : Big z := by
  unfold Builtin.Int.intBits at h
  unfold Big
  by_cases k : z = 0
  · subst k; decide +kernel
  · have e : (z == 0) = false := by simp [k]
    rw [e] at h
    have h : z.natAbs.log2 + 1 ≤ 1048576 := h
    omega
/-- how many cells are asked -/
theorem count_of (top : Int) (ht : 2 ≤ top ∧ top ≤ 10) {ns : List Int} (hl : ns.length ≤ 63) {env : Ev} (h0 : env[0]? = some (.val (.scr (ns.map .int)))) {P : Pu} : ∃ n : Nat, n ≤ top.toNat ∧ (mUn (mCons (mUn (mCons (mC (.int 2)) (mCons (mUn (mCons (mUn (mCons (mVarR 0) mNil) fun ds => optM (lenO ds)) (mCons (mC (.int top)) mNil)) fun ds => optM (minO ds)) mNil)) fun ds => optM (maxO ds)) mNil) fun ds => optM (rng1O ds)) env P = .ok (rngD 0 n) P := by
  have e1 : lenO [.scr (ns.map .int)] = some (.int (ns.length : Nat)) := by simp [lenO]
  have key : ∀ m : Int, (0 ≤ m ∧ m ≤ 10) → rng1O [.int m] = some (rngD 0 m.toNat) := fun m hm => by
    show (if -(2 ^ 62) ≤ m ∧ m < 2 ^ 62 then some (rngD 0 m.toNat) else none) = _
    rw [if_pos (by omega)]
  have e2 : ∃ m : Int, minO [.int (ns.length : Nat), .int top] = some (.int m) ∧ (0 ≤ m ∧ m ≤ top) := by
    by_cases q : top < (ns.length : Nat)
    · exact ⟨top, by simp [minO, q], by omega⟩
    · exact ⟨(ns.length : Nat), by simp [minO, q], by omega⟩
  obtain ⟨m, e2, bm⟩ := e2
  have e3 : ∃ j : Int, maxO [.int 2, .int m] = some (.int j) ∧ (0 ≤ j ∧ j ≤ top) := by
    by_cases q : 2 < m
    · exact ⟨m, by simp [maxO, q], bm⟩
    · exact ⟨2, by simp [maxO, q], by omega⟩
  obtain ⟨j, e3, bj⟩ := e3
  exact ⟨j.toNat, by omega, ev_un (ev_cons (ev_un (ev_cons ev_c (ev_cons (ev_un (ev_cons (ev_un (ev_cons (ev_varR h0) ev_nil) (ev_opt e1)) (ev_cons ev_c ev_nil)) (ev_opt e2)) ev_nil)) (ev_opt e3)) ev_nil) (ev_opt (key j (by omega)))⟩
/-! ### the law -/
def c0 : Cr := ((0, 0, 0), (0, 0, 0))
def c1 : Cr := ((0, 1, -2), (0, 0, 0))
def c2 : Cr := ((0, 0, 0), (1, 1, -2))
def c3 : Cr := ((0, 1, 2), (0, 0, 0))
theorem mv_ok {k : Nat} {a b c : Int} (h1 : -5 ≤ a ∧ a ≤ 5) (h2 : -2 ≤ b ∧ b ≤ 2) (h3 : -2 ≤ c ∧ c ≤ 2) (h4 : k = 0 → b = 0) (h5 : k ≤ 1 → c = 0) : MvOk k (a, b, c) := ⟨h1, h2, h3, h4, h5⟩
theorem ok0 (k : Nat) : CrOk k c0 := ⟨mv_ok (by decide) (by decide) (by decide) (fun _ => rfl) (fun _ => rfl), mv_ok (by decide) (by decide) (by decide) (fun _ => rfl) (fun _ => rfl)⟩
theorem ok1 : CrOk 2 c1 := ⟨mv_ok (by decide) (by decide) (by decide) (by decide) (by decide), mv_ok (by decide) (by decide) (by decide) (by decide) (by decide)⟩
theorem ok2 : CrOk 2 c2 := ⟨mv_ok (by decide) (by decide) (by decide) (by decide) (by decide), mv_ok (by decide) (by decide) (by decide) (by decide) (by decide)⟩
theorem ok3 : CrOk 2 c3 := ⟨mv_ok (by decide) (by decide) (by decide) (by decide) (by decide), mv_ok (by decide) (by decide) (by decide) (by decide) (by decide)⟩
theorem figA : Fig [c0, c1] 2 [0, 0] none := ⟨by decide, fun c hc => by
  simp only [List.mem_cons, List.not_mem_nil, or_false] at hc
  rcases hc with rfl | rfl
  · exact ok0 2
  · exact ok1, by decide, rfl, by simp [szs], fun c h => nomatch h⟩
theorem figB : Fig [c0, c1, c2] 2 [1, 1] none := ⟨by decide, fun c hc => by
  simp only [List.mem_cons, List.not_mem_nil, or_false] at hc
  rcases hc with rfl | rfl | rfl
  · exact ok0 2
  · exact ok1
  · exact ok2, by decide, rfl, by simp [szs], fun c h => nomatch h⟩
theorem figC : Fig [c0] 1 [0] none := ⟨by decide, fun c hc => by
  simp only [List.mem_cons, List.not_mem_nil, or_false] at hc
  subst hc; exact ok0 1, by decide, rfl, by simp [szs], fun c h => nomatch h⟩
theorem figE : Fig [c0] 0 [] none := ⟨by decide, fun c hc => by
  simp only [List.mem_cons, List.not_mem_nil, or_false] at hc
  subst hc; exact ok0 0, by decide, rfl, by simp [szs], fun c h => nomatch h⟩
theorem figG : Fig [c0, c3] 2 [0, 1] (some (1, 0, 2, 0)) := ⟨by decide, fun c hc => by
  simp only [List.mem_cons, List.not_mem_nil, or_false] at hc
  rcases hc with rfl | rfl
  · exact ok0 2
  · exact ok3, by decide, rfl, by simp [szs], fun c h => by
  cases h
  exact mem_cols (by decide) (by decide) (by decide) (by decide) (by decide)⟩
theorem bdA : BdIs [c0, c1] 2 false := fun P => by kernel_rfl
theorem bdB : BdIs [c0, c1, c2] 2 false := fun P => by kernel_rfl
theorem bdC : BdIs [c0] 1 false := fun P => by kernel_rfl
theorem bdE : BdIs [c0] 0 true := fun P => by kernel_rfl
theorem bdG : BdIs [c0, c3] 2 true := fun P => by kernel_rfl
def FF : D := .lst [.bl false, .bl false]
def TT : D := .lst [.bl true, .bl true]
abbrev lv (n : Sl) (x1 : Sl) : Ev := [n, x1, .val (cnD c0), .val (cnD c1), .val (cnD c2), .no, .no]
theorem ag0 (N x1 : Sl) {P : Pu} : (mCons (mTup (mCons (mTup (mCons (mVar 2) (mCons (mVar 3) mNil))) (mCons (mTup (mCons (mC (.int 0)) (mCons (mC (.int 0)) mNil))) (mCons (mC .non) mNil)))) mNil) (lv N x1) P = .ok [figD [c0, c1] [0, 0] none] P := by kernel_rfl
theorem ag1 (N x1 : Sl) {P : Pu} : (mCons (mTup (mCons (mTup (mCons (mVar 2) (mCons (mVar 3) (mCons (mVar 4) mNil)))) (mCons (mTup (mCons (mC (.int 1)) (mCons (mC (.int 1)) mNil))) (mCons (mC .non) mNil)))) mNil) (lv N x1) P = .ok [figD [c0, c1, c2] [1, 1] none] P := by kernel_rfl
theorem ag2 (N x1 : Sl) {P : Pu} : (mCons (mTup (mCons (mTup (mCons (mVar 2) mNil)) (mCons (mTup (mCons (mC (.int 0)) mNil)) (mCons (mC .non) mNil)))) mNil) (lv N x1) P = .ok [figD [c0] [0] none] P := by kernel_rfl
theorem ag3 (N x1 : Sl) {P : Pu} : (mCons (mTup (mCons (mTup (mCons (mVar 2) mNil)) (mCons (mTup mNil) (mCons (mC .non) mNil)))) mNil) (lv N x1) P = .ok [figD [c0] [] none] P := by kernel_rfl
theorem ag4 (N x1 : Sl) {P : Pu} : (mCons (mTup (mCons (mTup (mCons (mVar 2) (mCons (mTup (mCons (mTup (mCons (mC (.int 0)) (mCons (mC (.int 1)) (mCons (mC (.int 2)) mNil)))) (mCons (mTup (mCons (mC (.int 0)) (mCons (mC (.int 0)) (mCons (mC (.int 0)) mNil)))) mNil))) mNil))) (mCons (mTup (mCons (mC (.int 0)) (mCons (mC (.int 1)) mNil))) (mCons (mTup (mCons (mC (.int 1)) (mCons (mC (.int 0)) (mCons (mC (.int 2)) (mCons (mC (.int 0)) mNil))))) mNil)))) mNil) (lv N x1) P = .ok [figD [c0, c3] [0, 1] (some (1, 0, 2, 0))] P := by kernel_rfl
theorem law_0 (N : Sl) {P : Pu} : (mUnpk (unpD [2, 3, 4]) (mTup (mCons (mTup (mCons (mTup (mCons (mC (.int 0)) (mCons (mC (.int 0)) (mCons (mC (.int 0)) mNil)))) (mCons (mTup (mCons (mC (.int 0)) (mCons (mC (.int 0)) (mCons (mC (.int 0)) mNil)))) mNil))) (mCons (mTup (mCons (mTup (mCons (mC (.int 0)) (mCons (mC (.int 1)) (mCons (mUn (mC (.int 2)) negD) mNil)))) (mCons (mTup (mCons (mC (.int 0)) (mCons (mC (.int 0)) (mCons (mC (.int 0)) mNil)))) mNil))) (mCons (mTup (mCons (mTup (mCons (mC (.int 0)) (mCons (mC (.int 0)) (mCons (mC (.int 0)) mNil)))) (mCons (mTup (mCons (mC (.int 1)) (mCons (mC (.int 1)) (mCons (mUn (mC (.int 2)) negD) mNil)))) mNil))) mNil))))) [N, .no, .no, .no, .no, .no, .no] P = .ok (.next (lv N .no)) P := by kernel_rfl
theorem law_1 (N : Sl) {P : Pu} : (mSet 1 (mOwn (mLst (mCons (mUn (mCons (mTup (mCons (mTup (mCons (mVar 2) (mCons (mVar 3) mNil))) (mCons (mTup (mCons (mC (.int 0)) (mCons (mC (.int 0)) mNil))) (mCons (mC .non) mNil)))) mNil) f__law_told) (mCons (mUn (mCons (mTup (mCons (mTup (mCons (mVar 2) (mCons (mVar 3) (mCons (mVar 4) mNil)))) (mCons (mTup (mCons (mC (.int 1)) (mCons (mC (.int 1)) mNil))) (mCons (mC .non) mNil)))) mNil) f__law_told) mNil))))) (lv N .no) P = .ok (.next (lv N (.own [FF, FF]))) P :=
  ev_set (ev_own (ev_lst (ev_cons (ev_un (ag0 _ _) (told_b figA bdA)) (ev_cons (ev_un (ag1 _ _) (told_b figB bdB)) ev_nil)) (by unfold cap; simp)))
theorem law_2 (N : Sl) {P : Pu} : (mSet 1 (mOwn (mBi (mVarR 1) (mFz (mLst (mCons (mUn (mCons (mTup (mCons (mTup (mCons (mVar 2) mNil)) (mCons (mTup (mCons (mC (.int 0)) mNil)) (mCons (mC .non) mNil)))) mNil) f__law_told) (mCons (mUn (mCons (mTup (mCons (mTup (mCons (mVar 2) mNil)) (mCons (mTup mNil) (mCons (mC .non) mNil)))) mNil) f__law_told) mNil)))) catF))) (lv N (.own [FF, FF])) P = .ok (.next (lv N (.own [FF, FF, FF, TT]))) P :=
  ev_set (ev_own (ev_bi (P1 := P) (P2 := P) (ev_varO rfl) (ev_fz (ev_lst (ev_cons (ev_un (ag2 _ _) (told_b figC bdC)) (ev_cons (ev_un (ag3 _ _) (told_g figE bdE)) ev_nil)) (by unfold cap; simp))) (by kernel_rfl)))
theorem law_3 (N : Sl) {P : Pu} : (mSet 1 (mOwn (mBi (mVarR 1) (mFz (mLst (mCons (mUn (mCons (mTup (mCons (mTup (mCons (mVar 2) (mCons (mTup (mCons (mTup (mCons (mC (.int 0)) (mCons (mC (.int 1)) (mCons (mC (.int 2)) mNil)))) (mCons (mTup (mCons (mC (.int 0)) (mCons (mC (.int 0)) (mCons (mC (.int 0)) mNil)))) mNil))) mNil))) (mCons (mTup (mCons (mC (.int 0)) (mCons (mC (.int 1)) mNil))) (mCons (mTup (mCons (mC (.int 1)) (mCons (mC (.int 0)) (mCons (mC (.int 2)) (mCons (mC (.int 0)) mNil))))) mNil)))) mNil) f__law_told) mNil))) catF))) (lv N (.own [FF, FF, FF, TT])) P = .ok (.next (lv N (.own [FF, FF, FF, TT, TT]))) P :=
  ev_set (ev_own (ev_bi (P1 := P) (P2 := P) (ev_varO rfl) (ev_fz (ev_lst (ev_cons (ev_un (ag4 _ _) (told_g figG bdG)) ev_nil) (by unfold cap; simp))) (by kernel_rfl)))
theorem law_4 (N : Sl) {P : Pu} : (mIfS (mBi (mUn (mCons (mVarR 1) mNil) fun ds => optM (reprO ds)) (mUn (mCons (mFz (mLc [6] (tgN 6) mTrue (mFz (mLst (mCons (mVar 6) (mCons (mVar 6) mNil)))) (mLst (mCons (mC (.bl false)) (mCons (mC (.bl false)) (mCons (mC (.bl false)) (mCons (mC (.bl true)) (mCons (mC (.bl true)) mNil)))))))) mNil) fun ds => optM (reprO ds)) neD) (mRet (mC (.bl false))) mSkip) (lv N (.own [FF, FF, FF, TT, TT])) P = .ok (.next (lv N (.own [FF, FF, FF, TT, TT]))) P := by kernel_rfl
theorem law_true : ∀ ns : List Int, ns.length ≤ 63 → (∀ z ∈ ns, Builtin.Int.intBits z ≤ 1048576) → ∃ P', f_law [.scr (ns.map .int)] (.pl []) = .ok (.bl true) P' := by
  intro ns hl hz
  have hb : ∀ z ∈ ns, Big z := fun z h => big_bits (hz z h)
  let N : Sl := .val (.scr (ns.map .int))
  let P : Pu := .pl []
  obtain ⟨n, hn, en⟩ := count_of 8 (by decide) hl (env := lv N (.own [FF, FF, FF, TT, TT])) rfl (P := P)
  refine ⟨P, ?_⟩
  have fin := ev_all (q := fun _ : Nat => true) (as := List.range n) (P := P)
  refine ev_D (ev_seq (P1 := P) (law_0 N) (ev_seq (P1 := P) (law_1 N) (ev_seq (P1 := P) (law_2 N) (ev_seq (P1 := P) (law_3 N) (ev_seq (P1 := P) (law_4 N) (ev_ret (ev_un (ev_cons (ev_fz (ev_lc (as := List.range n) (fun i => .int (0 + (i : Nat))) (fun _ => .bl true) en (by rw [List.length_range]; unfold cap; omega) fun i hi => ⟨_, rfl, ?_⟩)) ev_nil) (fin.trans (by simp)))))))))
  have hi : i < n := List.mem_range.mp hi
  have hn : n ≤ 8 := hn
  rw [Int.zero_add]
  obtain ⟨z, e4, bz⟩ := cell_ok hl hb (k := i) (by omega) (P := P)
  obtain ⟨a, b, c, e5, p5⟩ := purse_ok bz (P := P)
  obtain ⟨P', e6⟩ := right_ok p5
  have e7 : (mCons (mUn (mCons (mVar 0) (mCons (mVar 5) mNil)) f__law_cell) mNil) (PD.setAll [5] [.val (.int (i : Nat))] (wipeE (lv N (.own [FF, FF, FF, TT, TT])) [5])) P = .ok [.int z] P := ev_cons (ev_un (ev_cons (ev_var rfl) (ev_cons (ev_var rfl) ev_nil)) e4) ev_nil
  show mMkPu f__law_purse f__law_right _ _ P = _
  unfold mMkPu
  refine (bindR e7).trans ((bindR (noexcR e5)).trans ?_)
  simp [intsO, e6, noPur]
end K13

set_option Elab.async false
set_option maxRecDepth 100000
namespace K13
open PySem PySem.Spec PyProof.Rows L2 RZ ClX PD
theorem fin2 {P : Program} {w : World} {K : PySem.W.Frag} {mg : Str → Option Value} {fa : Addr} {n : Nat} {h : Heap} (X : K.In h) (hmg : mg "law" = some (.ref fa)) (hT : ∃ adr, Tx K mg adr)
    (ht : ∀ ns : List Int, ns.length ≤ n → (∀ z ∈ ns, Builtin.Int.intBits z ≤ 1048576) → ∃ P', f_law [.scr (ns.map .int)] (.pl []) = .ok (.bl true) P') :
    ∃ (fd : FuncData) (adr : Str → Addr), (∀ (s : Shared) (u : Value), BindsTo s fd ⟨[u], []⟩ [("_law_script", u)]) ∧
      (∀ base : Heap, K.In base → base.Ns mainGlobals mg → FnG P w K mg base (L2N.CX P w) 11 fa fd ["_law_script"] (spD K adr 1 f_law)) ∧
      ∀ ns : List Int, ns.length ≤ n → (∀ z ∈ ns, Builtin.Int.intBits z ≤ 1048576) → ∃ P', f_law [.scr (ns.map .int)] (.pl []) = .ok (.bl true) P' := fin hmg hT ht
end K13
open PySem PySem.W PyProof.Rows in
set_option maxRecDepth 100000 in
set_option maxHeartbeats 0 in
theorem PySem.Challenge.cw_shapetallies_k13_whole_bounded_shapes_holds : PySem.Challenge.rw_shapetallies_k13_whole_bounded_shapes.Holds := by
  w_on; o_law; k_head; (case hw => w_witness2)
  k_fill
  refine PD.walk_G (l := PySem.Challenge.rw_shapetallies_k13_whole_bounded_shapes) (k := 11) (x := "_law_script") (mf := fun _ _ => K13.f_law) rfl (by decide) rfl ⟨rfl, by decide, by decide⟩ (fun w h Y => PySem.W.kIn_of Y) ?F
  case F =>
   intro w mg fa h KX G hmg
   refine' K13.fin2 KX hmg ⟨_, ?T⟩ K13.law_true
   case T =>
    refine' K13.all_mk KX G ?hg_is_integer ?hg_is_between ?hg_is_move ?hg_is_corner ?hg_check_corners ?hg_SIZES ?hg_check_least ?hg_check_factors ?hg_is_colour ?hg_InvalidColour ?hg_differences ?hg_is_bounded ?hg_Unbounded ?hg_text_of_sizes ?hg_join_of ?hg_WORDS ?hg_text_of_sum ?hg_text_of_move ?hg_PLACES ?hg_text_of ?hg_Shape ?hg_InvalidText ?hg_least_of_text ?hg_number_of ?hg_summand_of ?hg_sum_of_text ?hg_corner_of_text ?hg_colour_of_text ?hg_InvalidCorners ?hg_InvalidLeast ?hg__law_sum ?hg__law_dot_text ?hg__law_figure_text ?hg__law_told ?hg__law_take ?hg__law_dot ?hg__law_alike ?hg__law_tint ?hg__law_cell ?hg__law_right ?hg__law_purse ?hg_law ?hn_tuple ?hn_isinstance ?hn_enumerate ?hc_MOST_CORNERS ?hn_len ?hn_int ?hn_bool ?hc_DISTANCE ?hc_FACTOR ?hn_range ?hn_any ?hc_MOST_COLOURS ?hn_all ?hn_zip ?hn_abs ?hn_str ?hc_DIGITS ?hn_repr ?hn_min ?hn_max ?hn_divmod ?xpg ?xhd ?xpo ?xsa ?xha ?xhn ?xtk ?xhm ?xcc ?xtt ?xa0 ?xa1 ?xa2 ?xa3 ?xa4 ?xa5 ?xb0 ?xb1 ?xb2 ?xb3 ?xb4 ?xb5 ?xb6 ?hna_Shape_points ?hna_Shape_starts ?hna_Shape_dye ?hna_Shape_words ?yl_InvalidColour ?ys_InvalidColour ?ye_InvalidColour ?yt_InvalidColour ?yk_InvalidColour ?yn_InvalidColour ?yl_InvalidText ?ys_InvalidText ?ye_InvalidText ?yt_InvalidText ?yk_InvalidText ?yn_InvalidText ?zx_Unbounded ?zk_Unbounded ?zs_Unbounded ?zt_Unbounded ?xe_Unbounded ?xt_Unbounded ?xi_Unbounded ?xs_Unbounded__Unbounded ?xs_InvalidText__Unbounded ?xi_InvalidColour ?xs_Unbounded__InvalidColour ?xe_InvalidLeast ?xt_InvalidLeast ?xi_InvalidLeast ?xs_Unbounded__InvalidLeast ?xe_InvalidCorners ?xt_InvalidCorners ?xi_InvalidCorners ?xs_Unbounded__InvalidCorners ?xi_InvalidText ?xs_InvalidText__InvalidText ?xs_Unbounded__InvalidText ?hl_is_integer ?hc_is_integer ?hk_is_integer ?hl_is_between ?hc_is_between ?hk_is_between ?hl_is_move ?hc_is_move ?hk_is_move ?hl_is_corner ?hc_is_corner ?hk_is_corner ?hl_check_corners ?hc_check_corners ?hk_check_corners ?hl_check_least ?hc_check_least ?hk_check_least ?hl_check_factors ?hc_check_factors ?hk_check_factors ?hl_is_colour ?hc_is_colour ?hk_is_colour ?hl_differences ?hc_differences ?hk_differences ?hl_is_bounded ?hc_is_bounded ?hk_is_bounded ?hl_text_of_sizes ?hc_text_of_sizes ?hk_text_of_sizes ?hl_join_of ?hc_join_of ?hk_join_of ?hl_text_of_sum ?hc_text_of_sum ?hk_text_of_sum ?hl_text_of_move ?hc_text_of_move ?hk_text_of_move ?hl_text_of ?hc_text_of ?hk_text_of ?hf_Shape___init__ ?hi_Shape___init__ ?hl_Shape___init__ ?ht_Shape___init__ ?he_Shape___init__ ?hc_Shape___init__ ?hk_Shape___init__ ?hl_least_of_text ?hc_least_of_text ?hk_least_of_text ?hl_number_of ?hc_number_of ?hk_number_of ?hl_summand_of ?hc_summand_of ?hk_summand_of ?hl_sum_of_text ?hc_sum_of_text ?hk_sum_of_text ?hl_corner_of_text ?hc_corner_of_text ?hk_corner_of_text ?hl_colour_of_text ?hc_colour_of_text ?hk_colour_of_text ?hs_Shape_read ?hu_Shape_read ?hf_Shape_read ?hr_Shape_read ?hi_Shape_read ?hl_Shape_read ?hc_Shape_read ?hk_Shape_read ?hl__law_sum ?hc__law_sum ?hk__law_sum ?hl__law_dot_text ?hc__law_dot_text ?hk__law_dot_text ?hl__law_figure_text ?hc__law_figure_text ?hk__law_figure_text ?hl__law_told ?hc__law_told ?hk__law_told ?hl__law_purse ?hc__law_purse ?hk__law_purse ?hl__law_take ?hc__law_take ?hk__law_take ?hl__law_dot ?hc__law_dot ?hk__law_dot ?hl__law_alike ?hc__law_alike ?hk__law_alike ?hl__law_tint ?hc__law_tint ?hk__law_tint ?hl__law_right ?hc__law_right ?hk__law_right ?hl__law_cell ?hc__law_cell ?hk__law_cell ?hl_law ?hc_law ?hk_law ?hf_InvalidColour___init__ ?hi_InvalidColour___init__ ?hl_InvalidColour___init__ ?hc_InvalidColour___init__ ?hk_InvalidColour___init__ ?hf_InvalidText___init__ ?hi_InvalidText___init__ ?hl_InvalidText___init__ ?hc_InvalidText___init__ ?hk_InvalidText___init__ ?xmk ?xkp ?hw_SIZES ?hw_PLACES ?hw_WORDS
    (case hg_is_integer => k_is)
    (case hg_is_between => k_is)
    (case hg_is_move => k_is)
    (case hg_is_corner => k_is)
    (case hg_check_corners => k_is)
    (case hg_SIZES => k_is)
    (case hg_check_least => k_is)
    (case hg_check_factors => k_is)
    (case hg_is_colour => k_is)
    (case hg_InvalidColour => k_is)
    (case hg_differences => k_is)
    (case hg_is_bounded => k_is)
    (case hg_Unbounded => k_is)
    (case hg_text_of_sizes => k_is)
    (case hg_join_of => k_is)
    (case hg_WORDS => k_is)
    (case hg_text_of_sum => k_is)
    (case hg_text_of_move => k_is)
    (case hg_PLACES => k_is)
    (case hg_text_of => k_is)
    (case hg_Shape => k_is)
    (case hg_InvalidText => k_is)
    (case hg_least_of_text => k_is)
    (case hg_number_of => k_is)
    (case hg_summand_of => k_is)
    (case hg_sum_of_text => k_is)
    (case hg_corner_of_text => k_is)
    (case hg_colour_of_text => k_is)
    (case hg_InvalidCorners => k_is)
    (case hg_InvalidLeast => k_is)
    (case hg__law_sum => k_is)
    (case hg__law_dot_text => k_is)
    (case hg__law_figure_text => k_is)
    (case hg__law_told => k_is)
    (case hg__law_take => k_is)
    (case hg__law_dot => k_is)
    (case hg__law_alike => k_is)
    (case hg__law_tint => k_is)
    (case hg__law_cell => k_is)
    (case hg__law_right => k_is)
    (case hg__law_purse => k_is)
    (case hg_law => k_is)
    (case hn_tuple => k_is)
    (case hn_isinstance => k_is)
    (case hn_enumerate => k_is)
    (case hc_MOST_CORNERS => k_is)
    (case hn_len => k_is)
    (case hn_int => k_is)
    (case hn_bool => k_is)
    (case hc_DISTANCE => k_is)
    (case hc_FACTOR => k_is)
    (case hn_range => k_is)
    (case hn_any => k_is)
    (case hc_MOST_COLOURS => k_is)
    (case hn_all => k_is)
    (case hn_zip => k_is)
    (case hn_abs => k_is)
    (case hn_str => k_is)
    (case hc_DIGITS => k_is)
    (case hn_repr => k_is)
    (case hn_min => k_is)
    (case hn_max => k_is)
    (case hn_divmod => k_is)
    (case xpg => k_is)
    (case xhd => k_is)
    (case xpo => k_is)
    (case xsa => k_is)
    (case xha => k_is)
    (case xhn => k_is)
    (case xtk => k_is)
    (case xhm => k_is)
    (case xcc => k_is)
    (case xtt => k_is)
    (case xa0 => k_is)
    (case xa1 => k_is)
    (case xa2 => k_is)
    (case xa3 => k_is)
    (case xa4 => k_is)
    (case xa5 => k_is)
    (case xb0 => k_is)
    (case xb1 => k_is)
    (case xb2 => k_is)
    (case xb3 => k_is)
    (case xb4 => k_is)
    (case xb5 => k_is)
    (case xb6 => k_is)
    (case hna_Shape_points => k_is)
    (case hna_Shape_starts => k_is)
    (case hna_Shape_dye => k_is)
    (case hna_Shape_words => k_is)
    (case yl_InvalidColour => k_is)
    (case ys_InvalidColour => k_is)
    (case ye_InvalidColour => k_is)
    (case yt_InvalidColour => k_is)
    (case yk_InvalidColour => k_is)
    (case yn_InvalidColour => k_is)
    (case yl_InvalidText => k_is)
    (case ys_InvalidText => k_is)
    (case ye_InvalidText => k_is)
    (case yt_InvalidText => k_is)
    (case yk_InvalidText => k_is)
    (case yn_InvalidText => k_is)
    (case zx_Unbounded => k_exc)
    (case zk_Unbounded => k_is)
    (case zs_Unbounded => k_is)
    (case zt_Unbounded => k_is)
    (case xe_Unbounded => k_is)
    (case xt_Unbounded => k_is)
    (case xi_Unbounded => k_is)
    (case xs_Unbounded__Unbounded => k_is)
    (case xs_InvalidText__Unbounded => k_is)
    (case xi_InvalidColour => k_is)
    (case xs_Unbounded__InvalidColour => k_is)
    (case xe_InvalidLeast => k_is)
    (case xt_InvalidLeast => k_is)
    (case xi_InvalidLeast => k_is)
    (case xs_Unbounded__InvalidLeast => k_is)
    (case xe_InvalidCorners => k_is)
    (case xt_InvalidCorners => k_is)
    (case xi_InvalidCorners => k_is)
    (case xs_Unbounded__InvalidCorners => k_is)
    (case xi_InvalidText => k_is)
    (case xs_InvalidText__InvalidText => k_is)
    (case xs_Unbounded__InvalidText => k_is)
    (case hl_is_integer => k_is)
    (case hc_is_integer => k_is)
    (case hk_is_integer => k_is)
    (case hl_is_between => k_is)
    (case hc_is_between => k_is)
    (case hk_is_between => k_is)
    (case hl_is_move => k_is)
    (case hc_is_move => k_is)
    (case hk_is_move => k_is)
    (case hl_is_corner => k_is)
    (case hc_is_corner => k_is)
    (case hk_is_corner => k_is)
    (case hl_check_corners => k_is)
    (case hc_check_corners => k_is)
    (case hk_check_corners => k_is)
    (case hl_check_least => k_is)
    (case hc_check_least => k_is)
    (case hk_check_least => k_is)
    (case hl_check_factors => k_is)
    (case hc_check_factors => k_is)
    (case hk_check_factors => k_is)
    (case hl_is_colour => k_is)
    (case hc_is_colour => k_is)
    (case hk_is_colour => k_is)
    (case hl_differences => k_is)
    (case hc_differences => k_is)
    (case hk_differences => k_is)
    (case hl_is_bounded => k_is)
    (case hc_is_bounded => k_is)
    (case hk_is_bounded => k_is)
    (case hl_text_of_sizes => k_is)
    (case hc_text_of_sizes => k_is)
    (case hk_text_of_sizes => k_is)
    (case hl_join_of => k_is)
    (case hc_join_of => k_is)
    (case hk_join_of => k_is)
    (case hl_text_of_sum => k_is)
    (case hc_text_of_sum => k_is)
    (case hk_text_of_sum => k_is)
    (case hl_text_of_move => k_is)
    (case hc_text_of_move => k_is)
    (case hk_text_of_move => k_is)
    (case hl_text_of => k_is)
    (case hc_text_of => k_is)
    (case hk_text_of => k_is)
    (case hf_Shape___init__ => k_is)
    (case hi_Shape___init__ => k_is)
    (case hl_Shape___init__ => k_is)
    (case ht_Shape___init__ => k_is)
    (case he_Shape___init__ => k_is)
    (case hc_Shape___init__ => k_is)
    (case hk_Shape___init__ => k_is)
    (case hl_least_of_text => k_is)
    (case hc_least_of_text => k_is)
    (case hk_least_of_text => k_is)
    (case hl_number_of => k_is)
    (case hc_number_of => k_is)
    (case hk_number_of => k_is)
    (case hl_summand_of => k_is)
    (case hc_summand_of => k_is)
    (case hk_summand_of => k_is)
    (case hl_sum_of_text => k_is)
    (case hc_sum_of_text => k_is)
    (case hk_sum_of_text => k_is)
    (case hl_corner_of_text => k_is)
    (case hc_corner_of_text => k_is)
    (case hk_corner_of_text => k_is)
    (case hl_colour_of_text => k_is)
    (case hc_colour_of_text => k_is)
    (case hk_colour_of_text => k_is)
    (case hs_Shape_read => k_is)
    (case hu_Shape_read => k_is)
    (case hf_Shape_read => k_is)
    (case hr_Shape_read => k_is)
    (case hi_Shape_read => k_is)
    (case hl_Shape_read => k_is)
    (case hc_Shape_read => k_is)
    (case hk_Shape_read => k_is)
    (case hl__law_sum => k_is)
    (case hc__law_sum => k_is)
    (case hk__law_sum => k_is)
    (case hl__law_dot_text => k_is)
    (case hc__law_dot_text => k_is)
    (case hk__law_dot_text => k_is)
    (case hl__law_figure_text => k_is)
    (case hc__law_figure_text => k_is)
    (case hk__law_figure_text => k_is)
    (case hl__law_told => k_is)
    (case hc__law_told => k_is)
    (case hk__law_told => k_is)
    (case hl__law_purse => k_is)
    (case hc__law_purse => k_is)
    (case hk__law_purse => k_is)
    (case hl__law_take => k_is)
    (case hc__law_take => k_is)
    (case hk__law_take => k_is)
    (case hl__law_dot => k_is)
    (case hc__law_dot => k_is)
    (case hk__law_dot => k_is)
    (case hl__law_alike => k_is)
    (case hc__law_alike => k_is)
    (case hk__law_alike => k_is)
    (case hl__law_tint => k_is)
    (case hc__law_tint => k_is)
    (case hk__law_tint => k_is)
    (case hl__law_right => k_is)
    (case hc__law_right => k_is)
    (case hk__law_right => k_is)
    (case hl__law_cell => k_is)
    (case hc__law_cell => k_is)
    (case hk__law_cell => k_is)
    (case hl_law => k_is)
    (case hc_law => k_is)
    (case hk_law => k_is)
    (case hf_InvalidColour___init__ => k_is)
    (case hi_InvalidColour___init__ => k_is)
    (case hl_InvalidColour___init__ => k_is)
    (case hc_InvalidColour___init__ => k_is)
    (case hk_InvalidColour___init__ => k_is)
    (case hf_InvalidText___init__ => k_is)
    (case hi_InvalidText___init__ => k_is)
    (case hl_InvalidText___init__ => k_is)
    (case hc_InvalidText___init__ => k_is)
    (case hk_InvalidText___init__ => k_is)
    (case xmk => k_is)
    (case xkp => k_is)
    (case hw_SIZES => k_is)
    (case hw_PLACES => k_is)
    (case hw_WORDS => k_is)

