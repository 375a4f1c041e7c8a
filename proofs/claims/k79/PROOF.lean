import PyProof.Rows.All
import Wide.All
import OpenK.AllK
import Wide.FinOn
import HandS.ForMost
import HandS.ForExc
import HandS.Wide
import HandS.WideBits
import HandS.TupAny
import HandS.TupMul
import HandS.IsInst
import HandS.Walk
import HandS.Zip
import HandS.Flow
import HandS.EndBits
import HandS.Deep
import HandS.ExcInit
import KE.SortData
import PyProof.ReprReads
import HandS.Style
import KE.GoesEnum
import KE.IntBitsLaws
import PySem.Challenge.RW_powersalike_k79_whole_polynomials_of_sum
set_option Elab.async false
set_option linter.all false
set_option autoImplicit false
set_option maxRecDepth 100000
set_option exponentiation.threshold 300
namespace RL
open PySem L2

/-! ### data -/
inductive D where
  | non | bl (b : Bool) | int (i : Int) | str (s : Str) | fn (x : Str)
  | tup (l : List D) | lst (l : List D) | fls (l : List D) | dct (ks : List Key) (vs : List D)

/-- a slot's holding, and a value's: nothing known, data, an owned list, the list handed in, a list that is lent (a loop walks it), the list of slot i -/
inductive Sl where
  | no | d (x : D) | l (xs : List D) | io (xs : List D) | b (xs : List D) | r (i : Nat)

abbrev Ro := List Sl
/-- an own exception: its class, its fields -/
inductive Ex where
  | own (x : Str) | fld (x f : Str) (v : D)

inductive Out (α : Type) where
  | ok (a : α) (e : Ro) | err (x : Ex) (e : Ro) | stuck

def Out.bind {α β : Type} (o : Out α) (k : α → Ro → Out β) : Out β :=
  match o with
  | .ok a e => k a e
  | .err x e => .err x e
  | .stuck => .stuck
@[simp] theorem Out.bind_ok {α β : Type} (a : α) (e : Ro) (k : α → Ro → Out β) : (Out.ok a e).bind k = k a e := rfl
@[simp] theorem Out.bind_err {α β : Type} (x : Ex) (e : Ro) (k : α → Ro → Out β) : (Out.err x e : Out α).bind k = .err x e := rfl
@[simp] theorem Out.bind_stuck {α β : Type} (k : α → Ro → Out β) : (Out.stuck : Out α).bind k = .stuck := rfl

section
variable (K : PySem.W.Frag) (mg : Str → Option Value)
mutual
/-- v stands for the data in the world G, which stays -/
inductive Rep (G : Hp) : D → V → Prop
  | non : Rep G .non .non
  | bl (b) : Rep G (.bl b) (.bl b)
  | int (i) : Rep G (.int i) (.int i)
  | str (s) : Rep G (.str s) (.str s)
  | fn {x a} : mg x = some (.ref a) → Rep G (.fn x) (.ref a)
  | tup {a xs ds} : SqT K G a xs → RepL G ds xs → Rep G (.tup ds) (.ref a)
  | lst {a xs ds} : G a = some (.lst xs) → RepL G ds xs → Rep G (.lst ds) (.ref a)
  | fls {a xs ds} : SqL K G a xs → RepL G ds xs → Rep G (.fls ds) (.ref a)
  | dct {a ks vs ds} : G a = some (.dK (List.zip ks vs)) → ks.length = vs.length → RepL G ds vs → Rep G (.dct ks ds) (.ref a)
inductive RepL (G : Hp) : List D → List V → Prop
  | nil : RepL G [] []
  | cons {d v ds vs} : Rep G d v → RepL G ds vs → RepL G (d :: ds) (v :: vs)
end
end

section
variable {K : PySem.W.Frag} {mg : Str → Option Value} {G G' H H' : Hp}
theorem seqT {a : Addr} {xs : List V} (e : Same G G') (h : SqT K G a xs) : SqT K G' a xs := by
  rcases h with (h | ⟨o, h⟩) | h
  · exact .inl (.inl (e _ _ h))
  · exact .inl (.inr ⟨o, e _ _ h⟩)
  · exact .inr h
theorem rdS {a : Addr} {u : HO} (e : Same G G') (h : Rd G a u) : Rd G' a u := by
  rcases h with h | ⟨o, h⟩
  · exact .inl (e _ _ h)
  · exact .inr ⟨o, e _ _ h⟩
mutual
theorem Rep.mono (e : Same G G') : ∀ {d : D} {v : V}, Rep K mg G d v → Rep K mg G' d v
  | _, _, .non => .non
  | _, _, .bl b => .bl b
  | _, _, .int b => .int b
  | _, _, .str b => .str b
  | _, _, .fn h => .fn h
  | _, _, .tup h r => .tup (seqT e h) (RepL.mono e r)
  | _, _, .lst h r => .lst (e _ _ h) (RepL.mono e r)
  | _, _, .fls h r => .fls (e.seq h) (RepL.mono e r)
  | _, _, .dct h h1 r => .dct (e _ _ h) h1 (RepL.mono e r)
theorem RepL.mono (e : Same G G') : ∀ {d : List D} {v : List V}, RepL K mg G d v → RepL K mg G' d v
  | _, _, .nil => .nil
  | _, _, .cons h r => .cons (Rep.mono e h) (RepL.mono e r)
end
theorem RepL.length : ∀ {ds : List D} {vs : List V}, RepL K mg G ds vs → ds.length = vs.length
  | _, _, .nil => rfl
  | _, _, .cons _ r => by rw [List.length_cons, List.length_cons, RepL.length r]
theorem RepL.get : ∀ {ds : List D} {vs : List V} {i : Nat} {d : D}, RepL K mg G ds vs → ds[i]? = some d → ∃ v, vs[i]? = some v ∧ Rep K mg G d v
  | _, _, _, _, .nil, e => by simp at e
  | _, _, 0, _, .cons h _, e => by
    simp at e
    subst e
    exact ⟨_, rfl, h⟩
  | _, _, i + 1, _, .cons _ r, e => by
    obtain ⟨v, e1, e2⟩ := RepL.get (i := i) r (by simpa using e)
    exact ⟨v, by simpa using e1, e2⟩
theorem RepL.append : ∀ {ds es : List D} {vs ws : List V}, RepL K mg G ds vs → RepL K mg G es ws → RepL K mg G (ds ++ es) (vs ++ ws)
  | _, _, _, _, .nil, r => r
  | _, _, _, _, .cons h t, r => .cons h (RepL.append t r)
theorem RepL.set {d : D} {v : V} (h : Rep K mg G d v) : ∀ {ds : List D} {vs : List V} (i : Nat), RepL K mg G ds vs → RepL K mg G (ds.set i d) (vs.set i v)
  | _, _, _, .nil => .nil
  | _, _, 0, .cons _ t => .cons h t
  | _, _, i + 1, .cons q t => .cons q (RepL.set h i t)
theorem RepL.take : ∀ {ds : List D} {vs : List V} (n : Nat), RepL K mg G ds vs → RepL K mg G (ds.take n) (vs.take n)
  | _, _, 0, _ => .nil
  | _, _, _ + 1, .nil => .nil
  | _, _, n + 1, .cons r t => .cons r (RepL.take n t)
theorem RepL.drop : ∀ {ds : List D} {vs : List V} (n : Nat), RepL K mg G ds vs → RepL K mg G (ds.drop n) (vs.drop n)
  | _, _, 0, r => r
  | _, _, _ + 1, .nil => .nil
  | _, _, n + 1, .cons _ t => RepL.drop n t
theorem RepL.reverse : ∀ {ds : List D} {vs : List V}, RepL K mg G ds vs → RepL K mg G ds.reverse vs.reverse
  | _, _, .nil => .nil
  | _, _, .cons r t => by
    rw [List.reverse_cons, List.reverse_cons]
    exact (RepL.reverse t).append (.cons r .nil)
theorem RepL.ints : ∀ (ns : List Int), RepL K mg G (ns.map D.int) (ns.map V.int)
  | [] => .nil
  | n :: ns => .cons (.int n) (RepL.ints ns)

/-! ### slots -/
/-- the list at a is one's own: it is not of the world, it may be written -/
def Cell (K : PySem.W.Frag) (mg : Str → Option Value) (G H : Hp) (a : Addr) (xs : List D) : Prop := G a = none ∧ ∃ vs, H a = some (.lst vs) ∧ RepL K mg G xs vs
def SlOk (K : PySem.W.Frag) (mg : Str → Option Value) (A0 : Addr) (G H : Hp) (o : Option (Option V)) : Sl → Prop
  | .no => True
  | .d x => ∃ v, o = some (some v) ∧ Rep K mg G x v
  | .l xs => ∃ a, o = some (some (.ref a)) ∧ Cell K mg G H a xs
  | .io xs => o = some (some (.ref A0)) ∧ Cell K mg G H A0 xs
  | .b xs => ∃ a, o = some (some (.ref a)) ∧ Cell K mg G H a xs
  | .r _ => False
def Sl.own : Sl → Bool
  | .l _ => true
  | .io _ => true
  | _ => false
def Sl.hold : Sl → Bool
  | .l _ => true
  | .io _ => true
  | .b _ => true
  | _ => false
theorem Sl.hold_of {s : Sl} (h : s.own = true) : s.hold = true := by
  cases s <;> first | rfl | cases h
/-- slot i owns the list at a; holds it (owns or lends) -/
def Owns (σ : L2.St) (env : Ro) (i : Nat) (a : Addr) : Prop := σ[i]? = some (some (.ref a)) ∧ ∃ s, env[i]? = some s ∧ s.own = true
def Holds (σ : L2.St) (env : Ro) (i : Nat) (a : Addr) : Prop := σ[i]? = some (some (.ref a)) ∧ ∃ s, env[i]? = some s ∧ s.hold = true
theorem Owns.holds {σ : L2.St} {env : Ro} {i : Nat} {a : Addr} (h : Owns σ env i a) : Holds σ env i a := let ⟨h1, s, h2, h3⟩ := h; ⟨h1, s, h2, Sl.hold_of h3⟩
def Owned (σ : L2.St) (env : Ro) (a : Addr) : Prop := ∃ i, Owns σ env i a
def Held (σ : L2.St) (env : Ro) (a : Addr) : Prop := ∃ i, Holds σ env i a
theorem Owned.held {σ : L2.St} {env : Ro} {a : Addr} (h : Owned σ env a) : Held σ env a := let ⟨i, o⟩ := h; ⟨i, o.holds⟩
def Bor (σ : L2.St) (env : Ro) (i : Nat) (a : Addr) (xs : List D) : Prop := σ[i]? = some (some (.ref a)) ∧ env[i]? = some (.b xs)
structure Real (K : PySem.W.Frag) (mg : Str → Option Value) (A0 : Addr) (G H : Hp) (σ : L2.St) (env : Ro) : Prop where
  sub : Same G H
  len : env.length = σ.length
  ok : ∀ (i : Nat) (s : Sl), env[i]? = some s → SlOk K mg A0 G H σ[i]? s
  dj : ∀ (i j : Nat) (a : Addr), Holds σ env i a → Holds σ env j a → i = j
/-- what is owned, held, lent -/
structure Ow where
  own : Addr → Prop
  held : Addr → Prop
  bor : Nat → Addr → List D → Prop
abbrev ow (σ : L2.St) (env : Ro) : Ow := ⟨Owned σ env, Held σ env, Bor σ env⟩
/-- from (O, G, H) to (O', G', H') -/
structure Mov (O O' : Ow) (G H G' H' : Hp) : Prop where
  gg : Same G G'
  keep : ∀ a o, H a = some o → ¬ O.own a → H' a = some o
  new : ∀ a o, H a = some o → G a = none → ¬ O.own a → G' a = none
  own : ∀ a, O'.own a → H a = none ∨ O.own a
  held : ∀ a, O'.held a → H a = none ∨ O.held a
  bor : ∀ i a xs, O.bor i a xs → O'.bor i a xs
  live : ∀ a, H' a = none → H a = none
theorem Mov.refl (O : Ow) (G H : Hp) : Mov O O G H G H := ⟨Same.refl G, fun _ _ h _ => h, fun _ _ _ h _ => h, fun _ h => .inr h, fun _ h => .inr h, fun _ _ _ h => h, fun _ h => h⟩
theorem Mov.trans {O O1 O2 : Ow} {G H G1 H1 G2 H2 : Hp} (x : Mov O O1 G H G1 H1) (y : Mov O1 O2 G1 H1 G2 H2) : Mov O O2 G H G2 H2 where
  gg := x.gg.trans y.gg
  keep := fun a o h n => y.keep a o (x.keep a o h n) fun q => by
    rcases x.own a q with z | z
    · rw [h] at z; cases z
    · exact n z
  new := fun a o h g n => by
    have no1 : ¬ O1.own a := fun q => by
      rcases x.own a q with z | z
      · rw [h] at z; cases z
      · exact n z
    cases q : H1 a with
    | none => rw [x.live a q] at h; cases h
    | some o' => exact y.new a o' q (x.new a o h g n) no1
  own := fun a q => by
    rcases y.own a q with z | z
    · exact .inl (x.live a z)
    · exact x.own a z
  held := fun a q => by
    rcases y.held a q with z | z
    · exact .inl (x.live a z)
    · exact x.held a z
  bor := fun i a xs h => y.bor i a xs (x.bor i a xs h)
  live := fun a h => x.live a (y.live a h)
/-- what a value is -/
def RepS (K : PySem.W.Frag) (mg : Str → Option Value) (O O' : Ow) (H : Hp) (σ : L2.St) (G' H' : Hp) (v : V) : Sl → Prop
  | .no => False
  | .d x => Rep K mg G' x v
  | .l xs => ∃ a, v = .ref a ∧ Cell K mg G' H' a xs ∧ ¬ O'.held a ∧ (H a = none ∨ O.own a)
  | .io _ => False
  | .b _ => False
  | .r i => ∃ a, v = .ref a ∧ σ[i]? = some (some (.ref a))
/-- an exception's object -/
def ExIs (K : PySem.W.Frag) (mg : Str → Option Value) (G H : Hp) (cls : Value) (d : Option Addr) : Ex → Prop
  | .own x => ∃ C, mg x = some (.ref C) ∧ cls = .ref C ∧ d = none
  | .fld x f u => ∃ C dx v, mg x = some (.ref C) ∧ cls = .ref C ∧ d = some dx ∧ H dx = some (.xd [(f, v)]) ∧ Rep K mg G u v
end
end RL
namespace RL
open PySem L2

abbrev RelT (β α : Type) := Hp → Ow → Ow → L2.St → Hp → Hp → β → α → Prop
def relV (K : PySem.W.Frag) (mg : Str → Option Value) : RelT V Sl := fun H O O' σ G' H' v r => RepS K mg O O' H σ G' H' v r
def relB : RelT Bool Bool := fun _ _ _ _ _ _ b r => b = r
def relA (K : PySem.W.Frag) (mg : Str → Option Value) : RelT (List V) (List D) := fun _ _ _ _ G' _ vs ds => RepL K mg G' ds vs

/-- what is wanted of an outcome -/
def Post {β α : Type} (K : PySem.W.Frag) (mg : Str → Option Value) (Rel : RelT β α) (W : WX) (A0 : Addr) (G H : Hp) (σ : L2.St) (env : Ro) (Q : β → Hp → Prop) (o : Out α) : Prop :=
  match o with
  | .ok r env' => ∀ b G' H', Mov (ow σ env) (ow σ env') G H G' H' → Real K mg A0 G' H' σ env' → Rel H (ow σ env) (ow σ env') σ G' H' b r → Q b H'
  | .err x env' => ∀ cls d G' H', Mov (ow σ env) (ow σ env') G H G' H' → Real K mg A0 G' H' σ env' → ExIs K mg G' H' cls d x → W cls d σ H'
  | .stuck => False
/-- the reading of a denotation -/
def tG {β α : Type} (K : PySem.W.Frag) (mg : Str → Option Value) (Rel : RelT β α) (W : WX) (f : Ro → Out α) : L2.St → Hp → (β → Hp → Prop) → Prop := fun σ H Q =>
  ∃ A0 G env, Real K mg A0 G H σ env ∧ Post K mg Rel W A0 G H σ env Q (f env)
abbrev tD (K : PySem.W.Frag) (mg : Str → Option Value) (W : WX) (f : Ro → Out Sl) : TE := tG K mg (relV K mg) W f
abbrev tB' (K : PySem.W.Frag) (mg : Str → Option Value) (W : WX) (f : Ro → Out Bool) : TT := tG K mg relB W f
abbrev tA' (K : PySem.W.Frag) (mg : Str → Option Value) (W : WX) (f : Ro → Out (List D)) : TA := tG K mg (relA K mg) W f
abbrev DE (X : Cx) (W : WX) (e : Expr) (f : Ro → Out Sl) : Prop := PE X e (tD X.K X.mg W f)
abbrev DT (X : Cx) (W : WX) (e : Expr) (f : Ro → Out Bool) : Prop := PT X e (tB' X.K X.mg W f)
abbrev DW (X : Cx) (W : WX) (e : Expr) (f : Ro → Out Bool) : Prop := PW X e (tB' X.K X.mg W f)
abbrev DA (X : Cx) (W : WX) (es : List Expr) (f : Ro → Out (List D)) : Prop := PA X es (tA' X.K X.mg W f)

theorem PE.wk {X : Cx} {e : Expr} {t u : TE} (h : PE X e t) (w : ∀ σ H Q, u σ H Q → t σ H Q) : PE X e u := ⟨fun p s σ H Q I q => h.run p s σ H Q I (w σ H Q q)⟩
theorem PT.wk {X : Cx} {e : Expr} {t u : TT} (h : PT X e t) (w : ∀ σ H Q, u σ H Q → t σ H Q) : PT X e u := ⟨fun p s σ H Q I q => h.run p s σ H Q I (w σ H Q q)⟩
theorem PW.wk {X : Cx} {e : Expr} {t u : TT} (h : PW X e t) (w : ∀ σ H Q, u σ H Q → t σ H Q) : PW X e u := ⟨fun wh p s σ H Q I q => h.run wh p s σ H Q I (w σ H Q q)⟩
theorem PA.wk {X : Cx} {e : List Expr} {t u : TA} (h : PA X e t) (w : ∀ σ H Q, u σ H Q → t σ H Q) : PA X e u := ⟨fun po p s σ H Q I q => h.run po p s σ H Q I (w σ H Q q)⟩

section
variable {K : PySem.W.Frag} {mg : Str → Option Value} {W : WX} {A0 : Addr} {G H G1 H1 : Hp} {σ : L2.St} {env env1 : Ro}

/-- a relation may look at the start no more than so -/
structure Stab {β α : Type} (Rel : RelT β α) : Prop where
  at_ : ∀ {O O1 O' : Ow} {σ : L2.St} {G H G1 H1 G' H' : Hp} {b : β} {r : α}, Mov O O1 G H G1 H1 → Rel H1 O1 O' σ G' H' b r → Rel H O O' σ G' H' b r
theorem stabV : Stab (relV K mg) := by
  refine ⟨?_⟩
  intro O O1 O' σ G H G1 H1 G' H' b r m h
  cases r with
  | no => exact h
  | d x => exact h
  | io xs => exact h
  | b xs => exact h
  | r i => exact h
  | l xs =>
    obtain ⟨a, e, c, n, y⟩ := h
    refine ⟨a, e, c, n, ?_⟩
    rcases y with y | y
    · exact .inl (m.live a y)
    · exact m.own a y
theorem stabB : Stab relB := ⟨fun _ h => h⟩
theorem stabA : Stab (relA K mg) := ⟨fun _ h => h⟩

theorem Post.trans {β α : Type} {Rel : RelT β α} (sR : Stab Rel) {Q : β → Hp → Prop} {o : Out α} (h : Post K mg Rel W A0 G H σ env Q o) (m : Mov (ow σ env) (ow σ env1) G H G1 H1) : Post K mg Rel W A0 G1 H1 σ env1 Q o := by
  cases o with
  | ok r e => exact fun b G' H' m' re rl => h b G' H' (m.trans m') re (sR.at_ m rl)
  | err x e => exact fun cls d G' H' m' re ex => h cls d G' H' (m.trans m') re ex
  | stuck => exact h
theorem Post.mono {β α : Type} {Rel : RelT β α} {Q Q' : β → Hp → Prop} {o : Out α} (h : Post K mg Rel W A0 G H σ env Q o) (q : ∀ b H, Q b H → Q' b H) : Post K mg Rel W A0 G H σ env Q' o := by
  cases o with
  | ok r e => exact fun b G' H' m' re rl => q _ _ (h b G' H' m' re rl)
  | err x e => exact h
  | stuck => exact h
/-- one after the other -/
theorem Post.bind {β α β2 α2 : Type} {Rel : RelT β α} {Rel2 : RelT β2 α2} (sR : Stab Rel2) {Q : β2 → Hp → Prop} {o : Out α} {k : α → Ro → Out α2} (h : Post K mg Rel2 W A0 G H σ env Q (o.bind k)) :
    Post K mg Rel W A0 G H σ env (fun b H1 => ∃ r env1 G1, Mov (ow σ env) (ow σ env1) G H G1 H1 ∧ Real K mg A0 G1 H1 σ env1 ∧ Rel H (ow σ env) (ow σ env1) σ G1 H1 b r ∧ Post K mg Rel2 W A0 G1 H1 σ env1 Q (k r env1)) o := by
  cases o with
  | ok r e => exact fun b G' H' m' re rl => ⟨r, e, G', m', re, rl, Post.trans sR h m'⟩
  | err x e => exact h
  | stuck => exact h
theorem tG.of {β α : Type} {Rel : RelT β α} {Q : β → Hp → Prop} {f : Ro → Out α} (re : Real K mg A0 G H σ env) (h : Post K mg Rel W A0 G H σ env Q (f env)) : tG K mg Rel W f σ H Q := ⟨A0, G, env, re, h⟩

/-- the end of a value -/
theorem Post.val {Q : VK} {d : D} {v : V} (h : Post K mg (relV K mg) W A0 G H σ env Q (.ok (.d d) env)) (re : Real K mg A0 G H σ env) (r : Rep K mg G d v) : Q v H := h v G H (Mov.refl _ _ _) re r
theorem Post.bool {Q : Bool → Hp → Prop} {b : Bool} (h : Post K mg relB W A0 G H σ env Q (.ok b env)) (re : Real K mg A0 G H σ env) : Q b H := h b G H (Mov.refl _ _ _) re rfl

/-- a held list is there -/
theorem Real.cell (re : Real K mg A0 G H σ env) {i : Nat} {a : Addr} (o : Holds σ env i a) : ∃ xs, (env[i]? = some (.l xs) ∨ (env[i]? = some (.io xs) ∧ a = A0) ∨ env[i]? = some (.b xs)) ∧ Cell K mg G H a xs := by
  obtain ⟨h1, s, h2, h3⟩ := o
  have h := re.ok i s h2
  cases s with
  | l xs =>
    obtain ⟨b, e, c⟩ := h
    rw [h1] at e
    cases e
    exact ⟨xs, .inl h2, c⟩
  | io xs =>
    obtain ⟨e, c⟩ := h
    rw [h1] at e
    cases e
    exact ⟨xs, .inr (.inl ⟨h2, rfl⟩), c⟩
  | b xs =>
    obtain ⟨b, e, c⟩ := h
    rw [h1] at e
    cases e
    exact ⟨xs, .inr (.inr h2), c⟩
  | no => cases h3
  | d x => cases h3
  | r j => cases h3
theorem Real.there (re : Real K mg A0 G H σ env) {a : Addr} (o : Held σ env a) : G a = none ∧ ∃ u, H a = some u := by
  obtain ⟨i, o⟩ := o
  obtain ⟨xs, _, g, vs, h, _⟩ := re.cell o
  exact ⟨g, _, h⟩
/-- the world grows by new objects -/
theorem Cell.mono {a : Addr} {xs : List D} (c : Cell K mg G H a xs) (gg : Same G G1) (g : G1 a = none) (h : ∀ o, H a = some o → H1 a = some o) : Cell K mg G1 H1 a xs := by
  obtain ⟨_, vs, e, r⟩ := c
  exact ⟨g, vs, h _ e, r.mono gg⟩
theorem SlOk.mono {o : Option (Option V)} {s : Sl} (h : SlOk K mg A0 G H o s) (gg : Same G G1) (hc : ∀ a, o = some (some (.ref a)) → s.hold = true → G1 a = none ∧ ∀ u, H a = some u → H1 a = some u) : SlOk K mg A0 G1 H1 o s := by
  cases s with
  | no => trivial
  | d x =>
    obtain ⟨v, e, r⟩ := h
    exact ⟨v, e, r.mono gg⟩
  | l xs =>
    obtain ⟨a, e, c⟩ := h
    have z := hc a e rfl
    exact ⟨a, e, c.mono gg z.1 z.2⟩
  | io xs =>
    obtain ⟨e, c⟩ := h
    have z := hc A0 e rfl
    exact ⟨e, c.mono gg z.1 z.2⟩
  | b xs =>
    obtain ⟨a, e, c⟩ := h
    have z := hc a e rfl
    exact ⟨a, e, c.mono gg z.1 z.2⟩
  | r i => exact h
/-- nothing of one's own changes -/
theorem Real.keep (re : Real K mg A0 G H σ env) (gg : Same G G1) (sub : Same G1 H1) (hc : ∀ a, Held σ env a → G1 a = none ∧ ∀ u, H a = some u → H1 a = some u) : Real K mg A0 G1 H1 σ env where
  sub := sub
  len := re.len
  ok := fun i s e => (re.ok i s e).mono gg fun a h1 h2 => hc a ⟨i, h1, s, e, h2⟩
  dj := re.dj
theorem same_upd {p : Addr} {o : HO} (h : H p = none) : Same H (upd H p o) := fun b x e => by
  rw [upd_ne (ne_of_none e h)]
  exact e
/-- a new object of the world -/
theorem Real.new (re : Real K mg A0 G H σ env) {p : Addr} {o : HO} (h : H p = none) : Real K mg A0 (upd G p o) (upd H p o) σ env := by
  have gp : G p = none := by
    cases q : G p with
    | none => rfl
    | some u => rw [re.sub p u q] at h; cases h
  refine re.keep (same_upd gp) (fun b u e => ?_) fun a oa => ?_
  · by_cases hb : b = p
    · subst hb
      rw [upd_same] at e ⊢
      exact e
    · rw [upd_ne hb] at e ⊢
      exact re.sub b u e
  · obtain ⟨g, u, e⟩ := re.there oa
    have ne : a ≠ p := ne_of_none e h
    exact ⟨by rw [upd_ne ne]; exact g, fun u' e' => by rw [upd_ne ne]; exact e'⟩
theorem Mov.newW (re : Real K mg A0 G H σ env) {p : Addr} {o : HO} (h : H p = none) : Mov (ow σ env) (ow σ env) G H (upd G p o) (upd H p o) := by
  have gp : G p = none := by
    cases q : G p with
    | none => rfl
    | some u => rw [re.sub p u q] at h; cases h
  refine ⟨same_upd gp, fun a u e _ => same_upd h a u e, fun a u e g _ => ?_, fun a o => .inr o, fun a o => .inr o, fun _ _ _ h => h, fun a e => ?_⟩
  · rw [upd_ne (ne_of_none e h)]
    exact g
  · by_cases ha : a = p
    · subst ha
      exact h
    · rw [upd_ne ha] at e
      exact e
/-- a new object that is nobody's yet -/
theorem Real.newH (re : Real K mg A0 G H σ env) {p : Addr} {o : HO} (h : H p = none) : Real K mg A0 G (upd H p o) σ env := by
  refine re.keep (Same.refl G) (fun b u e => ?_) fun a oa => ?_
  · rw [upd_ne (ne_of_none (re.sub b u e) h)]
    exact re.sub b u e
  · obtain ⟨g, u, e⟩ := re.there oa
    have ne : a ≠ p := ne_of_none e h
    exact ⟨g, fun u' e' => by rw [upd_ne ne]; exact e'⟩
theorem Mov.newH {p : Addr} {o : HO} (h : H p = none) : Mov (ow σ env) (ow σ env) G H G (upd H p o) := by
  refine ⟨Same.refl G, fun a u e _ => same_upd h a u e, fun a u e g _ => g, fun a o => .inr o, fun a o => .inr o, fun _ _ _ h => h, fun a e => ?_⟩
  by_cases ha : a = p
  · subst ha
    exact h
  · rw [upd_ne ha] at e
    exact e
theorem Real.gnone (re : Real K mg A0 G H σ env) {p : Addr} (h : H p = none) : G p = none := by
  cases q : G p with
  | none => rfl
  | some u => rw [re.sub p u q] at h; cases h
theorem Real.notHeld (re : Real K mg A0 G H σ env) {p : Addr} (h : H p = none) : ¬ Held σ env p := fun o => by
  obtain ⟨_, u, e⟩ := re.there o
  rw [h] at e
  cases e
/-- a new tuple -/
theorem Post.tup {Q : VK} {ds : List D} {vs : List V} {p : Addr} (h : Post K mg (relV K mg) W A0 G H σ env Q (.ok (.d (.tup ds)) env)) (re : Real K mg A0 G H σ env) (r : RepL K mg G ds vs) (hp : H p = none) : Q (.ref p) (upd H p (.tup vs)) :=
  h _ (upd G p (.tup vs)) _ (Mov.newW re hp) (re.new hp) (.tup (.inl (.inl upd_same)) (r.mono (same_upd (re.gnone hp))))
/-- a new list -/
theorem Post.lst {Q : VK} {ds : List D} {vs : List V} {p : Addr} (h : Post K mg (relV K mg) W A0 G H σ env Q (.ok (.l ds) env)) (re : Real K mg A0 G H σ env) (r : RepL K mg G ds vs) (hp : H p = none) : Q (.ref p) (upd H p (.lst vs)) :=
  h _ G _ (Mov.newH hp) (re.newH hp) ⟨p, rfl, ⟨re.gnone hp, vs, upd_same, r⟩, re.notHeld hp, .inl hp⟩
end
end RL
namespace RL
open PySem L2

/-! ### views -/
mutual
def D.py : D → Option PyData
  | .non => some .none
  | .bl b => some (.bool b)
  | .int i => some (.int i)
  | .str s => some (.str s)
  | .tup l => (D.pyL l).map .tuple
  | .lst l => (D.pyL l).map .list
  | .fls l => (D.pyL l).map .list
  | .fn _ => none
  | .dct _ _ => none
def D.pyL : List D → Option (List PyData)
  | [] => some []
  | d :: ds => match D.py d, D.pyL ds with
    | some p, some ps => some (p :: ps)
    | _, _ => none
end
/-- the data that a value shows at this moment -/
def vw (env : Ro) : Sl → Option D
  | .d x => some x
  | .l xs => some (.lst xs)
  | .r i => match env[i]? with
    | some (.l xs) => some (.lst xs)
    | some (.io xs) => some (.lst xs)
    | some (.b xs) => some (.lst xs)
    | _ => none
  | _ => none
/-- a list's items -/
def contL (env : Ro) (r : Sl) : Option (List D) :=
  match vw env r with
  | some (.lst xs) => some xs
  | some (.fls xs) => some xs
  | _ => none
/-- .. of a list that one may hand to list + list -/
def contH (env : Ro) (r : Sl) : Option (List D) :=
  match vw env r with
  | some (.lst xs) => some xs
  | _ => none
def contT : Sl → Option (List D)
  | .d (.tup xs) => some xs
  | _ => none

section
variable {K : PySem.W.Frag} {mg : Str → Option Value} {W : WX} {A0 : Addr} {G H G1 H1 : Hp} {σ : L2.St} {env env1 : Ro}
/-- what a value is now -/
def RepN (K : PySem.W.Frag) (mg : Str → Option Value) (σ : L2.St) (env : Ro) (G H : Hp) (v : V) : Sl → Prop
  | .no => False
  | .d x => Rep K mg G x v
  | .l xs => ∃ a, v = .ref a ∧ Cell K mg G H a xs ∧ ¬ Held σ env a
  | .io _ => False
  | .b _ => False
  | .r i => ∃ a, v = .ref a ∧ σ[i]? = some (some (.ref a))
theorem RepN.of {H0 : Hp} {O : Ow} {v : V} {r : Sl} (h : relV K mg H0 O (ow σ env) σ G H v r) : RepN K mg σ env G H v r := by
  cases r with
  | no => exact h
  | d x => exact h
  | io xs => exact h
  | b xs => exact h
  | r i => exact h
  | l xs =>
    obtain ⟨a, e, c, n, y⟩ := h
    exact ⟨a, e, c, n⟩
theorem RepN.mov {v : V} {r : Sl} (h : RepN K mg σ env G H v r) (m : Mov (ow σ env) (ow σ env1) G H G1 H1) : RepN K mg σ env1 G1 H1 v r := by
  cases r with
  | no => exact h
  | d x => exact Rep.mono m.gg h
  | io xs => exact h
  | b xs => exact h
  | r i => exact h
  | l xs =>
    obtain ⟨a, e, ⟨g, vs, hv, rp⟩, n⟩ := h
    have no : ¬ Owned σ env a := fun o => n o.held
    refine ⟨a, e, ⟨m.new a _ hv g no, vs, m.keep a _ hv no, rp.mono m.gg⟩, fun o => ?_⟩
    rcases m.held a o with z | z
    · rw [hv] at z; cases z
    · exact n z
theorem vw_ok (re : Real K mg A0 G H σ env) {v : V} {r : Sl} {d : D} (h : RepN K mg σ env G H v r) (e : vw env r = some d) : Rep K mg H d v := by
  cases r with
  | no => exact h.elim
  | d x =>
    cases e
    exact Rep.mono re.sub h
  | io xs => exact h.elim
  | b xs => exact h.elim
  | l xs =>
    cases e
    obtain ⟨a, rfl, ⟨_, vs, hv, rp⟩, _⟩ := h
    exact .lst hv (rp.mono re.sub)
  | r i =>
    obtain ⟨a, rfl, hs⟩ := h
    have key : ∀ (s : Sl) (xs : List D), env[i]? = some s → s.hold = true → (s = .l xs ∨ s = .io xs ∨ s = .b xs) → Rep K mg H (.lst xs) (.ref a) := fun s xs h1 h2 h3 => by
      obtain ⟨ys, q, _, vs, hv, rp⟩ := re.cell ⟨hs, s, h1, h2⟩
      have ey : ys = xs := by
        rw [h1] at q
        rcases h3 with h3 | h3 | h3 <;> subst h3 <;> rcases q with q | q | q <;> first
          | (cases q; rfl)
          | (obtain ⟨q1, _⟩ := q; cases q1; rfl)
          | (obtain ⟨q1, _⟩ := q; cases q1; done)
          | (cases q; done)
      subst ey
      exact .lst hv (rp.mono re.sub)
    unfold vw at e
    cases q : env[i]? with
    | none => simp [q] at e
    | some s =>
      cases s with
      | l xs =>
        simp [q] at e
        subst e
        exact key _ xs q rfl (.inl rfl)
      | io xs =>
        simp [q] at e
        subst e
        exact key _ xs q rfl (.inr (.inl rfl))
      | b xs =>
        simp [q] at e
        subst e
        exact key _ xs q rfl (.inr (.inr rfl))
      | no => simp [q] at e
      | d x => simp [q] at e
      | r j => simp [q] at e
/-- a list's items, of the world -/
theorem cont_ok (re : Real K mg A0 G H σ env) {v : V} {r : Sl} {ds : List D} (h : RepN K mg σ env G H v r) (e : contL env r = some ds) : ∃ a xs, v = .ref a ∧ SqL K H a xs ∧ RepL K mg G ds xs := by
  unfold contL at e
  cases r with
  | no => exact h.elim
  | io xs => exact h.elim
  | b xs => exact h.elim
  | d x =>
    simp only [vw] at e
    cases x with
    | lst l =>
      cases e
      cases h with
      | lst h1 h2 => exact ⟨_, _, rfl, .inl (.inl (re.sub _ _ h1)), h2⟩
    | fls l =>
      cases e
      cases h with
      | fls h1 h2 => exact ⟨_, _, rfl, re.sub.seq h1, h2⟩
    | _ => cases e
  | l xs =>
    cases e
    obtain ⟨a, rfl, ⟨_, vs, hv, rp⟩, _⟩ := h
    exact ⟨a, vs, rfl, .inl (.inl hv), rp⟩
  | r i =>
    obtain ⟨a, rfl, hs⟩ := h
    unfold vw at e
    cases q : env[i]? with
    | none => simp [q] at e
    | some s =>
      have fin : s.hold = true → (∃ xs, (s = .l xs ∨ s = .io xs ∨ s = .b xs) ∧ xs = ds) → ∃ a' xs, V.ref a = .ref a' ∧ SqL K H a' xs ∧ RepL K mg G ds xs := fun h2 ⟨xs, h3, h4⟩ => by
        obtain ⟨ys, q', _, vs, hv, rp⟩ := re.cell ⟨hs, s, q, h2⟩
        have ey : ys = xs := by
          rw [q] at q'
          rcases h3 with h3 | h3 | h3 <;> subst h3 <;> rcases q' with q' | q' | q' <;> first
            | (cases q'; rfl)
            | (obtain ⟨q1, _⟩ := q'; cases q1; rfl)
            | (obtain ⟨q1, _⟩ := q'; cases q1; done)
            | (cases q'; done)
        subst ey h4
        exact ⟨a, vs, rfl, .inl (.inl hv), rp⟩
      cases s with
      | l xs => simp [q] at e; exact fin rfl ⟨xs, .inl rfl, e⟩
      | io xs => simp [q] at e; exact fin rfl ⟨xs, .inr (.inl rfl), e⟩
      | b xs => simp [q] at e; exact fin rfl ⟨xs, .inr (.inr rfl), e⟩
      | no => simp [q] at e
      | d x => simp [q] at e
      | r j => simp [q] at e
theorem contH_ok (re : Real K mg A0 G H σ env) {v : V} {r : Sl} {ds : List D} (h : RepN K mg σ env G H v r) (e : contH env r = some ds) : ∃ a xs, v = .ref a ∧ H a = some (.lst xs) ∧ RepL K mg G ds xs := by
  unfold contH at e
  cases r with
  | no => exact h.elim
  | io xs => exact h.elim
  | b xs => exact h.elim
  | d x =>
    simp only [vw] at e
    cases x with
    | lst l =>
      cases e
      cases h with
      | lst h1 h2 => exact ⟨_, _, rfl, re.sub _ _ h1, h2⟩
    | _ => cases e
  | l xs =>
    cases e
    obtain ⟨a, rfl, ⟨_, vs, hv, rp⟩, _⟩ := h
    exact ⟨a, vs, rfl, hv, rp⟩
  | r i =>
    obtain ⟨a, rfl, hs⟩ := h
    unfold vw at e
    cases q : env[i]? with
    | none => simp [q] at e
    | some s =>
      have fin : s.hold = true → (∃ xs, (s = .l xs ∨ s = .io xs ∨ s = .b xs) ∧ xs = ds) → ∃ a' xs, V.ref a = .ref a' ∧ H a' = some (.lst xs) ∧ RepL K mg G ds xs := fun h2 ⟨xs, h3, h4⟩ => by
        obtain ⟨ys, q', _, vs, hv, rp⟩ := re.cell ⟨hs, s, q, h2⟩
        have ey : ys = xs := by
          rw [q] at q'
          rcases h3 with h3 | h3 | h3 <;> subst h3 <;> rcases q' with q' | q' | q' <;> first
            | (cases q'; rfl)
            | (obtain ⟨q1, _⟩ := q'; cases q1; rfl)
            | (obtain ⟨q1, _⟩ := q'; cases q1; done)
            | (cases q'; done)
        subst ey h4
        exact ⟨a, vs, rfl, hv, rp⟩
      cases s with
      | l xs => simp [q] at e; exact fin rfl ⟨xs, .inl rfl, e⟩
      | io xs => simp [q] at e; exact fin rfl ⟨xs, .inr (.inl rfl), e⟩
      | b xs => simp [q] at e; exact fin rfl ⟨xs, .inr (.inr rfl), e⟩
      | no => simp [q] at e
      | d x => simp [q] at e
      | r j => simp [q] at e
theorem contT_ok (re : Real K mg A0 G H σ env) {v : V} {r : Sl} {ds : List D} (h : RepN K mg σ env G H v r) (e : contT r = some ds) : ∃ a xs, v = .ref a ∧ SqT K H a xs ∧ RepL K mg G ds xs := by
  cases r with
  | d x =>
    cases x with
    | tup l =>
      cases e
      cases h with
      | tup h1 h2 => exact ⟨_, _, rfl, seqT re.sub h1, h2⟩
    | _ => cases e
  | _ => cases e
mutual
theorem Rep.dp : ∀ {d : D} {v : V} {p : PyData}, Rep K mg H d v → d.py = some p → Dp K H v p
  | _, _, _, .non, e => by
    simp only [D.py, Option.some.injEq] at e
    subst e
    exact .non
  | _, _, _, .bl b, e => by
    simp only [D.py, Option.some.injEq] at e
    subst e
    exact .bl b
  | _, _, _, .int b, e => by
    simp only [D.py, Option.some.injEq] at e
    subst e
    exact .int b
  | _, _, _, .str b, e => by
    simp only [D.py, Option.some.injEq] at e
    subst e
    exact .str b
  | _, _, _, .fn h, e => by simp [D.py] at e
  | _, _, _, .tup (ds := ds) h r, e => by
    simp only [D.py] at e
    cases q : D.pyL ds with
    | none => rw [q] at e; cases e
    | some ps =>
      rw [q] at e
      cases e
      exact .tup h (RepL.dp r q)
  | _, _, _, .lst (ds := ds) h r, e => by
    simp only [D.py] at e
    cases q : D.pyL ds with
    | none => rw [q] at e; cases e
    | some ps =>
      rw [q] at e
      cases e
      exact .lst (.inl (.inl h)) (RepL.dp r q)
  | _, _, _, .fls (ds := ds) h r, e => by
    simp only [D.py] at e
    cases q : D.pyL ds with
    | none => rw [q] at e; cases e
    | some ps =>
      rw [q] at e
      cases e
      exact .lst h (RepL.dp r q)
  | _, _, _, .dct h h1 r, e => by simp [D.py] at e
theorem RepL.dp : ∀ {d : List D} {v : List V} {p : List PyData}, RepL K mg H d v → D.pyL d = some p → DpAll K H v p
  | _, _, _, .nil, e => by
    simp only [D.pyL, Option.some.injEq] at e
    subst e
    exact .nil
  | _, _, _, .cons (d := d) (ds := ds) h r, e => by
    simp only [D.pyL] at e
    cases q : d.py with
    | none => rw [q] at e; cases e
    | some p =>
      cases q2 : D.pyL ds with
      | none => rw [q, q2] at e; cases e
      | some ps =>
        rw [q, q2] at e
        cases e
        exact .cons (Rep.dp h q) (RepL.dp r q2)
end
end
end RL
namespace RL
open PySem L2

abbrev SZ : Nat := 1000000
theorem SZ_le {n : Nat} (h : n ≤ SZ) : n ≤ sizeLine := Nat.le_trans h (by decide)
theorem SZ_lt {n : Nat} (h : n ≤ SZ) : n < sizeLine := Nat.lt_of_le_of_lt h (by decide)

/-! ### denotations of expressions -/
abbrev DenE := Ro → Out Sl
abbrev DenT := Ro → Out Bool
abbrev DenA := Ro → Out (List Sl)
def eV (i : Nat) : DenE := fun env => match env[i]? with
  | some (.d x) => .ok (.d x) env
  | some (.l _) => .ok (.r i) env
  | some (.io _) => .ok (.r i) env
  | some (.b _) => .ok (.r i) env
  | _ => .stuck
def eMv (i : Nat) : DenE := fun env => match env[i]? with
  | some (.d x) => .ok (.d x) env
  | some (.l xs) => .ok (.l xs) (env.set i .no)
  | _ => .stuck
def eC (d : D) : DenE := fun env => .ok (.d d) env
def eOp (g : Sl → Sl → Ro → Out Sl) (a b : DenE) : DenE := fun env => (a env).bind fun x e1 => (b e1).bind fun y e2 => g x y e2
def eUn (g : Sl → Ro → Out Sl) (a : DenE) : DenE := fun env => (a env).bind g
/-- from now on it is of the world -/
def fz : Sl → Ro → Out Sl
  | .d x, e => .ok (.d x) e
  | .l xs, e => .ok (.d (.lst xs)) e
  | _, _ => .stuck
def eFz (a : DenE) : DenE := fun env => (a env).bind fz
def aNil : DenA := fun env => .ok [] env
def aCons (a : DenE) (as : DenA) : DenA := fun env => (a env).bind fun r e1 => (as e1).bind fun rs e2 => .ok (r :: rs) e2
def eAp (g : List Sl → Ro → Out Sl) (as : DenA) : DenE := fun env => (as env).bind g
/-- all of them data -/
def allD : List Sl → Option (List D)
  | [] => some []
  | .d x :: rs => (allD rs).map (x :: ·)
  | _ :: _ => none
def gTup (rs : List Sl) (e : Ro) : Out Sl := match allD rs with
  | some ds => if ds.length ≤ SZ then .ok (.d (.tup ds)) e else .stuck
  | none => .stuck
def gLst (rs : List Sl) (e : Ro) : Out Sl := match allD rs with
  | some ds => if ds.length ≤ SZ then .ok (.l ds) e else .stuck
  | none => .stuck
abbrev eTup (as : DenA) : DenE := eAp gTup as
abbrev eLst (as : DenA) : DenE := eAp gLst as
/-- truth -/
def tru (env : Ro) (r : Sl) : Option Bool := match vw env r with
  | some .non => some false
  | some (.bl b) => some b
  | some (.int i) => some (i != 0)
  | some (.str y) => if y.length ≤ SZ then some ((y.length : Int) != 0) else none
  | some (.lst xs) => some (!xs.isEmpty)
  | some (.fls xs) => some (!xs.isEmpty)
  | some (.tup xs) => some (!xs.isEmpty)
  | _ => none
def tTru (a : DenE) : DenT := fun env => (a env).bind fun r e => match tru e r with
  | some b => .ok b e
  | none => .stuck
/-- a bool -/
def tVal (a : DenE) : DenT := fun env => (a env).bind fun r e => match r with
  | .d (.bl b) => .ok b e
  | _ => .stuck
def tAnd' (a b : DenT) : DenT := fun env => (a env).bind fun c e => if c then b e else .ok false e
def tOr' (a b : DenT) : DenT := fun env => (a env).bind fun c e => if c then .ok true e else b e
def tNot' (a : DenT) : DenT := fun env => (a env).bind fun c e => .ok (!c) e
def eIf (c : DenT) (a b : DenE) : DenE := fun env => (c env).bind fun k e => if k then a e else b e
def eAnd (a b : DenE) : DenE := fun env => (a env).bind fun r e => match tru e r with
  | some true => b e
  | some false => (match r with
    | .d x => .ok (.d x) e
    | _ => .stuck)
  | none => .stuck
def eOr (a b : DenE) : DenE := fun env => (a env).bind fun r e => match tru e r with
  | some true => (match r with
    | .d x => .ok (.d x) e
    | _ => .stuck)
  | some false => b e
  | none => .stuck
def eNot (a : DenE) : DenE := fun env => (a env).bind fun r e => match tru e r with
  | some b => .ok (.d (.bl (!b))) e
  | none => .stuck
/-- a op b op' c -/
def eChain (g g' : Sl → Sl → Ro → Out Sl) (a b c : DenE) : DenE := fun env => (a env).bind fun x e1 => (b e1).bind fun y e2 => (g x y e2).bind fun z e3 => match z with
  | .d (.bl true) => (c e3).bind fun w e4 => g' y w e4
  | .d (.bl false) => .ok (.d (.bl false)) e3
  | _ => .stuck

/-! ### operations -/
def gI (c : Int → Int → Bool) (f : Int → Int → Int) : Sl → Sl → Ro → Out Sl
  | .d (.int i), .d (.int j), e => if c i j then .ok (.d (.int (f i j))) e else .stuck
  | _, _, _ => .stuck
def gB (f : Int → Int → Bool) : Sl → Sl → Ro → Out Sl
  | .d (.int i), .d (.int j), e => .ok (.d (.bl (f i j))) e
  | _, _, _ => .stuck
def gCat : Sl → Sl → Ro → Out Sl := fun a b e => match contH e a, contH e b with
  | some xs, some ys => if xs.length + ys.length ≤ SZ then .ok (.l (xs ++ ys)) e else .stuck
  | _, _ => .stuck
def gAdd : Sl → Sl → Ro → Out Sl
  | .d (.int i), .d (.int j), e => .ok (.d (.int (i + j))) e
  | .d (.str i), .d (.str j), e => if i.length + j.length ≤ SZ then .ok (.d (.str (i ++ j))) e else .stuck
  | .d (.tup xs), .d (.tup ys), e => if xs.length + ys.length ≤ SZ then .ok (.d (.tup (xs ++ ys))) e else .stuck
  | a, b, e => gCat a b e
def gMinus := gI (fun _ _ => true) (fun i j => i - j)
def mulOk (i j : Int) : Bool := decide (i.natAbs.log2 + j.natAbs.log2 < 134000000)
def gMulI := gI mulOk (fun i j => i * j)
def divOk (_ j : Int) : Bool := decide (0 < j) && decide (j.natAbs.log2 < 9000)
def gDiv := gI divOk (fun i j => i / j)
def gMod := gI (fun _ j => decide (0 < j)) (fun i j => i % j)
def gRep : Sl → Sl → Ro → Out Sl := fun a b e => match contH e a, b with
  | some xs, .d (.int k) => if -(2 ^ 62) ≤ k ∧ k < 2 ^ 62 ∧ xs.length * k.toNat ≤ SZ then .ok (.l (List.replicate k.toNat xs).flatten) e else .stuck
  | _, _ => .stuck
def gMul : Sl → Sl → Ro → Out Sl
  | .d (.int i), .d (.int j), e => if mulOk i j then .ok (.d (.int (i * j))) e else .stuck
  | a, b, e => gRep a b e
def powOk (i j : Int) : Bool := decide (0 ≤ j) && decide (j ≤ 1000000) && decide (i.natAbs < 2 ^ 64)
def gPow := gI powOk (fun i j => i ^ j.toNat)
def gEqD (f : Bool → Bool) : Sl → Sl → Ro → Out Sl := fun a b e => match vw e a, vw e b with
  | some x, some y => match x.py, y.py with
    | some p, some q => if SeqAt.shaped p && SeqAt.shaped q then .ok (.d (.bl (f (PyData.eqv p q)))) e else .stuck
    | _, _ => .stuck
  | _, _ => .stuck
def gEq := gEqD id
def gNe := gEqD not
def gLt := gB fun i j => decide (i < j)
def gLe := gB fun i j => decide (i ≤ j)
def gGt := gB fun i j => decide (j < i)
def gGe := gB fun i j => decide (j ≤ i)
def gIsN (f : Bool → Bool) : Sl → Sl → Ro → Out Sl
  | .d .non, .d .non, e => .ok (.d (.bl (f true))) e
  | .d _, .d .non, e => .ok (.d (.bl (f false))) e
  | _, _, _ => .stuck
def gIsB (f : Bool → Bool) : Sl → Sl → Ro → Out Sl
  | .d (.bl a), .d (.bl b), e => .ok (.d (.bl (f (decide (a = b))))) e
  | _, _, _ => .stuck
def gNeg : Sl → Ro → Out Sl
  | .d (.int i), e => .ok (.d (.int (-i))) e
  | _, _ => .stuck
/-- x[i] -/
def gIx : Sl → Sl → Ro → Out Sl
  | .d (.tup xs), .d (.int i), e => match atI xs i with
    | some x => .ok (.d x) e
    | none => .stuck
  | .d (.str z), .d (.int i), e => if z.length ≤ SZ then (match atI z.cps.toList i with
    | some c => .ok (.d (.str ⟨#[c]⟩)) e
    | none => .stuck) else .stuck
  | a, .d (.int i), e => match contL e a with
    | some xs => match atI xs i with
      | some x => .ok (.d x) e
      | none => .stuck
    | none => .stuck
  | _, _, _ => .stuck
def atList (xs : List D) (i : Int) (e : Ro) : Out Sl := match atI xs i with
  | some x => .ok (.d x) e
  | none => .stuck

section
variable {K : PySem.W.Frag} {mg : Str → Option Value} {W : WX} {A0 : Addr} {G H G1 H1 : Hp} {σ : L2.St} {env env1 : Ro}
def OpS (K : PySem.W.Frag) (mg : Str → Option Value) (r : R2) (g : Sl → Sl → Ro → Out Sl) : Prop :=
  ∀ (W : WX) (A0 : Addr) (G H : Hp) (σ : L2.St) (env : Ro) (x y : V) (rx ry : Sl) (Q : VK), Real K mg A0 G H σ env → RepN K mg σ env G H x rx → RepN K mg σ env G H y ry → Post K mg (relV K mg) W A0 G H σ env Q (g rx ry env) → r x y H Q
def UnS (K : PySem.W.Frag) (mg : Str → Option Value) (r : V → Hp → VK → Prop) (g : Sl → Ro → Out Sl) : Prop :=
  ∀ (W : WX) (A0 : Addr) (G H : Hp) (σ : L2.St) (env : Ro) (x : V) (rx : Sl) (Q : VK), Real K mg A0 G H σ env → RepN K mg σ env G H x rx → Post K mg (relV K mg) W A0 G H σ env Q (g rx env) → r x H Q
theorem tG.mono {β α : Type} {Rel : RelT β α} {Q Q' : β → Hp → Prop} {f : Ro → Out α} (h : tG K mg Rel W f σ H Q) (q : ∀ b H, Q b H → Q' b H) : tG K mg Rel W f σ H Q' := by
  obtain ⟨A0, G, env, re, po⟩ := h
  exact ⟨A0, G, env, re, po.mono q⟩
theorem Post.two {β α : Type} {Rel : RelT β α} (sR : Stab Rel) {Q : β → Hp → Prop} {fb : DenE} {k : Sl → Ro → Out α} (re : Real K mg A0 G H σ env) (h : Post K mg Rel W A0 G H σ env Q ((fb env).bind k)) :
    tD K mg W fb σ H (fun y H2 => ∃ ry env2 G2, Mov (ow σ env) (ow σ env2) G H G2 H2 ∧ Real K mg A0 G2 H2 σ env2 ∧ RepN K mg σ env2 G2 H2 y ry ∧ Post K mg Rel W A0 G2 H2 σ env2 Q (k ry env2)) :=
  ⟨A0, G, env, re, (Post.bind (Rel := relV K mg) sR h).mono fun y H2 ⟨ry, env2, G2, m, re2, rl2, po2⟩ => ⟨ry, env2, G2, m, re2, RepN.of rl2, po2⟩⟩
theorem Post.twoB {β α : Type} {Rel : RelT β α} (sR : Stab Rel) {Q : β → Hp → Prop} {fb : DenT} {k : Bool → Ro → Out α} (re : Real K mg A0 G H σ env) (h : Post K mg Rel W A0 G H σ env Q ((fb env).bind k)) :
    tB' K mg W fb σ H (fun y H2 => ∃ env2 G2, Mov (ow σ env) (ow σ env2) G H G2 H2 ∧ Real K mg A0 G2 H2 σ env2 ∧ Post K mg Rel W A0 G2 H2 σ env2 Q (k y env2)) :=
  ⟨A0, G, env, re, (Post.bind (Rel := relB) sR h).mono fun y H2 ⟨ry, env2, G2, m, re2, rl2, po2⟩ => by
    have rl2 : y = ry := rl2
    subst rl2
    exact ⟨env2, G2, m, re2, po2⟩⟩

/-! #### rules -/
variable {X : Cx} {e a b : Expr} {fa fb fc : DenE} {pos : Pos}
theorem de_v {i : Nat} {x : Str} (h : PE X (.Name x pos) (tVar i)) : DE X W (.Name x pos) (eV i) := PE.wk h fun σ H Q ⟨A0, G, env, re, po⟩ => by
  unfold eV at po
  cases q : env[i]? with
  | none => rw [q] at po; exact po.elim
  | some s =>
    rw [q] at po
    have ok := re.ok i s q
    cases s with
    | no => exact po.elim
    | r j => exact po.elim
    | d x =>
      obtain ⟨v, e1, r⟩ := ok
      exact ⟨v, e1, po.val re r⟩
    | l xs =>
      obtain ⟨a, e1, c⟩ := ok
      exact ⟨_, e1, po _ G H (Mov.refl _ _ _) re ⟨a, rfl, e1⟩⟩
    | io xs =>
      obtain ⟨e1, c⟩ := ok
      exact ⟨_, e1, po _ G H (Mov.refl _ _ _) re ⟨A0, rfl, e1⟩⟩
    | b xs =>
      obtain ⟨a, e1, c⟩ := ok
      exact ⟨_, e1, po _ G H (Mov.refl _ _ _) re ⟨a, rfl, e1⟩⟩
theorem get_set_cases {α : Type} {l : List α} {i j : Nat} {x s : α} (h : (l.set i x)[j]? = some s) : (i = j ∧ x = s ∧ i < l.length) ∨ (i ≠ j ∧ l[j]? = some s) := by
  by_cases e : i = j
  · subst e
    by_cases hl : i < l.length
    · rw [List.getElem?_set_self hl] at h
      exact .inl ⟨rfl, Option.some.inj h, hl⟩
    · rw [List.getElem?_eq_none (by rw [List.length_set]; omega)] at h
      cases h
  · rw [List.getElem?_set_ne e] at h
    exact .inr ⟨e, h⟩
theorem Holds.drop {i j : Nat} {a : Addr} (h : Holds σ (env.set i .no) j a) : Holds σ env j a ∧ i ≠ j := by
  obtain ⟨h1, s, h2, h3⟩ := h
  rcases get_set_cases h2 with ⟨rfl, rfl, _⟩ | ⟨ne, e⟩
  · cases h3
  · exact ⟨⟨h1, s, e, h3⟩, ne⟩
theorem Owned.drop {i : Nat} {a : Addr} (h : Owned σ (env.set i .no) a) : Owned σ env a := by
  obtain ⟨j, h1, s, h2, h3⟩ := h
  rcases get_set_cases h2 with ⟨rfl, rfl, _⟩ | ⟨ne, e⟩
  · cases h3
  · exact ⟨j, h1, s, e, h3⟩
theorem Real.drop (re : Real K mg A0 G H σ env) (i : Nat) : Real K mg A0 G H σ (env.set i .no) where
  sub := re.sub
  len := by rw [List.length_set]; exact re.len
  ok := fun j s e => by
    rcases get_set_cases e with ⟨rfl, rfl, _⟩ | ⟨ne, e⟩
    · trivial
    · exact re.ok j s e
  dj := fun j k a h1 h2 => re.dj j k a h1.drop.1 h2.drop.1
theorem de_mv {i : Nat} {x : Str} (h : PE X (.Name x pos) (tVar i)) : DE X W (.Name x pos) (eMv i) := PE.wk h fun σ H Q ⟨A0, G, env, re, po⟩ => by
  unfold eMv at po
  cases q : env[i]? with
  | none => rw [q] at po; exact po.elim
  | some s =>
    rw [q] at po
    have ok := re.ok i s q
    cases s with
    | no => exact po.elim
    | r j => exact po.elim
    | io xs => exact po.elim
    | b xs => exact po.elim
    | d x =>
      obtain ⟨v, e1, r⟩ := ok
      exact ⟨v, e1, po.val re r⟩
    | l xs =>
      obtain ⟨a, e1, c⟩ := ok
      have oh : Owns σ env i a := ⟨e1, _, q, rfl⟩
      refine ⟨_, e1, po _ G H ⟨Same.refl G, fun _ _ h _ => h, fun _ _ _ h _ => h, fun _ h => .inr h.drop, fun _ ⟨j, h⟩ => .inr ⟨j, h.drop.1⟩, fun j b ys ⟨h1, h2⟩ => ⟨h1, ?_⟩, fun _ h => h⟩ (re.drop i) ⟨a, rfl, c, fun ⟨j, o⟩ => ?_, .inr ⟨i, oh⟩⟩⟩
      · have ne : i ≠ j := fun z => by subst z; rw [q] at h2; cases h2
        rw [List.getElem?_set_ne ne]
        exact h2
      · exact o.drop.2 (re.dj i j a oh.holds o.drop.1)
theorem de_c {v : V} {d : D} (h : PE X e (tC v)) (r : ∀ G, Rep X.K X.mg G d v) : DE X W e (eC d) := PE.wk h fun σ H Q ⟨A0, G, env, re, po⟩ => Post.val po re (r G)
theorem de_int {i : Int} {j : Nat} : DE X W (.Constant (.int i) j pos) (eC (.int i)) := de_c pe_int fun _ => .int i
theorem de_bl {i : Bool} {j : Nat} : DE X W (.Constant (.bool i) j pos) (eC (.bl i)) := de_c pe_bl fun _ => .bl i
theorem de_non {j : Nat} : DE X W (.Constant .none j pos) (eC .non) := de_c pe_non fun _ => .non
theorem de_str {i : Str} {j : Nat} : DE X W (.Constant (.str i) j pos) (eC (.str i)) := de_c pe_str fun _ => .str i
theorem tOp_of {r : R2} {g : Sl → Sl → Ro → Out Sl} (hg : OpS K mg r g) {Q : VK} (h : tD K mg W (eOp g fa fb) σ H Q) : tOp r (tD K mg W fa) (tD K mg W fb) σ H Q := by
  obtain ⟨A0, G, env, re, po⟩ := h
  refine tG.mono (Post.two stabV re po) fun x H1 ⟨rx, env1, G1, m1, re1, rp1, po1⟩ => ?_
  refine tG.mono (Post.two stabV re1 po1) fun y H2 ⟨ry, env2, G2, m2, re2, rp2, po2⟩ => ?_
  exact hg W A0 G2 H2 σ env2 x y rx ry Q re2 (rp1.mov m2) rp2 po2
theorem de_op {op : Operator} {r : R2} {g : Sl → Sl → Ro → Out Sl} (ho : OpR X (binaryOp op) r) (hg : OpS X.K X.mg r g) (ha : DE X W a fa) (hb : DE X W b fb) : DE X W (.BinOp a op b pos) (eOp g fa fb) :=
  PE.wk (pe_op ho ha hb) fun _ _ _ h => tOp_of hg h
theorem de_cmp {op : CmpOp} {r : R2} {g : Sl → Sl → Ro → Out Sl} (ho : OpR X (compareOp op) r) (hg : OpS X.K X.mg r g) (hm : behindInMarks op b = false) (ha : DE X W a fa) (hb : DE X W b fb) : DE X W (.Compare a [op] [b] pos) (eOp g fa fb) :=
  PE.wk (pe_cmpR ho ha hb hm) fun _ _ _ h => tOp_of hg h
theorem de_ix {r : R2} {g : Sl → Sl → Ro → Out Sl} (ho : IxR X r) (hg : OpS X.K X.mg r g) (hs : PlainIx b) (ha : DE X W a fa) (hb : DE X W b fb) : DE X W (.Subscript a b pos) (eOp g fa fb) :=
  PE.wk (pe_ix ho ha hb hs) fun _ _ _ h => tOp_of hg h
theorem de_un {op : UnaryOp} {r : V → Hp → VK → Prop} {g : Sl → Ro → Out Sl} (ho : UnR X (unaryOp op) r) (hg : UnS X.K X.mg r g) (ha : DE X W a fa) : DE X W (.UnaryOp op a pos) (eUn g fa) :=
  PE.wk (pe_un ho ha) fun σ H Q ⟨A0, G, env, re, po⟩ => tG.mono (Post.two stabV re po) fun x H1 ⟨rx, env1, G1, m1, re1, rp1, po1⟩ => hg W A0 G1 H1 σ env1 x rx Q re1 rp1 po1
theorem Real.uncell (re : Real K mg A0 G H σ env) {a : Addr} {vs : List V} (hv : H a = some (.lst vs)) (g : G a = none) (no : ¬ Held σ env a) : Real K mg A0 (upd G a (.lst vs)) H σ env := by
  refine re.keep (same_upd g) (fun b u e => ?_) fun b ob => ?_
  · by_cases hb : b = a
    · subst hb
      rw [upd_same] at e
      rw [← e]
      exact hv
    · rw [upd_ne hb] at e
      exact re.sub b u e
  · have ne : b ≠ a := fun z => no (z ▸ ob)
    exact ⟨by rw [upd_ne ne]; exact (re.there ob).1, fun u h => h⟩
/-- a fresh list given to the world -/
theorem Post.fz {Q : VK} {o : Out Sl} (h : Post K mg (relV K mg) W A0 G H σ env Q (o.bind fz)) : Post K mg (relV K mg) W A0 G H σ env Q o := by
  cases o with
  | stuck => exact h
  | err x e => exact h
  | ok r e =>
    cases r with
    | no => exact h.elim
    | r i => exact h.elim
    | io xs => exact h.elim
    | b xs => exact h.elim
    | d x => exact h
    | l xs =>
      intro v G' H' m re rl
      obtain ⟨a, rfl, ⟨g, vs, hv, rp⟩, no, yo⟩ := rl
      refine h (.ref a) (upd G' a (.lst vs)) H' ⟨m.gg.trans (same_upd g), m.keep, fun b u hb gb nb => ?_, m.own, m.held, m.bor, m.live⟩ (re.uncell hv g no) (show Rep K mg _ (.lst xs) (.ref a) from .lst upd_same (rp.mono (same_upd g)))
      have ne : b ≠ a := fun z => by
        subst z
        rcases yo with y | y
        · rw [hb] at y; cases y
        · exact nb y
      rw [upd_ne ne]
      exact m.new b u hb gb nb
theorem de_fz (ha : DE X W e fa) : DE X W e (eFz fa) := PE.wk ha fun σ H Q ⟨A0, G, env, re, po⟩ => ⟨A0, G, env, re, Post.fz po⟩

/-! #### arguments -/
/-- a list of values, as it stands -/
def RepNs (K : PySem.W.Frag) (mg : Str → Option Value) (σ : L2.St) (env : Ro) (G H : Hp) : List V → List Sl → Prop
  | [], [] => True
  | v :: vs, r :: rs => RepN K mg σ env G H v r ∧ RepNs K mg σ env G H vs rs
  | _, _ => False
def RepSs (K : PySem.W.Frag) (mg : Str → Option Value) (O O' : Ow) (H : Hp) (σ : L2.St) (G' H' : Hp) : List V → List Sl → Prop
  | [], [] => True
  | v :: vs, r :: rs => RepS K mg O O' H σ G' H' v r ∧ RepSs K mg O O' H σ G' H' vs rs
  | _, _ => False
def relN (K : PySem.W.Frag) (mg : Str → Option Value) : RelT (List V) (List Sl) := fun H O O' σ G' H' vs rs => RepSs K mg O O' H σ G' H' vs rs
theorem RepSs.start {O O1 O' : Ow} {G H G1 H1 G' H' : Hp} (m : Mov O O1 G H G1 H1) : ∀ {vs : List V} {rs : List Sl}, RepSs K mg O1 O' H1 σ G' H' vs rs → RepSs K mg O O' H σ G' H' vs rs
  | [], [], _ => trivial
  | _ :: _, _ :: _, ⟨h1, h2⟩ => ⟨stabV.at_ m h1, RepSs.start m h2⟩
  | [], _ :: _, h => h.elim
  | _ :: _, [], h => h.elim
theorem stabN : Stab (relN K mg) := ⟨fun m h => RepSs.start m h⟩
theorem RepSs.now {O : Ow} {H0 : Hp} : ∀ {vs : List V} {rs : List Sl}, RepSs K mg O (ow σ env) H0 σ G H vs rs → RepNs K mg σ env G H vs rs
  | [], [], _ => trivial
  | _ :: _, _ :: _, ⟨h1, h2⟩ => ⟨RepN.of h1, RepSs.now h2⟩
  | [], _ :: _, h => h.elim
  | _ :: _, [], h => h.elim
theorem RepS.mov {O O1 O2 : Ow} {H0 G1 H1 G2 H2 : Hp} {v : V} {r : Sl} (h : RepS K mg O O1 H0 σ G1 H1 v r) (m : Mov O1 O2 G1 H1 G2 H2) (ho : ∀ a, O1.own a → O1.held a) : RepS K mg O O2 H0 σ G2 H2 v r := by
  cases r with
  | no => exact h
  | d x => exact Rep.mono m.gg h
  | io xs => exact h
  | b xs => exact h
  | r i => exact h
  | l xs =>
    obtain ⟨a, e, ⟨g, vs, hv, rp⟩, n, y⟩ := h
    have no : ¬ O1.own a := fun o => n (ho a o)
    refine ⟨a, e, ⟨m.new a _ hv g no, vs, m.keep a _ hv no, rp.mono m.gg⟩, fun o => ?_, y⟩
    rcases m.held a o with z | z
    · rw [hv] at z; cases z
    · exact n z
abbrev tN (K : PySem.W.Frag) (mg : Str → Option Value) (W : WX) (f : DenA) : TA := tG K mg (relN K mg) W f
abbrev DN (X : Cx) (W : WX) (es : List Expr) (f : DenA) : Prop := PA X es (tN X.K X.mg W f)
theorem dn_nil : DN X W [] aNil := PA.wk pa_nil fun σ H Q ⟨A0, G, env, re, po⟩ => po [] G H (Mov.refl _ _ _) re trivial
theorem dn_cons {es : List Expr} {fs : DenA} (ha : DE X W e fa) (hr : DN X W es fs) (hs : starEach (e :: es) X.env = (false, eval e X.env) :: starEach es X.env := by rfl) : DN X W (e :: es) (aCons fa fs) :=
  PA.wk (pa_cons ha hr hs) fun σ H Q ⟨A0, G, env, re, po⟩ => by
    refine ⟨A0, G, env, re, ?_⟩
    unfold aCons at po
    cases q : fa env with
    | stuck => rw [q] at po; exact po
    | err x e => rw [q] at po; exact po
    | ok r e1 =>
      rw [q] at po
      intro x G1 H1 m1 re1 rl1
      refine ⟨A0, G1, e1, re1, ?_⟩
      rw [Out.bind_ok] at po
      cases q2 : fs e1 with
      | stuck => rw [q2] at po; exact po
      | err x e => rw [q2] at po; exact fun cls d G' H' m' re' ex => po cls d G' H' (m1.trans m') re' ex
      | ok rs e2 =>
        rw [q2] at po
        exact fun vs G2 H2 m2 re2 rl2 => po (x :: vs) G2 H2 (m1.trans m2) re2 ⟨RepS.mov rl1 m2 fun _ h => Owned.held h, RepSs.start m1 rl2⟩
theorem Post.args {β α : Type} {Rel : RelT β α} (sR : Stab Rel) {Q : β → Hp → Prop} {fs : DenA} {k : List Sl → Ro → Out α} (re : Real K mg A0 G H σ env) (h : Post K mg Rel W A0 G H σ env Q ((fs env).bind k)) :
    tN K mg W fs σ H (fun vs H2 => ∃ rs env2 G2, Real K mg A0 G2 H2 σ env2 ∧ RepNs K mg σ env2 G2 H2 vs rs ∧ Post K mg Rel W A0 G2 H2 σ env2 Q (k rs env2)) :=
  ⟨A0, G, env, re, (Post.bind (Rel := relN K mg) sR h).mono fun vs H2 ⟨rs, env2, G2, m, re2, rl2, po2⟩ => ⟨rs, env2, G2, re2, rl2.now, po2⟩⟩
theorem allD_ok : ∀ {vs : List V} {rs : List Sl} {ds : List D}, RepNs K mg σ env G H vs rs → allD rs = some ds → RepL K mg G ds vs
  | [], [], ds, _, e => by
    simp only [allD] at e
    cases e
    exact .nil
  | v :: vs, r :: rs, ds, ⟨h1, h2⟩, e => by
    cases r with
    | d x =>
      simp only [allD] at e
      cases q : allD rs with
      | none => rw [q] at e; cases e
      | some es =>
        rw [q] at e
        cases e
        exact .cons h1 (allD_ok h2 q)
    | _ => simp [allD] at e
  | [], _ :: _, _, h, _ => h.elim
  | _ :: _, [], _, h, _ => h.elim
theorem de_tup {es : List Expr} {fs : DenA} {x1} (h : DN X W es fs) : DE X W (.Tuple es x1 pos) (eTup fs) := PE.wk (pe_tup h) fun σ H Q ⟨A0, G, env, re, po⟩ => by
  refine tG.mono (Post.args stabV re po) fun vs H1 ⟨rs, env1, G1, re1, rp1, po1⟩ => ?_
  unfold gTup at po1
  cases q : allD rs with
  | none => rw [q] at po1; exact po1.elim
  | some ds =>
    rw [q] at po1
    have rl := allD_ok rp1 q
    simp only at po1
    split at po1
    · rename_i hz
      exact ⟨SZ_le (by rw [← rl.length]; exact hz), fun p hp => po1.tup re1 rl hp⟩
    · exact po1.elim
theorem de_lst {es : List Expr} {fs : DenA} (h : DN X W es fs) : DE X W (.List es pos) (eLst fs) := PE.wk (pe_lst h) fun σ H Q ⟨A0, G, env, re, po⟩ => by
  refine tG.mono (Post.args stabV re po) fun vs H1 ⟨rs, env1, G1, re1, rp1, po1⟩ => ?_
  unfold gLst at po1
  cases q : allD rs with
  | none => rw [q] at po1; exact po1.elim
  | some ds =>
    rw [q] at po1
    have rl := allD_ok rp1 q
    simp only at po1
    split at po1
    · rename_i hz
      exact ⟨SZ_le (by rw [← rl.length]; exact hz), fun p hp => po1.lst re1 rl hp⟩
    · exact po1.elim
end
end RL
namespace RL
open PySem L2
section
variable {K : PySem.W.Frag} {mg : Str → Option Value} {W : WX} {A0 : Addr} {G H G1 H1 : Hp} {σ : L2.St} {env env1 : Ro} {X : Cx}

theorem rep_int {i : Int} {x : V} (h : Rep K mg G (.int i) x) : x = .int i := by cases h; rfl
theorem rep_bl {i : Bool} {x : V} (h : Rep K mg G (.bl i) x) : x = .bl i := by cases h; rfl
theorem rep_str {i : Str} {x : V} (h : Rep K mg G (.str i) x) : x = .str i := by cases h; rfl
theorem rep_non {x : V} (h : Rep K mg G .non x) : x = .non := by cases h; rfl

theorem os_I {C : Int → Int → Prop} {f : Int → Int → Int} {c : Int → Int → Bool} (hC : ∀ i j, c i j = true → C i j) : OpS K mg (rI C fun i j => .int (f i j)) (gI c f) := by
  intro W A0 G H σ env x y rx ry Q re hx hy po
  unfold gI at po
  split at po
  · cases rep_int hx
    cases rep_int hy
    split at po
    · rename_i hc
      exact ⟨_, _, rfl, rfl, hC _ _ hc, po.val re (.int _)⟩
    · exact po.elim
  · exact po.elim
theorem os_I0 {f : Int → Int → Int} {c : Int → Int → Bool} : OpS K mg (rI0 fun i j => .int (f i j)) (gI c f) := by
  intro W A0 G H σ env x y rx ry Q re hx hy po
  unfold gI at po
  split at po
  · cases rep_int hx
    cases rep_int hy
    split at po
    · exact ⟨_, _, rfl, rfl, po.val re (.int _)⟩
    · exact po.elim
  · exact po.elim
theorem os_B {f : Int → Int → Bool} : OpS K mg (rI0 fun i j => .bl (f i j)) (gB f) := by
  intro W A0 G H σ env x y rx ry Q re hx hy po
  unfold gB at po
  split at po
  · cases rep_int hx
    cases rep_int hy
    exact ⟨_, _, rfl, rfl, po.val re (.bl _)⟩
  · exact po.elim
theorem os_sub : OpS K mg (rI0 fun i j => .int (i - j)) gMinus := os_I0
theorem os_div : OpS K mg (rI CDivW fun i j => .int (i / j)) gDiv := os_I fun i j h => by
  unfold divOk at h
  simp only [Bool.and_eq_true, decide_eq_true_eq] at h
  exact h
theorem os_mod : OpS K mg (rI (fun _ j => 0 < j) fun i j => .int (i % j)) gMod := os_I fun i j h => of_decide_eq_true h
theorem os_pow : OpS K mg (rI CPow fun i j => .int (i ^ j.toNat)) gPow := os_I fun i j h => by
  unfold powOk at h
  simp only [Bool.and_eq_true, decide_eq_true_eq] at h
  exact ⟨h.1.1, h.1.2, h.2⟩
theorem os_lt : OpS K mg (rI0 fun i j => .bl (decide (i < j))) gLt := os_B
theorem os_le : OpS K mg (rI0 fun i j => .bl (decide (i ≤ j))) gLe := os_B
theorem os_gt : OpS K mg (rI0 fun i j => .bl (decide (j < i))) gGt := os_B
theorem os_ge : OpS K mg (rI0 fun i j => .bl (decide (j ≤ i))) gGe := os_B
theorem os_cat : OpS K mg rCat gCat := by
  intro W A0 G H σ env x y rx ry Q re hx hy po
  unfold gCat at po
  split at po
  · rename_i xs ys h1 h2
    obtain ⟨a, vs, rfl, e1, r1⟩ := contH_ok re hx h1
    obtain ⟨b, ws, rfl, e2, r2⟩ := contH_ok re hy h2
    split at po
    · rename_i hz
      refine ⟨a, b, vs, ws, rfl, rfl, e1, e2, SZ_le (by rw [← r1.length, ← r2.length]; exact hz), fun p hp => po.lst re (r1.append r2) hp⟩
    · exact po.elim
  · exact po.elim
theorem os_add : OpS K mg (fun x y H Q => (rI0 (fun i j => .int (i + j))) x y H Q ∨ ((fun x y H Q => ∃ i j, x = V.str i ∧ y = V.str j ∧ i.length + j.length ≤ sizeLine ∧ Q (V.str (i ++ j)) H) x y H Q ∨ (rCatA K x y H Q ∨ rCat x y H Q))) gAdd := by
  intro W A0 G H σ env x y rx ry Q re hx hy po
  unfold gAdd at po
  split at po
  · cases rep_int hx
    cases rep_int hy
    exact .inl ⟨_, _, rfl, rfl, po.val re (.int _)⟩
  · cases rep_str hx
    cases rep_str hy
    split at po
    · rename_i hz
      exact .inr (.inl ⟨_, _, rfl, rfl, SZ_le hz, po.val re (.str _)⟩)
    · exact po.elim
  · rename_i xs ys
    split at po
    · rename_i hz
      obtain ⟨a, vs, rfl, s1, r1⟩ := contT_ok (ds := xs) re hx rfl
      obtain ⟨b, ws, rfl, s2, r2⟩ := contT_ok (ds := ys) re hy rfl
      have z1 := r1.length
      have z2 := r2.length
      refine .inr (.inr (.inl ⟨a, b, vs, ws, rfl, rfl, s1, s2, SZ_le (by rw [← z1, ← z2]; exact hz), fun e => ?_, fun e1 e2 => ?_, fun e1 e2 p hp => po.tup re (r1.append r2) hp⟩))
      · subst e
        have ex : xs = [] := List.eq_nil_of_length_eq_zero z1
        subst ex
        exact po.val re hy
      · subst e2
        have ex : ys = [] := List.eq_nil_of_length_eq_zero z2
        subst ex
        rw [List.append_nil] at po
        exact po.val re hx
    · exact po.elim
  · exact .inr (.inr (.inr (os_cat W A0 G H σ env x y _ _ Q re hx hy po)))
theorem op_addAll {X : Cx} : OpR X (binaryOp .Add) (fun x y H Q => (rI0 (fun i j => .int (i + j))) x y H Q ∨ ((fun x y H Q => ∃ i j, x = V.str i ∧ y = V.str j ∧ i.length + j.length ≤ sizeLine ∧ Q (V.str (i ++ j)) H) x y H Q ∨ (rCatA X.K x y H Q ∨ rCat x y H Q))) :=
  op_add.or (op_add_str.or (op_catA.or op_cat))
theorem os_rep : OpS K mg rRep gRep := by
  intro W A0 G H σ env x y rx ry Q re hx hy po
  unfold gRep at po
  split at po
  · rename_i xs k h1
    obtain ⟨a, vs, rfl, e1, r1⟩ := contH_ok re hx h1
    cases rep_int hy
    split at po
    · rename_i hz
      have flat : ∀ m : Nat, RepL K mg G (List.replicate m xs).flatten (List.replicate m vs).flatten := fun m => by
        induction m with
        | zero => exact .nil
        | succ m ih =>
          rw [List.replicate_succ, List.replicate_succ, List.flatten_cons, List.flatten_cons]
          exact r1.append ih
      exact ⟨a, k, vs, rfl, rfl, e1, by omega, by omega, SZ_le (by rw [← r1.length]; exact hz.2.2), fun p hp => po.lst re (flat _) hp⟩
    · exact po.elim
  · exact po.elim
theorem mulOk_ok {i j : Int} (h : mulOk i j = true) : CMulX i j := by
  unfold mulOk at h
  have h := of_decide_eq_true h
  exact mulx_ok (a := i.natAbs.log2 + 1) (b := j.natAbs.log2 + 1) Nat.lt_log2_self Nat.lt_log2_self (by omega)
theorem os_mul : OpS K mg (fun x y H Q => (rI CMulX fun i j => .int (i * j)) x y H Q ∨ rRep x y H Q) gMul := by
  intro W A0 G H σ env x y rx ry Q re hx hy po
  unfold gMul at po
  split at po
  · cases rep_int hx
    cases rep_int hy
    split at po
    · rename_i hc
      exact .inl ⟨_, _, rfl, rfl, mulOk_ok hc, po.val re (.int _)⟩
    · exact po.elim
  · exact .inr (os_rep W A0 G H σ env x y _ _ Q re hx hy po)
theorem op_mulAll {X : Cx} : OpR X (binaryOp .Mult) (fun x y H Q => (rI CMulX fun i j => .int (i * j)) x y H Q ∨ rRep x y H Q) := op_mulX.or op_rep
theorem os_eq : OpS K mg (rEqD K) gEq := by
  intro W A0 G H σ env x y rx ry Q re hx hy po
  unfold gEq gEqD at po
  split at po
  · rename_i a b h1 h2
    split at po
    · rename_i p q e1 e2
      split at po
      · rename_i hs
        rw [Bool.and_eq_true] at hs
        exact ⟨p, q, (vw_ok re hx h1).dp e1, (vw_ok re hy h2).dp e2, hs.1, hs.2, po.val re (.bl _)⟩
      · exact po.elim
    · exact po.elim
  · exact po.elim
theorem os_ne : OpS K mg (rNeD K) gNe := by
  intro W A0 G H σ env x y rx ry Q re hx hy po
  unfold gNe gEqD at po
  split at po
  · rename_i a b h1 h2
    split at po
    · rename_i p q e1 e2
      split at po
      · rename_i hs
        rw [Bool.and_eq_true] at hs
        exact ⟨p, q, (vw_ok re hx h1).dp e1, (vw_ok re hy h2).dp e2, hs.1, hs.2, po.val re (.bl _)⟩
      · exact po.elim
    · exact po.elim
  · exact po.elim
theorem rep_ne_non {d : D} {x : V} (h : Rep K mg G d x) (n : d ≠ .non) : x ≠ .non := by
  cases h with
  | non => exact absurd rfl n
  | _ => intro z; cases z
theorem os_isN : OpS K mg (fun x y H Q => y = .non ∧ Q (.bl (decide (x = .non))) H) (gIsN id) := by
  intro W A0 G H σ env x y rx ry Q re hx hy po
  unfold gIsN at po
  split at po
  · cases rep_non hx
    cases rep_non hy
    exact ⟨rfl, po.val re (.bl _)⟩
  · rename_i d hd
    cases rep_non hy
    refine ⟨rfl, ?_⟩
    rw [decide_eq_false (rep_ne_non (show Rep K mg G d x from hx) fun z => by subst z; exact hd rfl)]
    exact po.val re (.bl _)
  · exact po.elim
theorem os_notN : OpS K mg (fun x y H Q => y = .non ∧ Q (.bl (!decide (x = .non))) H) (gIsN not) := by
  intro W A0 G H σ env x y rx ry Q re hx hy po
  unfold gIsN at po
  split at po
  · cases rep_non hx
    cases rep_non hy
    exact ⟨rfl, po.val re (.bl _)⟩
  · rename_i d hd
    cases rep_non hy
    refine ⟨rfl, ?_⟩
    rw [decide_eq_false (rep_ne_non (show Rep K mg G d x from hx) fun z => by subst z; exact hd rfl)]
    exact po.val re (.bl _)
  · exact po.elim
theorem us_neg : UnS K mg (rU fun i => .int (-i)) gNeg := by
  intro W A0 G H σ env x rx Q re hx po
  unfold gNeg at po
  split at po
  · cases rep_int hx
    exact ⟨_, rfl, po.val re (.int _)⟩
  · exact po.elim
theorem atI_rep {ds : List D} {vs : List V} {i : Int} {d : D} (r : RepL K mg G ds vs) (h : atI ds i = some d) : ∃ v, atI vs i = some v ∧ Rep K mg G d v := by
  unfold atI at h ⊢
  rw [← r.length]
  cases q : ixN ds.length i with
  | none => rw [q] at h; cases h
  | some j =>
    rw [q] at h
    exact r.get h
theorem os_ix : OpS K mg (rIx K) gIx := by
  intro W A0 G H σ env x y rx ry Q re hx hy po
  unfold gIx at po
  split at po
  · rename_i xs i
    cases rep_int hy
    obtain ⟨a, vs, rfl, s1, r1⟩ := contT_ok (ds := xs) re hx rfl
    split at po
    · rename_i d hd
      obtain ⟨v, e, r⟩ := atI_rep r1 hd
      exact .inr (.inl ⟨a, vs, i, v, rfl, rfl, s1, e, po.val re r⟩)
    · exact po.elim
  · cases rep_int hy
    cases rep_str hx
    split at po
    · rename_i hz
      split at po
      · rename_i c hc
        exact .inr (.inr ⟨_, _, c, rfl, rfl, SZ_le hz, hc, po.val re (.str _)⟩)
      · exact po.elim
    · exact po.elim
  · rename_i i _ _
    cases rep_int hy
    split at po
    · rename_i xs hc
      obtain ⟨a, vs, rfl, s1, r1⟩ := cont_ok re hx hc
      split at po
      · rename_i d hd
        obtain ⟨v, e, r⟩ := atI_rep r1 hd
        exact .inl ⟨a, vs, i, v, rfl, rfl, s1, e, po.val re r⟩
      · exact po.elim
    · exact po.elim
  · exact po.elim

/-! ### tests -/
theorem tru_of (re : Real K mg A0 G H σ env) {v : V} {r : Sl} {b : Bool} (h : RepN K mg σ env G H v r) (e : tru env r = some b) : TruV K v H b := by
  unfold tru at e
  split at e
  all_goals first
    | (cases e; done)
    | skip
  · rename_i h1
    cases e
    cases rep_non (vw_ok re h h1)
    rfl
  · rename_i h1
    cases e
    cases rep_bl (vw_ok re h h1)
    rfl
  · rename_i h1
    cases e
    cases rep_int (vw_ok re h h1)
    rfl
  · rename_i y h1
    cases rep_str (vw_ok re h h1)
    split at e
    · rename_i hz
      cases e
      exact ⟨SZ_le hz, rfl⟩
    · cases e
  · rename_i xs h1
    cases e
    cases vw_ok re h h1 with
    | lst h2 h3 =>
      refine .inl ⟨_, .inl (.inl h2), ?_⟩
      cases h3 <;> rfl
  · rename_i xs h1
    cases e
    cases vw_ok re h h1 with
    | fls h2 h3 =>
      refine .inl ⟨_, h2, ?_⟩
      cases h3 <;> rfl
  · rename_i xs h1
    cases e
    cases vw_ok re h h1 with
    | tup h2 h3 =>
      refine .inr (.inl ⟨_, h2, ?_⟩)
      cases h3 <;> rfl
variable {e a b c : Expr} {fa fb fc : DenE} {ta tb : DenT} {pos : Pos} {rest : List Expr}
theorem dt_tru (ha : DE X W e fa) (he : ∀ whole, isTrue e X.env whole = (do let v ← whole; standAt e.pos; holding [v] (truthy v)) := by intro _; rfl) : DT X W e (tTru fa) := PT.wk (pt_truth ha he) fun σ H Q ⟨A0, G, env, re, po⟩ => by
  refine tG.mono (Post.two stabB re po) fun x H1 ⟨rx, env1, G1, m1, re1, rp1, po1⟩ => ?_
  split at po1
  · rename_i b hb
    exact ⟨b, tru_of re1 rp1 hb, po1.bool re1⟩
  · exact po1.elim
theorem tVal_of {Q : Bool → Hp → Prop} (h : tB' K mg W (tVal fa) σ H Q) : tD K mg W fa σ H fun x H' => ∃ k, x = .bl k ∧ Q k H' := by
  obtain ⟨A0, G, env, re, po⟩ := h
  refine tG.mono (Post.two stabB re po) fun x H1 ⟨rx, env1, G1, m1, re1, rp1, po1⟩ => ?_
  split at po1
  · cases rep_bl rp1
    exact ⟨_, rfl, po1.bool re1⟩
  · exact po1.elim
/-- a comparison as a test -/
theorem dt_cmp {op : CmpOp} {r : R2} {g : Sl → Sl → Ro → Out Sl} (ho : OpR X (compareOp op) r) (hg : OpS X.K X.mg r g) (hm : behindInMarks op b = false) (ha : DE X W a fa) (hb : DE X W b fb) : DT X W (.Compare a [op] [b] pos) (tVal (eOp g fa fb)) :=
  PT.wk (pt_cmpR ho ha hb hm) fun σ H Q h => tOp_of hg (tVal_of h)
theorem Post.end1 {Q : VK} {g : Sl → Sl → Ro → Out Sl} {r : R2} (hg : OpS K mg r g) {x y : V} {rx ry : Sl} (re : Real K mg A0 G H σ env) (hx : RepN K mg σ env G H x rx) (hy : RepN K mg σ env G H y ry) {k : Sl → Ro → Out Sl}
    (po : Post K mg (relV K mg) W A0 G H σ env Q ((g rx ry env).bind k)) : r x y H (fun z H3 => ∃ rz env3 G3, Mov (ow σ env) (ow σ env3) G H G3 H3 ∧ Real K mg A0 G3 H3 σ env3 ∧ RepN K mg σ env3 G3 H3 z rz ∧ Post K mg (relV K mg) W A0 G3 H3 σ env3 Q (k rz env3)) :=
  hg W A0 G H σ env x y rx ry _ re hx hy ((Post.bind (Rel := relV K mg) stabV po).mono fun z H3 ⟨rz, env3, G3, m3, re3, rl3, po3⟩ => ⟨rz, env3, G3, m3, re3, RepN.of rl3, po3⟩)
theorem tChain_of {r r' : R2} {g g' : Sl → Sl → Ro → Out Sl} (hg : OpS K mg r g) (hg' : OpS K mg r' g') {Q : VK} (h : tD K mg W (eChain g g' fa fb fc) σ H Q) : tChain r r' (tD K mg W fa) (tD K mg W fb) (tD K mg W fc) σ H Q := by
  obtain ⟨A0, G, env, re, po⟩ := h
  refine tG.mono (Post.two stabV re po) fun x H1 ⟨rx, env1, G1, m1, re1, rp1, po1⟩ => ?_
  refine tG.mono (Post.two stabV re1 po1) fun y H2 ⟨ry, env2, G2, m2, re2, rp2, po2⟩ => ?_
  have h3 := Post.end1 hg re2 (rp1.mov m2) rp2 po2
  revert h3
  -- the outcome of the first comparison is a bool
  intro h3
  refine hg W A0 G2 H2 σ env2 x y rx ry _ re2 (rp1.mov m2) rp2 ((Post.bind (Rel := relV K mg) stabV po2).mono fun z H3 ⟨rz, env3, G3, m3, re3, rl3, po3⟩ => ?_)
  have rl3 := RepN.of rl3
  split at po3
  · cases rep_bl rl3
    refine ⟨true, rfl, ?_⟩
    rw [if_pos rfl]
    refine tG.mono (Post.two stabV re3 po3) fun w H4 ⟨rw', env4, G4, m4, re4, rp4, po4⟩ => ?_
    exact hg' W A0 G4 H4 σ env4 y w ry rw' Q re4 ((rp2.mov m3).mov m4) rp4 po4
  · cases rep_bl rl3
    refine ⟨false, rfl, ?_⟩
    rw [if_neg Bool.false_ne_true]
    exact po3.val re3 (.bl _)
  · exact po3.elim
theorem de_chain {op op' : CmpOp} {r r' : R2} {g g' : Sl → Sl → Ro → Out Sl} (ho : OpR X (compareOp op) r) (ho' : OpR X (compareOp op') r') (hg : OpS X.K X.mg r g) (hg' : OpS X.K X.mg r' g') (ha : DE X W a fa) (hb : DE X W b fb) (hc : DE X W c fc)
    (hm : lastMarks [op, op'] [b, c] = false := by with_unfolding_all rfl) : DE X W (.Compare a [op, op'] [b, c] pos) (eChain g g' fa fb fc) := PE.wk (pe_chain ho ho' ha hb hc hm) fun _ _ _ h => tChain_of hg hg' h
theorem dt_chain {op op' : CmpOp} {r r' : R2} {g g' : Sl → Sl → Ro → Out Sl} (ho : OpR X (compareOp op) r) (ho' : OpR X (compareOp op') r') (hg : OpS X.K X.mg r g) (hg' : OpS X.K X.mg r' g') (ha : DE X W a fa) (hb : DE X W b fb) (hc : DE X W c fc)
    (hm : lastMarks [op, op'] [b, c] = false := by with_unfolding_all rfl) : DT X W (.Compare a [op, op'] [b, c] pos) (tVal (eChain g g' fa fb fc)) := PT.wk (pt_chain ho ho' ha hb hc hm) fun _ _ _ h => tChain_of hg hg' (tVal_of h)
theorem dt_not (ha : DT X W a ta) : DT X W (.UnaryOp .Not a pos) (tNot' ta) := PT.wk (pt_not ha) fun σ H Q ⟨A0, G, env, re, po⟩ =>
  tG.mono (Post.twoB stabB re po) fun x H1 ⟨env1, G1, m1, re1, po1⟩ => po1.bool re1
theorem dw_and1 (ha : DT X W a ta) : DW X W (.BoolOp .And [a] pos) ta := pw_and1 ha
theorem dw_or1 (ha : DT X W a ta) : DW X W (.BoolOp .Or [a] pos) ta := pw_or1 ha
theorem dw_and (ha : DT X W a ta) (hb : DW X W (.BoolOp .And (b :: rest) pos) tb) : DW X W (.BoolOp .And (a :: b :: rest) pos) (tAnd' ta tb) := PW.wk (pw_and ha hb) fun σ H Q ⟨A0, G, env, re, po⟩ => by
  refine tG.mono (Post.twoB stabB re po) fun x H1 ⟨env1, G1, m1, re1, po1⟩ => ?_
  cases x with
  | true => exact ⟨A0, G1, env1, re1, po1⟩
  | false => exact po1.bool re1
theorem dw_or (ha : DT X W a ta) (hb : DW X W (.BoolOp .Or (b :: rest) pos) tb) : DW X W (.BoolOp .Or (a :: b :: rest) pos) (tOr' ta tb) := PW.wk (pw_or ha hb) fun σ H Q ⟨A0, G, env, re, po⟩ => by
  refine tG.mono (Post.twoB stabB re po) fun x H1 ⟨env1, G1, m1, re1, po1⟩ => ?_
  cases x with
  | true => exact po1.bool re1
  | false => exact ⟨A0, G1, env1, re1, po1⟩
theorem dt_w (h : DW X W e ta) : DT X W e ta := PW.pt h
theorem de_if (hc : DT X W c ta) (ha : DE X W a fa) (hb : DE X W b fb) : DE X W (.IfExp c a b pos) (eIf ta fa fb) := PE.wk (pe_ifExp hc ha hb) fun σ H Q ⟨A0, G, env, re, po⟩ => by
  refine tG.mono (Post.twoB stabV re po) fun x H1 ⟨env1, G1, m1, re1, po1⟩ => ?_
  cases x with
  | true => exact ⟨A0, G1, env1, re1, po1⟩
  | false => exact ⟨A0, G1, env1, re1, po1⟩
theorem de_and1 {op} (ha : DE X W a fa) : DE X W (.BoolOp op [a] pos) fa := pe_one ha
theorem de_and (ha : DE X W a fa) (hb : DE X W (.BoolOp .And (b :: rest) pos) fb) : DE X W (.BoolOp .And (a :: b :: rest) pos) (eAnd fa fb) := PE.wk (pe_andT ha hb) fun σ H Q ⟨A0, G, env, re, po⟩ => by
  refine tG.mono (Post.two stabV re po) fun x H1 ⟨rx, env1, G1, m1, re1, rp1, po1⟩ => ?_
  split at po1
  · rename_i h
    refine ⟨true, tru_of re1 rp1 h, ?_⟩
    rw [if_pos rfl]
    exact ⟨A0, G1, env1, re1, po1⟩
  · rename_i h
    refine ⟨false, tru_of re1 rp1 h, ?_⟩
    rw [if_neg Bool.false_ne_true]
    split at po1
    · exact po1.val re1 rp1
    · exact po1.elim
  · exact po1.elim
theorem de_or (ha : DE X W a fa) (hb : DE X W (.BoolOp .Or (b :: rest) pos) fb) : DE X W (.BoolOp .Or (a :: b :: rest) pos) (eOr fa fb) := PE.wk (pe_orT ha hb) fun σ H Q ⟨A0, G, env, re, po⟩ => by
  refine tG.mono (Post.two stabV re po) fun x H1 ⟨rx, env1, G1, m1, re1, rp1, po1⟩ => ?_
  split at po1
  · rename_i h
    refine ⟨true, tru_of re1 rp1 h, ?_⟩
    rw [if_pos rfl]
    split at po1
    · exact po1.val re1 rp1
    · exact po1.elim
  · rename_i h
    refine ⟨false, tru_of re1 rp1 h, ?_⟩
    rw [if_neg Bool.false_ne_true]
    exact ⟨A0, G1, env1, re1, po1⟩
  · exact po1.elim
theorem de_not (ha : DE X W a fa) : DE X W (.UnaryOp .Not a pos) (eNot fa) := PE.wk (pe_notT ha) fun σ H Q ⟨A0, G, env, re, po⟩ => by
  refine tG.mono (Post.two stabV re po) fun x H1 ⟨rx, env1, G1, m1, re1, rp1, po1⟩ => ?_
  split at po1
  · rename_i b h
    exact ⟨b, tru_of re1 rp1 h, po1.val re1 (.bl _)⟩
  · exact po1.elim
end
end RL
namespace RL
open PySem L2

/-! ### statements -/
inductive FO where
  | next (e : Ro) | ret (r : Sl) (e : Ro) | brk (e : Ro) | cont (e : Ro) | err (x : Ex) (e : Ro) | stuck
abbrev DenS := Ro → FO
/-- from an expression to a statement -/
def Out.toS {α : Type} (o : Out α) (k : α → Ro → FO) : FO :=
  match o with
  | .ok a e => k a e
  | .err x e => .err x e
  | .stuck => .stuck
@[simp] theorem Out.toS_ok {α : Type} (a : α) (e : Ro) (k : α → Ro → FO) : (Out.ok a e).toS k = k a e := rfl
@[simp] theorem Out.toS_err {α : Type} (x : Ex) (e : Ro) (k : α → Ro → FO) : (Out.err x e : Out α).toS k = .err x e := rfl
@[simp] theorem Out.toS_stuck {α : Type} (k : α → Ro → FO) : (Out.stuck : Out α).toS k = .stuck := rfl
def FO.thn (o : FO) (k : Ro → FO) : FO :=
  match o with
  | .next e => k e
  | o => o
def PostS (K : PySem.W.Frag) (mg : Str → Option Value) (W : WX) (A0 : Addr) (G H : Hp) (σ : L2.St) (env : Ro) (D : Ends) (o : FO) : Prop :=
  match o with
  | .next e => ∀ σ' G' H', Mov (ow σ env) (ow σ' e) G H G' H' → Real K mg A0 G' H' σ' e → D.nx σ' H'
  | .brk e => ∀ σ' G' H', Mov (ow σ env) (ow σ' e) G H G' H' → Real K mg A0 G' H' σ' e → D.bk σ' H'
  | .cont e => ∀ σ' G' H', Mov (ow σ env) (ow σ' e) G H G' H' → Real K mg A0 G' H' σ' e → D.ct σ' H'
  | .ret r e => ∀ σ' v G' H', Mov (ow σ env) (ow σ' e) G H G' H' → Real K mg A0 G' H' σ' e → RepS K mg (ow σ env) (ow σ' e) H σ' G' H' v r → D.rt v H'
  | .err x e => ∀ cls d σ' G' H', Mov (ow σ env) (ow σ' e) G H G' H' → Real K mg A0 G' H' σ' e → ExIs K mg G' H' cls d x → W cls d σ' H'
  | .stuck => False
def tS (K : PySem.W.Frag) (mg : Str → Option Value) (W : WX) (f : DenS) : TS := fun D σ H => ∃ A0 G env, Real K mg A0 G H σ env ∧ PostS K mg W A0 G H σ env D (f env)
abbrev DS (X : Cx) (W : WX) (st : Stmt) (f : DenS) : Prop := PS X st (tS X.K X.mg W f)
abbrev DSs (X : Cx) (W : WX) (st : List Stmt) (f : DenS) : Prop := PSs X st (tS X.K X.mg W f)
theorem PS.wk {X : Cx} {st : Stmt} {t u : TS} (h : PS X st t) (w : ∀ D σ H, u D σ H → t D σ H) : PS X st u := ⟨fun p s σ H D I q => h.run p s σ H D I (w D σ H q)⟩
theorem PSs.wk {X : Cx} {st : List Stmt} {t u : TS} (h : PSs X st t) (w : ∀ D σ H, u D σ H → t D σ H) : PSs X st u := ⟨fun p s σ H D I q => h.run p s σ H D I (w D σ H q)⟩

def sNil : DenS := fun env => .next env
def sSeq (f g : DenS) : DenS := fun env => (f env).thn g
def sStuck : DenS := fun _ => .stuck
def sBrk : DenS := fun env => .brk env
def sCont : DenS := fun env => .cont env
/-- a slot that keeps what it has: the list handed in, a lent one -/
def isIo (env : Ro) (i : Nat) : Bool := match env[i]? with
  | some (.io _) => true
  | some (.b _) => true
  | _ => false
/-- a value comes into a slot -/
def put (i : Nat) (r : Sl) (e : Ro) : FO := if isIo e i then .stuck else match r with
  | .d x => .next (e.set i (.d x))
  | .l xs => .next (e.set i (.l xs))
  | _ => .stuck
def sSet (i : Nat) (a : DenE) : DenS := fun env => (a env).toS fun r e => put i r e
def sRet (a : DenE) : DenS := fun env => (a env).toS fun r e => .ret r e
def sRetN : DenS := fun env => .ret (.d .non) env
def sExpr (a : DenE) : DenS := fun env => (a env).toS fun _ e => .next e
def sIf (c : DenT) (f g : DenS) : DenS := fun env => (c env).toS fun b e => if b then f e else g e

section
variable {K : PySem.W.Frag} {mg : Str → Option Value} {W : WX} {A0 : Addr} {G H G1 H1 : Hp} {σ σ1 : L2.St} {env env1 : Ro}
theorem PostS.trans {D : Ends} {o : FO} (h : PostS K mg W A0 G H σ env D o) (m : Mov (ow σ env) (ow σ1 env1) G H G1 H1) : PostS K mg W A0 G1 H1 σ1 env1 D o := by
  cases o with
  | next e => exact fun σ' G' H' m' re => h σ' G' H' (m.trans m') re
  | brk e => exact fun σ' G' H' m' re => h σ' G' H' (m.trans m') re
  | cont e => exact fun σ' G' H' m' re => h σ' G' H' (m.trans m') re
  | ret r e => exact fun σ' v G' H' m' re rl => h σ' v G' H' (m.trans m') re ((stabV (K := K) (mg := mg)).at_ (σ := σ') (b := v) (r := r) m rl)
  | err x e => exact fun cls d σ' G' H' m' re ex => h cls d σ' G' H' (m.trans m') re ex
  | stuck => exact h
/-- an expression, then the rest of a statement -/
theorem PostS.of {β α : Type} {Rel : RelT β α} {D : Ends} {f : Ro → Out α} {k : α → Ro → FO} (re : Real K mg A0 G H σ env) (h : PostS K mg W A0 G H σ env D ((f env).toS k)) :
    tG K mg Rel W f σ H (fun b H1 => ∃ r env1 G1, Mov (ow σ env) (ow σ env1) G H G1 H1 ∧ Real K mg A0 G1 H1 σ env1 ∧ Rel H (ow σ env) (ow σ env1) σ G1 H1 b r ∧ PostS K mg W A0 G1 H1 σ env1 D (k r env1)) := by
  refine ⟨A0, G, env, re, ?_⟩
  cases q : f env with
  | ok r e =>
    rw [q] at h
    exact fun b G' H' m' re' rl => ⟨r, e, G', m', re', rl, h.trans m'⟩
  | err x e =>
    rw [q] at h
    exact fun cls d G' H' m' re' ex => h cls d σ G' H' m' re' ex
  | stuck =>
    rw [q] at h
    exact h
theorem PostS.nx {D : Ends} (h : PostS K mg W A0 G H σ env D (.next env)) (re : Real K mg A0 G H σ env) : D.nx σ H := h σ G H (Mov.refl _ _ _) re
theorem Holds.setD {i j : Nat} {v : V} {x : _root_.RL.D} {a : Addr} (h : Holds (σ.set i (some v)) (env.set i (.d x)) j a) : Holds σ env j a := by
  obtain ⟨h1, s, h2, h3⟩ := h
  rcases get_set_cases h2 with ⟨rfl, rfl, _⟩ | ⟨ne, e⟩
  · cases h3
  · rw [List.getElem?_set_ne ne] at h1
    exact ⟨h1, s, e, h3⟩
theorem Owned.setD {i : Nat} {v : V} {x : _root_.RL.D} {a : Addr} (h : Owned (σ.set i (some v)) (env.set i (.d x)) a) : Owned σ env a := by
  obtain ⟨j, h1, s, h2, h3⟩ := h
  rcases get_set_cases h2 with ⟨rfl, rfl, _⟩ | ⟨ne, e⟩
  · cases h3
  · rw [List.getElem?_set_ne ne] at h1
    exact ⟨j, h1, s, e, h3⟩
theorem Bor.ne {i j : Nat} {a : Addr} {xs : List _root_.RL.D} (h : Bor σ env j a xs) (hio : isIo env i = false) : i ≠ j := fun z => by
  subst z
  unfold isIo at hio
  rw [h.2] at hio
  cases hio
theorem Bor.set {i j : Nat} {a : Addr} {xs : List _root_.RL.D} {u : Option V} {s : Sl} (h : Bor σ env j a xs) (hio : isIo env i = false) : Bor (σ.set i u) (env.set i s) j a xs :=
  ⟨by rw [List.getElem?_set_ne (h.ne hio)]; exact h.1, by rw [List.getElem?_set_ne (h.ne hio)]; exact h.2⟩
/-- data come into a slot -/
theorem Real.setD (re : Real K mg A0 G H σ env) {i : Nat} {v : V} {x : _root_.RL.D} (r : Rep K mg G x v) : Real K mg A0 G H (σ.set i (some v)) (env.set i (.d x)) where
  sub := re.sub
  len := by rw [List.length_set, List.length_set]; exact re.len
  ok := fun j s e => by
    rcases get_set_cases e with ⟨rfl, rfl, hl⟩ | ⟨ne, e⟩
    · rw [List.getElem?_set_self (by rw [← re.len]; exact hl)]
      exact ⟨v, rfl, r⟩
    · rw [List.getElem?_set_ne ne]
      exact re.ok j s e
  dj := fun j k a h1 h2 => re.dj j k a h1.setD h2.setD
theorem Mov.setD {i : Nat} {v : V} {x : _root_.RL.D} (hio : isIo env i = false) : Mov (ow σ env) (ow (σ.set i (some v)) (env.set i (.d x))) G H G H :=
  ⟨Same.refl G, fun _ _ h _ => h, fun _ _ _ h _ => h, fun a q => .inr (Owned.setD q), fun a ⟨j, q⟩ => .inr ⟨j, q.setD⟩, fun _ _ _ h => h.set hio, fun _ h => h⟩
/-- a fresh list comes into a slot -/
theorem Holds.setL {i j : Nat} {a b : Addr} {xs : List _root_.RL.D} (hl : env.length = σ.length) (h : Holds (σ.set i (some (.ref a))) (env.set i (.l xs)) j b) : (j = i ∧ b = a) ∨ (j ≠ i ∧ Holds σ env j b) := by
  obtain ⟨h1, s, h2, h3⟩ := h
  rcases get_set_cases h2 with ⟨rfl, rfl, hl'⟩ | ⟨ne, e⟩
  · rw [List.getElem?_set_self (by rw [← hl]; exact hl')] at h1
    cases h1
    exact .inl ⟨rfl, rfl⟩
  · rw [List.getElem?_set_ne ne] at h1
    exact .inr ⟨ne.symm, h1, s, e, h3⟩
theorem Real.setL (re : Real K mg A0 G H σ env) {i : Nat} {a : Addr} {xs : List _root_.RL.D} (c : Cell K mg G H a xs) (no : ¬ Held σ env a) : Real K mg A0 G H (σ.set i (some (.ref a))) (env.set i (.l xs)) where
  sub := re.sub
  len := by rw [List.length_set, List.length_set]; exact re.len
  ok := fun j s e => by
    rcases get_set_cases e with ⟨rfl, rfl, hl⟩ | ⟨ne, e⟩
    · rw [List.getElem?_set_self (by rw [← re.len]; exact hl)]
      exact ⟨a, rfl, c⟩
    · rw [List.getElem?_set_ne ne]
      exact re.ok j s e
  dj := fun j k b h1 h2 => by
    rcases h1.setL re.len with ⟨e1, e2⟩ | ⟨n1, o1⟩ <;> rcases h2.setL re.len with ⟨e3, e4⟩ | ⟨n2, o2⟩
    · rw [e1, e3]
    · subst e2
      exact (no ⟨k, o2⟩).elim
    · subst e4
      exact (no ⟨j, o1⟩).elim
    · exact re.dj j k b o1 o2
theorem Owned.setL {i : Nat} {a b : Addr} {xs : List _root_.RL.D} (hl : env.length = σ.length) (h : Owned (σ.set i (some (.ref a))) (env.set i (.l xs)) b) : b = a ∨ Owned σ env b := by
  obtain ⟨j, h1, s, h2, h3⟩ := h
  rcases get_set_cases h2 with ⟨rfl, rfl, hl'⟩ | ⟨ne, e⟩
  · rw [List.getElem?_set_self (by rw [← hl]; exact hl')] at h1
    cases h1
    exact .inl rfl
  · rw [List.getElem?_set_ne ne] at h1
    exact .inr ⟨j, h1, s, e, h3⟩
variable {X : Cx} {a b c : Expr} {fa fb : DenE} {tc : DenT} {f g : DenS} {st : Stmt} {rest p q : List Stmt} {pos : Pos}
theorem ds_stuck : DS X W st sStuck := PS.wk ps_never fun _ _ _ ⟨_, _, _, _, h⟩ => h
theorem dss_stuck : DSs X W rest sStuck := PSs.wk pss_never fun _ _ _ ⟨_, _, _, _, h⟩ => h
theorem dss_nil : DSs X W [] sNil := PSs.wk pss_nil fun D σ H ⟨A0, G, env, re, h⟩ => h.nx re
theorem tSeq_of {D : Ends} (h : tS K mg W (sSeq f g) D σ H) : tSeq (tS K mg W f) (tS K mg W g) D σ H := by
  obtain ⟨A0, G, env, re, h⟩ := h
  refine ⟨A0, G, env, re, ?_⟩
  unfold sSeq at h
  cases q : f env with
  | next e =>
    rw [q] at h
    exact fun σ' G' H' m re' => ⟨A0, G', e, re', PostS.trans (show PostS K mg W A0 G H σ env D (g e) from h) m⟩
  | ret r e => rw [q] at h; exact h
  | brk e => rw [q] at h; exact h
  | cont e => rw [q] at h; exact h
  | err x e => rw [q] at h; exact h
  | stuck => rw [q] at h; exact h
theorem dss_cons (h1 : DS X W st f) (h2 : DSs X W rest g) : DSs X W (st :: rest) (sSeq f g) := PSs.wk (pss_cons h1 h2) fun _ _ _ h => tSeq_of h
theorem dss_one (h1 : DS X W st f) : DSs X W [st] f := pss_one h1
theorem ds_pass : DS X W (.Pass pos) sNil := PS.wk ps_pass fun D σ H ⟨A0, G, env, re, h⟩ => h.nx re
theorem ds_brk : DS X W (.Break pos) sBrk := PS.wk ps_break fun D σ H ⟨A0, G, env, re, h⟩ => h σ G H (Mov.refl _ _ _) re
theorem ds_cont : DS X W (.Continue pos) sCont := PS.wk ps_continue fun D σ H ⟨A0, G, env, re, h⟩ => h σ G H (Mov.refl _ _ _) re
theorem put_d {D : Ends} {i : Nat} {v : V} {x : _root_.RL.D} (re : Real K mg A0 G H σ env) (r : Rep K mg G x v) (po : PostS K mg W A0 G H σ env D (put i (.d x) env)) : D.nx (σ.set i (some v)) H := by
  unfold put at po
  split at po
  · exact po.elim
  · rename_i hio
    exact po _ G H (Mov.setD (by simpa using hio)) (re.setD r)
theorem Mov.setL {i : Nat} {a : Addr} {xs : List _root_.RL.D} {O : Ow} (m : Mov O (ow σ env) G H G1 H1) (hl : env.length = σ.length) (y : H a = none ∨ O.own a) (yh : H a = none ∨ O.held a) (hio : isIo env i = false) : Mov O (ow (σ.set i (some (.ref a))) (env.set i (.l xs))) G H G1 H1 :=
  ⟨m.gg, m.keep, m.new, fun b h => by
    rcases Owned.setL hl h with e | o
    · subst e
      exact y
    · exact m.own b o, fun b ⟨j, h⟩ => by
    rcases h.setL hl with ⟨_, e⟩ | ⟨_, o⟩
    · subst e
      exact yh
    · exact m.held b ⟨j, o⟩, fun i a xs h => (m.bor i a xs h).set hio, m.live⟩
theorem set_ok {D : Ends} {i : Nat} (re : Real K mg A0 G H σ env) (h : PostS K mg W A0 G H σ env D ((fa env).toS (put i))) : tD K mg W fa σ H (fun x H1 => D.nx (σ.set i (some x)) H1) := by
  refine ⟨A0, G, env, re, ?_⟩
  cases q : fa env with
  | err x e =>
    rw [q] at h
    exact fun cls d G' H' m' re' ex => h cls d σ G' H' m' re' ex
  | stuck =>
    rw [q] at h
    exact h
  | ok r e =>
    rw [q] at h
    intro v G' H' m re' rl
    have h : PostS K mg W A0 G H σ env D (put i r e) := h
    cases r with
    | d x => exact put_d re' rl (h.trans m)
    | l xs =>
      obtain ⟨a, rfl, c, no, yo⟩ := rl
      unfold put at h
      split at h
      · exact h.elim
      · rename_i hio
        exact h _ G' H' (m.setL re'.len yo (yo.imp id Owned.held) (by simpa using hio)) (re'.setL c no)
    | no => exact rl.elim
    | io xs => exact rl.elim
    | b xs => exact rl.elim
    | r j =>
      unfold put at h
      split at h <;> exact h.elim
theorem ds_set {i : Nat} {x : Str} {pos' : Pos} {e : Expr} (h : ∀ {te : TE}, PE X e te → PS X (.Assign [.Name x pos'] e pos) (tAsg te (gName i))) (he : DE X W e fa) : DS X W (.Assign [.Name x pos'] e pos) (sSet i fa) :=
  PS.wk (h he) fun D σ H ⟨A0, G, env, re, po⟩ => set_ok re po
theorem ret_ok {D : Ends} (re : Real K mg A0 G H σ env) (h : PostS K mg W A0 G H σ env D ((fa env).toS fun r e => .ret r e)) : tD K mg W fa σ H D.rt := by
  refine ⟨A0, G, env, re, ?_⟩
  cases q : fa env with
  | err x e =>
    rw [q] at h
    exact fun cls d G' H' m' re' ex => h cls d σ G' H' m' re' ex
  | stuck =>
    rw [q] at h
    exact h
  | ok r e =>
    rw [q] at h
    intro v G' H' m re' rl
    exact h σ v G' H' m re' rl
theorem ds_ret {e : Expr} (he : DE X W e fa) : DS X W (.Return (some e) pos) (sRet fa) := PS.wk (ps_ret he) fun D σ H ⟨A0, G, env, re, po⟩ => ret_ok re po
theorem ds_retN : DS X W (.Return none pos) sRetN := PS.wk ps_retN fun D σ H ⟨A0, G, env, re, po⟩ => po σ .non G H (Mov.refl _ _ _) re .non
theorem ds_expr {e : Expr} (he : DE X W e fa) (hs : swapsWith e none pos.line X.env = pure false := by rfl) : DS X W (.Expr e pos) (sExpr fa) := PS.wk (ps_expr he hs) fun D σ H ⟨A0, G, env, re, po⟩ =>
  tG.mono (PostS.of re po) fun v H1 ⟨r, env1, G1, m, re1, rl, po1⟩ => po1.nx re1
theorem ds_if (hc : DT X W c tc) (ha : DSs X W p f) (hb : DSs X W q g) : DS X W (.If c p q pos) (sIf tc f g) := PS.wk (ps_if hc ha hb) fun D σ H ⟨A0, G, env, re, po⟩ => by
  refine tG.mono (PostS.of (Rel := relB) re po) fun v H1 ⟨r, env1, G1, m, re1, rl, po1⟩ => ?_
  have rl : v = r := rl
  subst rl
  cases v with
  | true => exact ⟨A0, G1, env1, re1, po1⟩
  | false => exact ⟨A0, G1, env1, re1, po1⟩

/-! ### functions -/
/-- what a def answers: its value, and what it leaves of the list handed in -/
inductive Res where
  | ok (r : Sl) (io : List _root_.RL.D) | err (x : Ex) (io : List _root_.RL.D) | stuck
abbrev Fn := List _root_.RL.D → Res
abbrev FnI := List _root_.RL.D → List _root_.RL.D → Res
def RepR (K : PySem.W.Frag) (mg : Str → Option Value) (H G' H' : Hp) (v : V) : Sl → Prop
  | .d x => Rep K mg G' x v
  | .l xs => ∃ a, v = .ref a ∧ Cell K mg G' H' a xs ∧ H a = none
  | _ => False
abbrev O0 : Ow := ⟨fun _ => False, fun _ => False, fun _ _ _ => False⟩
abbrev O1 (a : Addr) : Ow := ⟨(· = a), (· = a), fun _ _ _ => False⟩
def spP (K : PySem.W.Frag) (mg : Str → Option Value) (F : Fn) : Sp := fun vs H Q E => ∃ G ds, Same G H ∧ RepL K mg G ds vs ∧
  match F ds with
  | .ok r _ => ∀ v G' H', Mov O0 O0 G H G' H' → Same G' H' → RepR K mg H G' H' v r → Q v H'
  | .err x _ => ∀ cls d G' H', Mov O0 O0 G H G' H' → Same G' H' → ExIs K mg G' H' cls d x → E cls d H'
  | .stuck => False
def spI (K : PySem.W.Frag) (mg : Str → Option Value) (F : FnI) : Sp := fun vs H Q E => ∃ G a xs vs' ds, vs = .ref a :: vs' ∧ Same G H ∧ Cell K mg G H a xs ∧ RepL K mg G ds vs' ∧
  match F xs ds with
  | .ok r ys => ∀ v G' H', Mov (O1 a) (O1 a) G H G' H' → Same G' H' → Cell K mg G' H' a ys → RepR K mg H G' H' v r → Q v H'
  | .err x ys => ∀ cls d G' H', Mov (O1 a) (O1 a) G H G' H' → Same G' H' → Cell K mg G' H' a ys → ExIs K mg G' H' cls d x → E cls d H'
  | .stuck => False
/-- a def that runs where nothing is being shown -/
structure FnG (P : Program) (w : World) (K : PySem.W.Frag) (mg : Str → Option Value) (base : Heap) (k : Nat) (f : Addr) (fd : FuncData) (ps : List Str) (sp : Sp) : Prop where
  len : ∀ vs H Q E, sp vs H Q E → vs.length = ps.length
  run : ∀ (A : Around) (outer : List Env) (s : Shared) (H : Hp) (args : Args) (us : List Value) (vs : List V) (Q : VK) (E : XK), Room k A → A.guards = some [] → Env0 P w K mg base A outer s H → BindsTo s fd args (ps.zip us) → Vals vs us → sp vs H Q E →
    codeAny (model P w) A (.call (.ref f) args) (CR (L2.CX P w) outer P w H s Q E) s
theorem FnG.mono {P : Program} {w : World} {base : Heap} {j k : Nat} {f : Addr} {fd : FuncData} {ps : List Str} {sp : Sp} (F : FnG P w K mg base j f fd ps sp) (h : j ≤ k) : FnG P w K mg base k f fd ps sp :=
  ⟨F.len, fun A outer s H args us vs Q E hr => F.run A outer s H args us vs Q E (hr.mono h)⟩
theorem FnG.of {P : Program} {w : World} {base : Heap} {x qual : Str} {st : Stmt} {f : Addr} {fd : FuncData} {N ps : List Str} {k : Nat} {sp : Sp} (F : Fun K x qual st f fd) (S : FnScope N ps (defScope st)) (len : ∀ vs H Q E, sp vs H Q E → vs.length = ps.length)
    (hbody : ∀ (cdv : Value) (A : Around) (outer : List Env) (s : Shared) (H : Hp) (vs : List V) (Q : VK) (E : XK), Room k (A.deeper (PyProof.Rows.envOfC qual (defScope st) s.heap.objs.size f cdv)) → A.guards = some [] → sp vs H Q E →
      ∃ t, PSs (cxOf (L2.CX P w) P w K mg base N qual (defScope st) f cdv A outer s H E) (defBody st) t ∧ t { nx := fun _ H' => Q .non H', rt := Q } (L2.start N vs) H) : FnG P w K mg base (k + 1) f fd ps sp := by
  obtain ⟨oc, od, kV, doc, pm, an, cdv, ct, osl, rfl, lk, hcd⟩ := F.ex
  refine ⟨len, fun A outer s H args us vs Q E hr hgd e0 hb r hsp => ?_⟩
  have hl := len _ _ _ _ hsp
  have KX : K.In s.heap := e0.mod.kin.keeps fun b o e => (e0.bs b o e).1
  have lim : s.heap.NoLimit := e0.mod.nolimit.keeps fun b o e => (e0.bs b o e).1
  have kinds : ∀ y ∈ ps.zip us, (defScope st).names.lookup y.1 = some .local ∨ ((defScope st).names.lookup y.1 = some .cell ∧ ((cellsFrom (s.heap.objs.size + 1) (defScope st).names []).lookup y.1).isSome = true) := by
    rintro ⟨n, v⟩ hy
    exact (S.par n (List.of_mem_zip hy).1).imp id fun q => ⟨q, PySem.W.cellsFrom_some _ _ _ (.inl q)⟩
  refine codeAny_call_function hr.depth (KX _ _ lk) rfl S.co S.gen rfl (PySem.W.codeRec_of KX hcd) (hb _ _ _ _ (wpAny_newFunctionEnv_cells S.kind kinds fun env he s1 x => ?_))
  subst he
  obtain ⟨t, ht, hq⟩ := hbody cdv A outer s H vs Q E (hr.deeper _) hgd hsp
  refine ⟨lim.keeps x.toInCall.keep, codeAny_func (wpAny_mono (ht.run [] s1 _ H _ (inv_start S hr.hd e0 hl r x) hq) (fun fl s' hs => ?_) fun e s' hs => hs)⟩
  cases fl with
  | brk => exact hs.elim fun _ ⟨_, _, z⟩ => z.elim
  | cont => exact hs.elim fun _ ⟨_, _, z⟩ => z.elim
  | next =>
    obtain ⟨σ', H', J, q⟩ := hs
    exact ⟨V.non, H', J.os, J.bare, J.base, J.hok, rfl, q⟩
  | ret u =>
    obtain ⟨v, σ', H', J, rv, q⟩ := hs
    exact ⟨v, H', J.os, J.bare, J.base, J.hok, rv, q⟩
end
end RL
namespace RL
open PySem L2

def ownAt (env : Ro) (i : Nat) : Option (List D) := match env[i]? with
  | some (.l xs) => some xs
  | some (.io xs) => some xs
  | _ => none
def setOwn (env : Ro) (i : Nat) (ys : List D) : Ro := match env[i]? with
  | some (.io _) => env.set i (.io ys)
  | _ => env.set i (.l ys)
section
variable {K : PySem.W.Frag} {mg : Str → Option Value} {W : WX} {A0 : Addr} {G H G1 H1 : Hp} {σ σ1 : L2.St} {env env1 : Ro}
theorem ownAt_owns {i : Nat} {xs : List D} (re : Real K mg A0 G H σ env) (h : ownAt env i = some xs) : ∃ a, Owns σ env i a ∧ Cell K mg G H a xs := by
  unfold ownAt at h
  split at h
  · rename_i ys e
    cases h
    obtain ⟨a, e1, c⟩ := re.ok i _ e
    exact ⟨a, ⟨e1, _, e, rfl⟩, c⟩
  · rename_i ys e
    cases h
    obtain ⟨e1, c⟩ := re.ok i _ e
    exact ⟨A0, ⟨e1, _, e, rfl⟩, c⟩
  · cases h
theorem setOwn_cases {i : Nat} {a : Addr} (o : Owns σ env i a) (ys : List D) : ∃ s s', env[i]? = some s ∧ s.own = true ∧ s'.own = true ∧ setOwn env i ys = env.set i s' ∧ ((∃ xs, s = .l xs ∧ s' = .l ys) ∨ ∃ xs, s = .io xs ∧ s' = .io ys) := by
  obtain ⟨h1, s, h2, h3⟩ := o
  unfold setOwn
  cases s with
  | l xs => exact ⟨_, .l ys, h2, rfl, rfl, by rw [h2], .inl ⟨xs, rfl, rfl⟩⟩
  | io xs => exact ⟨_, .io ys, h2, rfl, rfl, by rw [h2], .inr ⟨xs, rfl, rfl⟩⟩
  | _ => cases h3
theorem Holds.setOwn {i j : Nat} {a b : Addr} {ys : List D} (o : Owns σ env i a) (h : Holds σ (setOwn env i ys) j b) : Holds σ env j b := by
  obtain ⟨s, s', e, hs, hs', eq, _⟩ := setOwn_cases o ys
  rw [eq] at h
  obtain ⟨h1, u, h2, h3⟩ := h
  rcases get_set_cases h2 with ⟨rfl, rfl, _⟩ | ⟨_, e'⟩
  · exact ⟨h1, s, e, Sl.hold_of hs⟩
  · exact ⟨h1, u, e', h3⟩
theorem Owned.setOwn {i : Nat} {a b : Addr} {ys : List D} (o : Owns σ env i a) (h : Owned σ (setOwn env i ys) b) : Owned σ env b := by
  obtain ⟨s, s', e, hs, hs', eq, _⟩ := setOwn_cases o ys
  rw [eq] at h
  obtain ⟨j, h1, u, h2, h3⟩ := h
  rcases get_set_cases h2 with ⟨rfl, rfl, _⟩ | ⟨_, e'⟩
  · exact ⟨i, h1, s, e, hs⟩
  · exact ⟨j, h1, u, e', h3⟩
/-- the list of slot i is changed -/
theorem Real.mut (re : Real K mg A0 G H σ env) {i : Nat} {a : Addr} {ys : List D} (o : Owns σ env i a) (gg : Same G G1) (sub : Same G1 H1) (keep : ∀ b u, H b = some u → b ≠ a → H1 b = some u) (new : ∀ b u, H b = some u → G b = none → b ≠ a → G1 b = none)
    (c : Cell K mg G1 H1 a ys) : Real K mg A0 G1 H1 σ (setOwn env i ys) := by
  obtain ⟨s, s', e, hs, hs', eq, ty⟩ := setOwn_cases o ys
  have hi : i < env.length := (List.getElem?_eq_some_iff.mp e).1
  refine ⟨sub, by rw [eq, List.length_set]; exact re.len, fun j u q => ?_, fun j k b h1 h2 => re.dj j k b (h1.setOwn o) (h2.setOwn o)⟩
  rw [eq] at q
  rcases get_set_cases q with ⟨rfl, rfl, _⟩ | ⟨ne, q'⟩
  · rcases ty with ⟨xs, rfl, rfl⟩ | ⟨xs, rfl, rfl⟩
    · exact ⟨a, o.1, c⟩
    · obtain ⟨e1, _⟩ := re.ok i _ e
      rw [o.1] at e1
      cases e1
      exact ⟨o.1, c⟩
  · refine (re.ok j u q').mono gg fun b h1 h2 => ?_
    have hb : Holds σ env j b := ⟨h1, u, q', h2⟩
    have nb : b ≠ a := fun z => ne (re.dj i j a o.holds (z ▸ hb))
    obtain ⟨g, w, hw⟩ := re.there ⟨j, hb⟩
    exact ⟨new b w hw g nb, fun u' hu => keep b u' hu nb⟩
theorem Mov.mut (re : Real K mg A0 G H σ env) {i : Nat} {a : Addr} {ys : List D} (o : Owns σ env i a) (gg : Same G G1) (keep : ∀ b u, H b = some u → b ≠ a → H1 b = some u) (new : ∀ b u, H b = some u → G b = none → b ≠ a → G1 b = none)
    (live : ∀ b, H1 b = none → H b = none) : Mov (ow σ env) (ow σ (setOwn env i ys)) G H G1 H1 := by
  have hn : ∀ b, ¬ Owned σ env b → b ≠ a := fun b n z => n (z ▸ ⟨i, o⟩)
  refine ⟨gg, fun b u h n => keep b u h (hn b n), fun b u h g n => new b u h g (hn b n), fun b h => .inr (Owned.setOwn o h), fun b ⟨j, h⟩ => .inr ⟨j, h.setOwn o⟩, fun j b xs h => ?_, live⟩
  obtain ⟨s, s', e, hs, hs', eq, _⟩ := setOwn_cases o ys
  refine ⟨h.1, ?_⟩
  have ne : i ≠ j := fun z => by
    subst z
    rw [h.2] at e
    cases e
    cases hs
  show (setOwn env i ys)[j]? = _
  rw [eq, List.getElem?_set_ne ne]
  exact h.2
theorem keep_upd {a : Addr} {o : HO} : ∀ b u, H b = some u → b ≠ a → upd H a o b = some u := fun b u h n => by rw [upd_ne n]; exact h
theorem live_upd {a : Addr} {o u : HO} (h : H a = some u) : ∀ b, upd H a o b = none → H b = none := fun b e => by
  by_cases n : b = a
  · subst n
    rw [upd_same] at e
    cases e
  · rw [upd_ne n] at e
    exact e
theorem sub_upd {a : Addr} {o : HO} (s : Same G H) (g : G a = none) : Same G (upd H a o) := fun b u h => by
  rw [upd_ne (ne_of_none h g)]
  exact s b u h
/-- the list of slot i is written -/
theorem Real.wr (re : Real K mg A0 G H σ env) {i : Nat} {a : Addr} {ys : List D} {vs : List V} (o : Owns σ env i a) (r : RepL K mg G ys vs) : Real K mg A0 G (upd H a (.lst vs)) σ (setOwn env i ys) := by
  obtain ⟨g, u, hu⟩ := re.there ⟨i, o.holds⟩
  exact re.mut o (Same.refl G) (sub_upd re.sub g) keep_upd (fun b u h g n => g) ⟨g, vs, upd_same, r⟩
theorem Mov.wr (re : Real K mg A0 G H σ env) {i : Nat} {a : Addr} {ys : List D} {vs : List V} (o : Owns σ env i a) : Mov (ow σ env) (ow σ (setOwn env i ys)) G H G (upd H a (.lst vs)) := by
  obtain ⟨g, u, hu⟩ := re.there ⟨i, o.holds⟩
  exact Mov.mut re o (Same.refl G) keep_upd (fun b u h g n => g) (live_upd hu)

/-! ### methods that change a list of one's own -/
abbrev Mu := List D → List Sl → Ro → Option (List D × D)
def eMut (i : Nat) (g : Mu) (as : DenA) : DenE := fun env => match ownAt env i with
  | none => .stuck
  | some _ => (as env).bind fun rs e => match ownAt e i with
    | none => .stuck
    | some xs => match g xs rs e with
      | none => .stuck
      | some (ys, d) => .ok (.d d) (setOwn e i ys)
def MuS (K : PySem.W.Frag) (mg : Str → Option Value) (r : V → List V → Hp → VK → Prop) (g : Mu) : Prop := ∀ (A0 : Addr) (G H : Hp) (σ : L2.St) (env : Ro) (a : Addr) (vs ws : List V) (xs : List D) (rs : List Sl) (ys : List D) (d : D) (Q : VK),
  Real K mg A0 G H σ env → H a = some (.lst vs) → RepL K mg G xs vs → RepNs K mg σ env G H ws rs → g xs rs env = some (ys, d) → (∀ v vs', RepL K mg G ys vs' → Rep K mg G d v → Q v (upd H a (.lst vs'))) → r (.ref a) ws H Q
def muApp : Mu := fun xs rs _ => match rs with
  | [.d x] => if xs.length < SZ then some (xs ++ [x], .non) else none
  | _ => none
def muExt : Mu := fun xs rs e => match rs with
  | [r] => match contH e r with
    | some zs => if xs.length + zs.length ≤ SZ then some (xs ++ zs, .non) else none
    | none => none
  | _ => none
def muPop : Mu := fun xs rs _ => match rs with
  | [] => match xs[xs.length - 1]? with
    | some d => some (xs.dropLast, d)
    | none => none
  | _ => none
theorem RepL.dropLast {xs : List D} {vs : List V} (r : RepL K mg G xs vs) : RepL K mg G xs.dropLast vs.dropLast := by
  rw [List.dropLast_eq_take, List.dropLast_eq_take, r.length]
  exact r.take _
theorem mu_app : MuS K mg rAppend muApp := by
  intro A0 G H σ env a vs ws xs rs ys d Q re hv r rp e q
  unfold muApp at e
  split at e
  · rename_i x
    split at e
    · rename_i hz
      cases e
      match ws, rp with
      | [v], rp => exact ⟨a, vs, v, rfl, rfl, hv, SZ_lt (by rw [← r.length]; omega), q _ _ (r.append (.cons rp.1 .nil)) .non⟩
      | [], rp => exact rp.elim
      | _ :: _ :: _, rp => exact rp.2.elim
    · cases e
  · cases e
theorem mu_ext : MuS K mg rExtend muExt := by
  intro A0 G H σ env a vs ws xs rs ys d Q re hv r rp e q
  unfold muExt at e
  split at e
  · rename_i x
    split at e
    · rename_i zs hc
      split at e
      · rename_i hz
        cases e
        match ws, rp with
        | [v], rp =>
          obtain ⟨b, us, rfl, hb, rb⟩ := contH_ok re rp.1 hc
          exact ⟨a, b, vs, us, rfl, rfl, hv, hb, SZ_le (by rw [← r.length, ← rb.length]; omega), q _ _ (r.append rb) .non⟩
        | [], rp => exact rp.elim
        | _ :: _ :: _, rp => exact rp.2.elim
      · cases e
    · cases e
  · cases e
theorem mu_pop : MuS K mg rPop muPop := by
  intro A0 G H σ env a vs ws xs rs ys d Q re hv r rp e q
  unfold muPop at e
  split at e
  · split at e
    · rename_i x hx
      cases e
      match ws, rp with
      | [], rp =>
        obtain ⟨v, hv', rv⟩ := r.get hx
        exact ⟨a, vs, v, rfl, rfl, hv, by rw [← r.length]; exact hv', q _ _ r.dropLast rv⟩
      | _ :: _, rp => exact rp.elim
    · cases e
  · cases e
variable {X : Cx} {a b c e : Expr} {es : List Expr} {fa fb fi : DenE} {fs : DenA} {tc : DenT} {f g : DenS} {st : Stmt} {rest p q : List Stmt} {pos : Pos}
theorem eMut_of {i : Nat} {g : Mu} {r : V → List V → Hp → VK → Prop} (hg : MuS K mg r g) {Q : VK} (h : tD K mg W (eMut i g fs) σ H Q) : tBM K "list" r (tVar i) (tN K mg W fs) σ H Q := by
  obtain ⟨A0, G, env, re, po⟩ := h
  unfold eMut at po
  cases q : ownAt env i with
  | none => rw [q] at po; exact po.elim
  | some x0 =>
    rw [q] at po
    obtain ⟨a, o, g0, v0, hv0, _⟩ := ownAt_owns re q
    refine ⟨.ref a, o.1, .inl ⟨rfl, _, .inl (.inl hv0)⟩, ?_⟩
    refine tG.mono (Post.args stabV re po) fun ws H1 ⟨rs, env1, G1, re1, rp1, po1⟩ => ?_
    cases q1 : ownAt env1 i with
    | none => rw [q1] at po1; exact po1.elim
    | some xs =>
      rw [q1] at po1
      obtain ⟨b, o1, g1, v1, hv1, r1⟩ := ownAt_owns re1 q1
      have eb : b = a := by
        have z := o1.1.symm.trans o.1
        cases z
        rfl
      subst eb
      cases q2 : g xs rs env1 with
      | none => simp only [q2] at po1; exact po1.elim
      | some yd =>
        obtain ⟨ys, d⟩ := yd
        simp only [q2] at po1
        exact hg A0 G1 H1 σ env1 b v1 ws xs rs ys d Q re1 hv1 r1 rp1 q2 fun v vs' ry rd => po1 v G1 _ (Mov.wr re1 o1) (re1.wr o1 ry) rd
/-- x.m(e, ..) on a list of one's own -/
theorem de_mut {i : Nat} {x m : Str} {px pa : Pos} {g : Mu} {r : V → List V → Hp → VK → Prop} (hg : MuS X.K X.mg r g) (h : ∀ {t : TA}, PA X (e :: es) t → PE X (.Call (.Attribute (.Name x px) m pa) (e :: es) [] pos) (tBM X.K "list" r (tVar i) t)) (hs : DN X W (e :: es) fs) :
    DE X W (.Call (.Attribute (.Name x px) m pa) (e :: es) [] pos) (eMut i g fs) := PE.wk (h hs) fun _ _ _ h => eMut_of hg h
theorem de_mut0 {i : Nat} {x m : Str} {px pa : Pos} {g : Mu} {r : V → List V → Hp → VK → Prop} (hg : MuS X.K X.mg r g) (h : PE X (.Call (.Attribute (.Name x px) m pa) [] [] pos) (tBM0 X.K "list" r (tVar i))) :
    DE X W (.Call (.Attribute (.Name x px) m pa) [] [] pos) (eMut i g aNil) := PE.wk h fun σ H Q h => by
  obtain ⟨v, e, ty, z⟩ := eMut_of hg h
  refine ⟨v, e, ty, ?_⟩
  obtain ⟨A0, G, env, re, po⟩ := z
  exact po [] G H (Mov.refl _ _ _) re trivial

/-! ### stores -/
def sSetIx (i : Nat) (fi fe : DenE) : DenS := fun env => (fe env).toS fun r e1 => match ownAt e1 i with
  | none => .stuck
  | some _ => (fi e1).toS fun k e2 => match ownAt e2 i, k, r with
    | some xs, .d (.int z), .d x => (match ixN xs.length z with
      | some j => .next (setOwn e2 i (xs.set j x))
      | none => .stuck)
    | _, _, _ => .stuck
theorem ds_setIx {i : Nat} {x : Str} {px ps : Pos} {ie : Expr} (h : ∀ {te ti : TE}, PE X e te → PE X ie ti → PS X (.Assign [.Subscript (.Name x px) ie ps] e pos) (tAsg te (gSub (tVar i) ti rSetL))) (hi : DE X W ie fi) (he : DE X W e fa) :
    DS X W (.Assign [.Subscript (.Name x px) ie ps] e pos) (sSetIx i fi fa) := PS.wk (h he hi) fun D σ H ⟨A0, G, env, re, po⟩ => by
  refine tG.mono (PostS.of (Rel := relV X.K X.mg) re po) fun v H1 ⟨r, env1, G1, m1, re1, rl1, po1⟩ => ?_
  cases q1 : ownAt env1 i with
  | none => rw [q1] at po1; exact po1.elim
  | some x0 =>
    rw [q1] at po1
    obtain ⟨a, o, g0, v0, hv0, _⟩ := ownAt_owns re1 q1
    refine ⟨.ref a, o.1, ?_⟩
    refine tG.mono (PostS.of (Rel := relV X.K X.mg) re1 po1) fun kv H2 ⟨k, env2, G2, m2, re2, rl2, po2⟩ => ?_
    split at po2
    · rename_i xs z x q2 _
      obtain ⟨b, o1, g1, v1, hv1, r1⟩ := ownAt_owns re2 q2
      have eb : b = a := by
        have z := o1.1.symm.trans o.1
        cases z
        rfl
      subst eb
      cases rep_int (RepN.of rl2)
      split at po2
      · rename_i j hj
        have rx : Rep X.K X.mg G2 x v := Rep.mono m2.gg (RepN.of rl1)
        exact ⟨b, v1, z, j, rfl, rfl, hv1, by rw [← r1.length]; exact hj, po2 σ G2 _ (Mov.wr re2 o1) (re2.wr o1 (RepL.set rx j r1))⟩
      · exact po2.elim
    · exact po2.elim
/-- name op= e -/
def sAug (i : Nat) (g : Sl → Sl → Ro → Out Sl) (fe : DenE) : DenS := fun env => match env[i]? with
  | some (.d x) => (fe env).toS fun r e => (g (.d x) r e).toS (put i)
  | _ => .stuck
theorem ds_aug {i : Nat} {x : Str} {px : Pos} {op : Operator} {r : R2} {g : Sl → Sl → Ro → Out Sl} (hg : OpS X.K X.mg r g) (h : ∀ {te : TE}, PE X e te → PS X (.AugAssign (.Name x px) op e pos) (tAug i te r)) (he : DE X W e fa) :
    DS X W (.AugAssign (.Name x px) op e pos) (sAug i g fa) := PS.wk (h he) fun D σ H ⟨A0, G, env, re, po⟩ => by
  unfold sAug at po
  split at po
  · rename_i x0 e0
    obtain ⟨v, e1, rx⟩ := re.ok i _ e0
    refine ⟨v, e1, ?_⟩
    refine tG.mono (PostS.of (Rel := relV X.K X.mg) re po) fun y H1 ⟨ry, env1, G1, m1, re1, rl1, po1⟩ => ?_
    refine hg W A0 G1 H1 σ env1 v y (.d x0) ry _ re1 (Rep.mono m1.gg rx) (RepN.of rl1) ?_
    obtain ⟨A0', G', env', re', hh⟩ := set_ok (fa := fun e => g (.d x0) ry e) re1 po1
    cases q : g (.d x0) ry env1 with
    | stuck => rw [q] at po1; exact po1
    | err x e => rw [q] at po1; exact fun cls d G' H' m' re' ex => po1 cls d σ G' H' m' re' ex
    | ok rz e2 =>
      rw [q] at po1
      intro z G2 H2 m2 re2 rl2
      have po2 : PostS X.K X.mg W A0 G1 H1 σ env1 D (put i rz e2) := po1
      cases rz with
      | d w => exact put_d re2 rl2 (po2.trans m2)
      | l xs =>
        obtain ⟨a, rfl, c, no, yo⟩ := rl2
        unfold put at po2
        split at po2
        · exact po2.elim
        · rename_i hio
          exact po2 _ G2 H2 (m2.setL re2.len yo (yo.imp id Owned.held) (by simpa using hio)) (re2.setL c no)
      | no => exact rl2.elim
      | io xs => exact rl2.elim
      | b xs => exact rl2.elim
      | r j =>
        unfold put at po2
        split at po2 <;> exact po2.elim
  · exact po.elim
/-- x[i] op= e on a list of one's own -/
def sAugIx (i : Nat) (g : Sl → Sl → Ro → Out Sl) (fi fe : DenE) : DenS := fun env => match ownAt env i with
  | none => .stuck
  | some _ => (fi env).toS fun k e1 => match ownAt e1 i, k with
    | some xs, .d (.int z) => (match ixN xs.length z with
      | some j => (match xs[j]? with
        | some x => (fe e1).toS fun r e2 => (g (.d x) r e2).toS fun u e3 => match ownAt e3 i, u with
          | some ys, .d y => (match ixN ys.length z with
            | some j2 => .next (setOwn e3 i (ys.set j2 y))
            | none => .stuck)
          | _, _ => .stuck
        | none => .stuck)
      | none => .stuck)
    | _, _ => .stuck
theorem ds_augIx {i : Nat} {x : Str} {px ps : Pos} {ie : Expr} {op : Operator} {r : R2} {g : Sl → Sl → Ro → Out Sl} (hg : OpS X.K X.mg r g)
    (h : ∀ {te ti : TE}, PE X e te → PE X ie ti → PS X (.AugAssign (.Subscript (.Name x px) ie ps) op e pos) (tAugS (tVar i) ti te (rIxL X.K) r rSetL)) (hi : DE X W ie fi) (he : DE X W e fa) :
    DS X W (.AugAssign (.Subscript (.Name x px) ie ps) op e pos) (sAugIx i g fi fa) := PS.wk (h he hi) fun D σ H ⟨A0, G, env, re, po⟩ => by
  unfold sAugIx at po
  cases q0 : ownAt env i with
  | none => rw [q0] at po; exact po.elim
  | some x0 =>
    rw [q0] at po
    obtain ⟨a, o, g0, v0, hv0, _⟩ := ownAt_owns re q0
    refine ⟨.ref a, o.1, ?_⟩
    refine tG.mono (PostS.of (Rel := relV X.K X.mg) re po) fun kv H1 ⟨k, env1, G1, m1, re1, rl1, po1⟩ => ?_
    split at po1
    · rename_i xs z q1
      obtain ⟨b, o1, g1, v1, hv1, r1⟩ := ownAt_owns re1 q1
      have eb : b = a := by
        have z := o1.1.symm.trans o.1
        cases z
        rfl
      subst eb
      cases rep_int (RepN.of rl1)
      split at po1
      · rename_i j hj
        split at po1
        · rename_i xj hxj
          obtain ⟨vj, hvj, rj⟩ := r1.get hxj
          have hat : atI v1 z = some vj := by
            unfold atI
            rw [← r1.length, hj]
            exact hvj
          refine ⟨b, v1, z, vj, rfl, rfl, .inl (.inl hv1), hat, ?_⟩
          refine tG.mono (PostS.of (Rel := relV X.K X.mg) re1 po1) fun y H2 ⟨ry, env2, G2, m2, re2, rl2, po2⟩ => ?_
          refine hg W A0 G2 H2 σ env2 vj y (.d xj) ry _ re2 (Rep.mono m2.gg rj) (RepN.of rl2) ?_
          cases q : g (.d xj) ry env2 with
          | stuck => rw [q] at po2; exact po2
          | err x e => rw [q] at po2; exact fun cls d G' H' m' re' ex => po2 cls d σ G' H' m' re' ex
          | ok ru e3 =>
            rw [q] at po2
            intro u G3 H3 m3 re3 rl3
            have po3 : PostS X.K X.mg W A0 G3 H3 σ e3 D _ := PostS.trans po2 m3
            simp only [Out.toS_ok] at po3
            split at po3
            · rename_i ys y' q3
              obtain ⟨b3, o3, g3, v3, hv3, r3⟩ := ownAt_owns re3 q3
              have eb : b3 = b := by
                have z := o3.1.symm.trans o.1
                cases z
                rfl
              subst eb
              split at po3
              · rename_i j2 hj2
                have ru' : Rep X.K X.mg G3 y' u := RepN.of rl3
                exact ⟨b3, v3, z, j2, rfl, rfl, hv3, by rw [← r3.length]; exact hj2, po3 σ G3 _ (Mov.wr re3 o3) (re3.wr o3 (RepL.set ru' j2 r3))⟩
              · exact po3.elim
            · exact po3.elim
        · exact po1.elim
      · exact po1.elim
    · exact po1.elim
end
end RL
namespace RL
open PySem L2

/-! ### a def by its body -/
def runP (np n : Nat) (body : DenS) : Fn := fun ds => if ds.length = np then (match body (ds.map .d ++ List.replicate (n - np) .no) with
  | .next _ => .ok (.d .non) []
  | .ret (.d x) _ => .ok (.d x) []
  | .ret (.l xs) _ => .ok (.l xs) []
  | .err x _ => .err x []
  | _ => .stuck) else .stuck
def io0 (e : Ro) : Option (List D) := match (e[0]? : Option Sl) with
  | some (.io xs) => some xs
  | _ => none
/-- np: the parameters behind the list handed in -/
def runI (np n : Nat) (body : DenS) : FnI := fun xs ds => if ds.length = np then (match body (.io xs :: (ds.map .d ++ List.replicate (n - (np + 1)) .no)) with
  | .next e => (match io0 e with
    | some ys => .ok (.d .non) ys
    | none => .stuck)
  | .ret (.d x) e => (match io0 e with
    | some ys => .ok (.d x) ys
    | none => .stuck)
  | .ret (.l zs) e => (match io0 e with
    | some ys => .ok (.l zs) ys
    | none => .stuck)
  | .err x e => (match io0 e with
    | some ys => .err x ys
    | none => .stuck)
  | _ => .stuck) else .stuck
section
variable {K : PySem.W.Frag} {mg : Str → Option Value} {W : WX} {A0 : Addr} {G H G1 H1 : Hp} {σ σ1 : L2.St} {env env1 : Ro}
theorem start_ok : ∀ {ds : List D} {vs : List V}, RepL K mg G ds vs → ∀ (m i : Nat) (s : Sl), (ds.map Sl.d ++ List.replicate m Sl.no)[i]? = some s → SlOk K mg A0 G H ((vs.map some ++ List.replicate m none)[i]?) s
  | _, _, .nil, m, i, s, e => by
    rw [List.map_nil, List.nil_append, List.getElem?_replicate] at e
    split at e
    · cases e
      trivial
    · cases e
  | _, _, .cons h r, m, 0, s, e => by
    cases e
    exact ⟨_, rfl, h⟩
  | _, _, .cons h r, m, i + 1, s, e => start_ok r m i s e
theorem start_hold {ds : List D} {m i : Nat} {s : Sl} (e : (ds.map Sl.d ++ List.replicate m Sl.no)[i]? = some s) : s.hold = false := by
  have hm := List.mem_of_getElem? e
  rw [List.mem_append, List.mem_map, List.mem_replicate] at hm
  rcases hm with ⟨d, _, rfl⟩ | ⟨_, rfl⟩ <;> rfl
theorem start_len {ds : List D} {vs : List V} (r : RepL K mg G ds vs) (m : Nat) : (ds.map Sl.d ++ List.replicate m Sl.no).length = (vs.map some ++ List.replicate m (none : Option V)).length := by
  simp [r.length]
theorem real_start (s : Same G H) {ds : List D} {vs : List V} (r : RepL K mg G ds vs) (m : Nat) : Real K mg A0 G H (vs.map some ++ List.replicate m none) (ds.map Sl.d ++ List.replicate m Sl.no) where
  sub := s
  len := start_len r m
  ok := start_ok r m
  dj := fun i j a h1 _ => by
    obtain ⟨_, s, e, z⟩ := h1
    rw [start_hold e] at z
    cases z
theorem start_held {ds : List D} {m : Nat} {σ : L2.St} {a : Addr} : ¬ Held σ (ds.map Sl.d ++ List.replicate m Sl.no) a := fun ⟨i, _, s, e, z⟩ => by
  rw [start_hold e] at z
  cases z
theorem real_startI (s : Same G H) {a : Addr} {xs ds : List D} {vs : List V} (c : Cell K mg G H a xs) (r : RepL K mg G ds vs) (m : Nat) :
    Real K mg a G H (some (.ref a) :: (vs.map some ++ List.replicate m none)) (.io xs :: (ds.map Sl.d ++ List.replicate m Sl.no)) where
  sub := s
  len := by rw [List.length_cons, List.length_cons, start_len r m]
  ok := fun i u e => by
    cases i with
    | zero =>
      cases e
      exact ⟨rfl, c⟩
    | succ i => exact start_ok r m i u e
  dj := fun i j b h1 h2 => by
    have z : ∀ {i : Nat}, Holds (some (.ref a) :: (vs.map some ++ List.replicate m none)) (.io xs :: (ds.map Sl.d ++ List.replicate m Sl.no)) i b → i = 0 := fun {i} ⟨_, s, e, z⟩ => by
      cases i with
      | zero => rfl
      | succ i =>
        rw [start_hold (show (ds.map Sl.d ++ List.replicate m Sl.no)[i]? = some s from e)] at z
        cases z
    rw [z h1, z h2]
theorem start_heldI {a b : Addr} {xs ds : List D} {m : Nat} {σ : L2.St} (h : Held (some (.ref a) :: σ) (.io xs :: (ds.map Sl.d ++ List.replicate m Sl.no)) b) : b = a := by
  obtain ⟨i, h1, s, e, z⟩ := h
  cases i with
  | zero =>
    cases h1
    rfl
  | succ i =>
    rw [start_hold (show (ds.map Sl.d ++ List.replicate m Sl.no)[i]? = some s from e)] at z
    cases z
theorem start_ownsI {a : Addr} {xs ds : List D} {m : Nat} {σ : L2.St} : Owned (some (.ref a) :: σ) (.io xs :: (ds.map Sl.d ++ List.replicate m Sl.no)) a := ⟨0, rfl, _, rfl, rfl⟩
variable {P : Program} {w : World} {base : Heap} {x qual : Str} {st : Stmt} {f : Addr} {fd : FuncData} {N ps : List Str} {k np : Nat} {body : DenS}
/-- a def whose parameters are data -/
theorem fnP (F : Fun K x qual st f fd) (S : FnScope N ps (defScope st)) (hp : ps.length = np) (hn : np ≤ N.length)
    (hb : ∀ (cdv : Value) (A : Around) (outer : List PySem.Env) (s : Shared) (H : Hp) (E : XK), Room k (A.deeper (PyProof.Rows.envOfC qual (defScope st) s.heap.objs.size f cdv)) → A.guards = some [] →
      DSs (cxOf (L2.CX P w) P w K mg base N qual (defScope st) f cdv A outer s H E) (fun cls d _ H => E cls d H) (defBody st) body) : FnG P w K mg base (k + 1) f fd ps (spP K mg (runP np N.length body)) := by
  have hlen : ∀ (ds : List D), runP np N.length body ds ≠ .stuck → ds.length = np := fun ds h => by
    unfold runP at h
    split at h
    · assumption
    · exact (h rfl).elim
  refine FnG.of F S (fun vs H Q E h => ?_) fun cdv A outer s H vs Q E hr hgd h => ?_
  · obtain ⟨G, ds, sm, r, h⟩ := h
    rw [hp, ← r.length]
    exact hlen ds fun z => by rw [z] at h; exact h
  · obtain ⟨G, ds, sm, r, h⟩ := h
    have hl : ds.length = np := hlen ds fun z => by rw [z] at h; exact h
    refine ⟨_, hb cdv A outer s H E hr hgd, 0, G, ds.map Sl.d ++ List.replicate (N.length - np) Sl.no, ?_, ?_⟩
    · have e : L2.start N vs = vs.map some ++ List.replicate (N.length - np) none := by
        unfold L2.start
        rw [← r.length, hl]
      rw [e]
      exact real_start sm r _
    · unfold runP at h
      rw [if_pos hl] at h
      have mv : ∀ {O' : Ow} {G' H' : Hp}, Mov (ow (L2.start N vs) (ds.map Sl.d ++ List.replicate (N.length - np) Sl.no)) O' G H G' H' → Mov O0 O0 G H G' H' := fun m =>
        ⟨m.gg, fun a o h _ => m.keep a o h fun z => start_held z.held, fun a o h g _ => m.new a o h g fun z => start_held z.held, fun _ z => z.elim, fun _ z => z.elim, fun _ _ _ z => z.elim, m.live⟩
      cases q : body (ds.map Sl.d ++ List.replicate (N.length - np) Sl.no) with
      | next e =>
        rw [q] at h
        exact fun σ' G' H' m re => h .non G' H' (mv m) re.sub .non
      | ret r e =>
        rw [q] at h
        cases r with
        | d x => exact fun σ' v G' H' m re rl => h v G' H' (mv m) re.sub rl
        | l xs =>
          exact fun σ' v G' H' m re rl => h v G' H' (mv m) re.sub (by
            obtain ⟨a, e1, c, _, y⟩ := rl
            exact ⟨a, e1, c, y.elim id fun z => (start_held z.held).elim⟩)
        | _ => exact h.elim
      | err x e =>
        rw [q] at h
        exact fun cls d σ' G' H' m re ex => h cls d G' H' (mv m) re.sub ex
      | brk e => rw [q] at h; exact h.elim
      | cont e => rw [q] at h; exact h.elim
      | stuck => rw [q] at h; exact h.elim
/-- a def whose first parameter is a list of the caller's own -/
theorem fnI (F : Fun K x qual st f fd) (S : FnScope N ps (defScope st)) (hp : ps.length = np + 1) (hn : np + 1 ≤ N.length)
    (hb : ∀ (cdv : Value) (A : Around) (outer : List PySem.Env) (s : Shared) (H : Hp) (E : XK), Room k (A.deeper (PyProof.Rows.envOfC qual (defScope st) s.heap.objs.size f cdv)) → A.guards = some [] →
      DSs (cxOf (L2.CX P w) P w K mg base N qual (defScope st) f cdv A outer s H E) (fun cls d _ H => E cls d H) (defBody st) body) : FnG P w K mg base (k + 1) f fd ps (spI K mg (runI np N.length body)) := by
  have hlen : ∀ (xs ds : List D), runI np N.length body xs ds ≠ .stuck → ds.length = np := fun xs ds h => by
    unfold runI at h
    split at h
    · assumption
    · exact (h rfl).elim
  refine FnG.of F S (fun vs H Q E h => ?_) fun cdv A outer s H vs Q E hr hgd h => ?_
  · obtain ⟨G, a, xs, vs', ds, rfl, sm, c, r, h⟩ := h
    rw [hp, List.length_cons, ← r.length]
    exact congrArg (· + 1) (hlen xs ds fun z => by rw [z] at h; exact h)
  · obtain ⟨G, a, xs, vs', ds, rfl, sm, c, r, h⟩ := h
    have hl : ds.length = np := hlen xs ds fun z => by rw [z] at h; exact h
    have e0 : L2.start N (.ref a :: vs') = some (.ref a) :: (vs'.map some ++ List.replicate (N.length - (np + 1)) none) := by
      unfold L2.start
      rw [List.length_cons, ← r.length, hl]
      rfl
    refine ⟨_, hb cdv A outer s H E hr hgd, a, G, .io xs :: (ds.map Sl.d ++ List.replicate (N.length - (np + 1)) Sl.no), ?_, ?_⟩
    · rw [e0]
      exact real_startI sm c r _
    · rw [e0]
      unfold runI at h
      rw [if_pos hl] at h
      have mv : ∀ {O' : Ow} {G' H' : Hp}, Mov (ow (some (.ref a) :: (vs'.map some ++ List.replicate (N.length - (np + 1)) none)) (.io xs :: (ds.map Sl.d ++ List.replicate (N.length - (np + 1)) Sl.no))) O' G H G' H' → Mov (O1 a) (O1 a) G H G' H' := fun m =>
        ⟨m.gg, fun b o h n => m.keep b o h fun z => n (start_heldI z.held), fun b o h g n => m.new b o h g fun z => n (start_heldI z.held), fun _ z => .inr z, fun _ z => .inr z, fun _ _ _ z => z.elim, m.live⟩
      have cl : ∀ {σ' : L2.St} {e : Ro} {ys : List D} {G' H' : Hp}, Real K mg a G' H' σ' e → io0 e = some ys → Cell K mg G' H' a ys ∧ Held σ' e a := fun {σ' e ys G' H'} re q => by
        unfold io0 at q
        split at q
        · rename_i zs e1
          cases q
          obtain ⟨h1, h2⟩ := re.ok 0 _ e1
          exact ⟨h2, 0, h1, _, e1, rfl⟩
        · cases q
      cases q : body (.io xs :: (ds.map Sl.d ++ List.replicate (N.length - (np + 1)) Sl.no)) with
      | next e =>
        rw [q] at h
        cases hy : io0 e with
        | some ys =>
          simp only [hy] at h
          exact fun σ' G' H' m re => h .non G' H' (mv m) re.sub (cl re hy).1 (show Rep K mg G' .non .non from .non)
        | none =>
          simp only [hy] at h
      | ret r e =>
        rw [q] at h
        cases r with
        | d x =>
          cases hy : io0 e with
          | some ys =>
            simp only [hy] at h
            exact fun σ' v G' H' m re rl => h v G' H' (mv m) re.sub (cl re hy).1 rl
          | none =>
            simp only [hy] at h
        | l zs =>
          cases hy : io0 e with
          | some ys =>
            simp only [hy] at h
            intro σ' v G' H' m re rl
            obtain ⟨b, e1, c1, n1, y⟩ := rl
            have ne : b ≠ a := fun z => n1 (z ▸ (cl re hy).2)
            exact h v G' H' (mv m) re.sub (cl re hy).1 ⟨b, e1, c1, y.elim id fun z => (ne (start_heldI z.held)).elim⟩
          | none =>
            simp only [hy] at h
        | _ => exact h.elim
      | err x e =>
        rw [q] at h
        cases hy : io0 e with
        | some ys =>
          simp only [hy] at h
          exact fun cls d σ' G' H' m re ex => h cls d G' H' (mv m) re.sub (cl re hy).1 ex
        | none =>
          simp only [hy] at h
      | brk e => rw [q] at h; exact h.elim
      | cont e => rw [q] at h; exact h.elim
      | stuck => rw [q] at h; exact h.elim
end
end RL
namespace RL
open PySem L2

/-! ### calls -/
def eCall (F : Fn) (as : DenA) : DenE := fun env => (as env).bind fun rs e => match allD rs with
  | some ds => (match F ds with
    | .ok (.d x) _ => .ok (.d x) e
    | .ok (.l xs) _ => .ok (.l xs) e
    | .err x _ => .err x e
    | _ => .stuck)
  | none => .stuck
def eCallI (F : FnI) (as : DenA) : DenE := fun env => (as env).bind fun rs e => match rs with
  | .r i :: rs' => (match ownAt e i, allD rs' with
    | some xs, some ds => (match F xs ds with
      | .ok (.d x) ys => .ok (.d x) (setOwn e i ys)
      | .ok (.l zs) ys => .ok (.l zs) (setOwn e i ys)
      | .err x ys => .err x (setOwn e i ys)
      | _ => .stuck)
    | _, _ => .stuck)
  | _ => .stuck

/-! ### targets -/
abbrev Tgt := D → Ro → Option Ro
def tgN (i : Nat) : Tgt := fun d e => if isIo e i then none else some (e.set i (.d d))
def tgs : List Tgt → List D → Ro → Option Ro
  | [], [], e => some e
  | t :: ts, d :: ds, e => match t d e with
    | some e1 => tgs ts ds e1
    | none => none
  | _, _, _ => none
def tgT (ts : List Tgt) : Tgt := fun d e => match d with
  | .tup ds => tgs ts ds e
  | _ => none
def sAsg (t : Tgt) (a : DenE) : DenS := fun env => (a env).toS fun r e => match r with
  | .d x => (match t x e with
    | some e1 => .next e1
    | none => .stuck)
  | _ => .stuck
/-- a, b = x, y: one of them data at least -/
def sPar (i j : Nat) (as : DenA) : DenS := fun env => (as env).toS fun rs e => match rs with
  | [.d x, r] => (put i (.d x) e).thn (put j r)
  | [r, .d y] => (put i r e).thn (put j (.d y))
  | _ => .stuck

/-! ### loops -/
abbrev Src := Ro → Out (Option Nat × List D)
def forD (t : Tgt) (f : DenS) : List D → DenS
  | [], e => .next e
  | d :: ds, e => match t d e with
    | none => .stuck
    | some e1 => match f e1 with
      | .next e2 => forD t f ds e2
      | .cont e2 => forD t f ds e2
      | .brk e2 => .next e2
      | o => o
def lend (l : Option Nat) (e : Ro) : Ro := match l with
  | none => e
  | some i => match e[i]? with
    | some (.l xs) => e.set i (.b xs)
    | some (.io xs) => e.set i (.b xs)
    | _ => e
/-- the list comes back to where it was lent from (e0) -/
def back (l : Option Nat) (e0 e : Ro) : Ro := match l with
  | none => e
  | some i => match e0[i]? with
    | some (.l xs) => e.set i (.l xs)
    | some (.io xs) => e.set i (.io xs)
    | _ => e
def FO.map (g : Ro → Ro) : FO → FO
  | .next e => .next (g e)
  | .ret r e => .ret r (g e)
  | .brk e => .brk (g e)
  | .cont e => .cont (g e)
  | .err x e => .err x (g e)
  | .stuck => .stuck
def sFor (src : Src) (t : Tgt) (f : DenS) : DenS := fun env => (src env).toS fun l e => (forD t f l.2 (lend l.1 e)).map (back l.1 e)
def whileD (c : DenT) (f : DenS) : Nat → DenS
  | 0, _ => .stuck
  | n + 1, e => (c e).toS fun b e1 => if b then (match f e1 with
    | .next e2 => whileD c f n e2
    | .cont e2 => whileD c f n e2
    | .brk e2 => .next e2
    | o => o) else .next e1
@[irreducible] def big : Nat := 2 ^ 100000
def sWhile (c : DenT) (f : DenS) : DenS := whileD c f big

section
variable {K : PySem.W.Frag} {mg : Str → Option Value} {W : WX} {A0 : Addr} {G H G1 H1 : Hp} {σ σ1 : L2.St} {env env1 : Ro}
variable {X : Cx} {a b c e : Expr} {es : List Expr} {fa fb fi : DenE} {fs : DenA} {tc : DenT} {f g : DenS} {st : Stmt} {rest p q : List Stmt} {pos : Pos}
/-! #### calls -/
theorem pe_callG {k : Nat} {fn : Addr} {fd : FuncData} {ps : List Str} {sp : Sp} {x : Str} {px : Pos} {t : TA} (F : FnG X.prog X.w X.K X.mg X.base k fn fd ps sp) (hr : Room k X.A) (hgd : X.A.guards = some []) (tk : Takes X W) (hm : X.mg x = some (.ref fn)) (hk : PySem.W.keepIn X.K (.ref fn) = true) (hb : Binds X.K fd ps [])
    (hg : Gl X x) (ha : PA X (e :: es) t) (hdb : (x == ("__debug__" : Str)) = false := by decide) (he : starEach (e :: es) X.env = (false, eval e X.env) :: starEach es X.env := by rfl) (hpl : (backTo pos (starEach es X.env)).any (·.1) = false := by rfl) :
    PE X (.Call (.Name x px) (e :: es) [] pos) (tCallS sp (WE W) t) := by
  constructor
  intro pins s σ H Q I h
  refine wpAny_Call_Name_kw (ld_glob I hg hm (PySem.W.callWith_K (h₀ := X.base) I.ok.mod.kin hk (thn (ha.run pos pins s σ H _ I h) fun us s1 ⟨vs, H1, I1, r, q⟩ => ⟨I1.kIn, ?_⟩) he hpl) hdb)
  have hl : us.length = ps.length := by rw [← r.length]; exact F.len _ _ _ _ q
  have b := hb s1 us I1.kIn (by rw [List.append_nil]; exact hl)
  rw [List.append_nil] at b
  refine wpAny_call (codeAny_mono (F.run X.A X.stack s1 H1 ⟨us, []⟩ us vs Q _ hr hgd I1.env0 b r q) fun r s' hq => ?_)
  match r, hq with
  | .error u, hq => exact passAt tk σ pins H1 s1 u s' I1 hq
  | .ok (.ret u), hq => exact I1.after hq
theorem Mov.call (m : Mov O0 O0 G H G1 H1) : Mov (ow σ env) (ow σ env) G H G1 H1 :=
  ⟨m.gg, fun a o h _ => m.keep a o h id, fun a o h g _ => m.new a o h g id, fun _ h => .inr h, fun _ h => .inr h, fun _ _ _ h => h, m.live⟩
theorem Real.call (re : Real K mg A0 G H σ env) (m : Mov O0 O0 G H G1 H1) (s : Same G1 H1) : Real K mg A0 G1 H1 σ env :=
  re.keep m.gg s fun a h => let ⟨g, u, hu⟩ := re.there h; ⟨m.new a u hu g id, fun o ho => m.keep a o ho id⟩
theorem de_call {F : Fn} {x : Str} {px : Pos} (h : ∀ {t : TA}, PA X (e :: es) t → PE X (.Call (.Name x px) (e :: es) [] pos) (tCallS (spP X.K X.mg F) (WE W) t)) (hs : DN X W (e :: es) fs) : DE X W (.Call (.Name x px) (e :: es) [] pos) (eCall F fs) :=
  PE.wk (h hs) fun σ H Q ⟨A0, G, env, re, po⟩ => by
    refine tG.mono (Post.args stabV re po) fun vs H1 ⟨rs, env1, G1, re1, rp1, po1⟩ => ?_
    cases q : allD rs with
    | none => rw [q] at po1; exact po1.elim
    | some ds =>
      rw [q] at po1
      refine ⟨G1, ds, re1.sub, allD_ok rp1 q, ?_⟩
      cases q2 : F ds with
      | stuck => simp only [q2] at po1; exact po1.elim
      | err y io =>
        simp only [q2] at po1
        exact fun cls d G' H' m s ex => po1 cls d G' H' m.call (re1.call m s) ex
      | ok r io =>
        cases r with
        | d y =>
          simp only [q2] at po1
          exact fun v G' H' m s rl => po1 v G' H' m.call (re1.call m s) rl
        | l xs =>
          simp only [q2] at po1
          exact fun v G' H' m s ⟨b, e1, c1, n1⟩ => po1 v G' H' m.call (re1.call m s) ⟨b, e1, c1, re1.notHeld n1, .inl n1⟩
        | _ => simp only [q2] at po1; exact po1.elim
theorem de_callI {F : FnI} {x : Str} {px : Pos} (h : ∀ {t : TA}, PA X (e :: es) t → PE X (.Call (.Name x px) (e :: es) [] pos) (tCallS (spI X.K X.mg F) (WE W) t)) (hs : DN X W (e :: es) fs) : DE X W (.Call (.Name x px) (e :: es) [] pos) (eCallI F fs) :=
  PE.wk (h hs) fun σ H Q ⟨A0, G, env, re, po⟩ => by
    refine tG.mono (Post.args stabV re po) fun vs H1 ⟨rs, env1, G1, re1, rp1, po1⟩ => ?_
    split at po1
    · rename_i i rs'
      cases vs with
      | nil => exact rp1.elim
      | cons v vs' =>
        obtain ⟨⟨a, rfl, hs'⟩, rp2⟩ := rp1
        cases q1 : ownAt env1 i with
        | none => simp only [q1] at po1; exact po1.elim
        | some xs =>
          cases q2 : allD rs' with
          | none => simp only [q1, q2] at po1; exact po1.elim
          | some ds =>
            simp only [q1, q2] at po1
            obtain ⟨b, o, c⟩ := ownAt_owns re1 q1
            have eb : b = a := by
              have z := o.1.symm.trans hs'
              cases z
              rfl
            subst eb
            refine ⟨G1, b, xs, vs', ds, rfl, re1.sub, c, allD_ok rp2 q2, ?_⟩
            have mv : ∀ {G' H' : Hp} {ys : List D}, Mov (O1 b) (O1 b) G1 H1 G' H' → Mov (ow σ env1) (ow σ (setOwn env1 i ys)) G1 H1 G' H' := fun m =>
              Mov.mut re1 o m.gg (fun c u h n => m.keep c u h n) (fun c u h g n => m.new c u h g n) m.live
            have rm : ∀ {G' H' : Hp} {ys : List D}, Mov (O1 b) (O1 b) G1 H1 G' H' → Same G' H' → Cell X.K X.mg G' H' b ys → Real X.K X.mg A0 G' H' σ (setOwn env1 i ys) := fun m s c =>
              re1.mut o m.gg s (fun c u h n => m.keep c u h n) (fun c u h g n => m.new c u h g n) c
            cases q3 : F xs ds with
            | stuck => simp only [q3] at po1; exact po1.elim
            | err y io =>
              simp only [q3] at po1
              exact fun cls d G' H' m s c ex => po1 cls d G' H' (mv m) (rm m s c) ex
            | ok r io =>
              cases r with
              | d y =>
                simp only [q3] at po1
                exact fun v G' H' m s c rl => po1 v G' H' (mv m) (rm m s c) rl
              | l zs =>
                simp only [q3] at po1
                exact fun v G' H' m s c ⟨b2, e1, c1, n1⟩ => po1 v G' H' (mv m) (rm m s c) ⟨b2, e1, c1, fun ⟨j, hj⟩ => re1.notHeld n1 ⟨j, hj.setOwn o⟩, .inl n1⟩
              | _ => simp only [q3] at po1; exact po1.elim
    · exact po1.elim

/-! #### targets -/
/-- σ' is σ but for the slots L -/
def Diff (L : List Nat) (σ σ' : L2.St) : Prop := σ'.length = σ.length ∧ ∀ i, i ∉ L → σ'[i]? = σ[i]?
theorem Diff.refl (L : List Nat) (σ : L2.St) : Diff L σ σ := ⟨rfl, fun _ _ => rfl⟩
theorem Diff.trans {L M : List Nat} {σ σ1 σ2 : L2.St} (a : Diff L σ σ1) (b : Diff M σ1 σ2) : Diff (L ++ M) σ σ2 :=
  ⟨b.1.trans a.1, fun i h => (b.2 i fun z => h (List.mem_append_right _ z)).trans (a.2 i fun z => h (List.mem_append_left _ z))⟩
def gD (K : PySem.W.Frag) (mg : Str → Option Value) (L : List Nat) (t : Tgt) : TG := fun v σ H Q => ∃ A0 G env d e', Real K mg A0 G H σ env ∧ Rep K mg G d v ∧ t d env = some e' ∧ ∀ σ', Diff L σ σ' → Mov (ow σ env) (ow σ' e') G H G H → Real K mg A0 G H σ' e' → Q σ' H
def gDs (K : PySem.W.Frag) (mg : Str → Option Value) (L : List Nat) (ts : List Tgt) : TGs := fun vs σ H Q => ∃ A0 G env ds e', Real K mg A0 G H σ env ∧ RepL K mg G ds vs ∧ tgs ts ds env = some e' ∧ ∀ σ', Diff L σ σ' → Mov (ow σ env) (ow σ' e') G H G H → Real K mg A0 G H σ' e' → Q σ' H
abbrev DG (X : Cx) (e : Expr) (L : List Nat) (t : Tgt) : Prop := PG X e (gD X.K X.mg L t)
abbrev DGs (X : Cx) (es : List Expr) (L : List Nat) (ts : List Tgt) : Prop := PGs X es (gDs X.K X.mg L ts)
theorem PG.wk {t u : TG} (h : PG X e t) (w : ∀ v σ H Q, u v σ H Q → t v σ H Q) : PG X e u := ⟨fun p s σ H v uv Q I r q => h.run p s σ H v uv Q I r (w v σ H Q q)⟩
theorem PGs.wk {t u : TGs} (h : PGs X es t) (w : ∀ v σ H Q, u v σ H Q → t v σ H Q) : PGs X es u := ⟨fun p s σ H v uv Q I r q => h.run p s σ H v uv Q I r (w v σ H Q q)⟩
theorem dg_name {i : Nat} (h : PG X e (gName i)) : DG X e [i] (tgN i) := PG.wk h fun v σ H Q ⟨A0, G, env, d, e', re, rp, te, po⟩ => by
  unfold tgN at te
  split at te
  · cases te
  · rename_i hio
    cases te
    exact po _ ⟨List.length_set, fun j hj => List.getElem?_set_ne fun z => hj (by simp [z])⟩ (Mov.setD (by simpa using hio)) (re.setD rp)
theorem dgs_nil : DGs X [] [] [] := PGs.wk pgs_nil fun vs σ H Q ⟨A0, G, env, ds, e', re, rp, te, po⟩ => by
  cases ds with
  | nil =>
    cases rp
    cases te
    exact ⟨rfl, po σ (Diff.refl _ _) (Mov.refl _ _ _) re⟩
  | cons d ds => cases te
theorem dgs_cons {L M : List Nat} {t : Tgt} {ts : List Tgt} (h1 : DG X e L t) (h2 : DGs X es M ts) (hs : (assignEach (e :: es) X.env).map (·.2) = assign e X.env :: (assignEach es X.env).map (·.2) := by rfl) : DGs X (e :: es) (L ++ M) (t :: ts) :=
  PGs.wk (pgs_cons h1 h2 hs) fun vs σ H Q ⟨A0, G, env, ds, e', re, rp, te, po⟩ => by
    cases rp with
    | nil => cases te
    | @cons d v ds vs r rr =>
      unfold tgs at te
      split at te
      · rename_i e1 h1
        exact ⟨v, vs, rfl, A0, G, env, d, e1, re, r, h1, fun σ1 d1 m1 re1 => ⟨A0, G, e1, ds, e', re1, rr, te, fun σ2 d2 m2 re2 => po σ2 (d1.trans d2) (m1.trans m2) re2⟩⟩
      · cases te
theorem dg_tup {k n : Nat} {L : List Nat} {ts : List Tgt} (hc : X.calm = true) (h : DGs X es L ts) (hn : (assignEach es X.env).length = n := by rfl) (hst : (assignEach es X.env).findIdx? (·.1) = none := by rfl) (hl : ts.length = n := by rfl) : DG X (.Tuple es k pos) L (tgT ts) :=
  PG.wk (pg_tup hc h hn hst) fun v σ H Q ⟨A0, G, env, d, e', re, rp, te, po⟩ => by
    unfold tgT at te
    split at te
    · rename_i ds
      obtain ⟨a, vs, rfl, s1, r1⟩ := contT_ok (ds := ds) (r := .d (.tup ds)) re rp rfl
      have tl : ∀ (ts : List Tgt) (ds : List D) (e e' : Ro), tgs ts ds e = some e' → ds.length = ts.length := by
        intro ts
        induction ts with
        | nil =>
          intro ds e e' h
          cases ds with
          | nil => rfl
          | cons d ds => cases h
        | cons t ts ih =>
          intro ds e e' h
          cases ds with
          | nil => cases h
          | cons d ds =>
            unfold tgs at h
            split at h
            · rw [List.length_cons, List.length_cons, ih _ _ _ h]
            · cases h
      exact ⟨a, vs, rfl, s1, by rw [← r1.length, tl _ _ _ _ te, hl], A0, G, env, ds, e', re, r1, te, po⟩
    · cases te
theorem ds_asg {tg : Expr} {L : List Nat} {t : Tgt} (h : ∀ {te : TE} {g : TG}, PE X e te → PG X tg g → PS X (.Assign [tg] e pos) (tAsg te g)) (hg : DG X tg L t) (he : DE X W e fa) : DS X W (.Assign [tg] e pos) (sAsg t fa) := PS.wk (h he hg) fun D σ H ⟨A0, G, env, re, po⟩ => by
  refine tG.mono (PostS.of (Rel := relV X.K X.mg) re po) fun v H1 ⟨r, env1, G1, m1, re1, rl1, po1⟩ => ?_
  split at po1
  · rename_i x
    split at po1
    · rename_i e1 h1
      exact ⟨A0, G1, env1, x, e1, re1, RepN.of rl1, h1, fun σ' _ m re' => po1 σ' G1 H1 m re'⟩
    · exact po1.elim
  · exact po1.elim
end
end RL
namespace RL
open PySem L2
section
variable {K : PySem.W.Frag} {mg : Str → Option Value} {W : WX} {A0 : Addr} {G H G1 H1 : Hp} {σ σ1 : L2.St} {env env1 : Ro}
variable {X : Cx} {a b c e : Expr} {es : List Expr} {fa fb fi : DenE} {fs : DenA} {tc : DenT} {f g : DenS} {st : Stmt} {rest p q : List Stmt} {pos : Pos}

/-! ### a, b = x, y -/
theorem ds_par {i j : Nat} {x y : Str} {px py pt pt2 : Pos} {kt k2 : Nat} (hij : i ≠ j) (h : ∀ {ta : TA}, PA X [a, b] ta → PS X (.Assign [.Tuple [.Name x px, .Name y py] kt pt] (.Tuple [a, b] k2 pt2) pos) (tPar i j ta)) (hs : DN X W [a, b] fs) :
    DS X W (.Assign [.Tuple [.Name x px, .Name y py] kt pt] (.Tuple [a, b] k2 pt2) pos) (sPar i j fs) := PS.wk (h hs) fun D σ H ⟨A0, G, env, re, po⟩ => by
  unfold sPar at po
  refine ⟨A0, G, env, re, ?_⟩
  cases q : fs env with
  | stuck => rw [q] at po; exact po
  | err x e => rw [q] at po; exact fun cls d G' H' m' re' ex => po cls d σ G' H' m' re' ex
  | ok rs e =>
    rw [q] at po
    intro vs G' H' m re' rl
    have rl : RepSs X.K X.mg (ow σ env) (ow σ e) H σ G' H' vs rs := rl
    match vs, rs, rl with
    | [v, w], [r1, r2], ⟨h1, h2, _⟩ =>
      refine ⟨v, w, rfl, ?_⟩
      have key : ∀ {x : RL.D} {r : Sl}, RepS X.K X.mg (ow σ env) (ow σ e) H σ G' H' v (.d x) → RepS X.K X.mg (ow σ env) (ow σ e) H σ G' H' w r → PostS X.K X.mg W A0 G H σ env D ((put i (.d x) e).thn (put j r)) → D.nx ((σ.set i (some v)).set j (some w)) H' := fun {x r} hx hr po => by
        unfold put at po
        split at po
        · exact po.elim
        · rename_i hio
          have hio : isIo e i = false := by simpa using hio
          have re2 : Real X.K X.mg A0 G' H' (σ.set i (some v)) (e.set i (.d x)) := re'.setD hx
          have m2 : Mov (ow σ env) (ow (σ.set i (some v)) (e.set i (.d x))) G H G' H' := m.trans (Mov.setD hio)
          simp only [FO.thn] at po
          split at po
          · exact po.elim
          · rename_i hj
            have hj : isIo (e.set i (.d x)) j = false := by simpa using hj
            cases r with
            | d y => exact po _ G' H' (m2.trans (Mov.setD hj)) (re2.setD (show Rep X.K X.mg G' y w from hr))
            | l xs =>
              obtain ⟨a, rfl, c, no, yo⟩ := hr
              exact po _ G' H' (m2.setL re2.len yo (yo.imp id Owned.held) hj) (re2.setL c fun ⟨k, hk⟩ => no ⟨k, hk.setD⟩)
            | _ => exact po.elim
      have key2 : ∀ {y : RL.D} {r : Sl}, RepS X.K X.mg (ow σ env) (ow σ e) H σ G' H' w (.d y) → RepS X.K X.mg (ow σ env) (ow σ e) H σ G' H' v r → PostS X.K X.mg W A0 G H σ env D ((put i r e).thn (put j (.d y))) → D.nx ((σ.set i (some v)).set j (some w)) H' := fun {y r} hy hr po => by
        unfold put at po
        split at po
        · exact po.elim
        · rename_i hio
          have hio : isIo e i = false := by simpa using hio
          cases r with
          | d x =>
            simp only [FO.thn] at po
            split at po
            · exact po.elim
            · rename_i hj
              exact po _ G' H' ((m.trans (Mov.setD hio)).trans (Mov.setD (by simpa using hj))) ((re'.setD (show Rep X.K X.mg G' x v from hr)).setD hy)
          | l xs =>
            obtain ⟨a, rfl, c, no, yo⟩ := hr
            simp only [FO.thn] at po
            split at po
            · exact po.elim
            · rename_i hj
              exact po _ G' H' ((m.setL re'.len yo (yo.imp id Owned.held) hio).trans (Mov.setD (by simpa using hj))) ((re'.setL c no).setD hy)
          | _ => exact po.elim
      cases r1 with
      | d x => exact key h1 h2 po
      | l xs =>
        cases r2 with
        | d y => exact key2 h2 h1 po
        | _ => exact po.elim
      | no => exact h1.elim
      | io xs => exact h1.elim
      | b xs => exact h1.elim
      | r k =>
        cases r2 with
        | d y => exact key2 h2 h1 po
        | _ => exact po.elim
    | [], [], _ => simp only [Out.toS_ok] at po; exact po.elim
    | [v], [r], _ => 
      simp only [Out.toS_ok] at po
      cases r <;> exact po.elim
    | _ :: _ :: _ :: _, r1 :: r2 :: r3 :: rr, _ =>
      simp only [Out.toS_ok] at po
      cases r1 <;> cases r2 <;> exact po.elim
    | [_], _ :: _ :: _, h => exact h.2.elim
    | _ :: _ :: _, [_], h => exact h.2.elim
    | [_, _], _ :: _ :: _ :: _, h => exact h.2.2.elim
    | _ :: _ :: _ :: _, [_, _], h => exact h.2.2.elim

/-! ### loops -/
/-- what is walked yields these data -/
def ItOk (K : PySem.W.Frag) (mg : Str → Option Value) (A0 : Addr) (G1 H1 : Hp) (σ : L2.St) (e : Ro) (J : It) (ds : List RL.D) : Prop :=
  ∃ (Gd : Hp → Prop) (Y : Nat → Hp → V → Hp → Prop), Walk J ds.length Gd Y ∧ (∀ σ' e' G' H', Mov (ow σ e) (ow σ' e') G1 H1 G' H' → Real K mg A0 G' H' σ' e' → Gd H') ∧
    ∀ i x σ' e' G' H' H'', i < ds.length → Mov (ow σ e) (ow σ' e') G1 H1 G' H' → Real K mg A0 G' H' σ' e' → Y i H' x H'' → ∃ G'' d, ds[i]? = some d ∧ Mov (ow σ' e') (ow σ' e') G' H' G'' H'' ∧ Real K mg A0 G'' H'' σ' e' ∧ Rep K mg G'' d x
def PostI (K : PySem.W.Frag) (mg : Str → Option Value) (W : WX) (A0 : Addr) (G H : Hp) (σ : L2.St) (env : Ro) (R : It → Hp → Prop) (o : Out (Option Nat × List RL.D)) : Prop := match o with
  | .ok l e => ∀ G1 H1 J, Mov (ow σ env) (ow σ e) G H G1 H1 → Real K mg A0 G1 H1 σ e → ItOk K mg A0 G1 H1 σ (lend l.1 e) J l.2 → R J H1
  | .err x e => ∀ cls d G' H', Mov (ow σ env) (ow σ e) G H G' H' → Real K mg A0 G' H' σ e → ExIs K mg G' H' cls d x → W cls d σ H'
  | .stuck => False
def tI (K : PySem.W.Frag) (mg : Str → Option Value) (W : WX) (src : Src) : TI := fun σ H R => ∃ A0 G env, Real K mg A0 G H σ env ∧ PostI K mg W A0 G H σ env R (src env)
abbrev DI (X : Cx) (W : WX) (tg iter : Expr) (src : Src) : Prop := PI X tg iter (tI X.K X.mg W src)
theorem PI.wk {tg iter : Expr} {t u : TI} (h : PI X tg iter t) (w : ∀ σ H R, u σ H R → t σ H R) : PI X tg iter u := ⟨fun p s σ H R I q => h.run p s σ H R I (w σ H R q)⟩
theorem PI.or {tg iter : Expr} {t u : TI} (h : PI X tg iter t) (h2 : PI X tg iter u) : PI X tg iter (fun σ H R => t σ H R ∨ u σ H R) := ⟨fun p s σ H R I q => q.elim (h.run p s σ H R I) (h2.run p s σ H R I)⟩

theorem lend_none : lend none env = env := rfl
/-- lent: the state -/
theorem lend_cases (l : Option Nat) (e : Ro) : lend l e = e ∧ back l e = id ∨ ∃ i xs s, l = some i ∧ e[i]? = some s ∧ s.own = true ∧ lend l e = e.set i (.b xs) ∧ (s = .l xs ∨ s = .io xs) ∧ back l e = fun e' => e'.set i s := by
  cases l with
  | none => exact .inl ⟨rfl, rfl⟩
  | some i =>
    unfold lend back
    cases q : e[i]? with
    | none => exact .inl ⟨by simp [q], by funext e'; simp [q]⟩
    | some s =>
      cases s with
      | l xs => exact .inr ⟨i, xs, _, rfl, q, rfl, by simp [q], .inl rfl, by funext e'; simp [q]⟩
      | io xs => exact .inr ⟨i, xs, _, rfl, q, rfl, by simp [q], .inr rfl, by funext e'; simp [q]⟩
      | _ => exact .inl ⟨by simp [q], by funext e'; simp [q]⟩
theorem Holds.lend {i j : Nat} {a : Addr} {xs : List RL.D} {s : Sl} (hs : env[i]? = some s) (ho : s.own = true) (h : Holds σ (env.set i (.b xs)) j a) : Holds σ env j a := by
  obtain ⟨h1, u, h2, h3⟩ := h
  rcases get_set_cases h2 with ⟨rfl, rfl, _⟩ | ⟨ne, e⟩
  · exact ⟨h1, s, hs, Sl.hold_of ho⟩
  · exact ⟨h1, u, e, h3⟩
theorem Owns.lend {i j : Nat} {a : Addr} {xs : List RL.D} (h : Owns σ (env.set i (.b xs)) j a) : Owns σ env j a ∧ i ≠ j := by
  obtain ⟨h1, u, h2, h3⟩ := h
  rcases get_set_cases h2 with ⟨rfl, rfl, _⟩ | ⟨ne, e⟩
  · cases h3
  · exact ⟨⟨h1, u, e, h3⟩, ne⟩
theorem Real.lend (re : Real K mg A0 G H σ env) (l : Option Nat) : Real K mg A0 G H σ (lend l env) := by
  rcases lend_cases l env with ⟨e, _⟩ | ⟨i, xs, s, _, hs, ho, e, ty, _⟩
  · rw [e]
    exact re
  · rw [e]
    refine ⟨re.sub, by rw [List.length_set]; exact re.len, fun j u q => ?_, fun j k a h1 h2 => re.dj j k a (h1.lend hs ho) (h2.lend hs ho)⟩
    rcases get_set_cases q with ⟨rfl, rfl, _⟩ | ⟨ne, q'⟩
    · have z := re.ok i s hs
      rcases ty with rfl | rfl
      · exact z
      · exact ⟨A0, z.1, z.2⟩
    · exact re.ok j u q'
/-- what was lent comes back -/
theorem back_ok {l : Option Nat} (re : Real K mg A0 G H σ env) : ∀ {σ' : L2.St} {e' : Ro} {G' H' : Hp}, Mov (ow σ (RL.lend l env)) (ow σ' e') G H G' H' → Real K mg A0 G' H' σ' e' →
    Mov (ow σ env) (ow σ' (back l env e')) G H G' H' ∧ Real K mg A0 G' H' σ' (back l env e') ∧ ∀ b, Held σ' (back l env e') b → Held σ' e' b := by
  rcases lend_cases l env with ⟨e, b⟩ | ⟨i, xs, s, _, hs, ho, e, ty, b⟩
  · rw [e, b]
    exact fun m re' => ⟨m, re', fun _ h => h⟩
  · rw [e, b]
    -- the address
    obtain ⟨a, ha⟩ : ∃ a, Owns σ env i a := by
      have z := re.ok i s hs
      rcases ty with rfl | rfl
      · obtain ⟨a, e1, _⟩ := z
        exact ⟨a, e1, _, hs, rfl⟩
      · exact ⟨A0, z.1, _, hs, rfl⟩
    have hl : i < env.length := (List.getElem?_eq_some_iff.mp hs).1
    have bor0 : Bor σ (env.set i (.b xs)) i a xs := ⟨ha.1, List.getElem?_set_self hl⟩
    intro σ' e' G' H' m re'
    obtain ⟨b1, b2⟩ := m.bor i a xs bor0
    have hl' : i < e'.length := (List.getElem?_eq_some_iff.mp b2).1
    have own' : ∀ {j : Nat} {b : Addr}, Owns σ' (e'.set i s) j b → (j = i ∧ b = a) ∨ Owns σ' e' j b := fun {j b} ⟨h1, u, h2, h3⟩ => by
      rcases get_set_cases h2 with ⟨rfl, rfl, _⟩ | ⟨ne, q⟩
      · rw [b1] at h1
        cases h1
        exact .inl ⟨rfl, rfl⟩
      · exact .inr ⟨h1, u, q, h3⟩
    have hold' : ∀ {j : Nat} {b : Addr}, Holds σ' (e'.set i s) j b → Holds σ' e' j b := fun {j b} ⟨h1, u, h2, h3⟩ => by
      rcases get_set_cases h2 with ⟨rfl, rfl, _⟩ | ⟨ne, q⟩
      · exact ⟨h1, _, b2, rfl⟩
      · exact ⟨h1, u, q, h3⟩
    refine ⟨⟨m.gg, fun b u hb n => m.keep b u hb fun ⟨j, z⟩ => n ⟨j, z.lend.1⟩, fun b u hb g n => m.new b u hb g fun ⟨j, z⟩ => n ⟨j, z.lend.1⟩, fun b ⟨j, hb⟩ => ?_, fun b ⟨j, hb⟩ => ?_, fun j b ys hb => ?_, m.live⟩, ⟨re'.sub, by rw [List.length_set]; exact re'.len, fun j u q => ?_, fun j k b h1 h2 => re'.dj j k b (hold' h1) (hold' h2)⟩, fun b ⟨j, h⟩ => ⟨j, hold' h⟩⟩
    · rcases own' hb with ⟨_, rfl⟩ | z
      · exact .inr ⟨i, ha⟩
      · exact (m.own b ⟨j, z⟩).imp id fun ⟨k, z⟩ => ⟨k, z.lend.1⟩
    · exact (m.held b ⟨j, hold' hb⟩).imp id fun ⟨k, z⟩ => ⟨k, z.lend hs ho⟩
    · have ne : i ≠ j := fun z => by
        subst z
        rw [hb.2] at hs
        cases hs
        cases ho
      obtain ⟨c1, c2⟩ := m.bor j b ys ⟨hb.1, by rw [List.getElem?_set_ne ne]; exact hb.2⟩
      exact ⟨c1, by rw [List.getElem?_set_ne ne]; exact c2⟩
    · rcases get_set_cases q with ⟨rfl, rfl, _⟩ | ⟨ne, q'⟩
      · obtain ⟨a', e1, c⟩ := re'.ok i _ b2
        rw [b1] at e1
        cases e1
        rcases ty with rfl | rfl
        · exact ⟨a, b1, c⟩
        · have z := (re.ok i _ hs).1
          rw [ha.1] at z
          cases z
          exact ⟨b1, c⟩
      · exact re'.ok j u q'
/-- from what was lent, walked and given back -/
theorem PostS.lend {D : Ends} {l : Option Nat} {o : FO} (re : Real K mg A0 G H σ env) (h : PostS K mg W A0 G H σ env D (o.map (back l env))) : PostS K mg W A0 G H σ (RL.lend l env) D o := by
  have fin := fun {σ' : L2.St} {e' : Ro} {G' H' : Hp} m re' => back_ok (l := l) re (σ' := σ') (e' := e') (G' := G') (H' := H') m re'
  have ol : ∀ b, Owned σ (RL.lend l env) b → Owned σ env b := fun b => by
    rcases lend_cases l env with ⟨e, _⟩ | ⟨i, xs, s, _, hs, ho, e, ty, _⟩
    · rw [e]
      exact id
    · rw [e]
      exact fun ⟨j, z⟩ => ⟨j, z.lend.1⟩
  cases o with
  | next e' => exact fun σ' G' H' m re' => h σ' G' H' (fin m re').1 (fin m re').2.1
  | brk e' => exact fun σ' G' H' m re' => h σ' G' H' (fin m re').1 (fin m re').2.1
  | cont e' => exact fun σ' G' H' m re' => h σ' G' H' (fin m re').1 (fin m re').2.1
  | err x e' => exact fun cls d σ' G' H' m re' ex => h cls d σ' G' H' (fin m re').1 (fin m re').2.1 ex
  | stuck => exact h
  | ret r e' =>
    refine fun σ' v G' H' m re' rl => h σ' v G' H' (fin m re').1 (fin m re').2.1 ?_
    cases r with
    | l zs =>
      obtain ⟨b, e1, c, no, y⟩ := rl
      exact ⟨b, e1, c, fun hj => no ((fin m re').2.2 b hj), y.imp id (ol b)⟩
    | no => exact rl
    | d x => exact rl
    | io xs => exact rl
    | b xs => exact rl
    | r j => exact rl
theorem forD_ok {L : List Nat} {t : Tgt} {D : Ends} {J : It} {ds : List RL.D} (it : ItOk K mg A0 G1 H1 σ env J ds) (re : Real K mg A0 G1 H1 σ env) (h : PostS K mg W A0 G1 H1 σ env D (forD t f ds env)) :
    ∃ W' : Nat → Nat → L2.St → Hp → Prop, (∃ m, W' 0 m σ H1) ∧ ∀ i m σ H, W' i m σ H →
      (J.stop i H ∧ D.nx σ H) ∨ (J.go i H ∧ ∃ N : L2.St → Hp → Prop, (∀ σ' H', N σ' H' → ∃ m', m' < m ∧ W' (i + 1) m' σ' H') ∧ ∀ x H', J.yld i H x H' → gD K mg L t x σ H' fun σ2 H2 => tS K mg W f { D with nx := N, ct := N, bk := D.nx } σ2 H2) := by
  obtain ⟨Gd, Y, wk, hG, hY⟩ := it
  refine for_it wk (fun i σ' H' => ∃ e' G', Mov (ow σ env) (ow σ' e') G1 H1 G' H' ∧ Real K mg A0 G' H' σ' e' ∧ PostS K mg W A0 G' H' σ' e' D (forD t f (ds.drop i) e')) ⟨env, G1, Mov.refl _ _ _, re, h⟩ (fun i σ' H' _ ⟨e', G', m, re', _⟩ => hG σ' e' G' H' m re') (fun i x σ' H' H'' hi ⟨e', G', m, re', po⟩ y => ?_) fun σ' H' ⟨e', G', m, re', po⟩ => ?_
  · obtain ⟨G'', d, hd, m2, re2, rp⟩ := hY i x σ' e' G' H' H'' hi m re' y
    have hdrop : ds.drop i = d :: ds.drop (i + 1) := by
      obtain ⟨h1, h2⟩ := List.getElem?_eq_some_iff.mp hd
      rw [List.drop_eq_getElem_cons h1, h2]
    rw [hdrop] at po
    have po2 := PostS.trans po m2
    unfold forD at po2
    cases q : t d e' with
    | none => rw [q] at po2; exact po2.elim
    | some e1 =>
      rw [q] at po2
      refine ⟨A0, G'', e', d, e1, re2, rp, q, fun σ2 _ m3 re3 => ⟨A0, G'', e1, re3, ?_⟩⟩
      have po3 := PostS.trans po2 m3
      cases q2 : f e1 with
      | next e2 =>
        simp only [q2] at po3
        exact fun σ3 G3 H3 m4 re4 => ⟨e2, G3, ((m.trans m2).trans m3).trans m4, re4, PostS.trans po3 m4⟩
      | cont e2 =>
        simp only [q2] at po3
        exact fun σ3 G3 H3 m4 re4 => ⟨e2, G3, ((m.trans m2).trans m3).trans m4, re4, PostS.trans po3 m4⟩
      | brk e2 =>
        simp only [q2] at po3
        exact fun σ3 G3 H3 m4 re4 => po3 σ3 G3 H3 m4 re4
      | ret r e2 => simp only [q2] at po3; exact po3
      | err x e2 => simp only [q2] at po3; exact po3
      | stuck => simp only [q2] at po3; exact po3
  · rw [List.drop_length] at po
    exact po.nx re'
theorem ds_for {tg iter : Expr} {src : Src} {L : List Nat} {t : Tgt} {body : List Stmt} (h : ∀ {wi : TI} {g : TG} {tb : TS}, PI X tg iter wi → PG X tg g → PSs X body tb → PS X (.For tg iter body [] pos) (tFor wi g tb)) (hi : DI X W tg iter src) (hg : DG X tg L t) (hb : DSs X W body f) :
    DS X W (.For tg iter body [] pos) (sFor src t f) := PS.wk (h hi hg hb) fun D σ H ⟨A0, G, env, re, po⟩ => by
  refine ⟨A0, G, env, re, ?_⟩
  unfold sFor at po
  cases q : src env with
  | stuck => rw [q] at po; exact po
  | err x e => rw [q] at po; exact fun cls d G' H' m' re' ex => po cls d σ G' H' m' re' ex
  | ok l e =>
    rw [q] at po
    intro G2 H2 J m re2 it
    have po2 : PostS X.K X.mg W A0 G2 H2 σ e D _ := PostS.trans po m
    exact forD_ok it (re2.lend l.1) (PostS.lend re2 po2)
theorem whileD_ok {D : Ends} : ∀ (m : Nat) {σ : L2.St} {H : Hp}, (∃ A0 G env, Real K mg A0 G H σ env ∧ PostS K mg W A0 G H σ env D (whileD tc f m env)) → 
    tB' K mg W tc σ H fun b H1 => if b = true then ∃ N : L2.St → Hp → Prop, (∀ σ' H', N σ' H' → ∃ m', m' < m ∧ ∃ A0 G env, Real K mg A0 G H' σ' env ∧ PostS K mg W A0 G H' σ' env D (whileD tc f m' env)) ∧ tS K mg W f { D with nx := N, ct := N, bk := D.nx } σ H1 else D.nx σ H1
  | 0, _, _, ⟨A0, G, env, re, h⟩ => h.elim
  | m + 1, σ, H, ⟨A0, G, env, re, h⟩ => by
    unfold whileD at h
    refine tG.mono (PostS.of (Rel := relB) re h) fun b H1 ⟨r, env1, G1, m1, re1, rl, po1⟩ => ?_
    have rl : b = r := rl
    subst rl
    cases b with
    | false => exact po1.nx re1
    | true =>
      rw [if_pos rfl]
      refine ⟨fun σ' H' => ∃ A0 G env, Real K mg A0 G H' σ' env ∧ PostS K mg W A0 G H' σ' env D (whileD tc f m env), fun σ' H' hh => ⟨m, Nat.lt_succ_self m, hh⟩, A0, G1, env1, re1, ?_⟩
      simp only [if_true] at po1
      cases q2 : f env1 with
      | next e2 =>
        simp only [q2] at po1
        exact fun σ3 G3 H3 m4 re4 => ⟨A0, G3, e2, re4, PostS.trans po1 m4⟩
      | cont e2 =>
        simp only [q2] at po1
        exact fun σ3 G3 H3 m4 re4 => ⟨A0, G3, e2, re4, PostS.trans po1 m4⟩
      | brk e2 =>
        simp only [q2] at po1
        exact fun σ3 G3 H3 m4 re4 => po1 σ3 G3 H3 m4 re4
      | ret r e2 => simp only [q2] at po1; exact po1
      | err x e2 => simp only [q2] at po1; exact po1
      | stuck => simp only [q2] at po1; exact po1
theorem ds_while {body : List Stmt} (h : ∀ {tt : TT} {tb : TS}, PT X c tt → PSs X body tb → PS X (.While c body [] pos) (tWhile tt tb)) (hc : DT X W c tc) (hb : DSs X W body f) : DS X W (.While c body [] pos) (sWhile tc f) :=
  PS.wk (h hc hb) fun D σ H ⟨A0, G, env, re, po⟩ => ⟨fun m σ H => ∃ A0 G env, Real X.K X.mg A0 G H σ env ∧ PostS X.K X.mg W A0 G H σ env D (whileD tc f m env), ⟨big, A0, G, env, re, po⟩, fun m σ H hh => whileD_ok m hh⟩
end
end RL
namespace RL
open PySem L2

/-! ### what is walked -/
/-- what one evaluates to and walks, with its owner -/
def srcOf (r : Sl) (e : Ro) : Option (Option Nat × List D) := match r with
  | .r i => (match e[i]? with
    | some (.l xs) => some (some i, xs)
    | some (.io xs) => some (some i, xs)
    | some (.b xs) => some (none, xs)
    | _ => none)
  | .l xs => some (none, xs)
  | .d (.lst xs) => some (none, xs)
  | .d (.fls xs) => some (none, xs)
  | _ => none
def chars (z : Str) : List D := z.cps.toList.map fun c => .str ⟨#[c]⟩
def srcLk (r : Sl) (e : Ro) : Out (Option Nat × List D) := match r with
  | .d (.tup xs) => .ok (none, xs) e
  | .d (.str z) => .ok (none, chars z) e
  | r => (match srcOf r e with
    | some l => .ok l e
    | none => .stuck)
def srcL (a : DenE) : Src := fun env => (a env).bind srcLk
def lim62 (i : Int) : Bool := decide (-4611686018427387904 ≤ i) && decide (i < 4611686018427387904)
def rng (lo : Int) (n : Nat) : List D := (List.range n).map fun k => .int (lo + (k : Nat))
def rngD (lo : Int) (n : Nat) : List D := (List.range n).map fun k => .int (lo + (k : Nat) * (-1))
def srcR1 (as : DenA) : Src := fun env => (as env).bind fun rs e => match rs with
  | [.d (.int j)] => if lim62 j then .ok (none, rng 0 j.toNat) e else .stuck
  | _ => .stuck
def srcR2 (as : DenA) : Src := fun env => (as env).bind fun rs e => match rs with
  | [.d (.int i), .d (.int j)] => if lim62 i && lim62 j then .ok (none, rng i (j - i).toNat) e else .stuck
  | _ => .stuck
/-- range(i, j, -1) -/
def srcR3 (as : DenA) : Src := fun env => (as env).bind fun rs e => match rs with
  | [.d (.int i), .d (.int j), .d (.int c)] => if lim62 i && lim62 j && decide (c = -1) then .ok (none, rngD i (i - j).toNat) e else .stuck
  | _ => .stuck
def pairsI (xs : List D) : List D := xs.zipIdx.map fun p => .tup [.int (p.2 : Nat), p.1]
/-- enumerate of a list -/
def srcE (a : DenA) : Src := fun env => (a env).bind fun rs e => match rs with
  | [r] => (match srcOf r e with
    | some (l, xs) => .ok (l, pairsI xs) e
    | none => .stuck)
  | _ => .stuck
def pairs2 (xs ys : List D) : List D := List.zipWith (fun x y => .tup [x, y]) xs ys
/-- zip of two lists, of two tuples (data) -/
def srcZ (a : DenA) : Src := fun env => (a env).bind fun rs e => match rs with
  | [.d (.tup xs), .d (.tup ys)] => .ok (none, pairs2 xs ys) e
  | [.d (.lst xs), .d (.lst ys)] => .ok (none, pairs2 xs ys) e
  | [.l xs, .d (.lst ys)] => .ok (none, pairs2 xs ys) e
  | [.d (.lst xs), .l ys] => .ok (none, pairs2 xs ys) e
  | _ => .stuck

section
variable {K : PySem.W.Frag} {mg : Str → Option Value} {W : WX} {A0 : Addr} {G H G1 H1 : Hp} {σ σ1 : L2.St} {env env1 : Ro}
variable {X : Cx} {a b c e tg : Expr} {es : List Expr} {fa fb fi : DenE} {fs : DenA} {tc : DenT} {f g : DenS} {st : Stmt} {rest p q : List Stmt} {pos : Pos}
theorem RepL.getV : ∀ {ds : List D} {vs : List V} {i : Nat} {v : V}, RepL K mg G ds vs → vs[i]? = some v → ∃ d, ds[i]? = some d ∧ Rep K mg G d v
  | _, _, _, _, .nil, e => by simp at e
  | _, _, 0, _, .cons h _, e => by
    cases e
    exact ⟨_, rfl, h⟩
  | _, _, i + 1, _, .cons _ r, e => RepL.getV (i := i) r (by simpa using e)
/-- a list stays while it is walked -/
def Stays (K : PySem.W.Frag) (mg : Str → Option Value) (A0 : Addr) (G1 H1 : Hp) (σ : L2.St) (e : Ro) (P : Hp → Prop) : Prop := ∀ σ' e' G' H', Mov (ow σ e) (ow σ' e') G1 H1 G' H' → Real K mg A0 G' H' σ' e' → P H'
theorem itok_of {J : It} {ds : List D} {vs : List V} {P : Hp → Prop} (wk : Walk J vs.length P (YAt vs)) (s : Stays K mg A0 G H σ env P) (r : RepL K mg G ds vs) : ItOk K mg A0 G H σ env J ds := by
  refine ⟨P, YAt vs, by rw [r.length]; exact wk, s, fun i x σ' e' G' H' H'' hi m re y => ?_⟩
  obtain ⟨rfl, y⟩ := y
  obtain ⟨d, hd, rd⟩ := r.getV y
  exact ⟨G', d, hd, Mov.refl _ _ _, re, rd.mono m.gg⟩
/-- a list that is walked -/
theorem srcOf_ok {v : V} {r : Sl} {l : Option Nat × List D} (re : Real K mg A0 G H σ env) (h : RepN K mg σ env G H v r) (e : srcOf r env = some l) :
    ∃ a vs, v = .ref a ∧ RepL K mg G l.2 vs ∧ SqL K H a vs ∧ Stays K mg A0 G H σ (lend l.1 env) (fun H' => SqL K H' a vs) := by
  have rep : ∀ {xs : List D} {i : Nat} {a : Addr} {s : Sl}, σ[i]? = some (some (.ref a)) → env[i]? = some s → (s = .l xs ∨ s = .io xs ∨ s = .b xs) → ∃ vs, H a = some (.lst vs) ∧ RepL K mg G xs vs := fun {xs i a s} h1 h2 h3 => by
    have hh : s.hold = true := by rcases h3 with rfl | rfl | rfl <;> rfl
    obtain ⟨ys, q, _, vs, hv, r⟩ := re.cell ⟨h1, s, h2, hh⟩
    have ey : ys = xs := by
      rw [h2] at q
      rcases h3 with h3 | h3 | h3 <;> subst h3 <;> rcases q with q | q | q <;> first
        | (cases q; rfl)
        | (obtain ⟨q1, _⟩ := q; cases q1; rfl)
        | (obtain ⟨q1, _⟩ := q; cases q1; done)
        | (cases q; done)
    subst ey
    exact ⟨vs, hv, r⟩
  have st : ∀ {e : Ro} {a : Addr} {vs : List V}, H a = some (.lst vs) → ¬ Owned σ e a → Stays K mg A0 G H σ e (fun H' => SqL K H' a vs) := fun h n σ' e' G' H' m _ => .inl (.inl (m.keep _ _ h n))
  cases r with
  | r i =>
    obtain ⟨a, rfl, hs⟩ := h
    unfold srcOf at e
    cases q : env[i]? with
    | none => simp only [q] at e; cases e
    | some s =>
      have lent : ∀ {xs : List D}, (s = .l xs ∨ s = .io xs) → ¬ Owned σ (lend (some i) env) a := fun {xs} hs' ⟨j, o⟩ => by
        have le : lend (some i) env = env.set i (.b xs) := by
          unfold lend
          rcases hs' with rfl | rfl <;> simp only [q]
        rw [le] at o
        obtain ⟨o1, ne⟩ := o.lend
        have hi : Holds σ env i a := ⟨hs, s, q, by rcases hs' with rfl | rfl <;> rfl⟩
        exact ne (re.dj i j a hi o1.holds)
      cases s with
      | l xs =>
        simp only [q] at e
        cases e
        obtain ⟨vs, hv, r⟩ := rep hs q (.inl rfl)
        exact ⟨a, vs, rfl, r, .inl (.inl hv), st hv (lent (.inl rfl))⟩
      | io xs =>
        simp only [q] at e
        cases e
        obtain ⟨vs, hv, r⟩ := rep hs q (.inr (.inl rfl))
        exact ⟨a, vs, rfl, r, .inl (.inl hv), st hv (lent (.inr rfl))⟩
      | b xs =>
        simp only [q] at e
        cases e
        obtain ⟨vs, hv, r⟩ := rep hs q (.inr (.inr rfl))
        refine ⟨a, vs, rfl, r, .inl (.inl hv), st hv fun ⟨j, o⟩ => ?_⟩
        have eij := re.dj i j a ⟨hs, _, q, rfl⟩ o.holds
        subst eij
        obtain ⟨_, u, h2, h3⟩ := o
        have h2 : env[i]? = some u := h2
        rw [q] at h2
        cases h2
        cases h3
      | no => simp only [q] at e; cases e
      | d x => simp only [q] at e; cases e
      | r j => simp only [q] at e; cases e
  | l xs =>
    cases e
    obtain ⟨a, rfl, ⟨_, vs, hv, r⟩, no⟩ := h
    exact ⟨a, vs, rfl, r, .inl (.inl hv), st hv fun o => no o.held⟩
  | d x =>
    cases x with
    | lst xs =>
      cases e
      cases h with
      | lst h1 h2 => exact ⟨_, _, rfl, h2, .inl (.inl (re.sub _ _ h1)), fun σ' e' G' H' m re' => .inl (.inl (re'.sub _ _ (m.gg _ _ h1)))⟩
    | fls xs =>
      cases e
      cases h with
      | fls h1 h2 => exact ⟨_, _, rfl, h2, re.sub.seq h1, fun σ' e' G' H' m re' => (m.gg.trans re'.sub).seq h1⟩
    | _ => cases e
  | no => exact h.elim
  | io xs => exact h.elim
  | b xs => exact h.elim
/-- from an expression's outcome to what is walked -/
theorem tI_of {src : Src} {R : It → Hp → Prop} {k : Sl → Ro → Out (Option Nat × List D)} (hs : ∀ env, src env = (fa env).bind k) (re : Real K mg A0 G H σ env) (hI : PostI K mg W A0 G H σ env R (src env)) : tD K mg W fa σ H fun v H1 => ∃ r e G1, fa env = .ok r e ∧ Mov (ow σ env) (ow σ e) G H G1 H1 ∧ Real K mg A0 G1 H1 σ e ∧ RepN K mg σ e G1 H1 v r := by
  refine ⟨A0, G, env, re, ?_⟩
  rw [hs] at hI
  cases q : fa env with
  | stuck => rw [q] at hI; exact hI
  | err x e => rw [q] at hI; exact hI
  | ok r e => exact fun v G1 H1 m re1 rl => ⟨r, e, G1, rfl, m, re1, RepN.of rl⟩
theorem di_L (h1 : ∀ {tl : TE}, PE X e tl → PI X tg e (iList X.K tl)) (h2 : ∀ {tl : TE}, PE X e tl → PI X tg e (iTup X.K tl)) (h3 : ∀ {tl : TE}, PE X e tl → PI X tg e (iStr tl)) (he : DE X W e fa) : DI X W tg e (srcL fa) :=
  PI.wk (PI.or (h1 he) (PI.or (h2 he) (h3 he))) fun σ H R ⟨A0, G, env, re, hI⟩ => by
    have base := tI_of (fa := fa) (k := srcLk) (fun _ => rfl) re hI
    unfold srcL at hI
    cases q : fa env with
    | stuck => rw [q] at hI; exact hI.elim
    | err x e => rw [q] at hI; exact .inl ⟨A0, G, env, re, by rw [q]; exact hI⟩
    | ok r e0 =>
      rw [q, Out.bind_ok] at hI
      have elseC : srcLk r e0 = (match srcOf r e0 with
          | some l => .ok l e0
          | none => .stuck) → iList X.K (tD X.K X.mg W fa) σ H R := fun eq => by
        rw [eq] at hI
        cases q2 : srcOf r e0 with
        | none => rw [q2] at hI; exact hI.elim
        | some l =>
          rw [q2] at hI
          refine tG.mono base fun v H1 ⟨r', e', G1, eq, m, re1, rp⟩ => ?_
          rw [q] at eq
          cases eq
          obtain ⟨a, vs, rfl, r1, s1, st⟩ := srcOf_ok re1 rp q2
          exact ⟨a, rfl, ⟨vs, s1⟩, hI G1 H1 _ m re1 (itok_of walk_list st r1)⟩
      cases r with
      | d x =>
        cases x with
        | tup xs =>
          refine .inr (.inl (tG.mono base fun v H1 ⟨r', e', G1, eq, m, re1, rp⟩ => ?_))
          rw [q] at eq
          cases eq
          have rp : Rep X.K X.mg G1 (.tup xs) v := rp
          cases rp with
          | tup h1 h2 => exact ⟨_, rfl, ⟨_, seqT re1.sub h1⟩, hI G1 H1 _ m re1 (itok_of walk_tup (fun σ' e' G' H' m' re' => seqT (m'.gg.trans re'.sub) h1) h2)⟩
        | str z =>
          refine .inr (.inr (tG.mono base fun v H1 ⟨r', e', G1, eq, m, re1, rp⟩ => ?_))
          rw [q] at eq
          cases eq
          cases rep_str rp
          refine ⟨z, rfl, hI G1 H1 _ m re1 ⟨fun _ => True, fun i H v H' => H' = H ∧ ∃ c, z.cps[i]? = some c ∧ v = .str ⟨#[c]⟩, ?_, fun _ _ _ _ _ _ => trivial, fun i x σ' e' G' H' H'' hi m' re' y => ?_⟩⟩
          · have hl : (chars z).length = z.cps.size := by simp [chars]
            show Walk (Its z) (chars z).length _ _
            rw [hl]
            exact walk_str
          · obtain ⟨rfl, c, hc, rfl⟩ := y
            refine ⟨G', .str ⟨#[c]⟩, ?_, Mov.refl _ _ _, re', .str _⟩
            show (chars z)[i]? = _
            unfold chars
            rw [List.getElem?_map, Array.getElem?_toList, hc]
            rfl
        | _ => exact .inl (elseC rfl)
      | _ => exact .inl (elseC rfl)
theorem tI_args {src : Src} {R : It → Hp → Prop} {k : List Sl → Ro → Out (Option Nat × List D)} (hs : ∀ env, src env = (fs env).bind k) (re : Real K mg A0 G H σ env) (hI : PostI K mg W A0 G H σ env R (src env)) : tN K mg W fs σ H fun vs H1 => ∃ rs e G1, fs env = .ok rs e ∧ Mov (ow σ env) (ow σ e) G H G1 H1 ∧ Real K mg A0 G1 H1 σ e ∧ RepNs K mg σ e G1 H1 vs rs := by
  refine ⟨A0, G, env, re, ?_⟩
  rw [hs] at hI
  cases q : fs env with
  | stuck => rw [q] at hI; exact hI
  | err x e => rw [q] at hI; exact hI
  | ok r e => exact fun v G1 H1 m re1 rl => ⟨r, e, G1, rfl, m, re1, rl.now⟩
theorem reps1 {vs : List V} {r : Sl} (h : RepNs K mg σ env G H vs [r]) : ∃ v, vs = [v] ∧ RepN K mg σ env G H v r := by
  match vs, h with
  | [v], h => exact ⟨v, rfl, h.1⟩
  | [], h => exact h.elim
  | _ :: _ :: _, h => exact h.2.elim
theorem reps2 {vs : List V} {r s : Sl} (h : RepNs K mg σ env G H vs [r, s]) : ∃ v w, vs = [v, w] ∧ RepN K mg σ env G H v r ∧ RepN K mg σ env G H w s := by
  match vs, h with
  | v :: vs, h =>
    obtain ⟨w, rfl, h2⟩ := reps1 h.2
    exact ⟨v, w, rfl, h.1, h2⟩
  | [], h => exact h.elim
theorem reps3 {vs : List V} {r s t : Sl} (h : RepNs K mg σ env G H vs [r, s, t]) : ∃ v w u, vs = [v, w, u] ∧ RepN K mg σ env G H v r ∧ RepN K mg σ env G H w s ∧ RepN K mg σ env G H u t := by
  match vs, h with
  | v :: vs, h =>
    obtain ⟨w, u, rfl, h2, h3⟩ := reps2 h.2
    exact ⟨v, w, u, rfl, h.1, h2, h3⟩
  | [], h => exact h.elim
theorem itok_fn {J : It} {n : Nat} {fn : Nat → V} {fd : Nat → Int} (wk : Walk J n (fun _ => True) (YFn fn)) (h : ∀ i, fn i = .int (fd i)) : ItOk K mg A0 G H σ env J ((List.range n).map fun k => .int (fd k)) := by
  refine ⟨fun _ => True, YFn fn, by rw [List.length_map, List.length_range]; exact wk, fun _ _ _ _ _ _ => trivial, fun i x σ' e' G' H' H'' hi m re y => ?_⟩
  obtain ⟨rfl, rfl⟩ := y
  rw [List.length_map, List.length_range] at hi
  refine ⟨G', .int (fd i), ?_, Mov.refl _ _ _, re, by rw [h]; exact .int _⟩
  rw [List.getElem?_map, List.getElem?_range hi]
  rfl
theorem lim62_ok {i : Int} (h : lim62 i = true) : -(2 ^ 62) ≤ i ∧ i < 2 ^ 62 := by
  unfold lim62 at h
  rw [Bool.and_eq_true, decide_eq_true_eq, decide_eq_true_eq] at h
  exact ⟨by omega, by omega⟩
theorem di_R1 {px : Pos} (h : ∀ {ta : TA}, PA X [a] ta → PI X tg (.Call (.Name "range" px) [a] [] pos) (iRng1 ta)) (hs : DN X W [a] fs) : DI X W tg (.Call (.Name "range" px) [a] [] pos) (srcR1 fs) :=
  PI.wk (h hs) fun σ H R ⟨A0, G, env, re, hI⟩ => by
    refine tG.mono (tI_args (src := srcR1 fs) (fun _ => rfl) re hI) fun vs H1 ⟨rs, e, G1, eq, m, re1, rp⟩ => ?_
    unfold srcR1 at hI
    rw [eq, Out.bind_ok] at hI
    split at hI
    · rename_i j
      obtain ⟨v, rfl, r1⟩ := reps1 rp
      cases rep_int r1
      split at hI
      · rename_i hj
        obtain ⟨b1, b2⟩ := lim62_ok hj
        exact ⟨j, rfl, b1, b2, hI G1 H1 _ m re1 (itok_fn walk_range fun i => rfl)⟩
      · exact hI.elim
    · exact hI.elim
theorem di_R2 {px : Pos} (h : ∀ {ta : TA}, PA X [a, b] ta → PI X tg (.Call (.Name "range" px) [a, b] [] pos) (iRng2 ta)) (hs : DN X W [a, b] fs) : DI X W tg (.Call (.Name "range" px) [a, b] [] pos) (srcR2 fs) :=
  PI.wk (h hs) fun σ H R ⟨A0, G, env, re, hI⟩ => by
    refine tG.mono (tI_args (src := srcR2 fs) (fun _ => rfl) re hI) fun vs H1 ⟨rs, e, G1, eq, m, re1, rp⟩ => ?_
    unfold srcR2 at hI
    rw [eq, Out.bind_ok] at hI
    split at hI
    · rename_i i j
      obtain ⟨v, w, rfl, r1, r2⟩ := reps2 rp
      cases rep_int r1
      cases rep_int r2
      split at hI
      · rename_i hj
        rw [Bool.and_eq_true] at hj
        obtain ⟨b1, b2⟩ := lim62_ok hj.1
        obtain ⟨b3, b4⟩ := lim62_ok hj.2
        exact ⟨i, j, rfl, ⟨b1, b2, b3, b4⟩, hI G1 H1 _ m re1 (itok_fn walk_range fun i => rfl)⟩
      · exact hI.elim
    · exact hI.elim
theorem di_R3 {px : Pos} (h : ∀ {ta : TA}, PA X [a, b, c] ta → PI X tg (.Call (.Name "range" px) [a, b, c] [] pos) (iRng3 ta)) (hs : DN X W [a, b, c] fs) : DI X W tg (.Call (.Name "range" px) [a, b, c] [] pos) (srcR3 fs) :=
  PI.wk (h hs) fun σ H R ⟨A0, G, env, re, hI⟩ => by
    refine tG.mono (tI_args (src := srcR3 fs) (fun _ => rfl) re hI) fun vs H1 ⟨rs, e, G1, eq, m, re1, rp⟩ => ?_
    unfold srcR3 at hI
    rw [eq, Out.bind_ok] at hI
    split at hI
    · rename_i i j k
      obtain ⟨v, w, u, rfl, r1, r2, r3⟩ := reps3 rp
      cases rep_int r1
      cases rep_int r2
      cases rep_int r3
      split at hI
      · rename_i hj
        rw [Bool.and_eq_true, Bool.and_eq_true, decide_eq_true_eq] at hj
        obtain ⟨b1, b2⟩ := lim62_ok hj.1.1
        obtain ⟨b3, b4⟩ := lim62_ok hj.1.2
        have hk := hj.2
        subst hk
        exact ⟨i, j, -1, (i - j).toNat, rfl, RgC.neg b1 b2 b3 b4, hI G1 H1 _ m re1 (itok_fn walk_rangeC fun i => rfl)⟩
      · exact hI.elim
    · exact hI.elim
/-- pairs, each new -/
theorem itok_pair {J : It} {ds : List D} {xs ys : Nat → Option V} {P : Hp → Prop} (wk : Walk J ds.length P (YPair xs ys)) (s : Stays K mg A0 G H σ env P)
    (h : ∀ i x y, i < ds.length → xs i = some x → ys i = some y → ∃ d1 d2, ds[i]? = some (.tup [d1, d2]) ∧ Rep K mg G d1 x ∧ Rep K mg G d2 y) : ItOk K mg A0 G H σ env J ds := by
  refine ⟨P, YPair xs ys, wk, s, fun i v σ' e' G' H' H'' hi m re y => ?_⟩
  obtain ⟨T, x, y, rfl, hT, rfl, hx, hy⟩ := y
  obtain ⟨d1, d2, hd, r1, r2⟩ := h i x y hi hx hy
  refine ⟨upd G' T (.tup [x, y]), _, hd, Mov.newW re hT, re.new hT, .tup (.inl (.inl upd_same)) ?_⟩
  have gg := m.gg.trans (same_upd (o := .tup [x, y]) (re.gnone hT))
  exact .cons (r1.mono gg) (.cons (r2.mono gg) .nil)
theorem pairsI_get {xs : List D} {i : Nat} {d : D} (h : xs[i]? = some d) : (pairsI xs)[i]? = some (.tup [.int (i : Nat), d]) := by
  unfold pairsI
  rw [List.getElem?_map, List.getElem?_zipIdx, h]
  simp
theorem di_E {px pt : Pos} {elts : List Expr} {kk : Nat} (h : ∀ {ta : TA}, PA X [a] ta → PI X (.Tuple elts kk pt) (.Call (.Name "enumerate" px) [a] [] pos) (iEnum X.K ta)) (hs : DN X W [a] fs) :
    DI X W (.Tuple elts kk pt) (.Call (.Name "enumerate" px) [a] [] pos) (srcE fs) := PI.wk (h hs) fun σ H R ⟨A0, G, env, re, hI⟩ => by
  refine tG.mono (tI_args (src := srcE fs) (fun _ => rfl) re hI) fun vs H1 ⟨rs, e, G1, eq, m, re1, rp⟩ => ?_
  unfold srcE at hI
  rw [eq, Out.bind_ok] at hI
  split at hI
  · rename_i r
    obtain ⟨v, rfl, r1⟩ := reps1 rp
    split at hI
    · rename_i l xs q
      obtain ⟨a, ws, rfl, rw', s1, st⟩ := srcOf_ok re1 r1 q
      refine ⟨a, ws, rfl, s1, hI G1 H1 _ m re1 (itok_pair (P := fun H => SqL X.K H a ws) (xs := fun i => some (.int (i : Nat))) (ys := fun i => ws[i]?) ?_ st fun i x y hi hx hy => ?_)⟩
      · have hl : (pairsI xs).length = ws.length := by
          rw [← rw'.length]
          simp [pairsI]
        rw [hl]
        exact walk_enum
      · obtain ⟨d, hd, rd⟩ := rw'.getV hy
        cases hx
        exact ⟨_, d, pairsI_get hd, .int _, rd⟩
    · exact hI.elim
  · exact hI.elim
theorem pairs2_get {xs ys : List D} {i : Nat} {d e : D} (h : xs[i]? = some d) (h2 : ys[i]? = some e) : (pairs2 xs ys)[i]? = some (.tup [d, e]) := by
  unfold pairs2
  rw [List.getElem?_zipWith, h, h2]
end
end RL
namespace RL
open PySem L2

/-! ### list comprehensions -/
/-- the block's own names forgotten -/
def wip (e : Ro) : List Nat → Ro
  | [] => e
  | v :: vs => (wip e vs).set v .no
/-- .. and as they were (e0) -/
def rest (e0 e : Ro) : List Nat → Ro
  | [] => e
  | v :: vs => (rest e0 e vs).set v (e0.getD v .no)
def plainSl : Sl → Bool
  | .no => true
  | .d _ => true
  | _ => false
def plainAt (e : Ro) (vs : List Nat) : Bool := vs.all fun v => plainSl (e.getD v .no)
def lcD (vs : List Nat) (t : Tgt) (tst : DenT) (elt : DenE) : List D → List D → Ro → Out Sl
  | [], acc, e => .ok (.l acc) e
  | d :: ds, acc, e => match t d e with
    | none => .stuck
    | some e1 => match tst e1 with
      | .ok true e2 => (match eFz elt e2 with
        | .ok (.d x) e3 => if acc.length < SZ then lcD vs t tst elt ds (acc ++ [x]) (wip e3 vs) else .stuck
        | _ => .stuck)
      | .ok false e2 => lcD vs t tst elt ds acc (wip e2 vs)
      | _ => .stuck
def lcEnd (vs : List Nat) (l : Option Nat) (e0 : Ro) : Out Sl → Out Sl
  | .ok r e => .ok r (back l e0 (rest (lend l e0) e vs))
  | _ => .stuck
def eLc (vs : List Nat) (src : Src) (t : Tgt) (tst : DenT) (elt : DenE) : DenE := fun env => (src env).bind fun l e =>
  if plainAt (lend l.1 e) vs then lcEnd vs l.1 e (lcD vs t tst elt l.2 [] (wip (lend l.1 e) vs)) else .stuck
def tYesD : DenT := fun e => .ok true e

section
variable {K : PySem.W.Frag} {mg : Str → Option Value} {W : WX} {A0 : Addr} {G H G1 H1 : Hp} {σ σ1 : L2.St} {env env1 : Ro}
theorem wip_out {e : Ro} {i : Nat} : ∀ {vs : List Nat}, i ∉ vs → (wip e vs)[i]? = e[i]?
  | [], _ => rfl
  | v :: vs, h => by
    unfold wip
    rw [List.getElem?_set_ne (fun z => h (by simp [z]))]
    exact wip_out fun z => h (List.mem_cons_of_mem _ z)
theorem wip_len (e : Ro) : ∀ vs : List Nat, (wip e vs).length = e.length
  | [] => rfl
  | v :: vs => by unfold wip; rw [List.length_set, wip_len e vs]
theorem wip_in {e : Ro} {i : Nat} {s : Sl} : ∀ {vs : List Nat}, i ∈ vs → (wip e vs)[i]? = some s → s = .no
  | [], h, _ => by simp at h
  | v :: vs, h, q => by
    unfold wip at q
    rcases get_set_cases q with ⟨_, e, _⟩ | ⟨ne, q'⟩
    · exact e.symm
    · rcases List.mem_cons.mp h with z | z
      · exact absurd z.symm ne
      · exact wip_in z q'
theorem rest_out {e0 e : Ro} {i : Nat} : ∀ {vs : List Nat}, i ∉ vs → (rest e0 e vs)[i]? = e[i]?
  | [], _ => rfl
  | v :: vs, h => by
    unfold rest
    rw [List.getElem?_set_ne (fun z => h (by simp [z]))]
    exact rest_out fun z => h (List.mem_cons_of_mem _ z)
theorem rest_len (e0 e : Ro) : ∀ vs : List Nat, (rest e0 e vs).length = e.length
  | [] => rfl
  | v :: vs => by unfold rest; rw [List.length_set, rest_len e0 e vs]
theorem rest_in {e0 e : Ro} {i : Nat} {s : Sl} : ∀ {vs : List Nat}, i ∈ vs → (rest e0 e vs)[i]? = some s → s = e0.getD i .no
  | [], h, _ => by simp at h
  | v :: vs, h, q => by
    unfold rest at q
    rcases get_set_cases q with ⟨e, e2, _⟩ | ⟨ne, q'⟩
    · subst e
      exact e2.symm
    · rcases List.mem_cons.mp h with z | z
      · exact absurd z.symm ne
      · exact rest_in z q'
theorem wipe_in {σ : L2.St} {i : Nat} {u : Option V} : ∀ {vs : List Nat}, i ∈ vs → (wipe σ vs)[i]? = some u → u = none
  | [], h, _ => by simp at h
  | v :: vs, h, q => by
    unfold wipe at q
    rcases get_set_cases q with ⟨_, e, _⟩ | ⟨ne, q'⟩
    · exact e.symm
    · rcases List.mem_cons.mp h with z | z
      · exact absurd z.symm ne
      · exact wipe_in z q'
theorem wipe_ext {σ σ' : L2.St} {vs : List Nat} (hl : σ'.length = σ.length) (h : ∀ i, i ∉ vs → σ'[i]? = σ[i]?) : wipe σ' vs = wipe σ vs := by
  apply List.ext_getElem?
  intro i
  by_cases hi : i ∈ vs
  · cases q : (wipe σ vs)[i]? with
    | none =>
      rw [List.getElem?_eq_none_iff] at q ⊢
      rw [wipe_length] at q ⊢
      omega
    | some u =>
      have hu := wipe_in hi q
      subst hu
      have hlt : i < (wipe σ' vs).length := by
        have z := (List.getElem?_eq_some_iff.mp q).1
        rw [wipe_length] at z ⊢
        omega
      have q2 := List.getElem?_eq_getElem hlt
      rw [q2, wipe_in hi q2]
  · rw [wipe_out hi, wipe_out hi, h i hi]
theorem wipe_twice (σ : L2.St) (vs : List Nat) : wipe (wipe σ vs) vs = wipe σ vs := wipe_ext (wipe_length σ vs) fun i hi => wipe_out hi
/-- the names forgotten -/
theorem Holds.wip {i : Nat} {a : Addr} {vs : List Nat} (h : Holds (wipe σ vs) (wip env vs) i a) : Holds σ env i a ∧ i ∉ vs := by
  obtain ⟨h1, s, h2, h3⟩ := h
  have hi : i ∉ vs := fun z => by
    have e := wip_in z h2
    subst e
    cases h3
  exact ⟨⟨by rw [← wipe_out hi]; exact h1, s, by rw [← wip_out hi]; exact h2, h3⟩, hi⟩
theorem Real.wip (re : Real K mg A0 G H σ env) (vs : List Nat) : Real K mg A0 G H (wipe σ vs) (wip env vs) where
  sub := re.sub
  len := by rw [wip_len, wipe_length]; exact re.len
  ok := fun i s e => by
    by_cases hi : i ∈ vs
    · have q := wip_in hi e
      subst q
      trivial
    · rw [wip_out hi] at e
      rw [wipe_out hi]
      exact re.ok i s e
  dj := fun i j a h1 h2 => re.dj i j a h1.wip.1 h2.wip.1
/-- behind a turn: the names forgotten again -/
theorem wip_ok {vs : List Nat} {σw : L2.St} (hw : wipe σ1 vs = σw) (re : Real K mg A0 G H σ1 env1) : Real K mg A0 G H σw (RL.wip env1 vs) := hw ▸ re.wip vs
theorem Owned.wip {a : Addr} {vs : List Nat} (h : Owned (wipe σ vs) (wip env vs) a) : Owned σ env a := by
  obtain ⟨i, h1, s, h2, h3⟩ := h
  have hi : i ∉ vs := fun z => by
    have e := wip_in z h2
    subst e
    cases h3
  exact ⟨i, by rw [← wipe_out hi]; exact h1, s, by rw [← wip_out hi]; exact h2, h3⟩
/-- a turn of a comprehension, its own names forgotten at its end -/
theorem turn_mov {vs : List Nat} {σw σ2 : L2.St} {e' e3 : Ro} (m : Mov (ow σw e') (ow σ2 e3) G H G1 H1) (hno : ∀ (i : Nat) (s : Sl), i ∈ vs → e'[i]? = some s → s = .no) (hw : wipe σ2 vs = σw) : Mov (ow σw e') (ow σw (RL.wip e3 vs)) G H G1 H1 := by
  subst hw
  exact ⟨m.gg, m.keep, m.new, fun a h => m.own a (Owned.wip h), fun a ⟨i, h⟩ => m.held a ⟨i, h.wip.1⟩, fun i a xs h => by
    have hi : i ∉ vs := fun z => by
      have e := hno i _ z h.2
      cases e
    obtain ⟨b1, b2⟩ := m.bor i a xs h
    exact ⟨by rw [wipe_out hi]; exact b1, by rw [wip_out hi]; exact b2⟩, m.live⟩
theorem plain_at {e : Ro} {vs : List Nat} (h : plainAt e vs = true) {i : Nat} (hi : i ∈ vs) : plainSl (e.getD i .no) = true := List.all_eq_true.mp h i hi
theorem plain_own {s : Sl} (h : plainSl s = true) : s.hold = false := by
  cases s <;> first | rfl | cases h
theorem rest_ok {vs : List Nat} {e1 e2 : Ro} (re1 : Real K mg A0 G H σ e1) (pl : plainAt e1 vs = true) (m : Mov (ow (wipe σ vs) (RL.wip e1 vs)) (ow (wipe σ vs) e2) G H G1 H1) (re2 : Real K mg A0 G1 H1 (wipe σ vs) e2) :
    Mov (ow σ e1) (ow σ (RL.rest e1 e2 vs)) G H G1 H1 ∧ Real K mg A0 G1 H1 σ (RL.rest e1 e2 vs) ∧ ∀ b, Held σ (RL.rest e1 e2 vs) b → Held (wipe σ vs) e2 b := by
  have out : ∀ {i : Nat} {s : Sl}, (RL.rest e1 e2 vs)[i]? = some s → s.hold = true → i ∉ vs := fun {i s} h hs z => by
    rw [rest_in z h, plain_own (plain_at pl z)] at hs
    cases hs
  have hh : ∀ {i : Nat} {b : Addr}, Holds σ (RL.rest e1 e2 vs) i b → Holds (wipe σ vs) e2 i b := fun {i b} ⟨h1, s, h2, h3⟩ => by
    have hi := out h2 h3
    exact ⟨by rw [wipe_out hi]; exact h1, s, by rw [← rest_out hi]; exact h2, h3⟩
  refine ⟨⟨m.gg, fun a o h n => m.keep a o h fun z => n z.wip, fun a o h g n => m.new a o h g fun z => n z.wip, fun a ⟨i, h1, s, h2, h3⟩ => ?_, fun a ⟨i, h⟩ => ?_, fun i a xs h => ?_, m.live⟩, ⟨re2.sub, ?_, fun i s h => ?_, fun i j a h1 h2 => re2.dj i j a (hh h1) (hh h2)⟩, fun b ⟨i, h⟩ => ⟨i, hh h⟩⟩
  · have hi := out h2 (Sl.hold_of h3)
    exact (m.own a ⟨i, by rw [wipe_out hi]; exact h1, s, by rw [← rest_out hi]; exact h2, h3⟩).imp id Owned.wip
  · exact (m.held a ⟨i, hh h⟩).imp id fun ⟨j, z⟩ => ⟨j, z.wip.1⟩
  · have hi : i ∉ vs := fun z => by
      have p := plain_at pl z
      rw [List.getD_eq_getElem?_getD, h.2] at p
      cases p
    obtain ⟨b1, b2⟩ := m.bor i a xs ⟨by rw [wipe_out hi]; exact h.1, by rw [wip_out hi]; exact h.2⟩
    exact ⟨by rw [← wipe_out hi]; exact b1, by rw [rest_out hi]; exact b2⟩
  · rw [rest_len, re2.len, wipe_length]
  · by_cases hi : i ∈ vs
    · have e := rest_in hi h
      have p := plain_at pl hi
      rw [← e] at p
      cases s with
      | no => trivial
      | d x =>
        rw [List.getD_eq_getElem?_getD] at e
        cases q : e1[i]? with
        | none => rw [q] at e; cases e
        | some u =>
          rw [q] at e
          cases e
          obtain ⟨v, h1, r⟩ := re1.ok i _ q
          exact ⟨v, h1, r.mono m.gg⟩
      | _ => cases p
    · rw [rest_out hi] at h
      have z := re2.ok i s h
      rw [wipe_out hi] at z
      exact z
theorem wip_mov {vs : List Nat} {O' : Ow} {e1 : Ro} (pl : plainAt e1 vs = true) (m : Mov (ow (wipe σ vs) (RL.wip e1 vs)) O' G H G1 H1) : Mov (ow σ e1) O' G H G1 H1 :=
  ⟨m.gg, fun a o h n => m.keep a o h fun z => n z.wip, fun a o h g n => m.new a o h g fun z => n z.wip, fun a h => (m.own a h).imp id Owned.wip, fun a h => (m.held a h).imp id fun ⟨j, z⟩ => ⟨j, z.wip.1⟩, fun i a xs h => by
    have hi : i ∉ vs := fun z => by
      have p := plain_at pl z
      rw [List.getD_eq_getElem?_getD, h.2] at p
      cases p
    exact m.bor i a xs ⟨by rw [wipe_out hi]; exact h.1, by rw [wip_out hi]; exact h.2⟩, m.live⟩
/-- an object of nobody's is written -/
theorem Mov.touch {O O' : Ow} {a : Addr} {o u : HO} (m : Mov O O' G H G1 H1) (h : H a = none) (h1 : H1 a = some u) : Mov O O' G H G1 (upd H1 a o) :=
  ⟨m.gg, fun b w hb n => by rw [upd_ne (ne_of_none hb h)]; exact m.keep b w hb n, m.new, m.own, m.held, m.bor, fun b e => by
    by_cases z : b = a
    · subst z
      exact h
    · rw [upd_ne z] at e
      exact m.live b e⟩
theorem Real.touch {a : Addr} {o : HO} (re : Real K mg A0 G H σ env) (g : G a = none) (no : ¬ Held σ env a) : Real K mg A0 G (upd H a o) σ env :=
  re.keep (Same.refl G) (sub_upd re.sub g) fun b hb => ⟨(re.there hb).1, fun u hu => by
    have ne : b ≠ a := fun z => no (by rw [← z]; exact hb)
    rw [upd_ne ne]
    exact hu⟩
variable {X : Cx} {a b c e tg iter : Expr} {es : List Expr} {fa fb fi : DenE} {fs : DenA} {tc : DenT} {f g : DenS} {st : Stmt} {p q : List Stmt} {pos : Pos}
theorem lcD_cons {vs : List Nat} {t : Tgt} {tst : DenT} {elt : DenE} {d : D} {ds acc : List D} {e : Ro} : lcD vs t tst elt (d :: ds) acc e = (match t d e with
    | none => .stuck
    | some e1 => match tst e1 with
      | .ok true e2 => (match eFz elt e2 with
        | .ok (.d x) e3 => if acc.length < SZ then lcD vs t tst elt ds (acc ++ [x]) (RL.wip e3 vs) else .stuck
        | _ => .stuck)
      | .ok false e2 => lcD vs t tst elt ds acc (RL.wip e2 vs)
      | _ => .stuck) := rfl
abbrev W0 : WX := fun _ _ _ _ => False
/-- the turns of a comprehension -/
theorem lcD_ok {J : It} {ds : List D} {vs L : List Nat} {t : Tgt} {tst : DenT} {elt : DenE} {Q : VK} {Dn : Addr} {σ : L2.St} {e0 : Ro} (hL : ∀ i ∈ L, i ∈ vs)
    (it : ItOk K mg A0 G1 H1 σ e0 J ds) (re0 : Real K mg A0 G1 H1 σ e0) (pl : plainAt e0 vs = true) (hD : H1 Dn = none)
    (fin : ∀ acc e' G' H' accV, lcD vs t tst elt ds [] (RL.wip e0 vs) = .ok (.l acc) e' → Mov (ow (wipe σ vs) (RL.wip e0 vs)) (ow (wipe σ vs) e') G1 H1 G' H' → Real K mg A0 G' H' (wipe σ vs) e' → H' Dn = some (.lst accV) → G' Dn = none → ¬ Held (wipe σ vs) e' Dn → RepL K mg G' acc accV → Q (.ref Dn) H')
    (ok : ∃ r e', lcD vs t tst elt ds [] (RL.wip e0 vs) = .ok r e') :
    ∃ W' : Nat → Nat → Hp → Prop, (∃ m, W' 0 m (upd H1 Dn (.lst []))) ∧ ∀ i m H, W' i m H →
      (J.stop i H ∧ Q (.ref Dn) H) ∨ (J.go i H ∧ ∃ Nx : Hp → Prop, (∀ H', Nx H' → ∃ m', m' < m ∧ W' (i + 1) m' H') ∧ ∀ x H', J.yld i H x H' → gD K mg L t x (wipe σ vs) H' fun σ2 H2 => wipe σ2 vs = wipe σ vs ∧ tB' K mg W0 tst σ2 H2 fun b H3 =>
        if b = true then tD K mg W0 elt σ2 H3 fun y H4 => ∃ acc, H4 Dn = some (.lst acc) ∧ acc.length < sizeLine ∧ Nx (upd H4 Dn (.lst (acc ++ [y]))) else Nx H3) := by
  obtain ⟨Gd, Y, wk, hG, hY⟩ := it
  refine lc_it wk (fun i H' => ∃ e' G' acc accV, Mov (ow (wipe σ vs) (RL.wip e0 vs)) (ow (wipe σ vs) e') G1 H1 G' H' ∧ Real K mg A0 G' H' (wipe σ vs) e' ∧ H' Dn = some (.lst accV) ∧ G' Dn = none ∧ ¬ Held (wipe σ vs) e' Dn ∧ RepL K mg G' acc accV ∧
    (∀ (i : Nat) (s : Sl), i ∈ vs → e'[i]? = some s → s = .no) ∧ lcD vs t tst elt ds [] (RL.wip e0 vs) = lcD vs t tst elt (ds.drop i) acc e') ?_ ?_ ?_ ?_
  · have rw0 := re0.wip vs
    exact ⟨RL.wip e0 vs, G1, [], [], (Mov.refl (ow (wipe σ vs) (RL.wip e0 vs)) G1 H1).trans (Mov.newH hD), rw0.newH hD, upd_same, re0.gnone hD, rw0.notHeld hD, .nil, fun i s hi h => wip_in hi h, rfl⟩
  · rintro i H' _ ⟨e', G', acc, accV, m, re, hDn, gDn, nDn, rl, hno, eq⟩
    exact hG _ e' G' H' (wip_mov pl m) re
  · rintro i x H' H'' hi ⟨e', G', acc, accV, m, re, hDn, gDn, nDn, rl, hno, eq⟩ y
    obtain ⟨G'', d, hd, m2, re2, rp⟩ := hY i x _ e' G' H' H'' hi (wip_mov pl m) re y
    have hDn2 : H'' Dn = some (.lst accV) := m2.keep _ _ hDn fun z => nDn z.held
    have gDn2 : G'' Dn = none := m2.new _ _ hDn gDn fun z => nDn z.held
    have hdrop : ds.drop i = d :: ds.drop (i + 1) := by
      obtain ⟨h1, h2⟩ := List.getElem?_eq_some_iff.mp hd
      rw [List.drop_eq_getElem_cons h1, h2]
    rw [hdrop] at eq
    obtain ⟨rr, er, hok⟩ := ok
    rw [eq] at hok
    rw [lcD_cons (d := d)] at hok eq
    cases q : t d e' with
    | none => rw [q] at hok; cases hok
    | some e1 =>
      rw [q] at hok eq
      refine ⟨A0, G'', e', d, e1, re2, rp, q, fun σ2 df m3 re3 => ⟨?_, A0, G'', e1, re3, ?_⟩⟩
      · rw [← wipe_twice σ vs]
        exact wipe_ext df.1 fun i hi => df.2 i fun z => hi (hL i z)
      · have hw : wipe σ2 vs = wipe σ vs := by
          rw [← wipe_twice σ vs]
          exact wipe_ext df.1 fun i hi => df.2 i fun z => hi (hL i z)
        have keepD : ∀ {e : Ro} {G3 H3 : Hp}, Mov (ow σ2 e1) (ow σ2 e) G'' H'' G3 H3 → H3 Dn = some (.lst accV) ∧ G3 Dn = none ∧ ¬ Held σ2 e Dn := fun {e G3 H3} mm => by
          have n1 : ¬ Held σ2 e1 Dn := fun z => by
            rcases m3.held _ z with z | z
            · rw [hDn2] at z; cases z
            · exact nDn z
          refine ⟨mm.keep _ _ hDn2 fun z => n1 z.held, mm.new _ _ hDn2 gDn2 fun z => n1 z.held, fun z => ?_⟩
          rcases mm.held _ z with z | z
          · rw [hDn2] at z; cases z
          · exact n1 z
        have nohw : ∀ {e : Ro}, ¬ Held σ2 e Dn → ¬ Held (wipe σ vs) (RL.wip e vs) Dn := fun {e} n ⟨j, z⟩ => by
          rw [← hw] at z
          exact n ⟨j, z.wip.1⟩
        cases q2 : tst e1 with
        | stuck => simp only [q2] at hok; cases hok
        | err xx e => simp only [q2] at hok; cases hok
        | ok b e2 =>
          intro b' G3 H3 m4 re4 rb
          have rb : b' = b := rb
          subst rb
          cases b' with
          | false =>
            rw [if_neg Bool.false_ne_true]
            simp only [q2] at hok eq
            obtain ⟨k1, k2, k3⟩ := keepD m4
            exact ⟨RL.wip e2 vs, G3, acc, accV, m.trans (turn_mov ((m2.trans m3).trans m4) hno hw), wip_ok hw re4, k1, k2, nohw k3, rl.mono (m2.gg.trans m4.gg), fun i s hi h => wip_in hi h, eq⟩
          | true =>
            rw [if_pos rfl]
            simp only [q2] at hok eq
            refine ⟨A0, G3, e2, re4, ?_⟩
            obtain ⟨k1, k2, k3⟩ := keepD m4
            have hpost : Post K mg (relV K mg) W0 A0 G3 H3 σ2 e2 (fun y H4 => ∃ acc, H4 Dn = some (.lst acc) ∧ acc.length < sizeLine ∧ ∃ e' G' acc' accV, Mov (ow (wipe σ vs) (RL.wip e0 vs)) (ow (wipe σ vs) e') G1 H1 G' (upd H4 Dn (.lst (acc ++ [y]))) ∧ Real K mg A0 G' (upd H4 Dn (.lst (acc ++ [y]))) (wipe σ vs) e' ∧
                upd H4 Dn (.lst (acc ++ [y])) Dn = some (.lst accV) ∧ G' Dn = none ∧ ¬ Held (wipe σ vs) e' Dn ∧ RepL K mg G' acc' accV ∧ (∀ (i : Nat) (s : Sl), i ∈ vs → e'[i]? = some s → s = .no) ∧ lcD vs t tst elt ds [] (RL.wip e0 vs) = lcD vs t tst elt (ds.drop (i + 1)) acc' e') (eFz elt e2) := by
              cases q3 : eFz elt e2 with
              | stuck => simp only [q3] at hok; cases hok
              | err xx e => simp only [q3] at hok; cases hok
              | ok r e3 =>
                cases r with
                | d xd =>
                  simp only [q3] at hok eq
                  by_cases hz : acc.length < SZ
                  · rw [if_pos hz] at eq
                    intro yv G5 H5 m5 re5 rl5
                    have rl5 : Rep K mg G5 xd yv := rl5
                    obtain ⟨k5, k6, k7⟩ := keepD (m4.trans m5)
                    have rw5 := wip_ok hw re5
                    have no5 := nohw k7
                    refine ⟨accV, k5, SZ_lt (by rw [← rl.length]; omega), RL.wip e3 vs, G5, acc ++ [xd], accV ++ [yv], Mov.touch (m.trans (turn_mov (((m2.trans m3).trans m4).trans m5) hno hw)) hD k5, rw5.touch k6 no5, upd_same, k6, no5, ?_, fun i s hi h => wip_in hi h, eq⟩
                    exact (rl.mono ((m2.gg.trans m4.gg).trans m5.gg)).append (.cons rl5 .nil)
                  · rw [if_neg hz] at hok
                    cases hok
                | _ => simp only [q3] at hok; cases hok
            exact Post.fz hpost
  · rintro H' ⟨e', G', acc, accV, m, re, hDn, gDn, nDn, rl, hno, eq⟩
    rw [List.drop_length] at eq
    exact fin acc e' G' H' accV eq m re hDn gDn nDn rl
theorem tLc_of {src : Src} {L vs : List Nat} {t : Tgt} {tst : DenT} {elt : DenE} {Q : VK} (hL : ∀ i ∈ L, i ∈ vs) (re : Real K mg A0 G H σ env) (po : Post K mg (relV K mg) W A0 G H σ env Q (eLc vs src t tst elt env)) :
    tLc (tI K mg W src) (gD K mg L t) (tB' K mg W0 tst) (tD K mg W0 elt) vs σ H Q := by
  refine ⟨A0, G, env, re, ?_⟩
  unfold eLc at po
  cases q : src env with
  | stuck => rw [q] at po; exact po
  | err x e => rw [q] at po; exact po
  | ok l e =>
    rw [q, Out.bind_ok] at po
    intro G1 H1 J m re1 it Dn hDn
    by_cases pl : plainAt (RL.lend l.1 e) vs = true
    · rw [if_pos pl] at po
      have rel := re1.lend l.1
      refine lcD_ok hL it rel pl hDn (fun acc e' G' H' accV eq m' re' hD gD nD rl => ?_) ?_
      · rw [eq] at po
        obtain ⟨m2, re2, h2⟩ := rest_ok rel pl m' re'
        obtain ⟨m3, re3, h3⟩ := back_ok re1 m2 re2
        exact po (.ref Dn) G' H' (m.trans m3) re3 ⟨Dn, rfl, ⟨gD, accV, hD, rl⟩, fun z => nD (h2 _ (h3 _ z)), .inl (m.live _ hDn)⟩
      · cases q2 : lcD vs t tst elt l.2 [] (RL.wip (RL.lend l.1 e) vs) with
        | ok r e' => exact ⟨r, e', rfl⟩
        | err x e' => rw [q2] at po; exact po.elim
        | stuck => rw [q2] at po; exact po.elim
    · rw [if_neg pl] at po
      exact po.elim
/-- [elt for tg in iter if ..] -/
theorem de_lc {src : Src} {L vs : List Nat} {t : Tgt} {tst : DenT} {elt : DenE} {eLC : Expr} (h : PE X eLC (tLc (tI X.K X.mg W src) (gD X.K X.mg L t) (tB' X.K X.mg W0 tst) (tD X.K X.mg W0 elt) vs)) (hL : ∀ i ∈ L, i ∈ vs) : DE X W eLC (eLc vs src t tst elt) :=
  PE.wk h fun σ H Q ⟨A0, G, env, re, po⟩ => tLc_of hL re po
end
end RL
namespace RL
open PySem L2

/-! ### built-ins -/
def gLen (rs : List Sl) (e : Ro) : Out Sl := match rs with
  | [r] => (match vw e r with
    | some (.lst xs) => .ok (.d (.int xs.length)) e
    | some (.fls xs) => .ok (.d (.int xs.length)) e
    | some (.tup xs) => .ok (.d (.int xs.length)) e
    | some (.str z) => if z.length ≤ SZ then .ok (.d (.int z.length)) e else .stuck
    | _ => .stuck)
  | _ => .stuck
def gAbs (rs : List Sl) (e : Ro) : Out Sl := match rs with
  | [.d (.int i)] => .ok (.d (.int (if i < 0 then -i else i))) e
  | _ => .stuck
def gInt (rs : List Sl) (e : Ro) : Out Sl := match rs with
  | [.d (.int i)] => .ok (.d (.int i)) e
  | [.d (.bl k)] => .ok (.d (.int (if k then 1 else 0))) e
  | _ => .stuck
def gStr (rs : List Sl) (e : Ro) : Out Sl := match rs with
  | [.d (.int i)] => if i.natAbs.log2 < 1920 then .ok (.d (.str (toString i))) e else .stuck
  | _ => .stuck
def intsOf : List D → Option (List Int)
  | [] => some []
  | .int i :: ds => (intsOf ds).map (i :: ·)
  | _ :: _ => none
def boolsOf : List D → Option (List Bool)
  | [] => some []
  | .bl i :: ds => (boolsOf ds).map (i :: ·)
  | _ :: _ => none
def gSum (rs : List Sl) (e : Ro) : Out Sl := match rs with
  | [r] => (match contL e r with
    | some xs => (match intsOf xs with
      | some ns => .ok (.d (.int ns.sum)) e
      | none => .stuck)
    | none => .stuck)
  | _ => .stuck
def gBools (f : List Bool → Bool) (rs : List Sl) (e : Ro) : Out Sl := match rs with
  | [r] => (match contL e r with
    | some xs => (match boolsOf xs with
      | some ns => .ok (.d (.bl (f ns))) e
      | none => .stuck)
    | none => .stuck)
  | _ => .stuck
def gAll := gBools fun bs => bs.all id
def gAny := gBools fun bs => bs.any id
def gTupleOf (rs : List Sl) (e : Ro) : Out Sl := match rs with
  | [.d (.tup xs)] => .ok (.d (.tup xs)) e
  | [r] => (match contL e r with
    | some xs => .ok (.d (.tup xs)) e
    | none => .stuck)
  | _ => .stuck
def gListOf (rs : List Sl) (e : Ro) : Out Sl := match rs with
  | [.d (.tup xs)] => .ok (.l xs) e
  | [r] => (match contL e r with
    | some xs => .ok (.l xs) e
    | none => .stuck)
  | _ => .stuck
/-- repr of data without dicts -/
def gRepr (rs : List Sl) (e : Ro) : Out Sl := match rs with
  | [r] => (match vw e r with
    | some d => (match d.py with
      | some p => if p.showable && decide (p.depth ≤ 64) && decide (p.shown.length ≤ SZ) then .ok (.d (.str p.shown)) e else .stuck
      | none => .stuck)
    | none => .stuck)
  | _ => .stuck
/-! #### slices -/
abbrev DenP := Ro → Out (Option Int)
def pNone : DenP := fun e => .ok none e
def pSome (a : DenE) : DenP := fun env => (a env).bind fun r e => match r with
  | .d (.int i) => .ok (some i) e
  | _ => .stuck
def cutD (xs : List D) (lo hi : Option Int) : List D := (xs.drop (HT.sIx xs.length 0 lo)).take (HT.sIx xs.length xs.length hi - HT.sIx xs.length 0 lo)
def gSl (r : Sl) (lo hi : Option Int) (e : Ro) : Out Sl := match r with
  | .d (.tup xs) => .ok (.d (.tup (cutD xs lo hi))) e
  | r => (match contL e r with
    | some xs => .ok (.l (cutD xs lo hi)) e
    | none => .stuck)
def eSl (a : DenE) (lo hi : DenP) : DenE := fun env => (a env).bind fun r e1 => (lo e1).bind fun l e2 => (hi e2).bind fun h e3 => gSl r l h e3
def gRevL (r : Sl) (e : Ro) : Out Sl := match contL e r with
  | some xs => .ok (.l xs.reverse) e
  | none => .stuck

section
variable {K : PySem.W.Frag} {mg : Str → Option Value} {W : WX} {A0 : Addr} {G H G1 H1 : Hp} {σ σ1 : L2.St} {env env1 : Ro}
variable {X : Cx} {a b c e tg iter : Expr} {es : List Expr} {fa fb fi : DenE} {fs : DenA} {tc : DenT} {f g : DenS} {st : Stmt} {p q : List Stmt} {pos : Pos}
def CaS (K : PySem.W.Frag) (mg : Str → Option Value) (r : List V → Hp → VK → Prop) (g : List Sl → Ro → Out Sl) : Prop :=
  ∀ (W : WX) (A0 : Addr) (G H : Hp) (σ : L2.St) (env : Ro) (vs : List V) (rs : List Sl) (Q : VK), Real K mg A0 G H σ env → RepNs K mg σ env G H vs rs → Post K mg (relV K mg) W A0 G H σ env Q (g rs env) → r vs H Q
theorem de_cb {r : List V → Hp → VK → Prop} {g : List Sl → Ro → Out Sl} {x : Str} {px : Pos} (hg : CaS X.K X.mg r g) (h : ∀ {t : TA}, PA X (e :: es) t → PE X (.Call (.Name x px) (e :: es) [] pos) (tCB r t)) (hs : DN X W (e :: es) fs) : DE X W (.Call (.Name x px) (e :: es) [] pos) (eAp g fs) :=
  PE.wk (h hs) fun σ H Q ⟨A0, G, env, re, po⟩ => tG.mono (Post.args stabV re po) fun vs H1 ⟨rs, env1, G1, re1, rp1, po1⟩ => hg W A0 G1 H1 σ env1 vs rs Q re1 rp1 po1
theorem cs_len : CaS K mg (fun xs H Q => (∃ p ys, xs = [.ref p] ∧ (SqL K H p ys ∨ SqT K H p ys) ∧ Q (.int ys.length) H) ∨ (∃ z, xs = [.str z] ∧ z.length ≤ sizeLine ∧ Q (.int z.length) H)) gLen := by
  intro W A0 G H σ env vs rs Q re rp po
  unfold gLen at po
  split at po
  · obtain ⟨v, rfl, r1⟩ := reps1 rp
    split at po
    · rename_i xs q
      cases vw_ok re r1 q with
      | lst h1 h2 => exact .inl ⟨_, _, rfl, .inl (.inl (.inl h1)), by rw [← h2.length]; exact po.val re (.int _)⟩
    · rename_i xs q
      cases vw_ok re r1 q with
      | fls h1 h2 => exact .inl ⟨_, _, rfl, .inl h1, by rw [← h2.length]; exact po.val re (.int _)⟩
    · rename_i xs q
      cases vw_ok re r1 q with
      | tup h1 h2 => exact .inl ⟨_, _, rfl, .inr h1, by rw [← h2.length]; exact po.val re (.int _)⟩
    · rename_i z q
      cases rep_str (vw_ok re r1 q)
      split at po
      · rename_i hz
        exact .inr ⟨z, rfl, SZ_le hz, po.val re (.int _)⟩
      · exact po.elim
    · exact po.elim
  · exact po.elim
theorem call_lenAll {X : Cx} : CallR X (.builtin "len") (fun xs H Q => (∃ p ys, xs = [.ref p] ∧ (SqL X.K H p ys ∨ SqT X.K H p ys) ∧ Q (.int ys.length) H) ∨ (∃ z, xs = [.str z] ∧ z.length ≤ sizeLine ∧ Q (.int z.length) H)) := call_len_seq.or call_len_str
theorem cs_abs : CaS K mg (fun xs H Q => ∃ i, xs = [.int i] ∧ Q (.int (if i < 0 then -i else i)) H) gAbs := by
  intro W A0 G H σ env vs rs Q re rp po
  unfold gAbs at po
  split at po
  · obtain ⟨v, rfl, r1⟩ := reps1 rp
    cases rep_int r1
    exact ⟨_, rfl, po.val re (.int _)⟩
  · exact po.elim
theorem cs_int : CaS K mg (fun xs H Q => (∃ i, xs = [.int i] ∧ Q (.int i) H) ∨ ∃ k, xs = [.bl k] ∧ Q (.int (if k then 1 else 0)) H) gInt := by
  intro W A0 G H σ env vs rs Q re rp po
  unfold gInt at po
  split at po
  · obtain ⟨v, rfl, r1⟩ := reps1 rp
    cases rep_int r1
    exact .inl ⟨_, rfl, po.val re (.int _)⟩
  · obtain ⟨v, rfl, r1⟩ := reps1 rp
    cases rep_bl r1
    exact .inr ⟨_, rfl, po.val re (.int _)⟩
  · exact po.elim
theorem cs_str : CaS K mg (fun xs H Q => ∃ i : Int, xs = [.int i] ∧ i.natAbs.log2 < 1920 ∧ Q (.str (toString i)) H) gStr := by
  intro W A0 G H σ env vs rs Q re rp po
  unfold gStr at po
  split at po
  · obtain ⟨v, rfl, r1⟩ := reps1 rp
    cases rep_int r1
    split at po
    · rename_i hz
      exact ⟨_, rfl, hz, po.val re (.str _)⟩
    · exact po.elim
  · exact po.elim
theorem intsOf_ok : ∀ {ds : List D} {vs : List V} {ns : List Int}, RepL K mg G ds vs → intsOf ds = some ns → vs = ns.map V.int
  | _, _, _, .nil, e => by cases e; rfl
  | _, _, _, .cons (d := d) (ds := ds) h r, e => by
    cases d with
    | int i =>
      simp only [intsOf] at e
      cases q : intsOf ds with
      | none => rw [q] at e; cases e
      | some ms =>
        rw [q] at e
        cases e
        cases h
        rw [intsOf_ok r q]
        rfl
    | _ => cases e
theorem boolsOf_ok : ∀ {ds : List D} {vs : List V} {ns : List Bool}, RepL K mg G ds vs → boolsOf ds = some ns → vs = ns.map V.bl
  | _, _, _, .nil, e => by cases e; rfl
  | _, _, _, .cons (d := d) (ds := ds) h r, e => by
    cases d with
    | bl i =>
      simp only [boolsOf] at e
      cases q : boolsOf ds with
      | none => rw [q] at e; cases e
      | some ms =>
        rw [q] at e
        cases e
        cases h
        rw [boolsOf_ok r q]
        rfl
    | _ => cases e
theorem cs_sum : CaS K mg (rSum K) gSum := by
  intro W A0 G H σ env vs rs Q re rp po
  unfold gSum at po
  split at po
  · obtain ⟨v, rfl, r1⟩ := reps1 rp
    split at po
    · rename_i xs q
      split at po
      · rename_i ns q2
        obtain ⟨a, ws, rfl, s1, rl⟩ := cont_ok re r1 q
        cases intsOf_ok rl q2
        exact ⟨a, ns, rfl, s1, po.val re (.int _)⟩
      · exact po.elim
    · exact po.elim
  · exact po.elim
theorem cs_all : CaS K mg (rAll K) gAll := by
  intro W A0 G H σ env vs rs Q re rp po
  unfold gAll gBools at po
  split at po
  · obtain ⟨v, rfl, r1⟩ := reps1 rp
    split at po
    · rename_i xs q
      split at po
      · rename_i ns q2
        obtain ⟨a, ws, rfl, s1, rl⟩ := cont_ok re r1 q
        cases boolsOf_ok rl q2
        exact ⟨a, ns, rfl, s1, po.val re (.bl _)⟩
      · exact po.elim
    · exact po.elim
  · exact po.elim
theorem cs_any : CaS K mg (rAny K) gAny := by
  intro W A0 G H σ env vs rs Q re rp po
  unfold gAny gBools at po
  split at po
  · obtain ⟨v, rfl, r1⟩ := reps1 rp
    split at po
    · rename_i xs q
      split at po
      · rename_i ns q2
        obtain ⟨a, ws, rfl, s1, rl⟩ := cont_ok re r1 q
        cases boolsOf_ok rl q2
        exact ⟨a, ns, rfl, s1, po.val re (.bl _)⟩
      · exact po.elim
    · exact po.elim
  · exact po.elim
theorem cs_tuple : CaS K mg (fun xs H Q => ∃ p ys, xs = [.ref p] ∧ ((SqL K H p ys ∧ ∀ l, H l = none → Q (.ref l) (upd H l (.tup ys))) ∨ (SqT K H p ys ∧ Q (.ref p) H))) gTupleOf := by
  intro W A0 G H σ env vs rs Q re rp po
  unfold gTupleOf at po
  split at po
  · rename_i xs
    obtain ⟨v, rfl, r1⟩ := reps1 rp
    obtain ⟨a, ws, rfl, s1, rl⟩ := contT_ok (ds := xs) re r1 rfl
    exact ⟨a, ws, rfl, .inr ⟨s1, po.val re r1⟩⟩
  · obtain ⟨v, rfl, r1⟩ := reps1 rp
    split at po
    · rename_i xs q
      obtain ⟨a, ws, rfl, s1, rl⟩ := cont_ok re r1 q
      exact ⟨a, ws, rfl, .inl ⟨s1, fun l hl => po.tup re rl hl⟩⟩
    · exact po.elim
  · exact po.elim
theorem cs_list : CaS K mg (fun xs H Q => ∃ p ys, xs = [.ref p] ∧ (SqL K H p ys ∨ SqT K H p ys) ∧ ∀ l, H l = none → Q (.ref l) (upd H l (.lst ys))) gListOf := by
  intro W A0 G H σ env vs rs Q re rp po
  unfold gListOf at po
  split at po
  · rename_i xs
    obtain ⟨v, rfl, r1⟩ := reps1 rp
    obtain ⟨a, ws, rfl, s1, rl⟩ := contT_ok (ds := xs) re r1 rfl
    exact ⟨a, ws, rfl, .inr s1, fun l hl => po.lst re rl hl⟩
  · obtain ⟨v, rfl, r1⟩ := reps1 rp
    split at po
    · rename_i xs q
      obtain ⟨a, ws, rfl, s1, rl⟩ := cont_ok re r1 q
      exact ⟨a, ws, rfl, .inl s1, fun l hl => po.lst re rl hl⟩
    · exact po.elim
  · exact po.elim
/-- repr(x) of data without dicts -/
def rReprD (K : PySem.W.Frag) : List V → Hp → VK → Prop := fun vs H Q => ∃ v p, vs = [v] ∧ Dp K H v p ∧ p.showable = true ∧ p.depth ≤ 64 ∧ p.shown.length ≤ sizeLine ∧ Q (.str p.shown) H
mutual
theorem dp_noDict : ∀ {v : V} {p : PyData}, Dp K H v p → p.hasDict = false
  | _, _, .non => by simp only [PyData.hasDict]
  | _, _, .bl _ => by simp only [PyData.hasDict]
  | _, _, .int _ => by simp only [PyData.hasDict]
  | _, _, .str _ => by simp only [PyData.hasDict]
  | _, _, .lst _ h => by simp only [PyData.hasDict]; exact dpAll_noDict h
  | _, _, .tup _ h => by simp only [PyData.hasDict]; exact dpAll_noDict h
theorem dpAll_noDict : ∀ {vs : List V} {ps : List PyData}, DpAll K H vs ps → PyData.hasDictAll ps = false
  | _, _, .nil => by simp only [PyData.hasDictAll]
  | _, _, .cons h t => by simp only [PyData.hasDictAll, dp_noDict h, dpAll_noDict t, Bool.or_self]
end
theorem call_reprD (hgd : X.A.guards = some []) (hu : X.A.units + 66 < cLine) : CallR X (.builtin "repr") (rReprD X.K) := by
  intro pins s σ H vs us Q I r h
  obtain ⟨v, p, rfl, dp, hs, hd, hz, q⟩ := h
  obtain ⟨u, rfl, ru⟩ := vals1 r
  obtain ⟨as, rd⟩ := Dp.reads I p v u dp ru
  have key : ∀ h' t tk, (∀ b o, s.heap.get? b = some o → h'.get? b = some o) → EP X pins σ Q (.str p.shown t) { s with heap := h', toks := tk } := fun h' t tk hk => ⟨.str p.shown, H, I.kept hk, ⟨t, rfl⟩, q⟩
  have nd := dp_noDict dp
  cases rd with
  | none => exact PySem.P.repr_of_none (key s.heap _ _ fun _ _ e => e)
  | bool b => exact PySem.P.repr_of_bool (key s.heap _ _ fun _ _ e => e)
  | int i t =>
    have hi : i.natAbs.log2 < 1920 := by simpa [PyData.showable] using hs
    exact PySem.P.repr_of_int hi (key s.heap _ _ fun _ _ e => e)
  | str x t => exact PySem.P.repr_of_str (key s.heap _ _ fun _ _ e => e) hz
  | list h1 h2 h3 h4 => exact PySem.repr_of_reads' (.list h1 h2 h3 h4) hs (fun z => by rw [nd] at z; cases z) hgd (by omega) (fun _ _ e => e) key hz
  | tuple h1 h2 h3 h4 => exact PySem.repr_of_reads' (.tuple h1 h2 h3 h4) hs (fun z => by rw [nd] at z; cases z) hgd (by omega) (fun _ _ e => e) key hz
  | dict h1 h2 h3 h4 h5 => simp [PyData.hasDict] at nd
theorem cs_repr : CaS K mg (rReprD K) gRepr := by
  intro W A0 G H σ env vs rs Q re rp po
  unfold gRepr at po
  split at po
  · obtain ⟨v, rfl, r1⟩ := reps1 rp
    split at po
    · rename_i d q
      split at po
      · rename_i p q2
        split at po
        · rename_i hc
          rw [Bool.and_eq_true, Bool.and_eq_true, decide_eq_true_eq, decide_eq_true_eq] at hc
          exact ⟨v, p, rfl, (vw_ok re r1 q).dp q2, hc.1.1, hc.1.2, SZ_le hc.2, po.val re (.str _)⟩
        · exact po.elim
      · exact po.elim
    · exact po.elim
  · exact po.elim
end
end RL
/-! enumerate of a tuple -/
namespace RL
open PySem PySem.Spec PyProof.Rows L2

set_option maxHeartbeats 1000000 in
theorem meets_enumerate_new1 {v : Value} {o : Obj} {H : Heap → Prop} (B : Begins v o H) :
    Meets (Builtin.«enumerate.__new__» ⟨[.type "enumerate", v], []⟩) (fun _ R s => H s.heap ∧
      R (.ok (.ret (.ref (s.heap.push o).objs.size))) { s with heap := (s.heap.push o).push { cls := .type "enumerate", data := .fields #[.none, .bool false, .ref s.heap.objs.size, rawInt 0, .none, .none] } }) :=
  .of_wp fun prog w A R s h => by
    obtain ⟨hp, g, d, tk, os⟩ := s; obtain ⟨h1, h⟩ := h
    have hsub := sub_enumerate
    have q1 : ∀ {A' : Around} {E : Value → Shared → Prop} {Q : Value → Shared → Prop}, Q (.ref hp.objs.size) ⟨hp.push o, g, d, tk, os⟩ → wpAny (model prog w) A' (pyIter v) Q E ⟨hp, g, d, tk, os⟩ :=
      fun q => B.iter prog w _ _ ⟨hp, g, d, tk, os⟩ _ h1 q
    wp_walk using q1
    refine wpAny_stack_any fun st => wpAny_pure ?_
    split
    · rename_i c _ _ _ _ _
      cases (c == Value.type "enumerate")
      · wp_walk using q1
        exact ⟨_, rfl, h⟩
      · wp_walk using q1
        exact ⟨_, rfl, h⟩
    · wp_walk using q1
      exact ⟨_, rfl, h⟩
section
variable {prog : Program} {w : World} {A : Around} {E : Value → Shared → Prop} {s : Shared}
theorem enum_begins1 {v : Value} {o : Obj} {H : Heap → Prop} {Q : Value → Shared → Prop} (B : Begins v o H) (h1 : H s.heap)
    (h : ∀ h', IsEnum h' (s.heap.objs.size + 1) s.heap.objs.size 0 .none → h'.get? s.heap.objs.size = some o → h'.objs.size = s.heap.objs.size + 2 →
      (∀ b o, s.heap.get? b = some o → h'.get? b = some o) → Q (.ref (s.heap.objs.size + 1)) { s with heap := h' }) :
    wpAny (model prog w) A (call (.type "enumerate") [v]) Q E s := by
  refine callType_new F.called_enumerate (by decide) (F.typeCall_enumerate_1 _) (F.newCall_enumerate_1 _) (fun obj => F.args_object_init_2 obj _) F.entry_enumerate_new
    (meets_enumerate_new1 B) ⟨h1, ?_⟩
  have hz : (s.heap.push o).objs.size = s.heap.objs.size + 1 := Heap.size_push ..
  show _ ∧ _
  rw [hz]
  have he : IsEnum ((s.heap.push o).push { cls := .type "enumerate", data := .fields #[.none, .bool false, .ref s.heap.objs.size, rawInt 0, .none, .none] }) (s.heap.objs.size + 1) s.heap.objs.size 0 .none := by
    have := Heap.get?_push_size (s.heap.push o) (o := { cls := .type "enumerate", data := .fields #[.none, .bool false, .ref s.heap.objs.size, rawInt 0, .none, .none] }) rfl
    rw [hz] at this; exact this
  refine ⟨⟨_, he, rfl⟩, h _ he (Heap.get?_push_of_some _ (Heap.get?_push_size _ B.free)) (by rw [Heap.size_push, hz]) fun b o x => Heap.get?_push_of_some _ (Heap.get?_push_of_some _ x)⟩
end
/-- the tuple at a, each item in a new pair -/
def IteT (K : PySem.W.Frag) (a : Addr) : It :=
  ⟨fun i H => ∃ (xs : List V) (x : V), SqT K H a xs ∧ xs[i]? = some x, fun i H v H' => ∃ T x, v = .ref T ∧ H T = none ∧ H' = upd H T (.tup [.int (i : Nat), x]) ∧ ∀ xs, SqT K H a xs → xs[i]? = some x, fun i H => ∃ xs : List V, SqT K H a xs ∧ xs.length ≤ i⟩
theorem turn_enumT {P : Program} {w : World} {K : PySem.W.Frag} {elts : List Expr} {kk : Nat} {tpos : Pos} (a e it : Addr) :
    Turn P w K (.Tuple elts kk tpos) (IteT K a) [e, it] e (fun i h => (∃ old, IsEnum h e it ((i : Nat) : Int) old) ∧ h.IsTupleIter it a i ∧ e ≠ it) where
  mem := by simp
  obj := fun i h st b hb => by
    obtain ⟨⟨old, he⟩, ⟨o, ho, hc, hd⟩, _⟩ := st
    have e' : b = e ∨ b = it := by simpa using hb
    rcases e' with z | z
    · rw [z]; exact ⟨_, he, fun v q => nomatch q⟩
    · rw [z]; exact ⟨o, ho, fun v q => by rw [hd] at q; cases q⟩
  keep := fun i h h' st k => let ⟨⟨old, he⟩, hi, hne⟩ := st; ⟨⟨old, k e (by simp) _ he⟩, hi.at fun o q => k it (by simp) o q, hne⟩
  item := by
    intro X hP hw hK hc i pins s σ H E I hf st hg
    subst hP hw hK
    obtain ⟨⟨old, he⟩, hit, hne⟩ := st
    obtain ⟨xs, x, hq, hx⟩ := hg
    obtain ⟨its, rv, p, hz⟩ := I.tuple hq
    obtain ⟨u, hu, ru⟩ := rv.get hx
    have p' : s.heap.IsTuple a its.toArray := p
    have hel : e < s.heap.objs.size := Heap.lt_size he
    have hil : it < s.heap.objs.size := by obtain ⟨_, q, _⟩ := hit; exact Heap.lt_size q
    have nai : a ≠ it := fun z => by
      subst z
      obtain ⟨o1, q1, c1, _⟩ := hit
      obtain ⟨o2, q2, c2, _⟩ := p'
      rw [q1] at q2; cases q2; have z := c1.symm.trans c2; injection z with z; exact absurd z (by decide)
    have nae : a ≠ e := fun z => by
      subst z
      obtain ⟨o2, q2, c2, _⟩ := p'
      rw [show s.heap.get? a = some _ from he] at q2; cases q2; have z : Value.type "enumerate" = Value.type "tuple" := c2; injection z with z; exact absurd z (by decide)
    refine wpAny_pyNext_enum_itemD (Draws.tuple (A := X.A.in1) (I.ok.hd hc) it a nai its.toArray) he ⟨hit, p'⟩ (i := i) ?_ hne (by simp [hne, Ne.symm nae]) fun y h' tk hy ho hst' hT hsz hk => ?_
    · have : i < its.length := (List.getElem?_eq_some_iff.mp hu).1
      simpa using this
    have hyu : y = u := by
      have hy : its.toArray[i]? = some y := hy
      have z : its[i]? = some y := by simpa using hy
      rw [hu] at z; cases z; rfl
    subst hyu
    refine ⟨_, rfl, wpAny_letOwnedTupleGo_enum (s := { s with heap := h', toks := tk + 1 }) ho fun h'' he' sb => ?_⟩
    have hT2 : h''.get? s.heap.objs.size = some { cls := .type "tuple", data := .seq #[.int i tk, y] } := (sb.2 _ (Nat.ne_of_gt hel)).trans hT
    have new : ObjOk X.prog X.w (upd H s.heap.objs.size (.tup [.int (i : Nat), x])) h'' s.heap.objs.size (.tup [.int (i : Nat), x]) :=
      ⟨by show 2 ≤ sizeLine; decide, [.int i tk, y], .cons ⟨_, rfl⟩ (.cons ru .nil), ⟨_, hT2, rfl, _, rfl⟩⟩
    have I1 : Inv X pins σ (upd H s.heap.objs.size (.tup [.int (i : Nat), x])) { s with heap := h'', toks := tk + 1 } :=
      I.turnedNew (ch := [e, it]) (fun b ob hb q => (sb.2 b (fun z => hb (by simp [z]))).trans (hk b ob (fun z => hb (by simp [z])) (fun z => hb (by simp [z])) q)) hf (Nat.le_refl _) new
    refine ⟨.ref s.heap.objs.size, _, I1, rfl, ⟨_, x, rfl, I.hok.fresh (Nat.le_refl _), rfl, fun ys hy => by rw [I.tuple_inj hy hq]; exact hx⟩, ⟨⟨y, ?_⟩, hst'.1.at fun o q => (sb.2 it (Ne.symm hne)).trans q, hne⟩, fun b hb => ?_⟩
    · have e1 : ((i + 1 : Nat) : Int) = (i : Int) + 1 := by omega
      rw [e1]; exact he'
    · have hb' : b < s.heap.objs.size := by
        have e' : b = e ∨ b = it := by simpa using hb
        rcases e' with z | z
        · rw [z]; exact hel
        · rw [z]; exact hil
      rw [upd_ne (Nat.ne_of_lt hb')]
      exact (hf b hb).1
  done := by
    intro X hP hw hK hc i pins s σ H E I hf st hg
    subst hP hw hK
    obtain ⟨⟨old, he⟩, hit, hne⟩ := st
    obtain ⟨xs, hq, hx⟩ := hg
    obtain ⟨its, rv, p, hz⟩ := I.tuple hq
    have p' : s.heap.IsTuple a its.toArray := p
    obtain ⟨f0, f1, f2, f3, f4, f5⟩ := hf it (by simp)
    have hl := rv.length
    have hT : s.TypeIs (.ref e) "enumerate" := ⟨_, he, rfl⟩
    unfold pyNext
    refine wpAny_bind (wpAny_attempt (wpAny_callSpecial?_slot (name := Str.ofString "__next__") hT PySem.F.slot_enumerate_next
      (wpAny_call_entry PySem.F.slot_enumerate_next hT PySem.F.entry_enumerate_next ?_ (PySem.F.args_enumerate_next_1 _))))
    show wpAny _ _ (field (.ref e) 2 >>= _) _ _ _
    refine wpAny_bind (wpAny_field he rfl (x := .ref it) rfl ?_)
    refine wpAny_bind (wpAny_nextOf_tuple_end (I.ok.hd hc) hit p' (by simp; omega) fun h' x he' hx' => ?_)
    obtain ⟨o, ho, hc2⟩ := hx'
    refine wpAny_bind (wpAny_isInstance (T := "StopIteration") (b := true) ⟨o, ho, hc2⟩ isSubtype_stop ?_)
    exact wpAny_pure ⟨rfl, I.turned (t' := s.toks) (fun b o hb q => he' b o hb q) f0 f1 f3 f4 f5⟩
  self := fun A i s Q E st h => let ⟨⟨_, he⟩, _⟩ := st; wpAny_pyIter_enum he h
def iEnumT (K : PySem.W.Frag) (ta : TA) : TI := fun σ H R => ta σ H fun vs H1 => ∃ a xs, vs = [.ref a] ∧ SqT K H1 a xs ∧ R (IteT K a) H1
theorem pi_enumT {X : Cx} {e : Expr} {ta : TA} {p pos tpos : Pos} {elts : List Expr} {kk : Nat} (hg : Gl X "enumerate") (hm : X.mg "enumerate" = none) (ha : PA X [e] ta) (hs : starEach [e] X.env = [(false, eval e X.env)] := by rfl) :
    PI X (.Tuple elts kk tpos) (.Call (.Name "enumerate" p) [e] [] pos) (iEnumT X.K ta) := by
  refine ⟨fun pins s σ H R I h => ?_⟩
  refine Call_ (ld_blt I hg hm boot_enumerate (PyProof.Rows.callWith_type1 (thn (ha.run pos pins s σ H _ I h) fun us s1 ⟨vs, H1, I1, r1, q1⟩ => ?_) hs rfl))
  obtain ⟨a, xs, ex, hq, q⟩ := q1
  subst ex
  cases r1 with
  | cons r rr =>
    cases rr
    cases r
    obtain ⟨its, rv, p', hz⟩ := I1.tuple hq
    refine enum_begins1 (begins_tuple a its.toArray) p' fun h' he hit hsz hk => wpAny_pyIter_enum he ?_
    have I2 : Inv X pins σ H1 { s1 with heap := h' } := I1.kept (t' := s1.toks) hk
    refine ⟨s1.heap.objs.size + 1, [s1.heap.objs.size + 1, s1.heap.objs.size], _, _, H1, rfl, I2, turn_enumT a (s1.heap.objs.size + 1) s1.heap.objs.size, ⟨⟨.none, he⟩, ⟨_, hit, rfl, rfl⟩, Nat.succ_ne_self _⟩, fun b hb => ?_, q⟩
    have e' : b = s1.heap.objs.size + 1 ∨ b = s1.heap.objs.size := by simpa using hb
    have hle : s1.heap.objs.size ≤ b := by
      rcases e' with z | z
      · rw [z]; exact Nat.le_add_right _ _
      · rw [z]; exact Nat.le_refl _
    exact I1.fpOk hle (I1.hok.fresh hle)
end RL
namespace RL
open PySem L2

/-- enumerate of a list or a tuple -/
def srcEA (a : DenA) : Src := fun env => (a env).bind fun rs e => match rs with
  | [.d (.tup xs)] => .ok (none, pairsI xs) e
  | [r] => (match srcOf r e with
    | some (l, xs) => .ok (l, pairsI xs) e
    | none => .stuck)
  | _ => .stuck
/-- isinstance -/
def tyNm (e : Ro) (r : Sl) : Option String := match vw e r with
  | some .non => some "NoneType"
  | some (.bl _) => some "bool"
  | some (.int _) => some "int"
  | some (.str _) => some "str"
  | some (.tup _) => some "tuple"
  | some (.lst _) => some "list"
  | _ => none
def isSub (t n : String) : Bool := t == n || (t == "bool" && n == "int")
def gIsi (n : String) (r : Sl) (e : Ro) : Out Sl := match tyNm e r with
  | some t => .ok (.d (.bl (isSub t n))) e
  | none => .stuck
def gSl' (r : Sl) (lo hi : Option Int) (e : Ro) : Out Sl := match r with
  | .d (.tup xs) => .ok (.d (.tup (cutD xs lo hi))) e
  | .d (.str z) => if z.length ≤ SZ then .ok (.d (.str (cutS z lo hi))) e else .stuck
  | r => (match contL e r with
    | some xs => .ok (.l (cutD xs lo hi)) e
    | none => .stuck)
def eSl' (a : DenE) (lo hi : DenP) : DenE := fun env => (a env).bind fun r e1 => (lo e1).bind fun l e2 => (hi e2).bind fun h e3 => gSl' r l h e3
def relO : RelT (Option Int) (Option Int) := fun _ _ _ _ _ _ b r => b = r
theorem stabO : Stab relO := ⟨fun _ h => h⟩
theorem tyNames : ∀ t ∈ ["NoneType", "bool", "int", "str", "tuple", "list"], ∀ n ∈ ["int", "bool", "str", "list", "tuple"], kitB t n = some (isSub t n) := by decide +kernel

section
variable {K : PySem.W.Frag} {mg : Str → Option Value} {W : WX} {A0 : Addr} {G H G1 H1 : Hp} {σ σ1 : L2.St} {env env1 : Ro}
variable {X : Cx} {a b c e tg iter : Expr} {es : List Expr} {fa fb fi : DenE} {fs : DenA} {tc : DenT} {f g : DenS} {st : Stmt} {p q : List Stmt} {pos : Pos}
theorem walk_enumT {a : Addr} {xs : List V} : Walk (IteT K a) xs.length (fun H => SqT K H a xs) (YPair (fun i => some (.int (i : Nat))) (fun i => xs[i]?)) := by
  refine ⟨fun i _ hi q => ⟨xs, xs[i], q, by simp [hi]⟩, fun _ q => ⟨xs, q, Nat.le_refl _⟩, fun i H v H' _ q y => ?_⟩
  obtain ⟨T, x, h1, h2, h3, h4⟩ := y
  exact ⟨T, .int (i : Nat), x, h1, h2, h3, rfl, h4 xs q⟩
theorem di_EA {px pt : Pos} {elts : List Expr} {kk : Nat} (h : ∀ {ta : TA}, PA X [a] ta → PI X (.Tuple elts kk pt) (.Call (.Name "enumerate" px) [a] [] pos) (iEnum X.K ta)) (h2 : ∀ {ta : TA}, PA X [a] ta → PI X (.Tuple elts kk pt) (.Call (.Name "enumerate" px) [a] [] pos) (iEnumT X.K ta)) (hs : DN X W [a] fs) :
    DI X W (.Tuple elts kk pt) (.Call (.Name "enumerate" px) [a] [] pos) (srcEA fs) := PI.wk (PI.or (h hs) (h2 hs)) fun σ H R ⟨A0, G, env, re, hI⟩ => by
  unfold srcEA at hI
  cases q0 : fs env with
  | stuck => rw [q0] at hI; exact hI.elim
  | err x e =>
    rw [q0] at hI
    exact .inl ⟨A0, G, env, re, by rw [q0]; exact hI⟩
  | ok rs e =>
    rw [q0, Out.bind_ok] at hI
    split at hI
    · rename_i xs
      refine .inr ⟨A0, G, env, re, ?_⟩
      rw [q0]
      intro vs G1 H1 m re1 rl
      obtain ⟨v, rfl, r1⟩ := reps1 (RepSs.now rl)
      have r1 : Rep X.K X.mg G1 (.tup xs) v := r1
      cases r1 with
      | @tup a ws _ h1 rw' =>
        refine ⟨a, ws, rfl, seqT re1.sub h1, hI G1 H1 _ m re1 (itok_pair (P := fun H => SqT X.K H a ws) (xs := fun i => some (.int (i : Nat))) (ys := fun i => ws[i]?) ?_ (fun σ' e' G' H' m' re' => seqT (m'.gg.trans re'.sub) h1) fun i x y hi hx hy => ?_)⟩
        · have hl : (pairsI xs).length = ws.length := by
            rw [← rw'.length]
            simp [pairsI]
          rw [hl]
          exact walk_enumT
        · obtain ⟨d, hd, rd⟩ := rw'.getV hy
          cases hx
          exact ⟨_, d, pairsI_get hd, .int _, rd⟩
    · rename_i r _
      refine .inl ⟨A0, G, env, re, ?_⟩
      rw [q0]
      intro vs G1 H1 m re1 rl
      obtain ⟨v, rfl, r1⟩ := reps1 (RepSs.now rl)
      split at hI
      · rename_i l xs q
        obtain ⟨a, ws, rfl, rw', s1, st⟩ := srcOf_ok re1 r1 q
        refine ⟨a, ws, rfl, s1, hI G1 H1 _ m re1 (itok_pair (P := fun H => SqL X.K H a ws) (xs := fun i => some (.int (i : Nat))) (ys := fun i => ws[i]?) ?_ st fun i x y hi hx hy => ?_)⟩
        · have hl : (pairsI xs).length = ws.length := by
            rw [← rw'.length]
            simp [pairsI]
          rw [hl]
          exact walk_enum
        · obtain ⟨d, hd, rd⟩ := rw'.getV hy
          cases hx
          exact ⟨_, d, pairsI_get hd, .int _, rd⟩
      · exact hI.elim
    · exact hI.elim

/-! ### slices -/
abbrev DP (X : Cx) (W : WX) (e : Option Expr) (f : DenP) : Prop := PO X e (tG X.K X.mg relO W f)
theorem PO.wk {e : Option Expr} {t u : TO} (h : PO X e t) (w : ∀ σ H Q, u σ H Q → t σ H Q) : PO X e u := ⟨fun p s σ H Q I q => h.run p s σ H Q I (w σ H Q q)⟩
theorem dp_none : DP X W none pNone := PO.wk po_none fun σ H Q ⟨A0, G, env, re, po⟩ => po none G H (Mov.refl _ _ _) re rfl
theorem dp_some (he : DE X W e fa) : DP X W (some e) (pSome fa) := PO.wk (po_some he) fun σ H Q ⟨A0, G, env, re, po⟩ => by
  refine tG.mono (Post.two stabO re po) fun x H1 ⟨rx, env1, G1, m1, re1, rp1, po1⟩ => ?_
  split at po1
  · cases rep_int rp1
    exact ⟨_, rfl, po1 _ G1 H1 (Mov.refl _ _ _) re1 rfl⟩
  · exact po1.elim
theorem cut_rep {ds : List D} {vs : List V} {lo hi : Option Int} (r : RepL K mg G ds vs) : RepL K mg G (cutD ds lo hi) (cutV vs lo hi) := by
  unfold cutD cutV
  rw [r.length]
  exact (r.drop _).take _
theorem cut_all {ds : List D} {lo hi : Option Int} (e1 : HT.sIx ds.length 0 lo = 0) (e2 : HT.sIx ds.length ds.length hi = ds.length) : cutD ds lo hi = ds := by
  unfold cutD
  rw [e1, e2, List.drop_zero, Nat.sub_zero, List.take_length]
theorem sl_all : SlR X (fun x lo hi H Q => rSlL X.K x lo hi H Q ∨ (rSlA X.K x lo hi H Q ∨ rSlS x lo hi H Q)) := sl_list.or (sl_tupA.or sl_str)
theorem de_sl {lo hi : Option Expr} {fl fh : DenP} {p2 : Pos} (he : DE X W e fa) (hl : DP X W lo fl) (hh : DP X W hi fh) : DE X W (.Subscript e (.Slice lo hi none p2) pos) (eSl' fa fl fh) :=
  PE.wk (pe_slice sl_all he hl hh) fun σ H Q ⟨A0, G, env, re, po⟩ => by
    refine tG.mono (Post.two stabV re po) fun x H1 ⟨rx, env1, G1, m1, re1, rp1, po1⟩ => ?_
    refine ⟨A0, G1, env1, re1, (Post.bind (Rel := relO) stabV po1).mono fun l H2 ⟨rl, env2, G2, m2, re2, e2, po2⟩ => ?_⟩
    cases (show l = rl from e2)
    refine ⟨A0, G2, env2, re2, (Post.bind (Rel := relO) stabV po2).mono fun u H3 ⟨ru, env3, G3, m3, re3, e3, po3⟩ => ?_⟩
    cases (show u = ru from e3)
    have rp3 := (rp1.mov m2).mov m3
    unfold gSl' at po3
    split at po3
    · obtain ⟨a, ws, rfl, s1, rw'⟩ := contT_ok (ds := _) re3 rp3 rfl
      refine .inr (.inl ⟨a, ws, rfl, s1, fun ⟨e1, e2⟩ => ?_, fun _ p hp => po3.tup re3 (cut_rep rw') hp⟩)
      rw [cut_all (by rw [rw'.length]; exact e1) (by rw [rw'.length]; exact e2)] at po3
      exact po3.val re3 rp3
    · cases rep_str rp3
      split at po3
      · rename_i hz
        exact .inr (.inr ⟨_, rfl, SZ_le hz, po3.val re3 (.str _)⟩)
      · exact po3.elim
    · split at po3
      · rename_i xs q
        obtain ⟨a, ws, rfl, s1, rw'⟩ := cont_ok re3 rp3 q
        exact .inl ⟨a, ws, rfl, s1, fun p hp => po3.lst re3 (cut_rep rw') hp⟩
      · exact po3.elim
theorem de_revL {k : Nat} {p1 p2 p3 : Pos} (he : DE X W e fa) : DE X W (.Subscript e (.Slice none none (some (.UnaryOp .USub (.Constant (.int 1) k p1) p2)) p3) pos) (eUn gRevL fa) :=
  PE.wk (pe_revL he) fun σ H Q ⟨A0, G, env, re, po⟩ => by
    refine tG.mono (Post.two stabV re po) fun x H1 ⟨rx, env1, G1, m1, re1, rp1, po1⟩ => ?_
    unfold gRevL at po1
    split at po1
    · rename_i xs q
      obtain ⟨a, ws, rfl, s1, rw'⟩ := cont_ok re1 rp1 q
      exact ⟨a, ws, rfl, s1, fun p hp => po1.lst re1 rw'.reverse hp⟩
    · exact po1.elim

/-! ### isinstance, is of bools -/
theorem tyX_of {v : V} {d : D} {t : String} (h : Rep K mg H d v) (e : tyNm [] (.d d) = some t) : TyX K H v (.type t) ∧ t ∈ ["NoneType", "bool", "int", "str", "tuple", "list"] := by
  unfold tyNm vw at e
  cases h with
  | non => cases e; exact ⟨.base .non, by simp⟩
  | bl b => cases e; exact ⟨.base (.bl b), by simp⟩
  | int b => cases e; exact ⟨.base (.int b), by simp⟩
  | str b => cases e; exact ⟨.base (.str b), by simp⟩
  | fn _ => cases e
  | fls _ _ => cases e
  | dct _ _ _ => cases e
  | lst h1 h2 => cases e; exact ⟨.base (.lst h1), by simp⟩
  | tup h1 h2 =>
    cases e
    refine ⟨?_, by simp⟩
    rcases h1 with (h1 | ⟨o, h1⟩) | h1
    · exact .base (.tup h1)
    · exact .fTuple h1
    · obtain ⟨o, _, _, h1, h2, _⟩ := h1
      exact .kTuple h1 h2
theorem de_isi {n : String} {x : Str} {px : Pos} (hn : n ∈ ["int", "bool", "str", "list", "tuple"]) (h : ∀ {t : TA}, PA X [e, b] t → PE X (.Call (.Name x px) [e, b] [] pos) (tCB (rIsi X.K) t)) (he : DE X W e fa) (hb : PE X b (tC (.ty n)))
    (hs : starEach (e :: [b]) X.env = (false, eval e X.env) :: starEach [b] X.env := by rfl) (hs2 : starEach (b :: []) X.env = (false, eval b X.env) :: starEach [] X.env := by rfl) : DE X W (.Call (.Name x px) [e, b] [] pos) (eUn (gIsi n) fa) :=
  PE.wk (h (pa_cons he (pa_cons hb pa_nil hs2) hs)) fun σ H Q ⟨A0, G, env, re, po⟩ => by
    refine tG.mono (Post.two stabV re po) fun v H1 ⟨rx, env1, G1, m1, re1, rp1, po1⟩ => ?_
    unfold gIsi at po1
    split at po1
    · rename_i t q
      unfold tyNm at q
      cases q2 : vw env1 rx with
      | none => rw [q2] at q; cases q
      | some d =>
        obtain ⟨h1, h2⟩ := tyX_of (t := t) (vw_ok re1 rp1 q2) (by unfold tyNm; rw [← q, q2]; rfl)
        exact ⟨v, .ty n, .type t, .type n, isSub t n, rfl, .ty n, h1, kit_ty (tyNames t h2 n hn), po1.val re1 (.bl _)⟩
    · exact po1.elim
theorem os_isB : OpS K mg rIsB (gIsB id) := by
  intro W A0 G H σ env x y rx ry Q re hx hy po
  unfold gIsB at po
  split at po
  · cases rep_bl hx
    cases rep_bl hy
    exact ⟨_, _, rfl, rfl, po.val re (.bl _)⟩
  · exact po.elim
theorem os_notB : OpS K mg rNotB (gIsB not) := by
  intro W A0 G H σ env x y rx ry Q re hx hy po
  unfold gIsB at po
  split at po
  · cases rep_bl hx
    cases rep_bl hy
    exact ⟨_, _, rfl, rfl, po.val re (.bl _)⟩
  · exact po.elim

/-! ### comprehensions -/
theorem takes0 {s : Shared} {scope : Scope} {cenv : Env} {fp : List Addr} : Takes (X.blk s H scope cenv fp) W0 := fun u s' ⟨a, B, sI, pins, σ, H, cls, d, e, I, nb, up, sky, na, os, ag, w⟩ => w.elim
abbrev DTs (X : Cx) (ifs : List Expr) (f : DenT) : Prop := PTs X ifs (tB' X.K X.mg W0 f)
theorem PTs.wk {ifs : List Expr} {t u : TT} (h : PTs X ifs t) (w : ∀ σ H Q, u σ H Q → t σ H Q) : PTs X ifs u := ⟨fun p s σ H Q I q => h.run p s σ H Q I (w σ H Q q)⟩
theorem dts_nil : DTs X [] tYesD := PTs.wk pts_nil fun σ H Q ⟨A0, G, env, re, po⟩ => po true G H (Mov.refl _ _ _) re rfl
theorem dts_one {tst : DenT} (h : DT X W0 c tst) : DTs X [c] tst := pts_one h
theorem de_comp {elt : Expr} {ifs : List Expr} {scope : Scope} {own : List (Str × Nat)} {src : Src} {L : List Nat} {t : Tgt} {tst : DenT} {fe : DenE} (hc : X.calm = true) (hN : X.N.Nodup) (ok : blkC X.N X.env.scope scope own = true) (hL : (L.all fun i => (own.map (·.2)).contains i) = true) (hi : DI X W tg iter src)
    (hg : ∀ (s : Shared) (H : Hp) (C : Addr) (cl : List (Str × Addr)) (fp : List Addr), DG (X.blk s H scope (compEnvC scope cl C X.env) fp) tg L t) (ht : ∀ (s : Shared) (H : Hp) (C : Addr) (cl : List (Str × Addr)) (fp : List Addr), DTs (X.blk s H scope (compEnvC scope cl C X.env) fp) ifs tst)
    (he : ∀ (s : Shared) (H : Hp) (C : Addr) (cl : List (Str × Addr)) (fp : List Addr), DE (X.blk s H scope (compEnvC scope cl C X.env) fp) W0 elt fe) (hs : ∀ x, foldedSetIterable iter X.env x = pure x := by intro _; rfl) :
    DE X W (.ListComp elt [⟨tg, iter, ifs, 0⟩] scope pos) (eLc (own.map (·.2)) src t tst fe) :=
  de_lc (pe_lc hc hN hi (blkOk_by ok) hg ht he hs) (fun i hi => by
    have := List.all_eq_true.mp hL i hi
    simpa using this)
/-- name = [..] on one line -/
theorem ds_setLc {i : Nat} {y : Str} {py spos : Pos} {elt : Expr} {ifs : List Expr} {scope : Scope} {own : List (Str × Nat)} {src : Src} {L : List Nat} {t : Tgt} {tst : DenT} {fe : DenE} (hc : X.calm = true) (hN : X.N.Nodup) (hy : X.N[i]? = some y) (hyl : X.env.scope.names.lookup y = some .local)
    (hk : X.env.scope.kind = .function) (hl : (py.line == pos.line) = true) (ha : (scope.names.any fun (n, k) => n == y && (k == .local || k == .cell)) = false)
    (ok : blkC X.N X.env.scope scope own = true) (hL : (L.all fun i => (own.map (·.2)).contains i) = true) (hi : DI X W tg iter src)
    (hg : ∀ (s : Shared) (H : Hp) (C : Addr) (cl : List (Str × Addr)) (fp : List Addr), DG (X.blk s H scope (compEnvC scope cl C X.env) fp) tg L t) (ht : ∀ (s : Shared) (H : Hp) (C : Addr) (cl : List (Str × Addr)) (fp : List Addr), DTs (X.blk s H scope (compEnvC scope cl C X.env) fp) ifs tst)
    (he : ∀ (s : Shared) (H : Hp) (C : Addr) (cl : List (Str × Addr)) (fp : List Addr), DE (X.blk s H scope (compEnvC scope cl C X.env) fp) W0 elt fe) (hs : ∀ x, foldedSetIterable iter X.env x = pure x := by intro _; rfl) :
    DS X W (.Assign [.Name y py] (.ListComp elt [⟨tg, iter, ifs, 0⟩] scope pos) spos) (sSet i (eLc (own.map (·.2)) src t tst fe)) :=
  PS.wk (ps_setLc hc hN hy hyl (sw_true hk hyl hl ha) hi (blkOk_by ok) hg ht he hs) fun D σ H ⟨A0, G, env, re, po⟩ => by
    have hLm : ∀ i ∈ L, i ∈ own.map (·.2) := fun i hi => by
      have := List.all_eq_true.mp hL i hi
      simpa using this
    obtain ⟨A0', G', env', re', po'⟩ := set_ok (fa := eLc (own.map (·.2)) src t tst fe) re po
    exact tLc_of hLm re' po'
end
end RL
/-! the end of a law -/
namespace RL
open PySem PySem.Spec PyProof.Rows L2

/-- the law's answer at the script: True, for every list of ints that may be given -/
structure Right (F : Fn) : Prop where
  at_ : ∀ ns : List Int, ns.length ≤ 63 → (∀ z ∈ ns, Builtin.Int.intBits z ≤ 1048576) → ∃ io, F [.fls (ns.map D.int)] = .ok (.d (.bl true)) io
theorem RepL.fints (K : PySem.W.Frag) (mg : Str → Option Value) (G : Hp) (ns : List Int) : RepL K mg G (ns.map D.int) (ns.map V.int) := RepL.ints ns

/-- the heap of a start: at most the script is looked at -/
structure Begin (K : PySem.W.Frag) (h : Heap) (a : Addr) (H : Hp) : Prop where
  one : ∀ b, b ≠ a → H b = none
  frz : H a = none ∨ (K.lookup a = none ∧ ∃ o xs, H a = some (.frz o (.lst xs)))
theorem Begin.only {K : PySem.W.Frag} {h : Heap} {a : Addr} {H : Hp} (b : Begin K h a H) (c : Addr) : H c = none ∨ ∃ o xs, H c = some (.frz o (.lst xs)) := by
  by_cases e : c = a
  · subst e
    exact b.frz.imp id fun z => z.2
  · exact .inl (b.one c e)

theorem startG {P : Program} {w : World} {K : PySem.W.Frag} {mg mb : Str → Option Value} {k : Nat} {fa a : Addr} {fd : FuncData} {x : Str} {F : Fn} {s₁ : Shared} {vs : List Value} {ns : List Int} {H : Hp}
    (KX : K.In s₁.heap) (hns : s₁.heap.Ns mainGlobals mg) (hb : s₁.heap.Ns builtinsNs mb) (hbb : ∀ x : Str, x ≠ "__name__" → mb x = bootBuiltins x) (hlim : s₁.heap.NoLimit) (hg : s₁.gens = #[])
    (ha : s₁.heap.get? a = some { cls := .type "list", data := .seq vs.toArray }) (hr : Room k callerA)
    (FF : ∀ base : Heap, K.In base → base.Ns mainGlobals mg → FnG P w K mg base k fa fd [x] (spP K mg F)) (hbind : ∀ (s : Shared) (u : Value), BindsTo s fd ⟨[u], []⟩ [(x, u)])
    (hF : ∃ io, F [.fls (ns.map D.int)] = .ok (.d (.bl true)) io) (B : Begin K s₁.heap a H) (hS : SqL K H a (ns.map V.int)) (hok : HOk P w H s₁.heap) :
    codeAny (model P w) callerA (.call (.ref fa) ⟨[.ref a], []⟩) (fun r s' => r = .ok (.ret (.bool true)) ∧ OldK s₁.heap s'.heap ∧ s'.os = s₁.os ∧ AllBare s'.gens) s₁ := by
  have not_a : ∀ {b : Addr} {u : HO}, H b = some u → b = a := fun {b u} e => by
    by_cases z : b = a
    · exact z
    · rw [B.one b z] at e
      cases e
  have untold : ∀ {b : Addr}, (b = a → False) ∨ H a = none → H b = none := fun {b} z => by
    cases q : H b with
    | none => rfl
    | some u =>
      have e := not_a q
      subst e
      rcases z with z | z
      · exact (z rfl).elim
      · rw [z] at q
        cases q
  have dictFree : ∀ {b : Addr} {o : Obj} {es : Array DictEntry} {ep : Nat}, s₁.heap.get? b = some o → o.data = .dict es ep → H b = none := fun {b o es ep} e d => by
    refine untold (.inl fun z => ?_)
    subst z
    rw [ha] at e
    cases e
    cases (show Data.seq vs.toArray _ = Data.dict es ep from d)
  have nsK : ∀ {b : Addr} {m : Str → Option Value}, s₁.heap.Ns b m → (hidT s₁.heap H).Ns b m := fun {b m} ⟨o, es, ep, e, d, r⟩ => ⟨o, es, ep, hidT_get e (dictFree e d), d, r⟩
  have inK : K.In (hidT s₁.heap H) := fun b o e => hidT_get (KX b o e) (by
    rcases B.frz with z | ⟨z, _⟩
    · exact untold (.inr z)
    · refine untold (.inl fun z2 => ?_)
      subst z2
      rw [z] at e
      cases e)
  obtain ⟨mc, h1, h2⟩ := hlim
  have e0 : Env0 P w K mg (hidT s₁.heap H) callerA [] s₁ H :=
    ⟨rfl, ⟨inK, nsK hns, ⟨mb, nsK hb, hbb⟩, ⟨mc, nsK h1, h2⟩⟩, fun b o e => of_hidT e, Nat.le_of_eq (hidT_size _ _), trivial, fun b hb => absurd (show b ∈ ([] : List Addr) from hb) (by simp), hok, .of_eq hg⟩
  obtain ⟨io, hF⟩ := hF
  have hsp : spP K mg F [.ref a] H (fun v _ => v = .bl true) fun _ _ _ => False := by
    refine ⟨H, [.fls (ns.map D.int)], Same.refl H, .cons (.fls hS (RepL.ints ns)) .nil, ?_⟩
    rw [hF]
    exact fun v G' H' m s r => by
      have r : Rep K mg G' (.bl true) v := r
      cases r
      rfl
  refine codeAny_mono ((FF _ inK (nsK hns)).run callerA [] s₁ H ⟨[.ref a], []⟩ [.ref a] [.ref a] _ _ hr rfl e0 (hbind s₁ (.ref a)) (.cons rfl .nil) hsp) fun r s' h => ?_
  match r, h with
  | .error e, h =>
    obtain ⟨_, _, _, _, _, _, _, _, _, _, _, _, z⟩ := h
    exact z.elim
  | .ok .next, h => exact h.elim
  | .ok .brk, h => exact h.elim
  | .ok .cont, h => exact h.elim
  | .ok (.ret u), h =>
    obtain ⟨v, H', os, bare, un, hok', r', q⟩ := h
    cases (show v = .bl true from q)
    obtain rfl : u = Value.bool true := r'
    refine ⟨rfl, OldK.of_keep fun b o e => ?_, os, bare⟩
    rcases B.only b with z | ⟨ob, xs, z⟩
    · exact un.keep b o e z (by intro y; exact absurd (show b ∈ ([] : List Addr) from y) (by simp)) (by simp)
    · obtain ⟨e1, _⟩ := hok b _ z
      obtain ⟨e2, _⟩ := hok' b _ (un.frzs b ob _ z)
      rw [e] at e1
      cases e1
      exact e2
theorem lawG {P : Program} {w : World} {K : PySem.W.Frag} {mg mb : Str → Option Value} {k : Nat} {fa a : Addr} {fd : FuncData} {x : Str} {F : Fn} {s₁ : Shared} {vs : List Value} {ns : List Int}
    (KX : K.In s₁.heap) (hns : s₁.heap.Ns mainGlobals mg) (hb : s₁.heap.Ns builtinsNs mb) (hbb : ∀ x : Str, x ≠ "__name__" → mb x = bootBuiltins x) (hlim : s₁.heap.NoLimit) (hg : s₁.gens = #[])
    (ha : s₁.heap.get? a = some { cls := .type "list", data := .seq vs.toArray }) (hi : IntsAre vs ns) (hl : ns.length ≤ sizeLine) (hr : Room k callerA)
    (FF : ∀ base : Heap, K.In base → base.Ns mainGlobals mg → FnG P w K mg base k fa fd [x] (spP K mg F)) (hbind : ∀ (s : Shared) (u : Value), BindsTo s fd ⟨[u], []⟩ [(x, u)])
    (hF : ∃ io, F [.fls (ns.map D.int)] = .ok (.d (.bl true)) io) :
    codeAny (model P w) callerA (.call (.ref fa) ⟨[.ref a], []⟩) (fun r s' => r = .ok (.ret (.bool true)) ∧ OldK s₁.heap s'.heap ∧ s'.os = s₁.os ∧ AllBare s'.gens) s₁ := by
  have rv := vals_ints hi
  cases hk : K.lookup a with
  | some o =>
    have e := KX a o hk
    rw [ha] at e
    cases e
    exact startG (H := fun _ => none) KX hns hb hbb hlim hg ha hr FF hbind hF ⟨fun _ _ => rfl, .inl rfl⟩ (.inr ⟨_, vs.toArray, _, hk, rfl, rfl, rfl, by rw [List.size_toArray, hi.length]; exact hl, by simpa using rv⟩)
      fun b u z => by cases (show (none : Option HO) = some u from z)
  | none =>
    refine startG (H := fun b => if b = a then some (.frz { cls := .type "list", data := .seq vs.toArray } (.lst (ns.map V.int))) else none) KX hns hb hbb hlim hg ha hr FF hbind hF
      ⟨fun b hb => if_neg hb, .inr ⟨hk, _, _, if_pos rfl⟩⟩ (.inl (.inr ⟨{ cls := .type "list", data := .seq vs.toArray }, if_pos rfl⟩)) fun b u z => ?_
    by_cases e : b = a
    · subst e
      have z := (if_pos rfl).symm.trans z
      cases z
      exact ⟨ha, by rw [List.length_map]; exact hl, vs, _, rv, ha⟩
    · have z := (if_neg e).symm.trans z
      cases z
theorem walkG {l : PySem.W.OpenLaw} {n k : Nat} {q : Program} {loose : List Str} {XP : (Str → Option Value) → Heap → Prop} {YP : World → Heap → Prop} {d : DefRec} {K : Params → PySem.W.Frag} {x : Str} {F : Fn}
    (hn : l.most = some n) (hn2 : n ≤ 63) (hdf : d.params.defaults = []) (hr : Room k callerA)
    (hY : ∀ (w : World) (h : Heap), YP w h → (K w.params).In h)
    (hF : Right F)
    (FF : ∀ (w : World) (mg : Str → Option Value) (fa : Addr) (h : Heap), (K w.params).In h → h.Ns mainGlobals mg → mg d.name = some (.ref fa) →
      ∃ fd : FuncData, (∀ (s : Shared) (u : Value), BindsTo s fd ⟨[u], []⟩ [(x, u)]) ∧
        ∀ base : Heap, (K w.params).In base → base.Ns mainGlobals mg → FnG l.prog w (K w.params) mg base k fa fd [x] (spP (K w.params) mg F)) :
    PySem.W.WalkO q loose XP YP l.row.toRowW d [] (fun f vs => PySem.call f vs) :=
  Att.attach_callB hn hdf fun w s₀ s₁ mg mb fa o pm cd doc a vs ns G Y ho hd hcd hmg hobj hints hlen hbits hg => by
    have KX := hY w _ Y
    obtain ⟨fd, hb, hFF⟩ := FF w mg fa _ KX G.T.g hmg
    exact lawG KX G.T.g G.T.b G.T.builtins G.T.nolimit hg hobj hints (Nat.le_trans (Nat.le_trans hlen hn2) (by decide)) hr hFF hb (hF.at_ ns (Nat.le_trans hlen hn2) hbits)
end RL
/-! rules in short, for a program that prints them -/
namespace RL
open PySem PySem.Spec PyProof.Rows L2

/-- a def, ready to be called -/
structure Df (P : Program) (w : World) (K : PySem.W.Frag) (mg : Str → Option Value) (base : Heap) (k : Nat) (x : Str) (ps : List Str) (sp : Sp) : Prop where
  ex : ∃ fn fd, FnG P w K mg base k fn fd ps sp ∧ mg x = some (.ref fn) ∧ PySem.W.keepIn K (.ref fn) = true ∧ Binds K fd ps []
/-- a def, as the top left it -/
structure At (K : PySem.W.Frag) (x : Str) (st : Stmt) : Prop where
  ex : ∃ f fd, PySem.W.nsIn K mainGlobals x = some (some (.ref f)) ∧ Fun K x x st f fd ∧ PySem.W.keepIn K (.ref f) = true
theorem at_mk {K : PySem.W.Frag} {x : Str} {st : Stmt} {f : Addr} {oc : Value} {od an : Option Addr} {osl : Array (Option Value)} {kV doc pm cdv ct : Value} (a : PySem.W.nsIn K mainGlobals x = some (some (.ref f)))
    (l : K.lookup f = some ⟨oc, od, .func (PySem.W.fnOf x x (defArgs st) (defBody st) (defScope st) .none kV doc pm an cdv ct), osl⟩)
    (c : PySem.W.codeIn K cdv x = true) (k : PySem.W.keepIn K (.ref f) = true) : At K x st := ⟨⟨f, _, a, fun_mk l c k, k⟩⟩
/-- what a def gives, from its body -/
def Gives (P : Program) (w : World) (K : PySem.W.Frag) (mg : Str → Option Value) (base : Heap) (k : Nat) (x : Str) (st : Stmt) (ps : List Str) (sp : Sp) : Prop := ∀ (f : Addr) (fd : FuncData), Fun K x x st f fd → FnG P w K mg base k f fd ps sp
section
variable {P : Program} {w : World} {K : PySem.W.Frag} {mg : Str → Option Value} {base : Heap} {k : Nat} {x : Str} {st : Stmt} {ps : List Str} {sp : Sp}
theorem df_mk {h : Heap} (KX : K.In h) (G : h.Ns mainGlobals mg) (A : At K x st) (g : Gives P w K mg base k x st ps sp)
    (hb : ∀ (kV doc pm : Value) (an : Option Addr) (cdv ct : Value) (us : List Value), us.length = ps.length → bindArgs (PySem.W.fnOf x x (defArgs st) (defBody st) (defScope st) .none kV doc pm an cdv ct) ⟨us, []⟩ = pure (ps.zip us)) : Df P w K mg base k x ps sp := by
  obtain ⟨f, fd, a, F, kp⟩ := A.ex
  exact ⟨f, fd, g f fd F, PySem.W.mg_of KX G a, kp, F.binds hb⟩
theorem law_mk {h : Heap} {fa : Addr} (KX : K.In h) (G : h.Ns mainGlobals mg) (A : At K x st) (hfa : mg x = some (.ref fa)) {y : Str}
    (hb : ∀ (kV doc pm : Value) (an : Option Addr) (cdv ct : Value) (s : Shared) (u : Value), BindsTo s (PySem.W.fnOf x x (defArgs st) (defBody st) (defScope st) .none kV doc pm an cdv ct) ⟨[u], []⟩ [(y, u)])
    (g : ∀ base : Heap, K.In base → base.Ns mainGlobals mg → Gives P w K mg base k x st [y] sp) :
    ∃ fd : FuncData, (∀ (s : Shared) (u : Value), BindsTo s fd ⟨[u], []⟩ [(y, u)]) ∧ ∀ base : Heap, K.In base → base.Ns mainGlobals mg → FnG P w K mg base k fa fd [y] sp := by
  obtain ⟨f, fd, a, F, kp⟩ := A.ex
  have e := hfa.symm.trans (PySem.W.mg_of KX G a)
  cases e
  have F' := F
  obtain ⟨oc, od, kV, doc, pm, an, cdv, ct, osl, rfl, lk, hcd⟩ := F.ex
  exact ⟨_, hb kV doc pm an cdv ct, fun base h1 h2 => g base h1 h2 _ _ F'⟩
end
theorem hu64 {k : Nat} {A : Around} (r : Room k A) : A.units + 66 < cLine := by
  have := r.un
  omega
theorem hu65 {n : Nat} (h : n + 66 < cLine) : n + 64 < cLine := by omega

section
variable {W : WX} {X : Cx} {a b c e tg iter : Expr} {es : List Expr} {fa fb fi : DenE} {fs : DenA} {ta tb : DenT} {f g : DenS} {st : Stmt} {p q : List Stmt} {pos : Pos}
/-! ### statements -/
theorem x_set {x : Str} {px : Pos} (i : Nat) (nd : X.N.Nodup) (he : DE X W e fa) (hi : X.N[i]? = some x := by rfl) (hx : Loc X.env.scope x := by first | exact .inl rfl | exact .inr rfl) (hs : swapsWith e (some (.Name x px)) pos.line X.env = pure false := by rfl)
    (hf : X.fn x = true ∨ X.env.scope.names.lookup x = some .local := by first | exact .inl rfl | exact .inr rfl) : DS X W (.Assign [.Name x px] e pos) (sSet i fa) := ds_set (fun h => ps_set nd hi hx h hs hf) he
theorem x_asg {L : List Nat} {t : Tgt} (hg : DG X tg L t) (he : DE X W e fa) (hs : swapsWithSole [tg] e pos.line X.env = pure false := by rfl) (hw : swappedStores [tg] e X.env = pure none := by rfl)
    (h1 : (assignEach [tg] X.env).map (·.2) = [assign tg X.env] := by rfl) : DS X W (.Assign [tg] e pos) (sAsg t fa) := ds_asg (fun a b => ps_asg a b hs hw h1) hg he
theorem x_par {x y : Str} {px py pt pt2 : Pos} {kt k2 : Nat} (i j : Nat) (nd : X.N.Nodup) (ha : DN X W [a, b] fs) (hij : i ≠ j := by decide) (hc : X.calm = true := by rfl) (hi : X.N[i]? = some x := by rfl) (hj : X.N[j]? = some y := by rfl)
    (hx : X.env.scope.names.lookup x = some .local := by rfl) (hy : X.env.scope.names.lookup y = some .local := by rfl)
    (hw : swappedStores [.Tuple [.Name x px, .Name y py] kt pt] (.Tuple [a, b] k2 pt2) X.env = pure (some [x, y]) := by rfl)
    (hs : swapsWithSole [.Tuple [.Name x px, .Name y py] kt pt] (.Tuple [a, b] k2 pt2) pos.line X.env = pure false := by rfl) :
    DS X W (.Assign [.Tuple [.Name x px, .Name y py] kt pt] (.Tuple [a, b] k2 pt2) pos) (sPar i j fs) := ds_par hij (fun h => ps_par hc nd hi hj hij hx hy h hw hs) ha
theorem x_tN {x : Str} {px : Pos} (i : Nat) (nd : X.N.Nodup) (hi : X.N[i]? = some x := by rfl) (hx : Loc X.env.scope x := by first | exact .inl rfl | exact .inr rfl)
    (hf : X.fn x = true ∨ X.env.scope.names.lookup x = some .local := by first | exact .inl rfl | exact .inr rfl) : DG X (.Name x px) [i] (tgN i) := dg_name (pg_name nd hi hx hf)
theorem x_for {src : Src} {L : List Nat} {t : Tgt} (hp : PassesOwn (model X.prog X.w) X.A X.env X.xe) (hi : DI X W tg iter src) (hg : DG X tg L t) (hb : DSs X W p f) (hc : X.calm = true := by rfl) (hs : ∀ x, foldedSetIterable iter X.env x = pure x := by intro _; rfl) :
    DS X W (.For tg iter p [] pos) (sFor src t f) := ds_for (fun a b c => ps_for hp hc a b c hs) hi hg hb
theorem x_while (hp : PassesOwn (model X.prog X.w) X.A X.env X.xe) (hc : DT X W c ta) (hb : DSs X W p f) : DS X W (.While c p [] pos) (sWhile ta f) := ds_while (fun a b => ps_while hp a b) hc hb
theorem get_list : PGet X (rIxL X.K) := by
  intro pins s σ H x y v u Q I rx ry h
  obtain ⟨p, xs, i, z, rfl, rfl, hq, he, q⟩ := h
  cases rx
  obtain ⟨t, rfl⟩ := ry
  obtain ⟨its, r, pl, hz⟩ := I.list hq
  obtain ⟨j, h1, h2, h3, h4, h5⟩ := atI_get he
  obtain ⟨w, ew, rw'⟩ := r.get h2
  have hl := r.length
  have hn := line63
  have fin : EP X pins σ Q w s := ⟨z, H, I, rw', q⟩
  by_cases h0 : 0 ≤ i
  · have hj : i.toNat = j := by
      rw [seqIndex_of h0 h5] at h1
      exact Option.some.inj h1
    exact wpAny_getItem_list pl.isList h0 (by omega) (by rw [hj]; simpa using ew) fin
  · have hj : (i + (its.toArray.size : Int)).toNat = j := by
      rw [seqIndex_neg (by omega) h4] at h1
      rw [List.size_toArray, ← hl]
      exact Option.some.inj h1
    exact wpAny_getItem_list_neg pl.isList (by omega) (by rw [List.size_toArray] <;> omega) (by omega) (by rw [hj]; simpa using ew) fin
theorem x_setIx {x : Str} {px ps : Pos} (i : Nat) (ho : PE X (.Name x px) (tVar i)) (hi : DE X W b fi) (he : DE X W e fa) (hs : swapsWithSole [.Subscript (.Name x px) b ps] e pos.line X.env = pure false := by rfl) (hw : swappedStores [.Subscript (.Name x px) b ps] e X.env = pure none := by rfl)
    (h1 : (assignEach [.Subscript (.Name x px) b ps] X.env).map (·.2) = [assign (.Subscript (.Name x px) b ps) X.env] := by rfl)
    (ha : ∀ v, assign (.Subscript (.Name x px) b ps) X.env v = (do
      let ov ← holding [v] (eval (.Name x px) X.env)
      let iv ← holding [v, ov] (eval b X.env)
      standAt ps
      holding [v, ov, iv] (setItem ov iv v)
      release [v, ov, iv] []) := by intro _; rfl) : DS X W (.Assign [.Subscript (.Name x px) b ps] e pos) (sSetIx i fi fa) :=
  ds_setIx (fun h1' h2 => ps_asg h1' (pg_sub ho h2 set_list ha) hs hw h1) hi he
theorem x_aug {x : Str} {px : Pos} {op : Operator} {r : R2} {g : Sl → Sl → Ro → Out Sl} (i : Nat) (nd : X.N.Nodup) (ho : OpR X (inplaceOp op) r) (hg : OpS X.K X.mg r g) (he : DE X W e fa) (hi : X.N[i]? = some x := by rfl) (hx : Loc X.env.scope x := by first | exact .inl rfl | exact .inr rfl)
    (hf : X.fn x = true ∨ X.env.scope.names.lookup x = some .local := by first | exact .inl rfl | exact .inr rfl) : DS X W (.AugAssign (.Name x px) op e pos) (sAug i g fa) := ds_aug hg (fun h => ps_aug nd hi hx h ho hf) he
theorem x_augIx {x : Str} {px ps : Pos} {op : Operator} {r : R2} {g : Sl → Sl → Ro → Out Sl} (i : Nat) (hv : PE X (.Name x px) (tVar i)) (ho : OpR X (inplaceOp op) r) (hg : OpS X.K X.mg r g) (hi : DE X W b fi) (he : DE X W e fa)
    (ha : ∀ ov iv new, augStore b ov iv new = (do holding [new, ov, iv] (setItem ov iv new); release [new, ov, iv] []; pure .next) := by intros; rfl) : DS X W (.AugAssign (.Subscript (.Name x px) b ps) op e pos) (sAugIx i g fi fa) :=
  ds_augIx hg (fun h1 h2 => ps_augS hv h2 get_list h1 ho set_list ha) hi he
theorem x_expr (he : DE X W e fa) (hs : swapsWith e none pos.line X.env = pure false := by rfl) : DS X W (.Expr e pos) (sExpr fa) := ds_expr he hs
/-! ### what is walked -/
theorem x_L (he : DE X W e fa) : DI X W tg e (srcL fa) := di_L (fun h => pi_list h) (fun h => pi_tup h) (fun h => pi_str h) he
theorem x_R1 {px : Pos} (hm : X.mg "range" = none) (ha : DN X W [a] fs) (hg : Gl X "range" := by rfl) (hs : starEach [a] X.env = [(false, eval a X.env)] := by rfl) : DI X W tg (.Call (.Name "range" px) [a] [] pos) (srcR1 fs) := di_R1 (fun h => pi_range1 hg hm h hs) ha
theorem x_R2 {px : Pos} (hm : X.mg "range" = none) (ha : DN X W [a, b] fs) (hg : Gl X "range" := by rfl) (hs : starEach [a, b] X.env = [(false, eval a X.env), (false, eval b X.env)] := by rfl) (hs2 : starEach [b] X.env = [(false, eval b X.env)] := by rfl) :
    DI X W tg (.Call (.Name "range" px) [a, b] [] pos) (srcR2 fs) := di_R2 (fun h => pi_range2 hg hm h hs hs2) ha
theorem x_R3 {px : Pos} (hm : X.mg "range" = none) (ha : DN X W [a, b, c] fs) (hg : Gl X "range" := by rfl) (hs : starEach [a, b, c] X.env = (false, eval a X.env) :: starEach [b, c] X.env := by rfl) (hpl : (backTo pos (starEach [b, c] X.env)).any (·.1) = false := by rfl) :
    DI X W tg (.Call (.Name "range" px) [a, b, c] [] pos) (srcR3 fs) := di_R3 (fun h => pi_range3 hg hm h hs hpl) ha
theorem x_E {px pt : Pos} {elts : List Expr} {kk : Nat} (hm : X.mg "enumerate" = none) (ha : DN X W [a] fs) (hg : Gl X "enumerate" := by rfl) (hs : starEach [a] X.env = [(false, eval a X.env)] := by rfl) :
    DI X W (.Tuple elts kk pt) (.Call (.Name "enumerate" px) [a] [] pos) (srcEA fs) := di_EA (fun h => pi_enum hg hm h hs) (fun h => pi_enumT hg hm h hs) ha
/-! ### calls -/
theorem pe_callD {j k : Nat} {ps : List Str} {sp : Sp} {x : Str} {px : Pos} {t : TA} (D : Df X.prog X.w X.K X.mg X.base j x ps sp) (hj : j ≤ k) (hr : Room k X.A) (hgd : X.A.guards = some []) (tk : Takes X W) (hg : Gl X x) (ha : PA X (e :: es) t)
    (hdb : (x == ("__debug__" : Str)) = false) (he : starEach (e :: es) X.env = (false, eval e X.env) :: starEach es X.env) (hpl : (backTo pos (starEach es X.env)).any (·.1) = false) : PE X (.Call (.Name x px) (e :: es) [] pos) (tCallS sp (WE W) t) := by
  obtain ⟨fn, fd, F, hm, hk, hb⟩ := D.ex
  exact pe_callG (F.mono hj) hr hgd tk hm hk hb hg ha hdb he hpl
theorem x_call {j k : Nat} {ps : List Str} {F : Fn} {x : Str} {px : Pos} (D : Df X.prog X.w X.K X.mg X.base j x ps (spP X.K X.mg F)) (hr : Room k X.A) (hgd : X.A.guards = some []) (tk : Takes X W) (ha : DN X W (e :: es) fs) (hj : j ≤ k := by decide) (hg : Gl X x := by rfl)
    (hdb : (x == ("__debug__" : Str)) = false := by decide) (he : starEach (e :: es) X.env = (false, eval e X.env) :: starEach es X.env := by rfl) (hpl : (backTo pos (starEach es X.env)).any (·.1) = false := by rfl) : DE X W (.Call (.Name x px) (e :: es) [] pos) (eCall F fs) :=
  de_call (fun h => pe_callD D hj hr hgd tk hg h hdb he hpl) ha
theorem x_callI {j k : Nat} {ps : List Str} {F : FnI} {x : Str} {px : Pos} (D : Df X.prog X.w X.K X.mg X.base j x ps (spI X.K X.mg F)) (hr : Room k X.A) (hgd : X.A.guards = some []) (tk : Takes X W) (ha : DN X W (e :: es) fs) (hj : j ≤ k := by decide) (hg : Gl X x := by rfl)
    (hdb : (x == ("__debug__" : Str)) = false := by decide) (he : starEach (e :: es) X.env = (false, eval e X.env) :: starEach es X.env := by rfl) (hpl : (backTo pos (starEach es X.env)).any (·.1) = false := by rfl) : DE X W (.Call (.Name x px) (e :: es) [] pos) (eCallI F fs) :=
  de_callI (fun h => pe_callD D hj hr hgd tk hg h hdb he hpl) ha
theorem x_b {id : String} {r : List V → Hp → VK → Prop} {g : List Sl → Ro → Out Sl} {x : Str} {px : Pos} (hc : CallR X (.builtin id) r) (hcs : CaS X.K X.mg r g) (hv : bootBuiltins x = some (.builtin id)) (hm : X.mg x = none) (ha : DN X W (e :: es) fs) (hg : Gl X x := by rfl) (hn : x ≠ "__name__" := by decide)
    (hdb : (x == ("__debug__" : Str)) = false := by decide) (he : starEach (e :: es) X.env = (false, eval e X.env) :: starEach es X.env := by rfl) (hpl : (backTo pos (starEach es X.env)).any (·.1) = false := by rfl) : DE X W (.Call (.Name x px) (e :: es) [] pos) (eAp g fs) :=
  de_cb hcs (fun h => pe_callB hc hg hm hv h hn hdb he hpl) ha
theorem x_t {T : String} {r : List V → Hp → VK → Prop} {g : List Sl → Ro → Out Sl} {x : Str} {px : Pos} (hc : CallR X (.type T) r) (hcs : CaS X.K X.mg r g) (hv : bootBuiltins x = some (.type T)) (hm : X.mg x = none) (ha : DN X W (e :: es) fs) (hg : Gl X x := by rfl) (hn : x ≠ "__name__" := by decide)
    (hdb : (x == ("__debug__" : Str)) = false := by decide) (he : starEach (e :: es) X.env = (false, eval e X.env) :: starEach es X.env := by rfl) (hpl : (backTo pos (starEach es X.env)).any (·.1) = false := by rfl) : DE X W (.Call (.Name x px) (e :: es) [] pos) (eAp g fs) :=
  de_cb hcs (fun h => pe_callTy hc hg hm hv h hn hdb he hpl) ha
theorem x_isi {n : String} {x y : Str} {px py : Pos} (hn : n ∈ ["int", "bool", "str", "list", "tuple"]) (hv : bootBuiltins x = some (.builtin "isinstance")) (hv2 : bootBuiltins y = some (.type n)) (hm : X.mg x = none) (hm2 : X.mg y = none) (he : DE X W e fa) (hg : Gl X x := by rfl) (hg2 : Gl X y := by rfl)
    (hnx : x ≠ "__name__" := by decide) (hny : y ≠ "__name__" := by decide) (hdb : (x == ("__debug__" : Str)) = false := by decide) (hdb2 : (y == ("__debug__" : Str)) = false := by decide)
    (h1 : starEach (e :: [.Name y py]) X.env = (false, eval e X.env) :: starEach [.Name y py] X.env := by rfl) (h2 : starEach ((.Name y py) :: []) X.env = (false, eval (.Name y py) X.env) :: starEach [] X.env := by rfl)
    (hpl : (backTo pos (starEach [.Name y py] X.env)).any (·.1) = false := by rfl) : DE X W (.Call (.Name x px) [e, .Name y py] [] pos) (eUn (gIsi n) fa) :=
  de_isi hn (fun h => pe_callB call_isi hg hm hv h hnx hdb h1 hpl) he (pe_bltn hg2 hm2 hv2 (show RelV (.ty n) (.type n) from rfl) hny hdb2) h1 h2
end
end RL
namespace RL
open PySem PySem.Spec PyProof.Rows L2

/-- a list of one's own is given to the world, and read -/
def eFv (i : Nat) : DenE := fun env => match env[i]? with
  | some (.d x) => .ok (.d x) env
  | some (.l xs) => .ok (.d (.lst xs)) (env.set i (.d (.lst xs)))
  | _ => .stuck
/-- a name of the top that holds an int -/
def Gi (mg : Str → Option Value) (x : Str) (i : Int) : Prop := ∃ t, mg x = some (.int i t)
section
variable {W : WX} {X : Cx} {a b c e tg iter : Expr} {es : List Expr} {fa fb fi : DenE} {fs : DenA} {ta tb : DenT} {f g : DenS} {st : Stmt} {p q : List Stmt} {pos : Pos}
variable {K : PySem.W.Frag} {mg : Str → Option Value} {A0 : Addr} {G H G1 H1 : Hp} {σ : L2.St} {env : Ro}
theorem Holds.froze {i j : Nat} {a : Addr} {x : D} (h : Holds σ (env.set i (.d x)) j a) : Holds σ env j a ∧ i ≠ j := by
  obtain ⟨h1, s, h2, h3⟩ := h
  rcases get_set_cases h2 with ⟨rfl, rfl, _⟩ | ⟨ne, e⟩
  · cases h3
  · exact ⟨⟨h1, s, e, h3⟩, ne⟩
theorem Owned.froze {i : Nat} {a : Addr} {x : D} (h : Owned σ (env.set i (.d x)) a) : ∃ j, Owns σ env j a ∧ i ≠ j := by
  obtain ⟨j, h1, s, h2, h3⟩ := h
  rcases get_set_cases h2 with ⟨rfl, rfl, _⟩ | ⟨ne, e⟩
  · cases h3
  · exact ⟨j, ⟨h1, s, e, h3⟩, ne⟩
theorem de_fv {i : Nat} {x : Str} (h : PE X (.Name x pos) (tVar i)) : DE X W (.Name x pos) (eFv i) := PE.wk h fun σ H Q ⟨A0, G, env, re, po⟩ => by
  unfold eFv at po
  cases q : env[i]? with
  | none => rw [q] at po; exact po.elim
  | some s =>
    rw [q] at po
    have ok := re.ok i s q
    cases s with
    | no => exact po.elim
    | r j => exact po.elim
    | io xs => exact po.elim
    | b xs => exact po.elim
    | d x =>
      obtain ⟨v, e1, r⟩ := ok
      exact ⟨v, e1, po.val re r⟩
    | l xs =>
      obtain ⟨a, e1, g, vs, hv, rp⟩ := ok
      have oh : Owns σ env i a := ⟨e1, _, q, rfl⟩
      have hl : i < env.length := (List.getElem?_eq_some_iff.mp q).1
      have ga : Same G (upd G a (.lst vs)) := same_upd g
      have rep : Rep X.K X.mg (upd G a (.lst vs)) (.lst xs) (.ref a) := .lst upd_same (rp.mono ga)
      have ne_a : ∀ {j : Nat} {b : Addr}, Holds σ env j b → i ≠ j → b ≠ a := fun {j b} h n z => by
        subst z
        exact n (re.dj i j b oh.holds h)
      refine ⟨_, e1, po _ (upd G a (.lst vs)) H ⟨ga, fun _ _ h _ => h, fun b u hb gb nb => ?_, fun b h => ?_, fun b ⟨j, h⟩ => .inr ⟨j, h.froze.1⟩, fun j b ys ⟨h1, h2⟩ => ⟨h1, ?_⟩, fun _ h => h⟩
        ⟨fun b u e => ?_, by rw [List.length_set]; exact re.len, fun j s e => ?_, fun j k b h1 h2 => re.dj j k b h1.froze.1 h2.froze.1⟩ rep⟩
      · have n : b ≠ a := fun z => by
          subst z
          exact nb ⟨i, oh⟩
        rw [upd_ne n]
        exact gb
      · obtain ⟨j, h, _⟩ := h.froze
        exact .inr ⟨j, h⟩
      · have ne : i ≠ j := fun z => by subst z; rw [q] at h2; cases h2
        rw [List.getElem?_set_ne ne]
        exact h2
      · by_cases hb : b = a
        · subst hb
          rw [upd_same] at e
          cases e
          exact hv
        · rw [upd_ne hb] at e
          exact re.sub b u e
      · rcases get_set_cases e with ⟨rfl, rfl, _⟩ | ⟨ne, e'⟩
        · exact ⟨.ref a, e1, rep⟩
        · refine (re.ok j s e').mono ga fun b h1 h2 => ?_
          have hb : Holds σ env j b := ⟨h1, s, e', h2⟩
          obtain ⟨g2, _⟩ := re.there ⟨j, hb⟩
          exact ⟨by rw [upd_ne (ne_a hb ne)]; exact g2, fun u hu => hu⟩
theorem x_gi {x : Str} {i : Int} (h : Gi X.mg x i) (hg : Gl X x := by rfl) (hd : (x == ("__debug__" : Str)) = false := by decide) : DE X W (.Name x pos) (eC (.int i)) := by
  obtain ⟨t, h⟩ := h
  exact de_c (pe_glob hg h (show RelV (.int i) (.int i t) from ⟨t, rfl⟩) hd) fun _ => .int i
/-- name = [..] on one line: data -/
theorem ds_setLcF {i : Nat} {y : Str} {py spos : Pos} {elt : Expr} {ifs : List Expr} {scope : Scope} {own : List (Str × Nat)} {src : Src} {L : List Nat} {t : Tgt} {tst : DenT} {fe : DenE} (hc : X.calm = true) (hN : X.N.Nodup) (hy : X.N[i]? = some y) (hyl : X.env.scope.names.lookup y = some .local)
    (hk : X.env.scope.kind = .function) (hl : (py.line == pos.line) = true) (ha : (scope.names.any fun (n, k) => n == y && (k == .local || k == .cell)) = false)
    (ok : blkC X.N X.env.scope scope own = true) (hL : (L.all fun i => (own.map (·.2)).contains i) = true) (hi : DI X W tg iter src)
    (hg : ∀ (s : Shared) (H : Hp) (C : Addr) (cl : List (Str × Addr)) (fp : List Addr), DG (X.blk s H scope (compEnvC scope cl C X.env) fp) tg L t) (ht : ∀ (s : Shared) (H : Hp) (C : Addr) (cl : List (Str × Addr)) (fp : List Addr), DTs (X.blk s H scope (compEnvC scope cl C X.env) fp) ifs tst)
    (he : ∀ (s : Shared) (H : Hp) (C : Addr) (cl : List (Str × Addr)) (fp : List Addr), DE (X.blk s H scope (compEnvC scope cl C X.env) fp) W0 elt fe) (hs : ∀ x, foldedSetIterable iter X.env x = pure x := by intro _; rfl) :
    DS X W (.Assign [.Name y py] (.ListComp elt [⟨tg, iter, ifs, 0⟩] scope pos) spos) (sSet i (eFz (eLc (own.map (·.2)) src t tst fe))) :=
  PS.wk (ps_setLc hc hN hy hyl (sw_true hk hyl hl ha) hi (blkOk_by ok) hg ht he hs) fun D σ H ⟨A0, G, env, re, po⟩ => by
    have hLm : ∀ i ∈ L, i ∈ own.map (·.2) := fun i hi => by
      have := List.all_eq_true.mp hL i hi
      simpa using this
    obtain ⟨A0', G', env', re', po'⟩ := set_ok (fa := eFz (eLc (own.map (·.2)) src t tst fe)) re po
    exact tLc_of hLm re' (Post.fz po')
end
end RL
/-! how a denotation is reckoned, step by step (by simp) -/
namespace RL
open PySem L2

def kOp2 (g : Sl → Sl → Ro → Out Sl) (x : Sl) (o : Out Sl) : Out Sl := o.bind fun y e => g x y e
def kOp (g : Sl → Sl → Ro → Out Sl) (b : DenE) (o : Out Sl) : Out Sl := o.bind fun x e1 => (b e1).bind fun y e2 => g x y e2
def kUn (g : Sl → Ro → Out Sl) (o : Out Sl) : Out Sl := o.bind g
def kAp (g : List Sl → Ro → Out Sl) (o : Out (List Sl)) : Out Sl := o.bind g
def kC2 (r : Sl) (o : Out (List Sl)) : Out (List Sl) := o.bind fun rs e2 => .ok (r :: rs) e2
def kC (as : DenA) (o : Out Sl) : Out (List Sl) := o.bind fun r e1 => (as e1).bind fun rs e2 => .ok (r :: rs) e2
def kVal (o : Out Sl) : Out Bool := o.bind fun r e => match r with
  | .d (.bl b) => .ok b e
  | _ => .stuck
def kTru2 (o : Option Bool) (e : Ro) : Out Bool := match o with
  | some b => .ok b e
  | none => .stuck
def kTru (o : Out Sl) : Out Bool := o.bind fun r e => match tru e r with
  | some b => .ok b e
  | none => .stuck
def kTAnd (b : DenT) (o : Out Bool) : Out Bool := o.bind fun c e => if c then b e else .ok false e
def kTOr (b : DenT) (o : Out Bool) : Out Bool := o.bind fun c e => if c then .ok true e else b e
def kTNot (o : Out Bool) : Out Bool := o.bind fun c e => .ok (!c) e
def kIfE (a b : DenE) (o : Out Bool) : Out Sl := o.bind fun k e => if k then a e else b e
def kAnd2 (b : DenE) (r : Sl) (e : Ro) (t : Option Bool) : Out Sl := match t with
  | some true => b e
  | some false => (match r with
    | .d x => .ok (.d x) e
    | _ => .stuck)
  | none => .stuck
def kAnd (b : DenE) (o : Out Sl) : Out Sl := o.bind fun r e => match tru e r with
  | some true => b e
  | some false => (match r with
    | .d x => .ok (.d x) e
    | _ => .stuck)
  | none => .stuck
def kOr2 (b : DenE) (r : Sl) (e : Ro) (t : Option Bool) : Out Sl := match t with
  | some true => (match r with
    | .d x => .ok (.d x) e
    | _ => .stuck)
  | some false => b e
  | none => .stuck
def kOr (b : DenE) (o : Out Sl) : Out Sl := o.bind fun r e => match tru e r with
  | some true => (match r with
    | .d x => .ok (.d x) e
    | _ => .stuck)
  | some false => b e
  | none => .stuck
def kNot2 (e : Ro) (t : Option Bool) : Out Sl := match t with
  | some b => .ok (.d (.bl (!b))) e
  | none => .stuck
def kNot (o : Out Sl) : Out Sl := o.bind fun r e => match tru e r with
  | some b => .ok (.d (.bl (!b))) e
  | none => .stuck
def kCh3 (g' : Sl → Sl → Ro → Out Sl) (c : DenE) (y : Sl) (o : Out Sl) : Out Sl := o.bind fun z e3 => match z with
  | .d (.bl true) => (c e3).bind fun w e4 => g' y w e4
  | .d (.bl false) => .ok (.d (.bl false)) e3
  | _ => .stuck
def kCh2 (g g' : Sl → Sl → Ro → Out Sl) (c : DenE) (x : Sl) (o : Out Sl) : Out Sl := o.bind fun y e2 => (g x y e2).bind fun z e3 => match z with
  | .d (.bl true) => (c e3).bind fun w e4 => g' y w e4
  | .d (.bl false) => .ok (.d (.bl false)) e3
  | _ => .stuck
def kCh (g g' : Sl → Sl → Ro → Out Sl) (b c : DenE) (o : Out Sl) : Out Sl := o.bind fun x e1 => (b e1).bind fun y e2 => (g x y e2).bind fun z e3 => match z with
  | .d (.bl true) => (c e3).bind fun w e4 => g' y w e4
  | .d (.bl false) => .ok (.d (.bl false)) e3
  | _ => .stuck
def kSet (i : Nat) (o : Out Sl) : FO := o.toS fun r e => put i r e
def kRet (o : Out Sl) : FO := o.toS fun r e => .ret r e
def kEx (o : Out Sl) : FO := o.toS fun _ e => .next e
def kIf (f g : DenS) (o : Out Bool) : FO := o.toS fun b e => if b then f e else g e
def kThn (g : DenS) (o : FO) : FO := o.thn g
def kSI3 (i : Nat) (z : Int) (x : D) (e : Ro) (xs : List D) (j : Option Nat) : FO := match j with
  | some j => .next (setOwn e i (xs.set j x))
  | none => .stuck
def kSI2 (i : Nat) (r : Sl) (o : Out Sl) : FO := o.toS fun k e2 => match ownAt e2 i, k, r with
    | some xs, .d (.int z), .d x => (match ixN xs.length z with
      | some j => .next (setOwn e2 i (xs.set j x))
      | none => .stuck)
    | _, _, _ => .stuck
def kSI (i : Nat) (fi : DenE) (o : Out Sl) : FO := o.toS fun r e1 => match ownAt e1 i with
  | none => .stuck
  | some _ => (fi e1).toS fun k e2 => match ownAt e2 i, k, r with
    | some xs, .d (.int z), .d x => (match ixN xs.length z with
      | some j => .next (setOwn e2 i (xs.set j x))
      | none => .stuck)
    | _, _, _ => .stuck
def kAsg2 (o : Option Ro) : FO := match o with
  | some e1 => .next e1
  | none => .stuck
def kAsg (t : Tgt) (o : Out Sl) : FO := o.toS fun r e => match r with
  | .d x => (match t x e with
    | some e1 => .next e1
    | none => .stuck)
  | _ => .stuck
def kPar (i j : Nat) (o : Out (List Sl)) : FO := o.toS fun rs e => match rs with
  | [.d x, r] => (put i (.d x) e).thn (put j r)
  | [r, .d y] => (put i r e).thn (put j (.d y))
  | _ => .stuck
def kBack (l : Option Nat) (e0 : Ro) (o : FO) : FO := o.map (back l e0)
def kFor (t : Tgt) (f : DenS) (o : Out (Option Nat × List D)) : FO := o.toS fun l e => (forD t f l.2 (lend l.1 e)).map (back l.1 e)
def kCall2 (e : Ro) (r : Res) : Out Sl := match r with
    | .ok (.d x) _ => .ok (.d x) e
    | .ok (.l xs) _ => .ok (.l xs) e
    | .err x _ => .err x e
    | _ => .stuck
def kCall (F : Fn) (o : Out (List Sl)) : Out Sl := o.bind fun rs e => match allD rs with
  | some ds => (match F ds with
    | .ok (.d x) _ => .ok (.d x) e
    | .ok (.l xs) _ => .ok (.l xs) e
    | .err x _ => .err x e
    | _ => .stuck)
  | none => .stuck
def kCallI2 (i : Nat) (e : Ro) (r : Res) : Out Sl := match r with
      | .ok (.d x) ys => .ok (.d x) (setOwn e i ys)
      | .ok (.l zs) ys => .ok (.l zs) (setOwn e i ys)
      | .err x ys => .err x (setOwn e i ys)
      | _ => .stuck
def kCallI (F : FnI) (o : Out (List Sl)) : Out Sl := o.bind fun rs e => match rs with
  | .r i :: rs' => (match ownAt e i, allD rs' with
    | some xs, some ds => (match F xs ds with
      | .ok (.d x) ys => .ok (.d x) (setOwn e i ys)
      | .ok (.l zs) ys => .ok (.l zs) (setOwn e i ys)
      | .err x ys => .err x (setOwn e i ys)
      | _ => .stuck)
    | _, _ => .stuck)
  | _ => .stuck
def kRun (o : FO) : Res := match o with
  | .next _ => .ok (.d .non) []
  | .ret (.d x) _ => .ok (.d x) []
  | .ret (.l xs) _ => .ok (.l xs) []
  | .err x _ => .err x []
  | _ => .stuck
def kRunI (o : FO) : Res := match o with
  | .next e => (match io0 e with
    | some ys => .ok (.d .non) ys
    | none => .stuck)
  | .ret (.d x) e => (match io0 e with
    | some ys => .ok (.d x) ys
    | none => .stuck)
  | .ret (.l zs) e => (match io0 e with
    | some ys => .ok (.l zs) ys
    | none => .stuck)
  | .err x e => (match io0 e with
    | some ys => .err x ys
    | none => .stuck)
  | _ => .stuck
def kSl3 (r : Sl) (l : Option Int) (o : Out (Option Int)) : Out Sl := o.bind fun h e3 => gSl' r l h e3
def kSl2 (r : Sl) (hi : DenP) (o : Out (Option Int)) : Out Sl := o.bind fun l e2 => (hi e2).bind fun h e3 => gSl' r l h e3
def kSl (lo hi : DenP) (o : Out Sl) : Out Sl := o.bind fun r e1 => (lo e1).bind fun l e2 => (hi e2).bind fun h e3 => gSl' r l h e3
def kPS (o : Out Sl) : Out (Option Int) := o.bind fun r e => match r with
  | .d (.int i) => .ok (some i) e
  | _ => .stuck
def kLc2 (vs : List Nat) (t : Tgt) (tst : DenT) (elt : DenE) (l : Option Nat) (ds : List D) (e : Ro) (p : Bool) : Out Sl :=
  if p then lcEnd vs l e (lcD vs t tst elt ds [] (wip (lend l e) vs)) else .stuck
def kLc (vs : List Nat) (t : Tgt) (tst : DenT) (elt : DenE) (o : Out (Option Nat × List D)) : Out Sl := o.bind fun l e =>
  if plainAt (lend l.1 e) vs then lcEnd vs l.1 e (lcD vs t tst elt l.2 [] (wip (lend l.1 e) vs)) else .stuck
def kMut3 (i : Nat) (e : Ro) (o : Option (List D × D)) : Out Sl := match o with
      | none => .stuck
      | some (ys, d) => .ok (.d d) (setOwn e i ys)
def kMut2 (i : Nat) (g : Mu) (rs : List Sl) (e : Ro) (o : Option (List D)) : Out Sl := match o with
    | none => .stuck
    | some xs => match g xs rs e with
      | none => .stuck
      | some (ys, d) => .ok (.d d) (setOwn e i ys)
def kMut (i : Nat) (g : Mu) (o : Out (List Sl)) : Out Sl := o.bind fun rs e => match ownAt e i with
    | none => .stuck
    | some xs => match g xs rs e with
      | none => .stuck
      | some (ys, d) => .ok (.d d) (setOwn e i ys)
def kMut0 (i : Nat) (g : Mu) (as : DenA) (env : Ro) (o : Option (List D)) : Out Sl := match o with
  | none => .stuck
  | some _ => kMut i g (as env)

section
variable {env e e1 : Ro} {x y r : Sl} {rs : List Sl} {a b c : DenE} {as : DenA} {ta tb : DenT} {f g' : DenS} {g h : Sl → Sl → Ro → Out Sl} {u : Sl → Ro → Out Sl} {v : List Sl → Ro → Out Sl} {i j : Nat} {z : Int} {t : Tgt} {F : Fn} {FI : FnI} {xs ys ds : List D} {d : D} {l : Option Nat} {lo hi : DenP} {o : FO} {ex : Ex} {tst : DenT} {elt : DenE} {vs : List Nat} {mu : Mu}
@[simp] theorem eC_ap : eC d env = .ok (.d d) env := (rfl)
@[simp] theorem eOp_ap : eOp g a b env = kOp g b (a env) := (rfl)
@[simp] theorem kOp_ok : kOp g b (.ok x e) = kOp2 g x (b e) := (rfl)
@[simp] theorem kOp2_ok : kOp2 g x (.ok y e) = g x y e := (rfl)
@[simp] theorem kOp_err : kOp g b (.err ex e) = .err ex e := (rfl)
@[simp] theorem kOp2_err : kOp2 g x (.err ex e) = .err ex e := (rfl)
@[simp] theorem eUn_ap : eUn u a env = kUn u (a env) := (rfl)
@[simp] theorem kUn_ok : kUn u (.ok x e) = u x e := (rfl)
@[simp] theorem kUn_err : kUn u (.err ex e) = .err ex e := (rfl)
@[simp] theorem eFz_ap : eFz a env = kUn fz (a env) := (rfl)
@[simp] theorem fz_d : fz (.d d) e = .ok (.d d) e := (rfl)
@[simp] theorem fz_l : fz (.l xs) e = .ok (.d (.lst xs)) e := (rfl)
@[simp] theorem aNil_ap : aNil env = .ok [] env := (rfl)
@[simp] theorem aCons_ap : aCons a as env = kC as (a env) := (rfl)
@[simp] theorem kC_ok : kC as (.ok r e) = kC2 r (as e) := (rfl)
@[simp] theorem kC2_ok : kC2 r (.ok rs e) = .ok (r :: rs) e := (rfl)
@[simp] theorem kC_err : kC as (.err ex e) = .err ex e := (rfl)
@[simp] theorem kC2_err : kC2 r (.err ex e) = .err ex e := (rfl)
@[simp] theorem eAp_ap : eAp v as env = kAp v (as env) := (rfl)
@[simp] theorem kAp_ok : kAp v (.ok rs e) = v rs e := (rfl)
@[simp] theorem kAp_err : kAp v (.err ex e) = .err ex e := (rfl)
@[simp] theorem allD_nil : allD [] = some [] := (rfl)
@[simp] theorem allD_cons : allD (.d d :: rs) = (allD rs).map (d :: ·) := (rfl)
@[simp] theorem tVal_ap : tVal a env = kVal (a env) := (rfl)
@[simp] theorem kVal_ok {b : Bool} : kVal (.ok (.d (.bl b)) e) = .ok b e := (rfl)
@[simp] theorem kVal_err : kVal (.err ex e) = .err ex e := (rfl)
@[simp] theorem tTru_ap : tTru a env = kTru (a env) := (rfl)
@[simp] theorem kTru_ok : kTru (.ok r e) = kTru2 (tru e r) e := (rfl)
@[simp] theorem kTru_err : kTru (.err ex e) = .err ex e := (rfl)
@[simp] theorem kTru2_s {b : Bool} : kTru2 (some b) e = .ok b e := (rfl)
@[simp] theorem tru_bl {b : Bool} : tru e (.d (.bl b)) = some b := (rfl)
@[simp] theorem tru_int {i : Int} : tru e (.d (.int i)) = some (i != 0) := (rfl)
@[simp] theorem tru_non : tru e (.d .non) = some false := (rfl)
@[simp] theorem tru_tup : tru e (.d (.tup xs)) = some (!xs.isEmpty) := (rfl)
@[simp] theorem tru_lst : tru e (.d (.lst xs)) = some (!xs.isEmpty) := (rfl)
@[simp] theorem tAnd_ap : tAnd' ta tb env = kTAnd tb (ta env) := (rfl)
@[simp] theorem kTAnd_t : kTAnd tb (.ok true e) = tb e := (rfl)
@[simp] theorem kTAnd_f : kTAnd tb (.ok false e) = .ok false e := (rfl)
@[simp] theorem kTAnd_err : kTAnd tb (.err ex e) = .err ex e := (rfl)
@[simp] theorem tOr_ap : tOr' ta tb env = kTOr tb (ta env) := (rfl)
@[simp] theorem kTOr_t : kTOr tb (.ok true e) = .ok true e := (rfl)
@[simp] theorem kTOr_f : kTOr tb (.ok false e) = tb e := (rfl)
@[simp] theorem kTOr_err : kTOr tb (.err ex e) = .err ex e := (rfl)
@[simp] theorem tNot_ap : tNot' ta env = kTNot (ta env) := (rfl)
@[simp] theorem kTNot_ok {b : Bool} : kTNot (.ok b e) = .ok (!b) e := (rfl)
@[simp] theorem kTNot_err : kTNot (.err ex e) = .err ex e := (rfl)
@[simp] theorem tYesD_ap : tYesD env = .ok true env := (rfl)
@[simp] theorem eIf_ap : eIf ta a b env = kIfE a b (ta env) := (rfl)
@[simp] theorem kIfE_t : kIfE a b (.ok true e) = a e := (rfl)
@[simp] theorem kIfE_f : kIfE a b (.ok false e) = b e := (rfl)
@[simp] theorem eAnd_ap : eAnd a b env = kAnd b (a env) := (rfl)
@[simp] theorem kAnd_ok : kAnd b (.ok r e) = kAnd2 b r e (tru e r) := (rfl)
@[simp] theorem kAnd2_t : kAnd2 b r e (some true) = b e := (rfl)
@[simp] theorem kAnd2_f : kAnd2 b (.d d) e (some false) = .ok (.d d) e := (rfl)
@[simp] theorem eOr_ap : eOr a b env = kOr b (a env) := (rfl)
@[simp] theorem kOr_ok : kOr b (.ok r e) = kOr2 b r e (tru e r) := (rfl)
@[simp] theorem kOr2_t : kOr2 b (.d d) e (some true) = .ok (.d d) e := (rfl)
@[simp] theorem kOr2_f : kOr2 b r e (some false) = b e := (rfl)
@[simp] theorem eNot_ap : eNot a env = kNot (a env) := (rfl)
@[simp] theorem kNot_ok : kNot (.ok r e) = kNot2 e (tru e r) := (rfl)
@[simp] theorem kNot2_s {b : Bool} : kNot2 e (some b) = .ok (.d (.bl (!b))) e := (rfl)
@[simp] theorem eChain_ap : eChain g h a b c env = kCh g h b c (a env) := (rfl)
@[simp] theorem kCh_ok : kCh g h b c (.ok x e) = kCh2 g h c x (b e) := (rfl)
@[simp] theorem kCh2_ok : kCh2 g h c x (.ok y e) = kCh3 h c y (g x y e) := (rfl)
@[simp] theorem kCh3_t : kCh3 h c y (.ok (.d (.bl true)) e) = kOp2 h y (c e) := (rfl)
@[simp] theorem kCh3_f : kCh3 h c y (.ok (.d (.bl false)) e) = .ok (.d (.bl false)) e := (rfl)
/-! statements -/
@[simp] theorem sNil_ap : sNil env = .next env := (rfl)
@[simp] theorem sBrk_ap : sBrk env = .brk env := (rfl)
@[simp] theorem sCont_ap : sCont env = .cont env := (rfl)
@[simp] theorem sSeq_ap : sSeq f g' env = kThn g' (f env) := (rfl)
@[simp] theorem kThn_next : kThn g' (.next e) = g' e := (rfl)
@[simp] theorem kThn_ret : kThn g' (.ret r e) = .ret r e := (rfl)
@[simp] theorem kThn_brk : kThn g' (.brk e) = .brk e := (rfl)
@[simp] theorem kThn_cont : kThn g' (.cont e) = .cont e := (rfl)
@[simp] theorem kThn_err : kThn g' (.err ex e) = .err ex e := (rfl)
@[simp] theorem sSet_ap : sSet i a env = kSet i (a env) := (rfl)
@[simp] theorem kSet_ok : kSet i (.ok r e) = put i r e := (rfl)
@[simp] theorem kSet_err : kSet i (.err ex e) = .err ex e := (rfl)
theorem put_d0 : put i (.d d) e = if isIo e i then .stuck else .next (e.set i (.d d)) := by unfold put; rfl
theorem put_l0 : put i (.l xs) e = if isIo e i then .stuck else .next (e.set i (.l xs)) := by unfold put; rfl
@[simp] theorem isIo_0 : isIo (x :: e) 0 = (match x with
  | .io _ => true
  | .b _ => true
  | _ => false) := by
  unfold isIo
  cases x <;> rfl
@[simp] theorem isIo_s : isIo (x :: e) (i + 1) = isIo e i := by
  unfold isIo
  simp
@[simp] theorem isIo_n : isIo [] i = false := by unfold isIo; simp
@[simp] theorem sRet_ap : sRet a env = kRet (a env) := (rfl)
@[simp] theorem kRet_ok : kRet (.ok r e) = .ret r e := (rfl)
@[simp] theorem kRet_err : kRet (.err ex e) = .err ex e := (rfl)
@[simp] theorem sRetN_ap : sRetN env = .ret (.d .non) env := (rfl)
@[simp] theorem sExpr_ap : sExpr a env = kEx (a env) := (rfl)
@[simp] theorem kEx_ok : kEx (.ok r e) = .next e := (rfl)
@[simp] theorem kEx_err : kEx (.err ex e) = .err ex e := (rfl)
@[simp] theorem sIf_ap : sIf ta f g' env = kIf f g' (ta env) := (rfl)
@[simp] theorem kIf_t : kIf f g' (.ok true e) = f e := (rfl)
@[simp] theorem kIf_f : kIf f g' (.ok false e) = g' e := (rfl)
@[simp] theorem kIf_err : kIf f g' (.err ex e) = .err ex e := (rfl)
@[simp] theorem sSetIx_ap : sSetIx i b a env = kSI i b (a env) := (rfl)
theorem kSI_ok (ho : ownAt e i = some xs) : kSI i b (.ok r e) = kSI2 i r (b e) := by
  unfold kSI kSI2
  simp only [Out.toS, ho]
theorem kSI2_ok (ho : ownAt e i = some xs) : kSI2 i (.d d) (.ok (.d (.int z)) e) = kSI3 i z d e xs (ixN xs.length z) := by
  unfold kSI2 kSI3
  simp only [Out.toS, ho]
@[simp] theorem kSI3_s : kSI3 i z d e xs (some j) = .next (setOwn e i (xs.set j d)) := (rfl)
@[simp] theorem sAsg_ap : sAsg t a env = kAsg t (a env) := (rfl)
@[simp] theorem kAsg_ok : kAsg t (.ok (.d d) e) = kAsg2 (t d e) := (rfl)
@[simp] theorem kAsg2_s : kAsg2 (some e) = .next e := (rfl)
@[simp] theorem tgN_ap : tgN i d e = if isIo e i then none else some (e.set i (.d d)) := (rfl)
@[simp] theorem tgT_ap {ts : List Tgt} : tgT ts (.tup ds) e = tgs ts ds e := (rfl)
@[simp] theorem tgs_nil : tgs [] [] e = some e := (rfl)
def kTgs (ts : List Tgt) (ds : List D) (o : Option Ro) : Option Ro := match o with
    | some e1 => tgs ts ds e1
    | none => none
@[simp] theorem tgs_cons {ts : List Tgt} : tgs (t :: ts) (d :: ds) e = kTgs ts ds (t d e) := (rfl)
@[simp] theorem kTgs_s {ts : List Tgt} : kTgs ts ds (some e) = tgs ts ds e := (rfl)
@[simp] theorem sPar_ap : sPar i j as env = kPar i j (as env) := (rfl)
@[simp] theorem kPar_dd {d d2 : D} : kPar i j (.ok [.d d, .d d2] e) = kThn (put j (.d d2)) (put i (.d d) e) := (rfl)
@[simp] theorem kPar_dl : kPar i j (.ok [.d d, .l xs] e) = kThn (put j (.l xs)) (put i (.d d) e) := (rfl)
@[simp] theorem kPar_ld : kPar i j (.ok [.l xs, .d d] e) = kThn (put j (.d d)) (put i (.l xs) e) := (rfl)
@[simp] theorem kPar_err : kPar i j (.err ex e) = .err ex e := (rfl)
@[simp] theorem sFor_ap {src : Src} : sFor src t f env = kFor t f (src env) := (rfl)
@[simp] theorem kFor_ok : kFor t f (.ok (l, ds) e) = kBack l e (forD t f ds (lend l e)) := (rfl)
@[simp] theorem kBack_next : kBack l e (.next e1) = .next (back l e e1) := (rfl)
@[simp] theorem kBack_ret : kBack l e (.ret r e1) = .ret r (back l e e1) := (rfl)
@[simp] theorem kBack_err : kBack l e (.err ex e1) = .err ex (back l e e1) := (rfl)
@[simp] theorem lend_n : lend none e = e := (rfl)
@[simp] theorem back_n : back none e e1 = e1 := (rfl)
@[simp] theorem eCall_ap : eCall F as env = kCall F (as env) := (rfl)
theorem kCall_ok (ha : allD rs = some ds) : kCall F (.ok rs e) = kCall2 e (F ds) := by
  unfold kCall kCall2
  simp only [Out.bind_ok, ha]
@[simp] theorem kCall2_d : kCall2 e (.ok (.d d) ds) = .ok (.d d) e := (rfl)
@[simp] theorem kCall2_l : kCall2 e (.ok (.l xs) ds) = .ok (.l xs) e := (rfl)
@[simp] theorem kCall2_err : kCall2 e (.err ex ds) = .err ex e := (rfl)
@[simp] theorem kCall_err : kCall F (.err ex e) = .err ex e := (rfl)
@[simp] theorem kCall_0 : kCall F (.ok [] e) = kCall2 e (F []) := (rfl)
@[simp] theorem kCall_1 : kCall F (.ok [.d d] e) = kCall2 e (F [d]) := (rfl)
@[simp] theorem kCall_2 {d2 : D} : kCall F (.ok [.d d, .d d2] e) = kCall2 e (F [d, d2]) := (rfl)
@[simp] theorem kCall_3 {d2 d3 : D} : kCall F (.ok [.d d, .d d2, .d d3] e) = kCall2 e (F [d, d2, d3]) := (rfl)
@[simp] theorem kCall_4 {d2 d3 d4 : D} : kCall F (.ok [.d d, .d d2, .d d3, .d d4] e) = kCall2 e (F [d, d2, d3, d4]) := (rfl)
@[simp] theorem eCallI_ap : eCallI FI as env = kCallI FI (as env) := (rfl)
theorem kCallI_0 (ho : ownAt e i = some xs) : kCallI FI (.ok [.r i] e) = kCallI2 i e (FI xs []) := by
  unfold kCallI kCallI2
  simp only [Out.bind_ok, ho]
  rfl
theorem kCallI_1 (ho : ownAt e i = some xs) : kCallI FI (.ok [.r i, .d d] e) = kCallI2 i e (FI xs [d]) := by
  unfold kCallI kCallI2
  simp only [Out.bind_ok, ho]
  rfl
theorem kCallI_2 {d2 : D} (ho : ownAt e i = some xs) : kCallI FI (.ok [.r i, .d d, .d d2] e) = kCallI2 i e (FI xs [d, d2]) := by
  unfold kCallI kCallI2
  simp only [Out.bind_ok, ho]
  rfl
@[simp] theorem kCallI2_d : kCallI2 i e (.ok (.d d) ys) = .ok (.d d) (setOwn e i ys) := (rfl)
@[simp] theorem kCallI2_l : kCallI2 i e (.ok (.l xs) ys) = .ok (.l xs) (setOwn e i ys) := (rfl)
@[simp] theorem kCallI2_err : kCallI2 i e (.err ex ys) = .err ex (setOwn e i ys) := (rfl)
@[simp] theorem kRun_next : kRun (.next e) = .ok (.d .non) [] := (rfl)
@[simp] theorem kRun_d : kRun (.ret (.d d) e) = .ok (.d d) [] := (rfl)
@[simp] theorem kRun_l : kRun (.ret (.l xs) e) = .ok (.l xs) [] := (rfl)
@[simp] theorem kRun_err : kRun (.err ex e) = .err ex [] := (rfl)
@[simp] theorem kRunI_next : kRunI (.next (.io ys :: e)) = .ok (.d .non) ys := (rfl)
@[simp] theorem kRunI_d : kRunI (.ret (.d d) (.io ys :: e)) = .ok (.d d) ys := (rfl)
@[simp] theorem kRunI_l : kRunI (.ret (.l xs) (.io ys :: e)) = .ok (.l xs) ys := (rfl)
@[simp] theorem kRunI_err : kRunI (.err ex (.io ys :: e)) = .err ex ys := (rfl)
theorem run_P {n : Nat} {np : Nat} (h : ds.length = np) : runP np n f ds = kRun (f (ds.map .d ++ List.replicate (n - np) .no)) := by
  unfold runP
  rw [if_pos h]
  rfl
theorem run_I {n : Nat} {np : Nat} (h : ds.length = np) : runI np n f xs ds = kRunI (f (.io xs :: (ds.map .d ++ List.replicate (n - (np + 1)) .no))) := by
  unfold runI
  rw [if_pos h]
  rfl
@[simp] theorem runI_0 {n : Nat} : runI 0 n f xs [] = kRunI (f (.io xs :: List.replicate (n - 1) .no)) := (rfl)
@[simp] theorem runI_1 {n : Nat} : runI 1 n f xs [d] = kRunI (f (.io xs :: .d d :: List.replicate (n - 2) .no)) := (rfl)
@[simp] theorem runI_2 {n : Nat} {d2 : D} : runI 2 n f xs [d, d2] = kRunI (f (.io xs :: .d d :: .d d2 :: List.replicate (n - 3) .no)) := (rfl)
@[simp] theorem runI_3 {n : Nat} {d2 d3 : D} : runI 3 n f xs [d, d2, d3] = kRunI (f (.io xs :: .d d :: .d d2 :: .d d3 :: List.replicate (n - 4) .no)) := (rfl)
@[simp] theorem runP_1 {n : Nat} : runP 1 n f [d] = kRun (f (.d d :: List.replicate (n - 1) .no)) := (rfl)
@[simp] theorem runP_2 {n : Nat} {d2 : D} : runP 2 n f [d, d2] = kRun (f (.d d :: .d d2 :: List.replicate (n - 2) .no)) := (rfl)
@[simp] theorem runP_3 {n : Nat} {d2 d3 : D} : runP 3 n f [d, d2, d3] = kRun (f (.d d :: .d d2 :: .d d3 :: List.replicate (n - 3) .no)) := (rfl)
@[simp] theorem runP_4 {n : Nat} {d2 d3 d4 : D} : runP 4 n f [d, d2, d3, d4] = kRun (f (.d d :: .d d2 :: .d d3 :: .d d4 :: List.replicate (n - 4) .no)) := (rfl)
/-! names -/
@[simp] theorem ownAt_l0 : ownAt (.l xs :: e) 0 = some xs := (rfl)
@[simp] theorem ownAt_io0 : ownAt (.io xs :: e) 0 = some xs := (rfl)
@[simp] theorem ownAt_s : ownAt (x :: e) (i + 1) = ownAt e i := by unfold ownAt; simp
@[simp] theorem setOwn_l0 : setOwn (.l xs :: e) 0 ys = .l ys :: e := (rfl)
@[simp] theorem setOwn_io0 : setOwn (.io xs :: e) 0 ys = .io ys :: e := (rfl)
@[simp] theorem setOwn_s : setOwn (x :: e) (i + 1) ys = x :: setOwn e i ys := by
  unfold setOwn
  simp only [List.getElem?_cons_succ, List.set_cons_succ]
  split <;> simp_all
def vS (i : Nat) (env : Ro) (s : Option Sl) : Out Sl := match s with
  | some (.d x) => .ok (.d x) env
  | some (.l _) => .ok (.r i) env
  | some (.io _) => .ok (.r i) env
  | some (.b _) => .ok (.r i) env
  | _ => .stuck
@[simp] theorem eV_ap : eV i env = vS i env env[i]? := by unfold eV vS; rfl
@[simp] theorem vS_d : vS i env (some (.d d)) = .ok (.d d) env := (rfl)
@[simp] theorem vS_l : vS i env (some (.l xs)) = .ok (.r i) env := (rfl)
@[simp] theorem vS_io : vS i env (some (.io xs)) = .ok (.r i) env := (rfl)
@[simp] theorem vS_b : vS i env (some (.b xs)) = .ok (.r i) env := (rfl)
def mS (i : Nat) (env : Ro) (s : Option Sl) : Out Sl := match s with
  | some (.d x) => .ok (.d x) env
  | some (.l xs) => .ok (.l xs) (env.set i .no)
  | _ => .stuck
@[simp] theorem eMv_ap : eMv i env = mS i env env[i]? := by unfold eMv mS; rfl
@[simp] theorem mS_d : mS i env (some (.d d)) = .ok (.d d) env := (rfl)
@[simp] theorem mS_l : mS i env (some (.l xs)) = .ok (.l xs) (env.set i .no) := (rfl)
def fS (i : Nat) (env : Ro) (s : Option Sl) : Out Sl := match s with
  | some (.d x) => .ok (.d x) env
  | some (.l xs) => .ok (.d (.lst xs)) (env.set i (.d (.lst xs)))
  | _ => .stuck
@[simp] theorem eFv_ap : eFv i env = fS i env env[i]? := by unfold eFv fS; rfl
@[simp] theorem fS_d : fS i env (some (.d d)) = .ok (.d d) env := (rfl)
@[simp] theorem fS_l : fS i env (some (.l xs)) = .ok (.d (.lst xs)) (env.set i (.d (.lst xs))) := (rfl)
/-! operations -/
@[simp] theorem gAdd_int {i j : Int} : gAdd (.d (.int i)) (.d (.int j)) e = .ok (.d (.int (i + j))) e := (rfl)
@[simp] theorem gMinus_int {i j : Int} : gMinus (.d (.int i)) (.d (.int j)) e = .ok (.d (.int (i - j))) e := (rfl)
@[simp] theorem gNeg_int {i : Int} : gNeg (.d (.int i)) e = .ok (.d (.int (-i))) e := (rfl)
theorem gMul_int {i j : Int} (h : mulOk i j = true) : gMul (.d (.int i)) (.d (.int j)) e = .ok (.d (.int (i * j))) e := by
  show (if mulOk i j then _ else _) = _
  rw [if_pos h]
theorem gDiv_int {i j : Int} (h : divOk i j = true) : gDiv (.d (.int i)) (.d (.int j)) e = .ok (.d (.int (i / j))) e := by
  show (if divOk i j then _ else _) = _
  rw [if_pos h]
theorem gMod_int {i j : Int} (h : 0 < j) : gMod (.d (.int i)) (.d (.int j)) e = .ok (.d (.int (i % j))) e := by
  show (if decide (0 < j) then _ else _) = _
  rw [decide_eq_true h]
  rfl
theorem gPow_int {i j : Int} (h : powOk i j = true) : gPow (.d (.int i)) (.d (.int j)) e = .ok (.d (.int (i ^ j.toNat))) e := by
  show (if powOk i j then _ else _) = _
  rw [if_pos h]
@[simp] theorem gLt_int {i j : Int} : gLt (.d (.int i)) (.d (.int j)) e = .ok (.d (.bl (decide (i < j)))) e := (rfl)
@[simp] theorem gLe_int {i j : Int} : gLe (.d (.int i)) (.d (.int j)) e = .ok (.d (.bl (decide (i ≤ j)))) e := (rfl)
@[simp] theorem gGt_int {i j : Int} : gGt (.d (.int i)) (.d (.int j)) e = .ok (.d (.bl (decide (j < i)))) e := (rfl)
@[simp] theorem gGe_int {i j : Int} : gGe (.d (.int i)) (.d (.int j)) e = .ok (.d (.bl (decide (j ≤ i)))) e := (rfl)
@[simp] theorem gEq_int {i j : Int} : gEq (.d (.int i)) (.d (.int j)) e = .ok (.d (.bl (decide (i = j)))) e := by
  unfold gEq gEqD
  simp [vw, D.py, SeqAt.shaped, PyData.canLay0, PyData.depth, PyData.eqv]
  rfl
@[simp] theorem gNe_int {i j : Int} : gNe (.d (.int i)) (.d (.int j)) e = .ok (.d (.bl (decide (i ≠ j)))) e := by
  unfold gNe gEqD
  simp [vw, D.py, SeqAt.shaped, PyData.canLay0, PyData.depth, PyData.eqv]
  rfl
@[simp] theorem vw_d : vw e (.d d) = some d := (rfl)
@[simp] theorem vw_l : vw e (.l xs) = some (.lst xs) := (rfl)
def vwS (s : Option Sl) : Option D := match s with
    | some (.l xs) => some (.lst xs)
    | some (.io xs) => some (.lst xs)
    | some (.b xs) => some (.lst xs)
    | _ => none
@[simp] theorem vw_r : vw e (.r i) = vwS e[i]? := by unfold vw vwS; rfl
@[simp] theorem vwS_l : vwS (some (.l xs)) = some (.lst xs) := (rfl)
@[simp] theorem vwS_io : vwS (some (.io xs)) = some (.lst xs) := (rfl)
@[simp] theorem vwS_b : vwS (some (.b xs)) = some (.lst xs) := (rfl)
def ixS (o : Option D) (e : Ro) : Out Sl := match o with
  | some x => .ok (.d x) e
  | none => .stuck
@[simp] theorem ixS_s : ixS (some d) e = .ok (.d d) e := (rfl)
@[simp] theorem gIx_t : gIx (.d (.tup xs)) (.d (.int z)) e = ixS (atI xs z) e := by unfold gIx ixS; rfl
@[simp] theorem gIx_lst : gIx (.d (.lst xs)) (.d (.int z)) e = ixS (atI xs z) e := by unfold gIx ixS; rfl
@[simp] theorem gIx_fls : gIx (.d (.fls xs)) (.d (.int z)) e = ixS (atI xs z) e := by unfold gIx ixS; rfl
@[simp] theorem gIx_l : gIx (.l xs) (.d (.int z)) e = ixS (atI xs z) e := by unfold gIx ixS; rfl
theorem gIx_r (h : vw e (.r i) = some (.lst xs)) : gIx (.r i) (.d (.int z)) e = ixS (atI xs z) e := by
  unfold gIx ixS contL
  simp only [h]
  rfl
theorem atI_nn {α : Type} {xs : List α} {z : Int} (h : 0 ≤ z) : atI xs z = xs[z.toNat]? := by
  unfold atI ixN
  rw [if_pos h]
  split
  · rfl
  · rename_i h1
    rw [List.getElem?_eq_none (by omega)]
    rfl
@[simp] theorem atI_0 {α : Type} {xs : List α} : atI xs 0 = xs[0]? := atI_nn (by omega)
@[simp] theorem atI_1 {α : Type} {xs : List α} : atI xs 1 = xs[1]? := atI_nn (by omega)
@[simp] theorem atI_2 {α : Type} {xs : List α} : atI xs 2 = xs[2]? := atI_nn (by omega)
@[simp] theorem atI_3 {α : Type} {xs : List α} : atI xs 3 = xs[3]? := atI_nn (by omega)
@[simp] theorem atI_4 {α : Type} {xs : List α} : atI xs 4 = xs[4]? := atI_nn (by omega)
theorem ixN_ok {n : Nat} {z : Int} (h : 0 ≤ z) (h1 : z < n) : ixN n z = some z.toNat := by
  unfold ixN
  rw [if_pos h, if_pos h1]
@[simp] theorem gLen_tup : gLen [.d (.tup xs)] e = .ok (.d (.int xs.length)) e := (rfl)
@[simp] theorem gLen_lst : gLen [.d (.lst xs)] e = .ok (.d (.int xs.length)) e := (rfl)
@[simp] theorem gLen_fls : gLen [.d (.fls xs)] e = .ok (.d (.int xs.length)) e := (rfl)
@[simp] theorem gLen_l : gLen [.l xs] e = .ok (.d (.int xs.length)) e := (rfl)
theorem gLen_r (h : vw e (.r i) = some (.lst xs)) : gLen [.r i] e = .ok (.d (.int xs.length)) e := by
  unfold gLen
  simp only [h]
@[simp] theorem gAbs_int {i : Int} : gAbs [.d (.int i)] e = .ok (.d (.int (if i < 0 then -i else i))) e := (rfl)
@[simp] theorem gInt_int {i : Int} : gInt [.d (.int i)] e = .ok (.d (.int i)) e := (rfl)
@[simp] theorem gInt_bl {i : Bool} : gInt [.d (.bl i)] e = .ok (.d (.int (if i then 1 else 0))) e := (rfl)
theorem gTup_ok (h : allD rs = some ds) (hz : ds.length ≤ SZ) : gTup rs e = .ok (.d (.tup ds)) e := by
  unfold gTup
  simp only [h]
  rw [if_pos hz]
theorem gLst_ok (h : allD rs = some ds) (hz : ds.length ≤ SZ) : gLst rs e = .ok (.l ds) e := by
  unfold gLst
  simp only [h]
  rw [if_pos hz]
@[simp] theorem gTup_2 {d d2 : D} : gTup [.d d, .d d2] e = .ok (.d (.tup [d, d2])) e := (rfl)
@[simp] theorem gTup_3 {d d2 d3 : D} : gTup [.d d, .d d2, .d d3] e = .ok (.d (.tup [d, d2, d3])) e := (rfl)
@[simp] theorem gTup_1 {d : D} : gTup [.d d] e = .ok (.d (.tup [d])) e := (rfl)
@[simp] theorem gLst_0 : gLst [] e = .ok (.l []) e := (rfl)
@[simp] theorem gLst_1 {d : D} : gLst [.d d] e = .ok (.l [d]) e := (rfl)
@[simp] theorem gLst_2 {d d2 : D} : gLst [.d d, .d d2] e = .ok (.l [d, d2]) e := (rfl)
@[simp] theorem gLst_5 {d d2 d3 d4 d5 : D} : gLst [.d d, .d d2, .d d3, .d d4, .d d5] e = .ok (.l [d, d2, d3, d4, d5]) e := (rfl)
@[simp] theorem eSl_ap : eSl' a lo hi env = kSl lo hi (a env) := (rfl)
@[simp] theorem kSl_ok : kSl lo hi (.ok r e) = kSl2 r hi (lo e) := (rfl)
@[simp] theorem kSl2_ok {z : Option Int} : kSl2 r hi (.ok z e) = kSl3 r z (hi e) := (rfl)
@[simp] theorem kSl3_ok {z z2 : Option Int} : kSl3 r z (.ok z2 e) = gSl' r z z2 e := (rfl)
@[simp] theorem pNone_ap : pNone env = .ok none env := (rfl)
@[simp] theorem pSome_ap : pSome a env = kPS (a env) := (rfl)
@[simp] theorem kPS_ok : kPS (.ok (.d (.int z)) e) = .ok (some z) e := (rfl)
@[simp] theorem gSl_tup {p q : Option Int} : gSl' (.d (.tup xs)) p q e = .ok (.d (.tup (cutD xs p q))) e := (rfl)
@[simp] theorem gSl_lst {p q : Option Int} : gSl' (.d (.lst xs)) p q e = .ok (.l (cutD xs p q)) e := (rfl)
@[simp] theorem gSl_fls {p q : Option Int} : gSl' (.d (.fls xs)) p q e = .ok (.l (cutD xs p q)) e := (rfl)
@[simp] theorem gSl_l {p q : Option Int} : gSl' (.l xs) p q e = .ok (.l (cutD xs p q)) e := (rfl)
@[simp] theorem gRevL_l : gRevL (.l xs) e = .ok (.l xs.reverse) e := (rfl)
@[simp] theorem gRevL_lst : gRevL (.d (.lst xs)) e = .ok (.l xs.reverse) e := (rfl)
@[simp] theorem eLc_ap {src : Src} : eLc vs src t tst elt env = kLc vs t tst elt (src env) := (rfl)
@[simp] theorem kLc_ok : kLc vs t tst elt (.ok (l, ds) e) = kLc2 vs t tst elt l ds e (plainAt (lend l e) vs) := (rfl)
@[simp] theorem kLc2_t : kLc2 vs t tst elt l ds e true = lcEnd vs l e (lcD vs t tst elt ds [] (wip (lend l e) vs)) := (rfl)
@[simp] theorem lcEnd_ok : lcEnd vs l e (.ok r e1) = .ok r (back l e (rest (lend l e) e1 vs)) := (rfl)
@[simp] theorem eMut_ap : eMut i mu as env = kMut0 i mu as env (ownAt env i) := by
  unfold eMut kMut0
  cases ownAt env i <;> rfl
@[simp] theorem kMut0_s : kMut0 i mu as env (some xs) = kMut i mu (as env) := (rfl)
@[simp] theorem kMut_ok : kMut i mu (.ok rs e) = kMut2 i mu rs e (ownAt e i) := by
  unfold kMut kMut2
  simp only [Out.bind_ok]
@[simp] theorem kMut2_s : kMut2 i mu rs e (some xs) = kMut3 i e (mu xs rs e) := (rfl)
@[simp] theorem kMut3_s : kMut3 i e (some (ys, d)) = .ok (.d d) (setOwn e i ys) := (rfl)
theorem muApp_ok (h : xs.length < SZ) : muApp xs [.d d] e = some (xs ++ [d], .non) := by
  unfold muApp
  simp only
  rw [if_pos h]
def kSrc (k : Sl → Ro → Out (Option Nat × List D)) (o : Out Sl) : Out (Option Nat × List D) := o.bind k
@[simp] theorem srcL_ap : srcL a env = kSrc srcLk (a env) := (rfl)
@[simp] theorem kSrc_ok {k : Sl → Ro → Out (Option Nat × List D)} : kSrc k (.ok r e) = k r e := (rfl)
@[simp] theorem srcLk_tup : srcLk (.d (.tup xs)) e = .ok (none, xs) e := (rfl)
@[simp] theorem srcLk_lst : srcLk (.d (.lst xs)) e = .ok (none, xs) e := (rfl)
@[simp] theorem srcLk_fls : srcLk (.d (.fls xs)) e = .ok (none, xs) e := (rfl)
@[simp] theorem srcLk_l : srcLk (.l xs) e = .ok (none, xs) e := (rfl)
def kR1 (rs : List Sl) (e : Ro) : Out (Option Nat × List D) := match rs with
  | [.d (.int j)] => if lim62 j then .ok (none, rng 0 j.toNat) e else .stuck
  | _ => .stuck
def kR2 (rs : List Sl) (e : Ro) : Out (Option Nat × List D) := match rs with
  | [.d (.int i), .d (.int j)] => if lim62 i && lim62 j then .ok (none, rng i (j - i).toNat) e else .stuck
  | _ => .stuck
def kE1 (rs : List Sl) (e : Ro) : Out (Option Nat × List D) := match rs with
  | [.d (.tup xs)] => .ok (none, pairsI xs) e
  | [r] => (match srcOf r e with
    | some (l, xs) => .ok (l, pairsI xs) e
    | none => .stuck)
  | _ => .stuck
def kSrcA (k : List Sl → Ro → Out (Option Nat × List D)) (o : Out (List Sl)) : Out (Option Nat × List D) := o.bind k
@[simp] theorem kSrcA_ok {k : List Sl → Ro → Out (Option Nat × List D)} : kSrcA k (.ok rs e) = k rs e := (rfl)
@[simp] theorem srcR1_ap : srcR1 as env = kSrcA kR1 (as env) := (rfl)
@[simp] theorem srcR2_ap : srcR2 as env = kSrcA kR2 (as env) := (rfl)
@[simp] theorem srcEA_ap : srcEA as env = kSrcA kE1 (as env) := (rfl)
theorem kR1_ok (h : lim62 z = true) : kR1 [.d (.int z)] e = .ok (none, rng 0 z.toNat) e := by
  unfold kR1
  simp only
  rw [if_pos h]
theorem kR2_ok {w : Int} (h : lim62 z = true) (h2 : lim62 w = true) : kR2 [.d (.int z), .d (.int w)] e = .ok (none, rng z (w - z).toNat) e := by
  unfold kR2
  simp only
  rw [if_pos (by rw [h, h2]; rfl)]
@[simp] theorem kE1_tup : kE1 [.d (.tup xs)] e = .ok (none, pairsI xs) e := (rfl)
@[simp] theorem kE1_lst : kE1 [.d (.lst xs)] e = .ok (none, pairsI xs) e := (rfl)
@[simp] theorem kE1_l : kE1 [.l xs] e = .ok (none, pairsI xs) e := (rfl)
@[simp] theorem gIsi_d {n : String} : gIsi n (.d (.int z)) e = .ok (.d (.bl (isSub "int" n))) e := (rfl)
theorem mul_ok {i j : Int} {a b : Nat} (h1 : i.natAbs < 2 ^ a) (h2 : j.natAbs < 2 ^ b) (h : a + b ≤ 134000000) : mulOk i j = true := by
  unfold mulOk
  refine decide_eq_true ?_
  by_cases e1 : i.natAbs = 0
  · rw [e1]
    by_cases e2 : j.natAbs = 0
    · rw [e2]; decide
    · have := (Nat.log2_lt e2).mpr h2
      have : (0 : Nat).log2 = 0 := by decide
      omega
  · have l1 := (Nat.log2_lt e1).mpr h1
    by_cases e2 : j.natAbs = 0
    · rw [e2]
      have : (0 : Nat).log2 = 0 := by decide
      omega
    · have := (Nat.log2_lt e2).mpr h2
      omega
theorem div_ok {i j : Int} (h0 : 0 < j) (h1 : j.natAbs < 2 ^ 9000) : divOk i j = true := by
  unfold divOk
  rw [decide_eq_true h0, Bool.true_and]
  exact decide_eq_true ((Nat.log2_lt (by omega)).mpr h1)
theorem forD_cons : forD t f (d :: ds) e = (match t d e with
    | none => .stuck
    | some e1 => match f e1 with
      | .next e2 => forD t f ds e2
      | .cont e2 => forD t f ds e2
      | .brk e2 => .next e2
      | o => o) := rfl
/-- a loop that goes to its end: the state before each turn -/
theorem forD_run (I : Nat → Ro → Prop) : ∀ (ds : List D) (k : Nat) (e : Ro), I k e → (∀ i d e, ds[i]? = some d → I (k + i) e → ∃ e1 e2, t d e = some e1 ∧ (f e1 = .next e2 ∨ f e1 = .cont e2) ∧ I (k + i + 1) e2) → ∃ e', forD t f ds e = .next e' ∧ I (k + ds.length) e'
  | [], k, e, h, _ => ⟨e, rfl, h⟩
  | d :: ds, k, e, h, hs => by
    obtain ⟨e1, e2, h1, h2, h3⟩ := hs 0 d e rfl h
    obtain ⟨e', h4, h5⟩ := forD_run I ds (k + 1) e2 h3 fun i d e hd hi => by
      have := hs (i + 1) d e hd (by rw [show k + (i + 1) = k + 1 + i by omega]; exact hi)
      rw [show k + (i + 1) + 1 = k + 1 + i + 1 by omega] at this
      exact this
    refine ⟨e', ?_, by rw [List.length_cons, show k + (ds.length + 1) = k + 1 + ds.length by omega]; exact h5⟩
    rw [forD_cons, h1]
    rcases h2 with h2 | h2 <;> simp only [h2] <;> exact h4
theorem rng_get {lo : Int} {n i : Nat} {d : D} (h : (rng lo n)[i]? = some d) : i < n ∧ d = .int (lo + (i : Nat)) := by
  unfold rng at h
  rw [List.getElem?_map] at h
  by_cases hi : i < n
  · rw [List.getElem?_range hi] at h
    cases h
    exact ⟨hi, rfl⟩
  · rw [List.getElem?_eq_none (by simp; omega)] at h
    cases h
@[simp] theorem rng_len {lo : Int} {n : Nat} : (rng lo n).length = n := by simp [rng]
theorem big_ge {n : Nat} (h : n ≤ 100000) : 2 ^ n ≤ big := by
  unfold big
  exact Nat.pow_le_pow_right (by decide) h
/-- a loop whose measure falls -/
theorem whileD_run {c : DenT} (I R : Ro → Prop) (μ : Ro → Nat) (h : ∀ e, I e → (∃ e1, c e = .ok false e1 ∧ R e1) ∨ ∃ e1 e2, c e = .ok true e1 ∧ (f e1 = .next e2 ∨ f e1 = .cont e2) ∧ I e2 ∧ μ e2 < μ e) : ∀ (n : Nat) (e : Ro), I e → μ e < n → ∃ e', whileD c f n e = .next e' ∧ R e'
  | 0, e, _, hn => by omega
  | n + 1, e, hi, hn => by
    unfold whileD
    rcases h e hi with ⟨e1, h1, h2⟩ | ⟨e1, e2, h1, h2, h3, h4⟩
    · exact ⟨e1, by rw [h1]; rfl, h2⟩
    · obtain ⟨e', h5, h6⟩ := whileD_run I R μ h n e2 h3 (by omega)
      refine ⟨e', ?_, h6⟩
      rw [h1]
      rcases h2 with h2 | h2 <;> simp only [Out.toS, h2, if_true] <;> exact h5
theorem while_run {c : DenT} (I R : Ro → Prop) (μ : Ro → Nat) (h : ∀ e, I e → (∃ e1, c e = .ok false e1 ∧ R e1) ∨ ∃ e1 e2, c e = .ok true e1 ∧ (f e1 = .next e2 ∨ f e1 = .cont e2) ∧ I e2 ∧ μ e2 < μ e) (e : Ro) (hi : I e) (hn : μ e < 2 ^ 100000) : ∃ e', sWhile c f e = .next e' ∧ R e' :=
  whileD_run I R μ h big e hi (Nat.lt_of_lt_of_le hn (big_ge (Nat.le_refl _)))
/-- a comprehension without a test -/
theorem lcD_run (I : Nat → List D → Ro → Prop) : ∀ (ds : List D) (k : Nat) (acc : List D) (e : Ro), I k acc e → acc.length + ds.length ≤ SZ →
    (∀ i d acc e, ds[i]? = some d → I (k + i) acc e → ∃ e1 e2 x e3, t d e = some e1 ∧ tst e1 = .ok true e2 ∧ eFz elt e2 = .ok (.d x) e3 ∧ I (k + i + 1) (acc ++ [x]) (wip e3 vs)) → ∃ acc' e', lcD vs t tst elt ds acc e = .ok (.l acc') e' ∧ I (k + ds.length) acc' e'
  | [], k, acc, e, h, _, _ => ⟨acc, e, rfl, h⟩
  | d :: ds, k, acc, e, h, hz, hs => by
    rw [List.length_cons] at hz
    obtain ⟨e1, e2, x, e3, h1, h2, h3, h4⟩ := hs 0 d acc e rfl h
    obtain ⟨acc', e', h5, h6⟩ := lcD_run I ds (k + 1) (acc ++ [x]) (wip e3 vs) h4 (by rw [List.length_append, List.length_singleton]; omega) fun i d acc e hd hi => by
      have := hs (i + 1) d acc e hd (by rw [show k + (i + 1) = k + 1 + i by omega]; exact hi)
      rw [show k + (i + 1) + 1 = k + 1 + i + 1 by omega] at this
      exact this
    refine ⟨acc', e', ?_, by rw [List.length_cons, show k + (ds.length + 1) = k + 1 + ds.length by omega]; exact h6⟩
    rw [lcD_cons, h1]
    simp only [h2, h3]
    rw [if_pos (by omega)]
    exact h5
end
end RL
namespace RL
open PySem L2
section
variable {env e e1 : Ro} {x y r : Sl} {rs : List Sl} {a b c : DenE} {as : DenA} {ta tb : DenT} {f g' : DenS} {i j : Nat} {z : Int} {t : Tgt} {F : Fn} {FI : FnI} {xs ys ds : List D} {d : D} {l : Option Nat} {o : FO} {ex : Ex} {tst : DenT} {elt : DenE} {vs : List Nat}
@[simp] theorem wip_1 : wip e [i] = e.set i .no := (rfl)
@[simp] theorem wip_2 : wip e [i, j] = (e.set j .no).set i .no := (rfl)
@[simp] theorem rest_1 {e0 : Ro} : rest e0 e [i] = e.set i (e0.getD i .no) := (rfl)
@[simp] theorem rest_2 {e0 : Ro} : rest e0 e [i, j] = (e.set j (e0.getD j .no)).set i (e0.getD i .no) := (rfl)
@[simp] theorem plainAt_1 : plainAt e [i] = plainSl (e.getD i .no) := by unfold plainAt; simp
@[simp] theorem plainAt_2 : plainAt e [i, j] = (plainSl (e.getD i .no) && plainSl (e.getD j .no)) := by unfold plainAt; simp
@[simp] theorem plain_no : plainSl .no = true := (rfl)
@[simp] theorem plain_d : plainSl (.d d) = true := (rfl)
theorem lc_fm {φ : D → D} {p : D → Bool} (hio : isIo e i = false) (hno : e.set i .no = e) : ∀ (ds acc : List D), acc.length + ds.length ≤ SZ → (∀ d ∈ ds, tst (e.set i (.d d)) = .ok (p d) (e.set i (.d d)) ∧ (p d = true → eFz elt (e.set i (.d d)) = .ok (.d (φ d)) (e.set i (.d d)))) →
    lcD [i] (tgN i) tst elt ds acc e = .ok (.l (acc ++ (ds.filter p).map φ)) e
  | [], acc, _, _ => by simp [lcD]
  | d :: ds, acc, hz, h => by
    have hd := h d (List.mem_cons_self ..)
    rw [List.length_cons] at hz
    rw [lcD_cons, tgN_ap, hio]
    have wipe : wip (e.set i (.d d)) [i] = e := by
      show (e.set i (.d d)).set i .no = e
      rw [List.set_set]
      exact hno
    cases q : p d with
    | true =>
      simp only [hd.1, q, Bool.false_eq_true, if_false, hd.2 q]
      rw [if_pos (by omega), wipe, lc_fm hio hno ds (acc ++ [φ d]) (by rw [List.length_append, List.length_singleton]; omega) (fun d' hd' => h d' (List.mem_cons_of_mem _ hd'))]
      rw [List.filter_cons_of_pos q, List.map_cons, List.append_assoc]
      rfl
    | false =>
      simp only [hd.1, q, Bool.false_eq_true, if_false]
      rw [wipe, lc_fm hio hno ds acc (by omega) (fun d' hd' => h d' (List.mem_cons_of_mem _ hd'))]
      rw [List.filter_cons_of_neg (by rw [q]; decide)]
theorem lc_map {φ : D → D} (hio : isIo e i = false) (hno : e.set i .no = e) (ds : List D) (hz : ds.length ≤ SZ) (h : ∀ d ∈ ds, eFz elt (e.set i (.d d)) = .ok (.d (φ d)) (e.set i (.d d))) :
    lcD [i] (tgN i) tYesD elt ds [] e = .ok (.l (ds.map φ)) e := by
  have := lc_fm (tst := tYesD) (p := fun _ => true) hio hno ds [] (by simpa using hz) fun d hd => ⟨rfl, fun _ => h d hd⟩
  rw [this, List.filter_eq_self.mpr fun _ _ => rfl, List.nil_append]
end
theorem forD_next {t : Tgt} {f : DenS} {d : D} {ds : List D} {e e1 e2 : Ro} (h1 : t d e = some e1) (h2 : f e1 = .next e2) : forD t f (d :: ds) e = forD t f ds e2 := by
  rw [forD_cons]
  simp only [h1, h2]
theorem forD_cont {t : Tgt} {f : DenS} {d : D} {ds : List D} {e e1 e2 : Ro} (h1 : t d e = some e1) (h2 : f e1 = .cont e2) : forD t f (d :: ds) e = forD t f ds e2 := by
  rw [forD_cons]
  simp only [h1, h2]
theorem ints_len (ns : List Int) : (ns.map D.int).length = ns.length := List.length_map ..
end RL
namespace Law
open PySem PySem.Spec PyProof.Rows L2 RL
/-! ### the defs -/
def topS (i : Nat) : Stmt := PySem.Challenge.pw_powersalike_k79_whole_polynomials_of_sum.main.body.getD i (.Pass ⟨0, 0, 0, 0⟩)
abbrev s__law_hand : Stmt := topS 21
theorem sc__law_hand : FnScope ["script", "cells", "cell"] ["script"] (defScope s__law_hand) := ⟨rfl, rfl, rfl, by decide +kernel, rfl, by decide +kernel, by decide +kernel⟩
def S__law_hand_1 : DenS := sSet 1 (eFz (eLc [2] (srcL (eSl' (eV 0) (pNone) (pSome (eC (.int 63))))) (tgN 2) (tYesD) (eAp gAbs (aCons (eAp gInt (aCons (eV 2) (aNil))) (aNil)))))
def S__law_hand_2 : DenS := sRet (eLst (aCons (eV 1) (aCons (eC (.int 0)) (aCons (eC (.int 0)) (aCons (eOp gAdd (eC (.int 4819)) (eOp gMul (eC (.int 7)) (eAp gLen (aCons (eV 1) (aNil))))) (aCons (eC (.int 0)) (aNil)))))))
def B__law_hand : DenS := sSeq (S__law_hand_1) (S__law_hand_2)
def F__law_hand : Fn := runP 1 3 B__law_hand
theorem g__law_hand {P : Program} {w : World} {K : PySem.W.Frag} {mg : Str → Option Value} {base : Heap} (m_int : mg "int" = none) (m_abs : mg "abs" = none) (m_len : mg "len" = none) : Gives P w K mg base 1 "_law_hand" s__law_hand ["script"] (spP K mg F__law_hand) := fun f fd F =>
  fnP (k := 0) F sc__law_hand rfl (by decide) fun cdv A outer s H E hr hgd => show DSs _ _ _ B__law_hand from dss_cons (ds_setLcF (i := 1) (own := [("cell", 2)]) rfl sc__law_hand.nd rfl rfl rfl rfl (by decide +kernel) (show blkC ["script", "cells", "cell"] (defScope s__law_hand) _ _ = true from by decide +kernel) (by decide) (x_L (de_sl (de_v (pv 0)) (dp_none) (dp_some (de_int)))) (fun _ _ _ _ _ => x_tN 2 sc__law_hand.nd) (fun _ _ _ _ _ => dts_nil) (fun _ _ _ _ _ => x_b call_abs cs_abs PyProof.Rows.boot_abs m_abs (dn_cons (x_t call_int1 cs_int PySem.Pv.boot_int m_int (dn_cons (de_v (pv 2)) (dn_nil))) (dn_nil)))) (dss_one (ds_ret (de_lst (dn_cons (de_v (pv 1)) (dn_cons (de_int) (dn_cons (de_int) (dn_cons (de_op op_addAll os_add (de_int) (de_op op_mulAll os_mul (de_int) (x_b call_lenAll cs_len PySem.boot_len m_len (dn_cons (de_v (pv 1)) (dn_nil))))) (dn_cons (de_int) (dn_nil)))))))))
abbrev s_is_integer : Stmt := topS 4
theorem sc_is_integer : FnScope ["thing"] ["thing"] (defScope s_is_integer) := ⟨rfl, rfl, rfl, by decide +kernel, rfl, by decide +kernel, by decide +kernel⟩
def S_is_integer_1 : DenS := sRet (eAnd (eUn (gIsi "int") (eV 0)) (eNot (eUn (gIsi "bool") (eV 0))))
def B_is_integer : DenS := S_is_integer_1
def F_is_integer : Fn := runP 1 1 B_is_integer
theorem g_is_integer {P : Program} {w : World} {K : PySem.W.Frag} {mg : Str → Option Value} {base : Heap} (m_isinstance : mg "isinstance" = none) (m_bool : mg "bool" = none) (m_int : mg "int" = none) : Gives P w K mg base 1 "is_integer" s_is_integer ["thing"] (spP K mg F_is_integer) := fun f fd F =>
  fnP (k := 0) F sc_is_integer rfl (by decide) fun cdv A outer s H E hr hgd => show DSs _ _ _ B_is_integer from dss_one (ds_ret (de_and (x_isi (by decide) PyProof.Rows.boot_isinstance PySem.Pv.boot_int m_isinstance m_int (de_v (pv 0))) (de_and1 (de_not (x_isi (by decide) PyProof.Rows.boot_isinstance PySem.Pv.boot_bool m_isinstance m_bool (de_v (pv 0)))))))
abbrev s_is_within : Stmt := topS 5
theorem sc_is_within : FnScope ["thing", "low", "high"] ["thing", "low", "high"] (defScope s_is_within) := ⟨rfl, rfl, rfl, by decide +kernel, rfl, by decide +kernel, by decide +kernel⟩
def S_is_within_1 : DenS := sRet (eAnd (eCall F_is_integer (aCons (eV 0) (aNil))) (eChain gLe gLe (eV 1) (eV 0) (eV 2)))
def B_is_within : DenS := S_is_within_1
def F_is_within : Fn := runP 3 3 B_is_within
theorem g_is_within {P : Program} {w : World} {K : PySem.W.Frag} {mg : Str → Option Value} {base : Heap} (d_is_integer : Df P w K mg base 1 "is_integer" ["thing"] (spP K mg F_is_integer)) : Gives P w K mg base 2 "is_within" s_is_within ["thing", "low", "high"] (spP K mg F_is_within) := fun f fd F =>
  fnP (k := 1) F sc_is_within rfl (by decide) fun cdv A outer s H E hr hgd => show DSs _ _ _ B_is_within from dss_one (ds_ret (de_and (x_call d_is_integer hr hgd (takes_of rfl rfl rfl rfl) (dn_cons (de_v (pv 0)) (dn_nil))) (de_and1 (de_chain op_le op_le os_le os_le (de_v (pv 1)) (de_v (pv 0)) (de_v (pv 2))))))
abbrev s_check_number : Stmt := topS 6
theorem sc_check_number : FnScope ["thing", "low", "high"] ["thing", "low", "high"] (defScope s_check_number) := ⟨rfl, rfl, rfl, by decide +kernel, rfl, by decide +kernel, by decide +kernel⟩
def S_check_number_1 : DenS := sIf (tNot' (tTru (eCall F_is_within (aCons (eV 0) (aCons (eV 1) (aCons (eV 2) (aNil))))))) (sStuck) (sNil)
def B_check_number : DenS := S_check_number_1
def F_check_number : Fn := runP 3 3 B_check_number
theorem g_check_number {P : Program} {w : World} {K : PySem.W.Frag} {mg : Str → Option Value} {base : Heap} (d_is_within : Df P w K mg base 2 "is_within" ["thing", "low", "high"] (spP K mg F_is_within)) : Gives P w K mg base 3 "check_number" s_check_number ["thing", "low", "high"] (spP K mg F_check_number) := fun f fd F =>
  fnP (k := 2) F sc_check_number rfl (by decide) fun cdv A outer s H E hr hgd => show DSs _ _ _ B_check_number from dss_one (ds_if (dt_not (dt_tru (x_call d_is_within hr hgd (takes_of rfl rfl rfl rfl) (dn_cons (de_v (pv 0)) (dn_cons (de_v (pv 1)) (dn_cons (de_v (pv 2)) (dn_nil))))))) (dss_one (ds_stuck)) (dss_nil))
abbrev s_common_divisor : Stmt := topS 8
theorem sc_common_divisor : FnScope ["one", "other"] ["one", "other"] (defScope s_common_divisor) := ⟨rfl, rfl, rfl, by decide +kernel, rfl, by decide +kernel, by decide +kernel⟩
def S_common_divisor_1 : DenS := sPar 0 1 (aCons (eAp gAbs (aCons (eV 0) (aNil))) (aCons (eAp gAbs (aCons (eV 1) (aNil))) (aNil)))
def S_common_divisor_2b : DenS := sPar 0 1 (aCons (eV 1) (aCons (eOp gMod (eV 0) (eV 1)) (aNil)))
def S_common_divisor_2 : DenS := sWhile (tVal (eOp gGt (eV 1) (eC (.int 0)))) (S_common_divisor_2b)
def S_common_divisor_3 : DenS := sRet (eV 0)
def B_common_divisor : DenS := sSeq (S_common_divisor_1) (sSeq (S_common_divisor_2) (S_common_divisor_3))
def F_common_divisor : Fn := runP 2 2 B_common_divisor
theorem g_common_divisor {P : Program} {w : World} {K : PySem.W.Frag} {mg : Str → Option Value} {base : Heap} (m_abs : mg "abs" = none) : Gives P w K mg base 1 "common_divisor" s_common_divisor ["one", "other"] (spP K mg F_common_divisor) := fun f fd F =>
  fnP (k := 0) F sc_common_divisor rfl (by decide) fun cdv A outer s H E hr hgd => show DSs _ _ _ B_common_divisor from dss_cons (x_par 0 1 sc_common_divisor.nd (dn_cons (x_b call_abs cs_abs PyProof.Rows.boot_abs m_abs (dn_cons (de_v (pv 0)) (dn_nil))) (dn_cons (x_b call_abs cs_abs PyProof.Rows.boot_abs m_abs (dn_cons (de_v (pv 1)) (dn_nil))) (dn_nil)))) (dss_cons (x_while (passes_of rfl) (dt_cmp op_gt os_gt (nomark _) (de_v (pv 1)) (de_int)) (dss_one (x_par 0 1 sc_common_divisor.nd (dn_cons (de_v (pv 1)) (dn_cons (de_op op_mod os_mod (de_v (pv 0)) (de_v (pv 1))) (dn_nil)))))) (dss_one (ds_ret (de_v (pv 0)))))
abbrev s_fraction : Stmt := topS 12
theorem sc_fraction : FnScope ["top", "bottom", "by"] ["top", "bottom"] (defScope s_fraction) := ⟨rfl, rfl, rfl, by decide +kernel, rfl, by decide +kernel, by decide +kernel⟩
def S_fraction_1 : DenS := sSet 2 (eCall F_common_divisor (aCons (eV 0) (aCons (eV 1) (aNil))))
def S_fraction_2 : DenS := sRet (eTup (aCons (eOp gDiv (eV 0) (eV 2)) (aCons (eOp gDiv (eV 1) (eV 2)) (aNil))))
def B_fraction : DenS := sSeq (S_fraction_1) (S_fraction_2)
def F_fraction : Fn := runP 2 3 B_fraction
theorem g_fraction {P : Program} {w : World} {K : PySem.W.Frag} {mg : Str → Option Value} {base : Heap} (d_common_divisor : Df P w K mg base 1 "common_divisor" ["one", "other"] (spP K mg F_common_divisor)) : Gives P w K mg base 2 "fraction" s_fraction ["top", "bottom"] (spP K mg F_fraction) := fun f fd F =>
  fnP (k := 1) F sc_fraction rfl (by decide) fun cdv A outer s H E hr hgd => show DSs _ _ _ B_fraction from dss_cons (x_set 2 sc_fraction.nd (x_call d_common_divisor hr hgd (takes_of rfl rfl rfl rfl) (dn_cons (de_v (pv 0)) (dn_cons (de_v (pv 1)) (dn_nil))))) (dss_one (ds_ret (de_tup (dn_cons (de_op op_fdivW os_div (de_v (pv 0)) (de_v (pv 2))) (dn_cons (de_op op_fdivW os_div (de_v (pv 1)) (de_v (pv 2))) (dn_nil))))))
abbrev s_plus : Stmt := topS 13
theorem sc_plus : FnScope ["one", "other"] ["one", "other"] (defScope s_plus) := ⟨rfl, rfl, rfl, by decide +kernel, rfl, by decide +kernel, by decide +kernel⟩
def S_plus_1 : DenS := sRet (eCall F_fraction (aCons (eOp gAdd (eOp gMul (eOp gIx (eV 0) (eC (.int 0))) (eOp gIx (eV 1) (eC (.int 1)))) (eOp gMul (eOp gIx (eV 1) (eC (.int 0))) (eOp gIx (eV 0) (eC (.int 1))))) (aCons (eOp gMul (eOp gIx (eV 0) (eC (.int 1))) (eOp gIx (eV 1) (eC (.int 1)))) (aNil))))
def B_plus : DenS := S_plus_1
def F_plus : Fn := runP 2 2 B_plus
theorem g_plus {P : Program} {w : World} {K : PySem.W.Frag} {mg : Str → Option Value} {base : Heap} (d_fraction : Df P w K mg base 2 "fraction" ["top", "bottom"] (spP K mg F_fraction)) : Gives P w K mg base 3 "plus" s_plus ["one", "other"] (spP K mg F_plus) := fun f fd F =>
  fnP (k := 2) F sc_plus rfl (by decide) fun cdv A outer s H E hr hgd => show DSs _ _ _ B_plus from dss_one (ds_ret (x_call d_fraction hr hgd (takes_of rfl rfl rfl rfl) (dn_cons (de_op op_addAll os_add (de_op op_mulAll os_mul (de_ix ix_seq os_ix (fun _ _ => rfl) (de_v (pv 0)) (de_int)) (de_ix ix_seq os_ix (fun _ _ => rfl) (de_v (pv 1)) (de_int))) (de_op op_mulAll os_mul (de_ix ix_seq os_ix (fun _ _ => rfl) (de_v (pv 1)) (de_int)) (de_ix ix_seq os_ix (fun _ _ => rfl) (de_v (pv 0)) (de_int)))) (dn_cons (de_op op_mulAll os_mul (de_ix ix_seq os_ix (fun _ _ => rfl) (de_v (pv 0)) (de_int)) (de_ix ix_seq os_ix (fun _ _ => rfl) (de_v (pv 1)) (de_int))) (dn_nil)))))
abbrev s_ways_to_take : Stmt := topS 14
theorem sc_ways_to_take : FnScope ["many", "size", "found", "at"] ["many", "size"] (defScope s_ways_to_take) := ⟨rfl, rfl, rfl, by decide +kernel, rfl, by decide +kernel, by decide +kernel⟩
def S_ways_to_take_1 : DenS := sSet 2 (eC (.int 1))
def S_ways_to_take_2b : DenS := sSet 2 (eOp gDiv (eOp gMul (eV 2) (eOp gMinus (eV 0) (eV 3))) (eOp gAdd (eV 3) (eC (.int 1))))
def S_ways_to_take_2 : DenS := sFor (srcR1 (aCons (eV 1) (aNil))) (tgN 3) (S_ways_to_take_2b)
def S_ways_to_take_3 : DenS := sRet (eV 2)
def B_ways_to_take : DenS := sSeq (S_ways_to_take_1) (sSeq (S_ways_to_take_2) (S_ways_to_take_3))
def F_ways_to_take : Fn := runP 2 4 B_ways_to_take
theorem g_ways_to_take {P : Program} {w : World} {K : PySem.W.Frag} {mg : Str → Option Value} {base : Heap} (m_range : mg "range" = none) : Gives P w K mg base 1 "ways_to_take" s_ways_to_take ["many", "size"] (spP K mg F_ways_to_take) := fun f fd F =>
  fnP (k := 0) F sc_ways_to_take rfl (by decide) fun cdv A outer s H E hr hgd => show DSs _ _ _ B_ways_to_take from dss_cons (x_set 2 sc_ways_to_take.nd (de_int)) (dss_cons (x_for (passes_of rfl) (x_R1 m_range (dn_cons (de_v (pv 1)) (dn_nil))) (x_tN 3 sc_ways_to_take.nd) (dss_one (x_set 2 sc_ways_to_take.nd (de_op op_fdivW os_div (de_op op_mulAll os_mul (de_v (pv 2)) (de_op op_sub os_sub (de_v (pv 0)) (de_v (pv 3)))) (de_op op_addAll os_add (de_v (pv 3)) (de_int)))))) (dss_one (ds_ret (de_v (pv 2)))))
abbrev s_all_bernoulli : Stmt := topS 15
theorem sc_all_bernoulli : FnScope ["most", "found", "k", "total", "j", "one"] ["most"] (defScope s_all_bernoulli) := ⟨rfl, rfl, rfl, by decide +kernel, rfl, by decide +kernel, by decide +kernel⟩
def S_all_bernoulli_1 : DenS := sSet 1 (eLst (aCons (eTup (aCons (eC (.int 1)) (aCons (eC (.int 1)) (aNil)))) (aNil)))
def S_all_bernoulli_2b_2b : DenS := sSet 3 (eCall F_plus (aCons (eV 3) (aCons (eCall F_fraction (aCons (eOp gMul (eCall F_ways_to_take (aCons (eOp gAdd (eV 2) (eC (.int 1))) (aCons (eV 4) (aNil)))) (eOp gIx (eV 5) (eC (.int 0)))) (aCons (eOp gIx (eV 5) (eC (.int 1))) (aNil)))) (aNil))))
def S_all_bernoulli_2b : DenS := sSeq (sSet 3 (eTup (aCons (eC (.int 0)) (aCons (eC (.int 1)) (aNil))))) (sSeq (sFor (srcEA (aCons (eV 1) (aNil))) (tgT [tgN 4, tgN 5]) (S_all_bernoulli_2b_2b)) (sExpr (eMut 1 muApp (aCons (eCall F_fraction (aCons (eUn gNeg (eOp gIx (eV 3) (eC (.int 0)))) (aCons (eOp gMul (eOp gIx (eV 3) (eC (.int 1))) (eOp gAdd (eV 2) (eC (.int 1)))) (aNil)))) (aNil)))))
def S_all_bernoulli_2 : DenS := sFor (srcR2 (aCons (eC (.int 1)) (aCons (eOp gAdd (eV 0) (eC (.int 1))) (aNil)))) (tgN 2) (S_all_bernoulli_2b)
def S_all_bernoulli_3 : DenS := sRet (eMv 1)
def B_all_bernoulli : DenS := sSeq (S_all_bernoulli_1) (sSeq (S_all_bernoulli_2) (S_all_bernoulli_3))
def F_all_bernoulli : Fn := runP 1 6 B_all_bernoulli
theorem g_all_bernoulli {P : Program} {w : World} {K : PySem.W.Frag} {mg : Str → Option Value} {base : Heap} (m_range : mg "range" = none) (m_enumerate : mg "enumerate" = none) (d_plus : Df P w K mg base 3 "plus" ["one", "other"] (spP K mg F_plus)) (d_fraction : Df P w K mg base 2 "fraction" ["top", "bottom"] (spP K mg F_fraction)) (d_ways_to_take : Df P w K mg base 1 "ways_to_take" ["many", "size"] (spP K mg F_ways_to_take)) : Gives P w K mg base 4 "all_bernoulli" s_all_bernoulli ["most"] (spP K mg F_all_bernoulli) := fun f fd F =>
  fnP (k := 3) F sc_all_bernoulli rfl (by decide) fun cdv A outer s H E hr hgd => show DSs _ _ _ B_all_bernoulli from dss_cons (x_set 1 sc_all_bernoulli.nd (de_lst (dn_cons (de_tup (dn_cons (de_int) (dn_cons (de_int) (dn_nil)))) (dn_nil)))) (dss_cons (x_for (passes_of rfl) (x_R2 m_range (dn_cons (de_int) (dn_cons (de_op op_addAll os_add (de_v (pv 0)) (de_int)) (dn_nil)))) (x_tN 2 sc_all_bernoulli.nd) (dss_cons (x_set 3 sc_all_bernoulli.nd (de_tup (dn_cons (de_int) (dn_cons (de_int) (dn_nil))))) (dss_cons (x_for (passes_of rfl) (x_E m_enumerate (dn_cons (de_v (pv 1)) (dn_nil))) (dg_tup rfl (dgs_cons (x_tN 4 sc_all_bernoulli.nd) (dgs_cons (x_tN 5 sc_all_bernoulli.nd) (dgs_nil)))) (dss_one (x_set 3 sc_all_bernoulli.nd (x_call d_plus hr hgd (takes_of rfl rfl rfl rfl) (dn_cons (de_v (pv 3)) (dn_cons (x_call d_fraction hr hgd (takes_of rfl rfl rfl rfl) (dn_cons (de_op op_mulAll os_mul (x_call d_ways_to_take hr hgd (takes_of rfl rfl rfl rfl) (dn_cons (de_op op_addAll os_add (de_v (pv 2)) (de_int)) (dn_cons (de_v (pv 4)) (dn_nil)))) (de_ix ix_seq os_ix (fun _ _ => rfl) (de_v (pv 5)) (de_int))) (dn_cons (de_ix ix_seq os_ix (fun _ _ => rfl) (de_v (pv 5)) (de_int)) (dn_nil)))) (dn_nil))))))) (dss_one (x_expr (de_mut mu_app (fun h => pe_bm PySem.F.plainAttrs_list PySem.F.slot_list_append PySem.F.type_list_append mt_append (pv 1) h) (dn_cons (x_call d_fraction hr hgd (takes_of rfl rfl rfl rfl) (dn_cons (de_un un_neg us_neg (de_ix ix_seq os_ix (fun _ _ => rfl) (de_v (pv 3)) (de_int))) (dn_cons (de_op op_mulAll os_mul (de_ix ix_seq os_ix (fun _ _ => rfl) (de_v (pv 3)) (de_int)) (de_op op_addAll os_add (de_v (pv 2)) (de_int))) (dn_nil)))) (dn_nil)))))))) (dss_one (ds_ret (de_mv (pv 1)))))
abbrev s_raw_poly : Stmt := topS 17
theorem sc_raw_poly : FnScope ["k", "found", "j", "one"] ["k"] (defScope s_raw_poly) := ⟨rfl, rfl, rfl, by decide +kernel, rfl, by decide +kernel, by decide +kernel⟩
def S_raw_poly_1 : DenS := sSet 1 (eOp gMul (eLst (aCons (eTup (aCons (eC (.int 0)) (aCons (eC (.int 1)) (aNil)))) (aNil))) (eOp gAdd (eV 0) (eC (.int 2))))
def S_raw_poly_2b : DenS := sSetIx 1 (eOp gMinus (eOp gAdd (eV 0) (eC (.int 1))) (eV 2)) (eCall F_fraction (aCons (eOp gMul (eCall F_ways_to_take (aCons (eOp gAdd (eV 0) (eC (.int 1))) (aCons (eV 2) (aNil)))) (eOp gIx (eV 3) (eC (.int 0)))) (aCons (eOp gMul (eOp gIx (eV 3) (eC (.int 1))) (eOp gAdd (eV 0) (eC (.int 1)))) (aNil))))
def S_raw_poly_2 : DenS := sFor (srcEA (aCons (eCall F_all_bernoulli (aCons (eV 0) (aNil))) (aNil))) (tgT [tgN 2, tgN 3]) (S_raw_poly_2b)
def S_raw_poly_3 : DenS := sRet (eMv 1)
def B_raw_poly : DenS := sSeq (S_raw_poly_1) (sSeq (S_raw_poly_2) (S_raw_poly_3))
def F_raw_poly : Fn := runP 1 4 B_raw_poly
theorem g_raw_poly {P : Program} {w : World} {K : PySem.W.Frag} {mg : Str → Option Value} {base : Heap} (m_enumerate : mg "enumerate" = none) (d_all_bernoulli : Df P w K mg base 4 "all_bernoulli" ["most"] (spP K mg F_all_bernoulli)) (d_fraction : Df P w K mg base 2 "fraction" ["top", "bottom"] (spP K mg F_fraction)) (d_ways_to_take : Df P w K mg base 1 "ways_to_take" ["many", "size"] (spP K mg F_ways_to_take)) : Gives P w K mg base 5 "raw_poly" s_raw_poly ["k"] (spP K mg F_raw_poly) := fun f fd F =>
  fnP (k := 4) F sc_raw_poly rfl (by decide) fun cdv A outer s H E hr hgd => show DSs _ _ _ B_raw_poly from dss_cons (x_set 1 sc_raw_poly.nd (de_op op_mulAll os_mul (de_lst (dn_cons (de_tup (dn_cons (de_int) (dn_cons (de_int) (dn_nil)))) (dn_nil))) (de_op op_addAll os_add (de_v (pv 0)) (de_int)))) (dss_cons (x_for (passes_of rfl) (x_E m_enumerate (dn_cons (x_call d_all_bernoulli hr hgd (takes_of rfl rfl rfl rfl) (dn_cons (de_v (pv 0)) (dn_nil))) (dn_nil))) (dg_tup rfl (dgs_cons (x_tN 2 sc_raw_poly.nd) (dgs_cons (x_tN 3 sc_raw_poly.nd) (dgs_nil)))) (dss_one (x_setIx 1 (pv 1) (de_op op_sub os_sub (de_op op_addAll os_add (de_v (pv 0)) (de_int)) (de_v (pv 2))) (x_call d_fraction hr hgd (takes_of rfl rfl rfl rfl) (dn_cons (de_op op_mulAll os_mul (x_call d_ways_to_take hr hgd (takes_of rfl rfl rfl rfl) (dn_cons (de_op op_addAll os_add (de_v (pv 0)) (de_int)) (dn_cons (de_v (pv 2)) (dn_nil)))) (de_ix ix_seq os_ix (fun _ _ => rfl) (de_v (pv 3)) (de_int))) (dn_cons (de_op op_mulAll os_mul (de_ix ix_seq os_ix (fun _ _ => rfl) (de_v (pv 3)) (de_int)) (de_op op_addAll os_add (de_v (pv 0)) (de_int))) (dn_nil))))))) (dss_one (ds_ret (de_mv (pv 1)))))
abbrev s_sum_poly : Stmt := topS 18
theorem sc_sum_poly : FnScope ["k"] ["k"] (defScope s_sum_poly) := ⟨rfl, rfl, rfl, by decide +kernel, rfl, by decide +kernel, by decide +kernel⟩
def S_sum_poly_1 : DenS := sExpr (eCall F_check_number (aCons (eV 0) (aCons (eC (.int 0)) (aCons (eC (.int 20)) (aNil)))))
def S_sum_poly_2 : DenS := sRet (eAp gTupleOf (aCons (eCall F_raw_poly (aCons (eV 0) (aNil))) (aNil)))
def B_sum_poly : DenS := sSeq (S_sum_poly_1) (S_sum_poly_2)
def F_sum_poly : Fn := runP 1 1 B_sum_poly
theorem g_sum_poly {P : Program} {w : World} {K : PySem.W.Frag} {mg : Str → Option Value} {base : Heap} (m_tuple : mg "tuple" = none) (c_MOST_POLY : Gi mg "MOST_POLY" 20) (d_check_number : Df P w K mg base 3 "check_number" ["thing", "low", "high"] (spP K mg F_check_number)) (d_raw_poly : Df P w K mg base 5 "raw_poly" ["k"] (spP K mg F_raw_poly)) : Gives P w K mg base 6 "sum_poly" s_sum_poly ["k"] (spP K mg F_sum_poly) := fun f fd F =>
  fnP (k := 5) F sc_sum_poly rfl (by decide) fun cdv A outer s H E hr hgd => show DSs _ _ _ B_sum_poly from dss_cons (x_expr (x_call d_check_number hr hgd (takes_of rfl rfl rfl rfl) (dn_cons (de_v (pv 0)) (dn_cons (de_int) (dn_cons (x_gi c_MOST_POLY) (dn_nil)))))) (dss_one (ds_ret (x_t call_tuple_of cs_tuple PySem.Pv.boot_tuple m_tuple (dn_cons (x_call d_raw_poly hr hgd (takes_of rfl rfl rfl rfl) (dn_cons (de_v (pv 0)) (dn_nil))) (dn_nil)))))
abbrev s_sum_at : Stmt := topS 19
theorem sc_sum_at : FnScope ["k", "n", "total", "term"] ["k", "n"] (defScope s_sum_at) := ⟨rfl, rfl, rfl, by decide +kernel, rfl, by decide +kernel, by decide +kernel⟩
def S_sum_at_1 : DenS := sExpr (eCall F_check_number (aCons (eV 0) (aCons (eC (.int 0)) (aCons (eC (.int 20)) (aNil)))))
def S_sum_at_2 : DenS := sExpr (eCall F_check_number (aCons (eV 1) (aCons (eC (.int 0)) (aCons (eC (.int 1000000000)) (aNil)))))
def S_sum_at_3 : DenS := sSet 2 (eTup (aCons (eC (.int 0)) (aCons (eC (.int 1)) (aNil))))
def S_sum_at_4b : DenS := sSet 2 (eCall F_plus (aCons (eCall F_fraction (aCons (eOp gMul (eOp gIx (eV 2) (eC (.int 0))) (eV 1)) (aCons (eOp gIx (eV 2) (eC (.int 1))) (aNil)))) (aCons (eV 3) (aNil))))
def S_sum_at_4 : DenS := sFor (srcL (eUn gRevL (eCall F_raw_poly (aCons (eV 0) (aNil))))) (tgN 3) (S_sum_at_4b)
def S_sum_at_5 : DenS := sRet (eOp gIx (eV 2) (eC (.int 0)))
def B_sum_at : DenS := sSeq (S_sum_at_1) (sSeq (S_sum_at_2) (sSeq (S_sum_at_3) (sSeq (S_sum_at_4) (S_sum_at_5))))
def F_sum_at : Fn := runP 2 4 B_sum_at
theorem g_sum_at {P : Program} {w : World} {K : PySem.W.Frag} {mg : Str → Option Value} {base : Heap} (c_MOST_POLY : Gi mg "MOST_POLY" 20) (c_MOST_N : Gi mg "MOST_N" 1000000000) (d_check_number : Df P w K mg base 3 "check_number" ["thing", "low", "high"] (spP K mg F_check_number)) (d_raw_poly : Df P w K mg base 5 "raw_poly" ["k"] (spP K mg F_raw_poly)) (d_plus : Df P w K mg base 3 "plus" ["one", "other"] (spP K mg F_plus)) (d_fraction : Df P w K mg base 2 "fraction" ["top", "bottom"] (spP K mg F_fraction)) : Gives P w K mg base 6 "sum_at" s_sum_at ["k", "n"] (spP K mg F_sum_at) := fun f fd F =>
  fnP (k := 5) F sc_sum_at rfl (by decide) fun cdv A outer s H E hr hgd => show DSs _ _ _ B_sum_at from dss_cons (x_expr (x_call d_check_number hr hgd (takes_of rfl rfl rfl rfl) (dn_cons (de_v (pv 0)) (dn_cons (de_int) (dn_cons (x_gi c_MOST_POLY) (dn_nil)))))) (dss_cons (x_expr (x_call d_check_number hr hgd (takes_of rfl rfl rfl rfl) (dn_cons (de_v (pv 1)) (dn_cons (de_int) (dn_cons (x_gi c_MOST_N) (dn_nil)))))) (dss_cons (x_set 2 sc_sum_at.nd (de_tup (dn_cons (de_int) (dn_cons (de_int) (dn_nil))))) (dss_cons (x_for (passes_of rfl) (x_L (de_revL (x_call d_raw_poly hr hgd (takes_of rfl rfl rfl rfl) (dn_cons (de_v (pv 0)) (dn_nil))))) (x_tN 3 sc_sum_at.nd) (dss_one (x_set 2 sc_sum_at.nd (x_call d_plus hr hgd (takes_of rfl rfl rfl rfl) (dn_cons (x_call d_fraction hr hgd (takes_of rfl rfl rfl rfl) (dn_cons (de_op op_mulAll os_mul (de_ix ix_seq os_ix (fun _ _ => rfl) (de_v (pv 2)) (de_int)) (de_v (pv 1))) (dn_cons (de_ix ix_seq os_ix (fun _ _ => rfl) (de_v (pv 2)) (de_int)) (dn_nil)))) (dn_cons (de_v (pv 3)) (dn_nil))))))) (dss_one (ds_ret (de_ix ix_seq os_ix (fun _ _ => rfl) (de_v (pv 2)) (de_int)))))))
abbrev s_bernoulli : Stmt := topS 16
theorem sc_bernoulli : FnScope ["k"] ["k"] (defScope s_bernoulli) := ⟨rfl, rfl, rfl, by decide +kernel, rfl, by decide +kernel, by decide +kernel⟩
def S_bernoulli_1 : DenS := sExpr (eCall F_check_number (aCons (eV 0) (aCons (eC (.int 0)) (aCons (eC (.int 20)) (aNil)))))
def S_bernoulli_2 : DenS := sRet (eOp gIx (eCall F_all_bernoulli (aCons (eV 0) (aNil))) (eV 0))
def B_bernoulli : DenS := sSeq (S_bernoulli_1) (S_bernoulli_2)
def F_bernoulli : Fn := runP 1 1 B_bernoulli
theorem g_bernoulli {P : Program} {w : World} {K : PySem.W.Frag} {mg : Str → Option Value} {base : Heap} (c_MOST_POLY : Gi mg "MOST_POLY" 20) (d_check_number : Df P w K mg base 3 "check_number" ["thing", "low", "high"] (spP K mg F_check_number)) (d_all_bernoulli : Df P w K mg base 4 "all_bernoulli" ["most"] (spP K mg F_all_bernoulli)) : Gives P w K mg base 5 "bernoulli" s_bernoulli ["k"] (spP K mg F_bernoulli) := fun f fd F =>
  fnP (k := 4) F sc_bernoulli rfl (by decide) fun cdv A outer s H E hr hgd => show DSs _ _ _ B_bernoulli from dss_cons (x_expr (x_call d_check_number hr hgd (takes_of rfl rfl rfl rfl) (dn_cons (de_v (pv 0)) (dn_cons (de_int) (dn_cons (x_gi c_MOST_POLY) (dn_nil)))))) (dss_one (ds_ret (de_ix ix_seq os_ix (fun _ _ => rfl) (x_call d_all_bernoulli hr hgd (takes_of rfl rfl rfl rfl) (dn_cons (de_v (pv 0)) (dn_nil))) (de_v (pv 0)))))
abbrev s__law_divisor : Stmt := topS 23
theorem sc__law_divisor : FnScope ["one", "other"] ["one", "other"] (defScope s__law_divisor) := ⟨rfl, rfl, rfl, by decide +kernel, rfl, by decide +kernel, by decide +kernel⟩
def S__law_divisor_1 : DenS := sPar 0 1 (aCons (eAp gAbs (aCons (eV 0) (aNil))) (aCons (eAp gAbs (aCons (eV 1) (aNil))) (aNil)))
def S__law_divisor_2b : DenS := sPar 0 1 (aCons (eV 1) (aCons (eOp gMod (eAp gInt (aCons (eV 0) (aNil))) (eV 1)) (aNil)))
def S__law_divisor_2 : DenS := sWhile (tVal (eOp gGt (eV 1) (eC (.int 0)))) (S__law_divisor_2b)
def S__law_divisor_3 : DenS := sRet (eV 0)
def B__law_divisor : DenS := sSeq (S__law_divisor_1) (sSeq (S__law_divisor_2) (S__law_divisor_3))
def F__law_divisor : Fn := runP 2 2 B__law_divisor
theorem g__law_divisor {P : Program} {w : World} {K : PySem.W.Frag} {mg : Str → Option Value} {base : Heap} (m_abs : mg "abs" = none) (m_int : mg "int" = none) : Gives P w K mg base 1 "_law_divisor" s__law_divisor ["one", "other"] (spP K mg F__law_divisor) := fun f fd F =>
  fnP (k := 0) F sc__law_divisor rfl (by decide) fun cdv A outer s H E hr hgd => show DSs _ _ _ B__law_divisor from dss_cons (x_par 0 1 sc__law_divisor.nd (dn_cons (x_b call_abs cs_abs PyProof.Rows.boot_abs m_abs (dn_cons (de_v (pv 0)) (dn_nil))) (dn_cons (x_b call_abs cs_abs PyProof.Rows.boot_abs m_abs (dn_cons (de_v (pv 1)) (dn_nil))) (dn_nil)))) (dss_cons (x_while (passes_of rfl) (dt_cmp op_gt os_gt (nomark _) (de_v (pv 1)) (de_int)) (dss_one (x_par 0 1 sc__law_divisor.nd (dn_cons (de_v (pv 1)) (dn_cons (de_op op_mod os_mod (x_t call_int1 cs_int PySem.Pv.boot_int m_int (dn_cons (de_v (pv 0)) (dn_nil))) (de_v (pv 1))) (dn_nil)))))) (dss_one (ds_ret (de_v (pv 0)))))
abbrev s__law_low : Stmt := topS 25
theorem sc__law_low : FnScope ["top", "bottom", "by"] ["top", "bottom"] (defScope s__law_low) := ⟨rfl, rfl, rfl, by decide +kernel, rfl, by decide +kernel, by decide +kernel⟩
def S__law_low_1 : DenS := sSet 2 (eCall F__law_divisor (aCons (eV 0) (aCons (eV 1) (aNil))))
def S__law_low_2 : DenS := sRet (eTup (aCons (eOp gDiv (eV 0) (eV 2)) (aCons (eOp gDiv (eV 1) (eV 2)) (aNil))))
def B__law_low : DenS := sSeq (S__law_low_1) (S__law_low_2)
def F__law_low : Fn := runP 2 3 B__law_low
theorem g__law_low {P : Program} {w : World} {K : PySem.W.Frag} {mg : Str → Option Value} {base : Heap} (d__law_divisor : Df P w K mg base 1 "_law_divisor" ["one", "other"] (spP K mg F__law_divisor)) : Gives P w K mg base 2 "_law_low" s__law_low ["top", "bottom"] (spP K mg F__law_low) := fun f fd F =>
  fnP (k := 1) F sc__law_low rfl (by decide) fun cdv A outer s H E hr hgd => show DSs _ _ _ B__law_low from dss_cons (x_set 2 sc__law_low.nd (x_call d__law_divisor hr hgd (takes_of rfl rfl rfl rfl) (dn_cons (de_v (pv 0)) (dn_cons (de_v (pv 1)) (dn_nil))))) (dss_one (ds_ret (de_tup (dn_cons (de_op op_fdivW os_div (de_v (pv 0)) (de_v (pv 2))) (dn_cons (de_op op_fdivW os_div (de_v (pv 1)) (de_v (pv 2))) (dn_nil))))))
abbrev s__law_plus : Stmt := topS 26
theorem sc__law_plus : FnScope ["one", "other"] ["one", "other"] (defScope s__law_plus) := ⟨rfl, rfl, rfl, by decide +kernel, rfl, by decide +kernel, by decide +kernel⟩
def S__law_plus_1 : DenS := sRet (eCall F__law_low (aCons (eOp gAdd (eOp gMul (eOp gIx (eV 0) (eC (.int 0))) (eOp gIx (eV 1) (eC (.int 1)))) (eOp gMul (eOp gIx (eV 1) (eC (.int 0))) (eOp gIx (eV 0) (eC (.int 1))))) (aCons (eOp gMul (eOp gIx (eV 0) (eC (.int 1))) (eOp gIx (eV 1) (eC (.int 1)))) (aNil))))
def B__law_plus : DenS := S__law_plus_1
def F__law_plus : Fn := runP 2 2 B__law_plus
theorem g__law_plus {P : Program} {w : World} {K : PySem.W.Frag} {mg : Str → Option Value} {base : Heap} (d__law_low : Df P w K mg base 2 "_law_low" ["top", "bottom"] (spP K mg F__law_low)) : Gives P w K mg base 3 "_law_plus" s__law_plus ["one", "other"] (spP K mg F__law_plus) := fun f fd F =>
  fnP (k := 2) F sc__law_plus rfl (by decide) fun cdv A outer s H E hr hgd => show DSs _ _ _ B__law_plus from dss_one (ds_ret (x_call d__law_low hr hgd (takes_of rfl rfl rfl rfl) (dn_cons (de_op op_addAll os_add (de_op op_mulAll os_mul (de_ix ix_seq os_ix (fun _ _ => rfl) (de_v (pv 0)) (de_int)) (de_ix ix_seq os_ix (fun _ _ => rfl) (de_v (pv 1)) (de_int))) (de_op op_mulAll os_mul (de_ix ix_seq os_ix (fun _ _ => rfl) (de_v (pv 1)) (de_int)) (de_ix ix_seq os_ix (fun _ _ => rfl) (de_v (pv 0)) (de_int)))) (dn_cons (de_op op_mulAll os_mul (de_ix ix_seq os_ix (fun _ _ => rfl) (de_v (pv 0)) (de_int)) (de_ix ix_seq os_ix (fun _ _ => rfl) (de_v (pv 1)) (de_int))) (dn_nil)))))
abbrev s__law_choose : Stmt := topS 27
theorem sc__law_choose : FnScope ["many", "size", "found", "at"] ["many", "size"] (defScope s__law_choose) := ⟨rfl, rfl, rfl, by decide +kernel, rfl, by decide +kernel, by decide +kernel⟩
def S__law_choose_1 : DenS := sSet 2 (eC (.int 1))
def S__law_choose_2b : DenS := sSet 2 (eOp gDiv (eOp gMul (eV 2) (eOp gMinus (eV 0) (eV 3))) (eOp gAdd (eV 3) (eC (.int 1))))
def S__law_choose_2 : DenS := sFor (srcR1 (aCons (eV 1) (aNil))) (tgN 3) (S__law_choose_2b)
def S__law_choose_3 : DenS := sRet (eV 2)
def B__law_choose : DenS := sSeq (S__law_choose_1) (sSeq (S__law_choose_2) (S__law_choose_3))
def F__law_choose : Fn := runP 2 4 B__law_choose
theorem g__law_choose {P : Program} {w : World} {K : PySem.W.Frag} {mg : Str → Option Value} {base : Heap} (m_range : mg "range" = none) : Gives P w K mg base 1 "_law_choose" s__law_choose ["many", "size"] (spP K mg F__law_choose) := fun f fd F =>
  fnP (k := 0) F sc__law_choose rfl (by decide) fun cdv A outer s H E hr hgd => show DSs _ _ _ B__law_choose from dss_cons (x_set 2 sc__law_choose.nd (de_int)) (dss_cons (x_for (passes_of rfl) (x_R1 m_range (dn_cons (de_v (pv 1)) (dn_nil))) (x_tN 3 sc__law_choose.nd) (dss_one (x_set 2 sc__law_choose.nd (de_op op_fdivW os_div (de_op op_mulAll os_mul (de_v (pv 2)) (de_op op_sub os_sub (de_v (pv 0)) (de_v (pv 3)))) (de_op op_addAll os_add (de_v (pv 3)) (de_int)))))) (dss_one (ds_ret (de_v (pv 2)))))
abbrev s__law_bernoulli : Stmt := topS 28
theorem sc__law_bernoulli : FnScope ["most", "found", "m", "total", "j"] ["most"] (defScope s__law_bernoulli) := ⟨rfl, rfl, rfl, by decide +kernel, rfl, by decide +kernel, by decide +kernel⟩
def S__law_bernoulli_1 : DenS := sSet 1 (eLst (aCons (eTup (aCons (eC (.int 1)) (aCons (eC (.int 1)) (aNil)))) (aNil)))
def S__law_bernoulli_2b_2b : DenS := sSet 3 (eCall F__law_plus (aCons (eV 3) (aCons (eTup (aCons (eOp gMul (eCall F__law_choose (aCons (eOp gAdd (eV 2) (eC (.int 1))) (aCons (eV 4) (aNil)))) (eOp gIx (eOp gIx (eV 1) (eV 4)) (eC (.int 0)))) (aCons (eOp gIx (eOp gIx (eV 1) (eV 4)) (eC (.int 1))) (aNil)))) (aNil))))
def S__law_bernoulli_2b : DenS := sSeq (sSet 3 (eTup (aCons (eC (.int 0)) (aCons (eC (.int 1)) (aNil))))) (sSeq (sFor (srcR1 (aCons (eV 2) (aNil))) (tgN 4) (S__law_bernoulli_2b_2b)) (sExpr (eMut 1 muApp (aCons (eCall F__law_low (aCons (eOp gMinus (eC (.int 0)) (eOp gIx (eV 3) (eC (.int 0)))) (aCons (eOp gMul (eOp gIx (eV 3) (eC (.int 1))) (eOp gAdd (eV 2) (eC (.int 1)))) (aNil)))) (aNil)))))
def S__law_bernoulli_2 : DenS := sFor (srcR2 (aCons (eC (.int 1)) (aCons (eOp gAdd (eV 0) (eC (.int 1))) (aNil)))) (tgN 2) (S__law_bernoulli_2b)
def S__law_bernoulli_3 : DenS := sRet (eMv 1)
def B__law_bernoulli : DenS := sSeq (S__law_bernoulli_1) (sSeq (S__law_bernoulli_2) (S__law_bernoulli_3))
def F__law_bernoulli : Fn := runP 1 5 B__law_bernoulli
theorem g__law_bernoulli {P : Program} {w : World} {K : PySem.W.Frag} {mg : Str → Option Value} {base : Heap} (m_range : mg "range" = none) (d__law_plus : Df P w K mg base 3 "_law_plus" ["one", "other"] (spP K mg F__law_plus)) (d__law_choose : Df P w K mg base 1 "_law_choose" ["many", "size"] (spP K mg F__law_choose)) (d__law_low : Df P w K mg base 2 "_law_low" ["top", "bottom"] (spP K mg F__law_low)) : Gives P w K mg base 4 "_law_bernoulli" s__law_bernoulli ["most"] (spP K mg F__law_bernoulli) := fun f fd F =>
  fnP (k := 3) F sc__law_bernoulli rfl (by decide) fun cdv A outer s H E hr hgd => show DSs _ _ _ B__law_bernoulli from dss_cons (x_set 1 sc__law_bernoulli.nd (de_lst (dn_cons (de_tup (dn_cons (de_int) (dn_cons (de_int) (dn_nil)))) (dn_nil)))) (dss_cons (x_for (passes_of rfl) (x_R2 m_range (dn_cons (de_int) (dn_cons (de_op op_addAll os_add (de_v (pv 0)) (de_int)) (dn_nil)))) (x_tN 2 sc__law_bernoulli.nd) (dss_cons (x_set 3 sc__law_bernoulli.nd (de_tup (dn_cons (de_int) (dn_cons (de_int) (dn_nil))))) (dss_cons (x_for (passes_of rfl) (x_R1 m_range (dn_cons (de_v (pv 2)) (dn_nil))) (x_tN 4 sc__law_bernoulli.nd) (dss_one (x_set 3 sc__law_bernoulli.nd (x_call d__law_plus hr hgd (takes_of rfl rfl rfl rfl) (dn_cons (de_v (pv 3)) (dn_cons (de_tup (dn_cons (de_op op_mulAll os_mul (x_call d__law_choose hr hgd (takes_of rfl rfl rfl rfl) (dn_cons (de_op op_addAll os_add (de_v (pv 2)) (de_int)) (dn_cons (de_v (pv 4)) (dn_nil)))) (de_ix ix_seq os_ix (fun _ _ => rfl) (de_ix ix_seq os_ix (fun _ _ => rfl) (de_v (pv 1)) (de_v (pv 4))) (de_int))) (dn_cons (de_ix ix_seq os_ix (fun _ _ => rfl) (de_ix ix_seq os_ix (fun _ _ => rfl) (de_v (pv 1)) (de_v (pv 4))) (de_int)) (dn_nil)))) (dn_nil))))))) (dss_one (x_expr (de_mut mu_app (fun h => pe_bm PySem.F.plainAttrs_list PySem.F.slot_list_append PySem.F.type_list_append mt_append (pv 1) h) (dn_cons (x_call d__law_low hr hgd (takes_of rfl rfl rfl rfl) (dn_cons (de_op op_sub os_sub (de_int) (de_ix ix_seq os_ix (fun _ _ => rfl) (de_v (pv 3)) (de_int))) (dn_cons (de_op op_mulAll os_mul (de_ix ix_seq os_ix (fun _ _ => rfl) (de_v (pv 3)) (de_int)) (de_op op_addAll os_add (de_v (pv 2)) (de_int))) (dn_nil)))) (dn_nil)))))))) (dss_one (ds_ret (de_mv (pv 1)))))
abbrev s__law_poly : Stmt := topS 29
theorem sc__law_poly : FnScope ["k", "numbers_own", "found", "j", "top", "bottom"] ["k"] (defScope s__law_poly) := ⟨rfl, rfl, rfl, by decide +kernel, rfl, by decide +kernel, by decide +kernel⟩
def S__law_poly_1 : DenS := sPar 1 2 (aCons (eFz (eCall F__law_bernoulli (aCons (eV 0) (aNil)))) (aCons (eOp gMul (eLst (aCons (eTup (aCons (eC (.int 0)) (aCons (eC (.int 1)) (aNil)))) (aNil))) (eOp gAdd (eV 0) (eC (.int 2)))) (aNil)))
def S__law_poly_2b : DenS := sSeq (sAsg (tgT [tgN 4, tgN 5]) (eOp gIx (eV 1) (eV 3))) (sSetIx 2 (eOp gMinus (eOp gAdd (eV 0) (eC (.int 1))) (eV 3)) (eCall F__law_low (aCons (eOp gMul (eCall F__law_choose (aCons (eOp gAdd (eV 0) (eC (.int 1))) (aCons (eV 3) (aNil)))) (eV 4)) (aCons (eOp gMul (eV 5) (eOp gAdd (eV 0) (eC (.int 1)))) (aNil)))))
def S__law_poly_2 : DenS := sFor (srcR1 (aCons (eOp gAdd (eV 0) (eC (.int 1))) (aNil))) (tgN 3) (S__law_poly_2b)
def S__law_poly_3 : DenS := sRet (eAp gTupleOf (aCons (eV 2) (aNil)))
def B__law_poly : DenS := sSeq (S__law_poly_1) (sSeq (S__law_poly_2) (S__law_poly_3))
def F__law_poly : Fn := runP 1 6 B__law_poly
theorem g__law_poly {P : Program} {w : World} {K : PySem.W.Frag} {mg : Str → Option Value} {base : Heap} (m_range : mg "range" = none) (m_tuple : mg "tuple" = none) (d__law_bernoulli : Df P w K mg base 4 "_law_bernoulli" ["most"] (spP K mg F__law_bernoulli)) (d__law_low : Df P w K mg base 2 "_law_low" ["top", "bottom"] (spP K mg F__law_low)) (d__law_choose : Df P w K mg base 1 "_law_choose" ["many", "size"] (spP K mg F__law_choose)) : Gives P w K mg base 5 "_law_poly" s__law_poly ["k"] (spP K mg F__law_poly) := fun f fd F =>
  fnP (k := 4) F sc__law_poly rfl (by decide) fun cdv A outer s H E hr hgd => show DSs _ _ _ B__law_poly from dss_cons (x_par 1 2 sc__law_poly.nd (dn_cons (de_fz (x_call d__law_bernoulli hr hgd (takes_of rfl rfl rfl rfl) (dn_cons (de_v (pv 0)) (dn_nil)))) (dn_cons (de_op op_mulAll os_mul (de_lst (dn_cons (de_tup (dn_cons (de_int) (dn_cons (de_int) (dn_nil)))) (dn_nil))) (de_op op_addAll os_add (de_v (pv 0)) (de_int))) (dn_nil)))) (dss_cons (x_for (passes_of rfl) (x_R1 m_range (dn_cons (de_op op_addAll os_add (de_v (pv 0)) (de_int)) (dn_nil))) (x_tN 3 sc__law_poly.nd) (dss_cons (x_asg (dg_tup rfl (dgs_cons (x_tN 4 sc__law_poly.nd) (dgs_cons (x_tN 5 sc__law_poly.nd) (dgs_nil)))) (de_ix ix_seq os_ix (fun _ _ => rfl) (de_v (pv 1)) (de_v (pv 3)))) (dss_one (x_setIx 2 (pv 2) (de_op op_sub os_sub (de_op op_addAll os_add (de_v (pv 0)) (de_int)) (de_v (pv 3))) (x_call d__law_low hr hgd (takes_of rfl rfl rfl rfl) (dn_cons (de_op op_mulAll os_mul (x_call d__law_choose hr hgd (takes_of rfl rfl rfl rfl) (dn_cons (de_op op_addAll os_add (de_v (pv 0)) (de_int)) (dn_cons (de_v (pv 3)) (dn_nil)))) (de_v (pv 4))) (dn_cons (de_op op_mulAll os_mul (de_v (pv 5)) (de_op op_addAll os_add (de_v (pv 0)) (de_int))) (dn_nil)))))))) (dss_one (ds_ret (x_t call_tuple_of cs_tuple PySem.Pv.boot_tuple m_tuple (dn_cons (de_v (pv 2)) (dn_nil))))))
abbrev s__law_draw : Stmt := topS 22
theorem sc__law_draw : FnScope ["hand", "below", "cell", "digit", "number"] ["hand", "below"] (defScope s__law_draw) := ⟨rfl, rfl, rfl, by decide +kernel, rfl, by decide +kernel, by decide +kernel⟩
def S__law_draw_1 : DenS := sIf (tAnd' (tVal (eOp gEq (eOp gIx (eV 0) (eC (.int 2))) (eC (.int 0)))) (tVal (eOp gLt (eOp gIx (eV 0) (eC (.int 1))) (eAp gLen (aCons (eOp gIx (eV 0) (eC (.int 0))) (aNil)))))) (sSeq (sSet 2 (eOp gIx (eOp gIx (eV 0) (eC (.int 0))) (eOp gIx (eV 0) (eC (.int 1))))) (sSeq (sSetIx 0 (eC (.int 1)) (eOp gAdd (eOp gIx (eV 0) (eC (.int 1))) (eC (.int 1)))) (sSeq (sSetIx 0 (eC (.int 3)) (eOp gMod (eAp gInt (aCons (eOp gAdd (eOp gAdd (eOp gMul (eOp gIx (eV 0) (eC (.int 3))) (eC (.int 69621))) (eOp gMul (eV 2) (eC (.int 40692)))) (eC (.int 31))) (aNil))) (eC (.int 2147483629)))) (sIf (tVal (eOp gGe (eV 2) (eOp gPow (eC (.int 10)) (eC (.int 18))))) (sSetIx 0 (eC (.int 2)) (eV 2)) (sNil))))) (sNil)
def S__law_draw_2 : DenS := sIf (tVal (eOp gGt (eOp gIx (eV 0) (eC (.int 2))) (eC (.int 0)))) (sSeq (sSet 3 (eOp gMod (eAp gInt (aCons (eOp gIx (eV 0) (eC (.int 2))) (aNil))) (eV 1))) (sSeq (sSetIx 0 (eC (.int 2)) (eOp gDiv (eOp gIx (eV 0) (eC (.int 2))) (eV 1))) (sRet (eV 3)))) (sNil)
def S__law_draw_3 : DenS := sSetIx 0 (eC (.int 4)) (eOp gAdd (eOp gIx (eV 0) (eC (.int 4))) (eC (.int 1)))
def S__law_draw_4 : DenS := sSet 4 (eOp gMod (eAp gInt (aCons (eOp gMul (eAp gInt (aCons (eOp gAdd (eOp gIx (eV 0) (eC (.int 3))) (eOp gMul (eC (.int 7919)) (eOp gIx (eV 0) (eC (.int 4))))) (aNil))) (eC (.int 48271))) (aNil))) (eC (.int 2147483647)))
def S__law_draw_5 : DenS := sSet 4 (eOp gMod (eAp gInt (aCons (eOp gMul (eV 4) (eOp gAdd (eOp gDiv (eV 4) (eC (.int 1009))) (eC (.int 69621)))) (aNil))) (eC (.int 2147483647)))
def S__law_draw_6 : DenS := sSet 4 (eOp gMod (eAp gInt (aCons (eOp gMul (eV 4) (eOp gAdd (eOp gDiv (eV 4) (eC (.int 2003))) (eC (.int 40014)))) (aNil))) (eC (.int 2147483563)))
def S__law_draw_7 : DenS := sRet (eOp gMod (eAp gInt (aCons (eOp gDiv (eV 4) (eC (.int 16))) (aNil))) (eV 1))
def B__law_draw : DenS := sSeq (S__law_draw_1) (sSeq (S__law_draw_2) (sSeq (S__law_draw_3) (sSeq (S__law_draw_4) (sSeq (S__law_draw_5) (sSeq (S__law_draw_6) (S__law_draw_7))))))
def F__law_draw : FnI := runI 1 5 B__law_draw
theorem g__law_draw {P : Program} {w : World} {K : PySem.W.Frag} {mg : Str → Option Value} {base : Heap} (m_len : mg "len" = none) (m_int : mg "int" = none) : Gives P w K mg base 1 "_law_draw" s__law_draw ["hand", "below"] (spI K mg F__law_draw) := fun f fd F =>
  fnI (k := 0) F sc__law_draw rfl (by decide) fun cdv A outer s H E hr hgd => show DSs _ _ _ B__law_draw from dss_cons (ds_if (dt_w (dw_and (dt_cmp (op_eqD (hu65 (hu64 hr))) os_eq (nomark _) (de_ix ix_seq os_ix (fun _ _ => rfl) (de_v (pv 0)) (de_int)) (de_int)) (dw_and1 (dt_cmp op_lt os_lt (nomark _) (de_ix ix_seq os_ix (fun _ _ => rfl) (de_v (pv 0)) (de_int)) (x_b call_lenAll cs_len PySem.boot_len m_len (dn_cons (de_ix ix_seq os_ix (fun _ _ => rfl) (de_v (pv 0)) (de_int)) (dn_nil))))))) (dss_cons (x_set 2 sc__law_draw.nd (de_ix ix_seq os_ix (fun _ _ => rfl) (de_ix ix_seq os_ix (fun _ _ => rfl) (de_v (pv 0)) (de_int)) (de_ix ix_seq os_ix (fun _ _ => rfl) (de_v (pv 0)) (de_int)))) (dss_cons (x_setIx 0 (pv 0) (de_int) (de_op op_addAll os_add (de_ix ix_seq os_ix (fun _ _ => rfl) (de_v (pv 0)) (de_int)) (de_int))) (dss_cons (x_setIx 0 (pv 0) (de_int) (de_op op_mod os_mod (x_t call_int1 cs_int PySem.Pv.boot_int m_int (dn_cons (de_op op_addAll os_add (de_op op_addAll os_add (de_op op_mulAll os_mul (de_ix ix_seq os_ix (fun _ _ => rfl) (de_v (pv 0)) (de_int)) (de_int)) (de_op op_mulAll os_mul (de_v (pv 2)) (de_int))) (de_int)) (dn_nil))) (de_int))) (dss_one (ds_if (dt_cmp op_ge os_ge (nomark _) (de_v (pv 2)) (de_op op_pow os_pow (de_int) (de_int))) (dss_one (x_setIx 0 (pv 0) (de_int) (de_v (pv 2)))) (dss_nil)))))) (dss_nil)) (dss_cons (ds_if (dt_cmp op_gt os_gt (nomark _) (de_ix ix_seq os_ix (fun _ _ => rfl) (de_v (pv 0)) (de_int)) (de_int)) (dss_cons (x_set 3 sc__law_draw.nd (de_op op_mod os_mod (x_t call_int1 cs_int PySem.Pv.boot_int m_int (dn_cons (de_ix ix_seq os_ix (fun _ _ => rfl) (de_v (pv 0)) (de_int)) (dn_nil))) (de_v (pv 1)))) (dss_cons (x_setIx 0 (pv 0) (de_int) (de_op op_fdivW os_div (de_ix ix_seq os_ix (fun _ _ => rfl) (de_v (pv 0)) (de_int)) (de_v (pv 1)))) (dss_one (ds_ret (de_v (pv 3)))))) (dss_nil)) (dss_cons (x_setIx 0 (pv 0) (de_int) (de_op op_addAll os_add (de_ix ix_seq os_ix (fun _ _ => rfl) (de_v (pv 0)) (de_int)) (de_int))) (dss_cons (x_set 4 sc__law_draw.nd (de_op op_mod os_mod (x_t call_int1 cs_int PySem.Pv.boot_int m_int (dn_cons (de_op op_mulAll os_mul (x_t call_int1 cs_int PySem.Pv.boot_int m_int (dn_cons (de_op op_addAll os_add (de_ix ix_seq os_ix (fun _ _ => rfl) (de_v (pv 0)) (de_int)) (de_op op_mulAll os_mul (de_int) (de_ix ix_seq os_ix (fun _ _ => rfl) (de_v (pv 0)) (de_int)))) (dn_nil))) (de_int)) (dn_nil))) (de_int))) (dss_cons (x_set 4 sc__law_draw.nd (de_op op_mod os_mod (x_t call_int1 cs_int PySem.Pv.boot_int m_int (dn_cons (de_op op_mulAll os_mul (de_v (pv 4)) (de_op op_addAll os_add (de_op op_fdivW os_div (de_v (pv 4)) (de_int)) (de_int))) (dn_nil))) (de_int))) (dss_cons (x_set 4 sc__law_draw.nd (de_op op_mod os_mod (x_t call_int1 cs_int PySem.Pv.boot_int m_int (dn_cons (de_op op_mulAll os_mul (de_v (pv 4)) (de_op op_addAll os_add (de_op op_fdivW os_div (de_v (pv 4)) (de_int)) (de_int))) (dn_nil))) (de_int))) (dss_one (ds_ret (de_op op_mod os_mod (x_t call_int1 cs_int PySem.Pv.boot_int m_int (dn_cons (de_op op_fdivW os_div (de_v (pv 4)) (de_int)) (dn_nil))) (de_v (pv 1))))))))))
abbrev s__law_times : Stmt := topS 24
theorem sc__law_times : FnScope ["number", "often", "found", "lap_on"] ["number", "often"] (defScope s__law_times) := ⟨rfl, rfl, rfl, by decide +kernel, rfl, by decide +kernel, by decide +kernel⟩
def S__law_times_1 : DenS := sSet 2 (eC (.int 1))
def S__law_times_2b : DenS := sSet 2 (eOp gMul (eV 2) (eV 0))
def S__law_times_2 : DenS := sFor (srcR1 (aCons (eV 1) (aNil))) (tgN 3) (S__law_times_2b)
def S__law_times_3 : DenS := sRet (eV 2)
def B__law_times : DenS := sSeq (S__law_times_1) (sSeq (S__law_times_2) (S__law_times_3))
def F__law_times : Fn := runP 2 4 B__law_times
theorem g__law_times {P : Program} {w : World} {K : PySem.W.Frag} {mg : Str → Option Value} {base : Heap} (m_range : mg "range" = none) : Gives P w K mg base 1 "_law_times" s__law_times ["number", "often"] (spP K mg F__law_times) := fun f fd F =>
  fnP (k := 0) F sc__law_times rfl (by decide) fun cdv A outer s H E hr hgd => show DSs _ _ _ B__law_times from dss_cons (x_set 2 sc__law_times.nd (de_int)) (dss_cons (x_for (passes_of rfl) (x_R1 m_range (dn_cons (de_v (pv 1)) (dn_nil))) (x_tN 3 sc__law_times.nd) (dss_one (x_set 2 sc__law_times.nd (de_op op_mulAll os_mul (de_v (pv 2)) (de_v (pv 0)))))) (dss_one (ds_ret (de_v (pv 2)))))
abbrev s__law_value : Stmt := topS 30
theorem sc__law_value : FnScope ["poly", "n", "total", "at", "top", "bottom"] ["poly", "n"] (defScope s__law_value) := ⟨rfl, rfl, rfl, by decide +kernel, rfl, by decide +kernel, by decide +kernel⟩
def S__law_value_1 : DenS := sSet 2 (eTup (aCons (eC (.int 0)) (aCons (eC (.int 1)) (aNil))))
def S__law_value_2b : DenS := sSet 2 (eCall F__law_plus (aCons (eV 2) (aCons (eCall F__law_low (aCons (eOp gMul (eV 4) (eCall F__law_times (aCons (eV 1) (aCons (eV 3) (aNil))))) (aCons (eV 5) (aNil)))) (aNil))))
def S__law_value_2 : DenS := sFor (srcEA (aCons (eV 0) (aNil))) (tgT [tgN 3, tgT [tgN 4, tgN 5]]) (S__law_value_2b)
def S__law_value_3 : DenS := sRet (eV 2)
def B__law_value : DenS := sSeq (S__law_value_1) (sSeq (S__law_value_2) (S__law_value_3))
def F__law_value : Fn := runP 2 6 B__law_value
theorem g__law_value {P : Program} {w : World} {K : PySem.W.Frag} {mg : Str → Option Value} {base : Heap} (m_enumerate : mg "enumerate" = none) (d__law_plus : Df P w K mg base 3 "_law_plus" ["one", "other"] (spP K mg F__law_plus)) (d__law_low : Df P w K mg base 2 "_law_low" ["top", "bottom"] (spP K mg F__law_low)) (d__law_times : Df P w K mg base 1 "_law_times" ["number", "often"] (spP K mg F__law_times)) : Gives P w K mg base 4 "_law_value" s__law_value ["poly", "n"] (spP K mg F__law_value) := fun f fd F =>
  fnP (k := 3) F sc__law_value rfl (by decide) fun cdv A outer s H E hr hgd => show DSs _ _ _ B__law_value from dss_cons (x_set 2 sc__law_value.nd (de_tup (dn_cons (de_int) (dn_cons (de_int) (dn_nil))))) (dss_cons (x_for (passes_of rfl) (x_E m_enumerate (dn_cons (de_v (pv 0)) (dn_nil))) (dg_tup rfl (dgs_cons (x_tN 3 sc__law_value.nd) (dgs_cons (dg_tup rfl (dgs_cons (x_tN 4 sc__law_value.nd) (dgs_cons (x_tN 5 sc__law_value.nd) (dgs_nil)))) (dgs_nil)))) (dss_one (x_set 2 sc__law_value.nd (x_call d__law_plus hr hgd (takes_of rfl rfl rfl rfl) (dn_cons (de_v (pv 2)) (dn_cons (x_call d__law_low hr hgd (takes_of rfl rfl rfl rfl) (dn_cons (de_op op_mulAll os_mul (de_v (pv 4)) (x_call d__law_times hr hgd (takes_of rfl rfl rfl rfl) (dn_cons (de_v (pv 1)) (dn_cons (de_v (pv 3)) (dn_nil))))) (dn_cons (de_v (pv 5)) (dn_nil)))) (dn_nil))))))) (dss_one (ds_ret (de_v (pv 2)))))
abbrev s__law_is_right : Stmt := topS 31
theorem sc__law_is_right : FnScope ["hand", "k", "n", "due", "at", "great"] ["hand"] (defScope s__law_is_right) := ⟨rfl, rfl, rfl, by decide +kernel, rfl, by decide +kernel, by decide +kernel⟩
def S__law_is_right_1 : DenS := sAsg (tgT [tgN 1, tgN 2]) (eTup (aCons (eCallI F__law_draw (aCons (eV 0) (aCons (eC (.int 21)) (aNil)))) (aCons (eCallI F__law_draw (aCons (eV 0) (aCons (eC (.int 60)) (aNil)))) (aNil))))
def S__law_is_right_2 : DenS := sSet 3 (eCall F__law_poly (aCons (eV 1) (aNil)))
def S__law_is_right_3 : DenS := sIf (tOr' (tVal (eOp gNe (eAp gRepr (aCons (eCall F_sum_poly (aCons (eV 1) (aNil))) (aNil))) (eAp gRepr (aCons (eV 3) (aNil))))) (tVal (eOp gNe (eAp gRepr (aCons (eCall F_sum_at (aCons (eV 1) (aCons (eV 2) (aNil)))) (aNil))) (eAp gRepr (aCons (eAp gSum (aCons (eLc [4] (srcR1 (aCons (eV 2) (aNil))) (tgN 4) (tYesD) (eCall F__law_times (aCons (eV 4) (aCons (eV 1) (aNil))))) (aNil))) (aNil)))))) (sRet (eC (.bl false))) (sNil)
def S__law_is_right_4 : DenS := sSet 5 (eCallI F__law_draw (aCons (eV 0) (aCons (eOp gPow (eC (.int 10)) (eC (.int 9))) (aNil))))
def S__law_is_right_5 : DenS := sIf (tVal (eOp gNe (eCall F__law_value (aCons (eV 3) (aCons (eV 5) (aNil)))) (eTup (aCons (eCall F_sum_at (aCons (eV 1) (aCons (eV 5) (aNil)))) (aCons (eC (.int 1)) (aNil)))))) (sRet (eC (.bl false))) (sNil)
def S__law_is_right_6 : DenS := sRet (eAnd (eOp gEq (eAp gRepr (aCons (eCall F_bernoulli (aCons (eV 1) (aNil))) (aNil))) (eAp gRepr (aCons (eOp gIx (eV 3) (eC (.int 1))) (aNil)))) (eOr (eOp gEq (eOp gMod (eAp gInt (aCons (eV 1) (aNil))) (eC (.int 2))) (eC (.int 0))) (eOr (eOp gLt (eV 1) (eC (.int 3))) (eOp gEq (eOp gIx (eV 3) (eC (.int 1))) (eTup (aCons (eC (.int 0)) (aCons (eC (.int 1)) (aNil))))))))
def B__law_is_right : DenS := sSeq (S__law_is_right_1) (sSeq (S__law_is_right_2) (sSeq (S__law_is_right_3) (sSeq (S__law_is_right_4) (sSeq (S__law_is_right_5) (S__law_is_right_6)))))
def F__law_is_right : FnI := runI 0 6 B__law_is_right
theorem g__law_is_right {P : Program} {w : World} {K : PySem.W.Frag} {mg : Str → Option Value} {base : Heap} (m_repr : mg "repr" = none) (m_range : mg "range" = none) (m_sum : mg "sum" = none) (m_int : mg "int" = none) (d__law_draw : Df P w K mg base 1 "_law_draw" ["hand", "below"] (spI K mg F__law_draw)) (d__law_poly : Df P w K mg base 5 "_law_poly" ["k"] (spP K mg F__law_poly)) (d_sum_at : Df P w K mg base 6 "sum_at" ["k", "n"] (spP K mg F_sum_at)) (d__law_times : Df P w K mg base 1 "_law_times" ["number", "often"] (spP K mg F__law_times)) (d_sum_poly : Df P w K mg base 6 "sum_poly" ["k"] (spP K mg F_sum_poly)) (d__law_value : Df P w K mg base 4 "_law_value" ["poly", "n"] (spP K mg F__law_value)) (d_bernoulli : Df P w K mg base 5 "bernoulli" ["k"] (spP K mg F_bernoulli)) : Gives P w K mg base 7 "_law_is_right" s__law_is_right ["hand"] (spI K mg F__law_is_right) := fun f fd F =>
  fnI (k := 6) F sc__law_is_right rfl (by decide) fun cdv A outer s H E hr hgd => show DSs _ _ _ B__law_is_right from dss_cons (x_asg (dg_tup rfl (dgs_cons (x_tN 1 sc__law_is_right.nd) (dgs_cons (x_tN 2 sc__law_is_right.nd) (dgs_nil)))) (de_tup (dn_cons (x_callI d__law_draw hr hgd (takes_of rfl rfl rfl rfl) (dn_cons (de_v (pv 0)) (dn_cons (de_int) (dn_nil)))) (dn_cons (x_callI d__law_draw hr hgd (takes_of rfl rfl rfl rfl) (dn_cons (de_v (pv 0)) (dn_cons (de_int) (dn_nil)))) (dn_nil))))) (dss_cons (x_set 3 sc__law_is_right.nd (x_call d__law_poly hr hgd (takes_of rfl rfl rfl rfl) (dn_cons (de_v (pv 1)) (dn_nil)))) (dss_cons (ds_if (dt_w (dw_or (dt_cmp (op_neD (hu65 (hu64 hr))) os_ne (nomark _) (x_b (call_reprD hgd (hu64 hr)) cs_repr PyProof.Rows.boot_repr m_repr (dn_cons (x_call d_sum_poly hr hgd (takes_of rfl rfl rfl rfl) (dn_cons (de_v (pv 1)) (dn_nil))) (dn_nil))) (x_b (call_reprD hgd (hu64 hr)) cs_repr PyProof.Rows.boot_repr m_repr (dn_cons (de_v (pv 3)) (dn_nil)))) (dw_or1 (dt_cmp (op_neD (hu65 (hu64 hr))) os_ne (nomark _) (x_b (call_reprD hgd (hu64 hr)) cs_repr PyProof.Rows.boot_repr m_repr (dn_cons (x_call d_sum_at hr hgd (takes_of rfl rfl rfl rfl) (dn_cons (de_v (pv 1)) (dn_cons (de_v (pv 2)) (dn_nil)))) (dn_nil))) (x_b (call_reprD hgd (hu64 hr)) cs_repr PyProof.Rows.boot_repr m_repr (dn_cons (x_b (cr_sum rfl) cs_sum PyProof.Rows.boot_sum m_sum (dn_cons (de_comp (own := [("at", 4)]) rfl sc__law_is_right.nd (show blkC ["hand", "k", "n", "due", "at", "great"] (defScope s__law_is_right) _ _ = true from by decide +kernel) (by decide) (x_R1 m_range (dn_cons (de_v (pv 2)) (dn_nil))) (fun _ _ _ _ _ => x_tN 4 sc__law_is_right.nd) (fun _ _ _ _ _ => dts_nil) (fun _ _ _ _ _ => x_call d__law_times hr hgd RL.takes0 (dn_cons (de_v (pv 4)) (dn_cons (de_v (pv 1)) (dn_nil))))) (dn_nil))) (dn_nil))))))) (dss_one (ds_ret (de_bl))) (dss_nil)) (dss_cons (x_set 5 sc__law_is_right.nd (x_callI d__law_draw hr hgd (takes_of rfl rfl rfl rfl) (dn_cons (de_v (pv 0)) (dn_cons (de_op op_pow os_pow (de_int) (de_int)) (dn_nil))))) (dss_cons (ds_if (dt_cmp (op_neD (hu65 (hu64 hr))) os_ne (nomark _) (x_call d__law_value hr hgd (takes_of rfl rfl rfl rfl) (dn_cons (de_v (pv 3)) (dn_cons (de_v (pv 5)) (dn_nil)))) (de_tup (dn_cons (x_call d_sum_at hr hgd (takes_of rfl rfl rfl rfl) (dn_cons (de_v (pv 1)) (dn_cons (de_v (pv 5)) (dn_nil)))) (dn_cons (de_int) (dn_nil))))) (dss_one (ds_ret (de_bl))) (dss_nil)) (dss_one (ds_ret (de_and (de_cmp (op_eqD (hu65 (hu64 hr))) os_eq (nomark _) (x_b (call_reprD hgd (hu64 hr)) cs_repr PyProof.Rows.boot_repr m_repr (dn_cons (x_call d_bernoulli hr hgd (takes_of rfl rfl rfl rfl) (dn_cons (de_v (pv 1)) (dn_nil))) (dn_nil))) (x_b (call_reprD hgd (hu64 hr)) cs_repr PyProof.Rows.boot_repr m_repr (dn_cons (de_ix ix_seq os_ix (fun _ _ => rfl) (de_v (pv 3)) (de_int)) (dn_nil)))) (de_and1 (de_or (de_cmp (op_eqD (hu65 (hu64 hr))) os_eq (nomark _) (de_op op_mod os_mod (x_t call_int1 cs_int PySem.Pv.boot_int m_int (dn_cons (de_v (pv 1)) (dn_nil))) (de_int)) (de_int)) (de_or (de_cmp op_lt os_lt (nomark _) (de_v (pv 1)) (de_int)) (de_and1 (de_cmp (op_eqD (hu65 (hu64 hr))) os_eq (nomark _) (de_ix ix_seq os_ix (fun _ _ => rfl) (de_v (pv 3)) (de_int)) (de_tup (dn_cons (de_int) (dn_cons (de_int) (dn_nil))))))))))))))))
abbrev s_law : Stmt := topS 32
theorem sc_law : FnScope ["script", "hand", "lap_on"] ["script"] (defScope s_law) := ⟨rfl, rfl, rfl, by decide +kernel, rfl, by decide +kernel, by decide +kernel⟩
def S_law_1 : DenS := sSet 1 (eCall F__law_hand (aCons (eV 0) (aNil)))
def S_law_2 : DenS := sIf (tOr' (tVal (eOp gNe (eCall F_sum_poly (aCons (eC (.int 1)) (aNil))) (eTup (aCons (eTup (aCons (eC (.int 0)) (aCons (eC (.int 1)) (aNil)))) (aCons (eTup (aCons (eUn gNeg (eC (.int 1))) (aCons (eC (.int 2)) (aNil)))) (aCons (eTup (aCons (eC (.int 1)) (aCons (eC (.int 2)) (aNil)))) (aNil))))))) (tOr' (tVal (eOp gNe (eCall F_sum_poly (aCons (eC (.int 0)) (aNil))) (eTup (aCons (eTup (aCons (eC (.int 0)) (aCons (eC (.int 1)) (aNil)))) (aCons (eTup (aCons (eC (.int 1)) (aCons (eC (.int 1)) (aNil)))) (aNil)))))) (tVal (eOp gNe (eCall F_sum_at (aCons (eC (.int 2)) (aCons (eC (.int 4)) (aNil)))) (eC (.int 14)))))) (sRet (eC (.bl false))) (sNil)
def S_law_3 : DenS := sIf (tOr' (tVal (eOp gNe (eCall F_bernoulli (aCons (eC (.int 2)) (aNil))) (eTup (aCons (eC (.int 1)) (aCons (eC (.int 6)) (aNil)))))) (tOr' (tVal (eOp gNe (eCall F_bernoulli (aCons (eC (.int 12)) (aNil))) (eTup (aCons (eUn gNeg (eC (.int 691))) (aCons (eC (.int 2730)) (aNil)))))) (tVal (eOp gNe (eCall F_bernoulli (aCons (eC (.int 1)) (aNil))) (eTup (aCons (eUn gNeg (eC (.int 1))) (aCons (eC (.int 2)) (aNil)))))))) (sRet (eC (.bl false))) (sNil)
def S_law_4 : DenS := sRet (eAp gAll (aCons (eLc [2] (srcR1 (aCons (eC (.int 5)) (aNil))) (tgN 2) (tYesD) (eCallI F__law_is_right (aCons (eV 1) (aNil)))) (aNil)))
def B_law : DenS := sSeq (S_law_1) (sSeq (S_law_2) (sSeq (S_law_3) (S_law_4)))
def F_law : Fn := runP 1 3 B_law
theorem g_law {P : Program} {w : World} {K : PySem.W.Frag} {mg : Str → Option Value} {base : Heap} (m_range : mg "range" = none) (m_all : mg "all" = none) (d__law_hand : Df P w K mg base 1 "_law_hand" ["script"] (spP K mg F__law_hand)) (d_sum_at : Df P w K mg base 6 "sum_at" ["k", "n"] (spP K mg F_sum_at)) (d_sum_poly : Df P w K mg base 6 "sum_poly" ["k"] (spP K mg F_sum_poly)) (d_bernoulli : Df P w K mg base 5 "bernoulli" ["k"] (spP K mg F_bernoulli)) (d__law_is_right : Df P w K mg base 7 "_law_is_right" ["hand"] (spI K mg F__law_is_right)) : Gives P w K mg base 8 "law" s_law ["script"] (spP K mg F_law) := fun f fd F =>
  fnP (k := 7) F sc_law rfl (by decide) fun cdv A outer s H E hr hgd => show DSs _ _ _ B_law from dss_cons (x_set 1 sc_law.nd (x_call d__law_hand hr hgd (takes_of rfl rfl rfl rfl) (dn_cons (de_v (pv 0)) (dn_nil)))) (dss_cons (ds_if (dt_w (dw_or (dt_cmp (op_neD (hu65 (hu64 hr))) os_ne (nomark _) (x_call d_sum_poly hr hgd (takes_of rfl rfl rfl rfl) (dn_cons (de_int) (dn_nil))) (de_tup (dn_cons (de_tup (dn_cons (de_int) (dn_cons (de_int) (dn_nil)))) (dn_cons (de_tup (dn_cons (de_un un_neg us_neg (de_int)) (dn_cons (de_int) (dn_nil)))) (dn_cons (de_tup (dn_cons (de_int) (dn_cons (de_int) (dn_nil)))) (dn_nil)))))) (dw_or (dt_cmp (op_neD (hu65 (hu64 hr))) os_ne (nomark _) (x_call d_sum_poly hr hgd (takes_of rfl rfl rfl rfl) (dn_cons (de_int) (dn_nil))) (de_tup (dn_cons (de_tup (dn_cons (de_int) (dn_cons (de_int) (dn_nil)))) (dn_cons (de_tup (dn_cons (de_int) (dn_cons (de_int) (dn_nil)))) (dn_nil))))) (dw_or1 (dt_cmp (op_neD (hu65 (hu64 hr))) os_ne (nomark _) (x_call d_sum_at hr hgd (takes_of rfl rfl rfl rfl) (dn_cons (de_int) (dn_cons (de_int) (dn_nil)))) (de_int)))))) (dss_one (ds_ret (de_bl))) (dss_nil)) (dss_cons (ds_if (dt_w (dw_or (dt_cmp (op_neD (hu65 (hu64 hr))) os_ne (nomark _) (x_call d_bernoulli hr hgd (takes_of rfl rfl rfl rfl) (dn_cons (de_int) (dn_nil))) (de_tup (dn_cons (de_int) (dn_cons (de_int) (dn_nil))))) (dw_or (dt_cmp (op_neD (hu65 (hu64 hr))) os_ne (nomark _) (x_call d_bernoulli hr hgd (takes_of rfl rfl rfl rfl) (dn_cons (de_int) (dn_nil))) (de_tup (dn_cons (de_un un_neg us_neg (de_int)) (dn_cons (de_int) (dn_nil))))) (dw_or1 (dt_cmp (op_neD (hu65 (hu64 hr))) os_ne (nomark _) (x_call d_bernoulli hr hgd (takes_of rfl rfl rfl rfl) (dn_cons (de_int) (dn_nil))) (de_tup (dn_cons (de_un un_neg us_neg (de_int)) (dn_cons (de_int) (dn_nil))))))))) (dss_one (ds_ret (de_bl))) (dss_nil)) (dss_one (ds_ret (x_b (cr_all rfl) cs_all PyProof.Rows.boot_all m_all (dn_cons (de_comp (own := [("lap_on", 2)]) rfl sc_law.nd (show blkC ["script", "hand", "lap_on"] (defScope s_law) _ _ = true from by decide +kernel) (by decide) (x_R1 m_range (dn_cons (de_int) (dn_nil))) (fun _ _ _ _ _ => x_tN 2 sc_law.nd) (fun _ _ _ _ _ => dts_nil) (fun _ _ _ _ _ => x_callI d__law_is_right hr hgd RL.takes0 (dn_cons (de_v (pv 1)) (dn_nil)))) (dn_nil)))))))
/-! ### all of it -/
theorem law_all {P : Program} {w : World} {K : PySem.W.Frag} {h : Heap} {mg : Str → Option Value} {fa : Addr} (KX : K.In h) (G : h.Ns mainGlobals mg) (hfa : mg "law" = some (.ref fa)) (A__law_hand : At K "_law_hand" s__law_hand) (A_is_integer : At K "is_integer" s_is_integer) (A_is_within : At K "is_within" s_is_within) (A_check_number : At K "check_number" s_check_number) (A_common_divisor : At K "common_divisor" s_common_divisor) (A_fraction : At K "fraction" s_fraction) (A_plus : At K "plus" s_plus) (A_ways_to_take : At K "ways_to_take" s_ways_to_take) (A_all_bernoulli : At K "all_bernoulli" s_all_bernoulli) (A_raw_poly : At K "raw_poly" s_raw_poly) (A_sum_poly : At K "sum_poly" s_sum_poly) (A_sum_at : At K "sum_at" s_sum_at) (A_bernoulli : At K "bernoulli" s_bernoulli) (A__law_divisor : At K "_law_divisor" s__law_divisor) (A__law_low : At K "_law_low" s__law_low) (A__law_plus : At K "_law_plus" s__law_plus) (A__law_choose : At K "_law_choose" s__law_choose) (A__law_bernoulli : At K "_law_bernoulli" s__law_bernoulli) (A__law_poly : At K "_law_poly" s__law_poly) (A__law_draw : At K "_law_draw" s__law_draw) (A__law_times : At K "_law_times" s__law_times) (A__law_value : At K "_law_value" s__law_value) (A__law_is_right : At K "_law_is_right" s__law_is_right) (A_law : At K "law" s_law) (z_int : PySem.W.nsIn K mainGlobals "int" = some none) (z_abs : PySem.W.nsIn K mainGlobals "abs" = some none) (z_len : PySem.W.nsIn K mainGlobals "len" = some none) (z_isinstance : PySem.W.nsIn K mainGlobals "isinstance" = some none) (z_bool : PySem.W.nsIn K mainGlobals "bool" = some none) (z_range : PySem.W.nsIn K mainGlobals "range" = some none) (z_enumerate : PySem.W.nsIn K mainGlobals "enumerate" = some none) (z_tuple : PySem.W.nsIn K mainGlobals "tuple" = some none) (z_repr : PySem.W.nsIn K mainGlobals "repr" = some none) (z_sum : PySem.W.nsIn K mainGlobals "sum" = some none) (z_all : PySem.W.nsIn K mainGlobals "all" = some none) {t_MOST_POLY : Tok} (c_MOST_POLY : PySem.W.nsIn K mainGlobals "MOST_POLY" = some (some (.int 20 t_MOST_POLY))) {t_MOST_N : Tok} (c_MOST_N : PySem.W.nsIn K mainGlobals "MOST_N" = some (some (.int 1000000000 t_MOST_N))) :
    ∃ fd : FuncData, (∀ (s : Shared) (v : Value), BindsTo s fd ⟨[v], []⟩ [("script", v)]) ∧ ∀ base : Heap, K.In base → base.Ns mainGlobals mg → FnG P w K mg base 8 fa fd ["script"] (spP K mg F_law) :=
  law_mk KX G A_law hfa (fun _ _ _ _ _ _ s u => .of_eq rfl) fun base h1 h2 => by
    have m_int := PySem.W.mg_none_of KX G z_int
    have m_abs := PySem.W.mg_none_of KX G z_abs
    have m_len := PySem.W.mg_none_of KX G z_len
    have m_isinstance := PySem.W.mg_none_of KX G z_isinstance
    have m_bool := PySem.W.mg_none_of KX G z_bool
    have m_range := PySem.W.mg_none_of KX G z_range
    have m_enumerate := PySem.W.mg_none_of KX G z_enumerate
    have m_tuple := PySem.W.mg_none_of KX G z_tuple
    have m_repr := PySem.W.mg_none_of KX G z_repr
    have m_sum := PySem.W.mg_none_of KX G z_sum
    have m_all := PySem.W.mg_none_of KX G z_all
    have c_MOST_POLY : Gi mg "MOST_POLY" 20 := ⟨_, PySem.W.mg_of KX G c_MOST_POLY⟩
    have c_MOST_N : Gi mg "MOST_N" 1000000000 := ⟨_, PySem.W.mg_of KX G c_MOST_N⟩
    have d__law_hand : Df P w K mg base 1 "_law_hand" ["script"] (spP K mg F__law_hand) := df_mk KX G A__law_hand (g__law_hand m_int m_abs m_len) (fun _ _ _ _ _ _ us hl => match us, hl with | [_], _ => rfl)
    have d_is_integer : Df P w K mg base 1 "is_integer" ["thing"] (spP K mg F_is_integer) := df_mk KX G A_is_integer (g_is_integer m_isinstance m_bool m_int) (fun _ _ _ _ _ _ us hl => match us, hl with | [_], _ => rfl)
    have d_is_within : Df P w K mg base 2 "is_within" ["thing", "low", "high"] (spP K mg F_is_within) := df_mk KX G A_is_within (g_is_within d_is_integer) (fun _ _ _ _ _ _ us hl => match us, hl with | [_, _, _], _ => rfl)
    have d_check_number : Df P w K mg base 3 "check_number" ["thing", "low", "high"] (spP K mg F_check_number) := df_mk KX G A_check_number (g_check_number d_is_within) (fun _ _ _ _ _ _ us hl => match us, hl with | [_, _, _], _ => rfl)
    have d_common_divisor : Df P w K mg base 1 "common_divisor" ["one", "other"] (spP K mg F_common_divisor) := df_mk KX G A_common_divisor (g_common_divisor m_abs) (fun _ _ _ _ _ _ us hl => match us, hl with | [_, _], _ => rfl)
    have d_fraction : Df P w K mg base 2 "fraction" ["top", "bottom"] (spP K mg F_fraction) := df_mk KX G A_fraction (g_fraction d_common_divisor) (fun _ _ _ _ _ _ us hl => match us, hl with | [_, _], _ => rfl)
    have d_plus : Df P w K mg base 3 "plus" ["one", "other"] (spP K mg F_plus) := df_mk KX G A_plus (g_plus d_fraction) (fun _ _ _ _ _ _ us hl => match us, hl with | [_, _], _ => rfl)
    have d_ways_to_take : Df P w K mg base 1 "ways_to_take" ["many", "size"] (spP K mg F_ways_to_take) := df_mk KX G A_ways_to_take (g_ways_to_take m_range) (fun _ _ _ _ _ _ us hl => match us, hl with | [_, _], _ => rfl)
    have d_all_bernoulli : Df P w K mg base 4 "all_bernoulli" ["most"] (spP K mg F_all_bernoulli) := df_mk KX G A_all_bernoulli (g_all_bernoulli m_range m_enumerate d_plus d_fraction d_ways_to_take) (fun _ _ _ _ _ _ us hl => match us, hl with | [_], _ => rfl)
    have d_raw_poly : Df P w K mg base 5 "raw_poly" ["k"] (spP K mg F_raw_poly) := df_mk KX G A_raw_poly (g_raw_poly m_enumerate d_all_bernoulli d_fraction d_ways_to_take) (fun _ _ _ _ _ _ us hl => match us, hl with | [_], _ => rfl)
    have d_sum_poly : Df P w K mg base 6 "sum_poly" ["k"] (spP K mg F_sum_poly) := df_mk KX G A_sum_poly (g_sum_poly m_tuple c_MOST_POLY d_check_number d_raw_poly) (fun _ _ _ _ _ _ us hl => match us, hl with | [_], _ => rfl)
    have d_sum_at : Df P w K mg base 6 "sum_at" ["k", "n"] (spP K mg F_sum_at) := df_mk KX G A_sum_at (g_sum_at c_MOST_POLY c_MOST_N d_check_number d_raw_poly d_plus d_fraction) (fun _ _ _ _ _ _ us hl => match us, hl with | [_, _], _ => rfl)
    have d_bernoulli : Df P w K mg base 5 "bernoulli" ["k"] (spP K mg F_bernoulli) := df_mk KX G A_bernoulli (g_bernoulli c_MOST_POLY d_check_number d_all_bernoulli) (fun _ _ _ _ _ _ us hl => match us, hl with | [_], _ => rfl)
    have d__law_divisor : Df P w K mg base 1 "_law_divisor" ["one", "other"] (spP K mg F__law_divisor) := df_mk KX G A__law_divisor (g__law_divisor m_abs m_int) (fun _ _ _ _ _ _ us hl => match us, hl with | [_, _], _ => rfl)
    have d__law_low : Df P w K mg base 2 "_law_low" ["top", "bottom"] (spP K mg F__law_low) := df_mk KX G A__law_low (g__law_low d__law_divisor) (fun _ _ _ _ _ _ us hl => match us, hl with | [_, _], _ => rfl)
    have d__law_plus : Df P w K mg base 3 "_law_plus" ["one", "other"] (spP K mg F__law_plus) := df_mk KX G A__law_plus (g__law_plus d__law_low) (fun _ _ _ _ _ _ us hl => match us, hl with | [_, _], _ => rfl)
    have d__law_choose : Df P w K mg base 1 "_law_choose" ["many", "size"] (spP K mg F__law_choose) := df_mk KX G A__law_choose (g__law_choose m_range) (fun _ _ _ _ _ _ us hl => match us, hl with | [_, _], _ => rfl)
    have d__law_bernoulli : Df P w K mg base 4 "_law_bernoulli" ["most"] (spP K mg F__law_bernoulli) := df_mk KX G A__law_bernoulli (g__law_bernoulli m_range d__law_plus d__law_choose d__law_low) (fun _ _ _ _ _ _ us hl => match us, hl with | [_], _ => rfl)
    have d__law_poly : Df P w K mg base 5 "_law_poly" ["k"] (spP K mg F__law_poly) := df_mk KX G A__law_poly (g__law_poly m_range m_tuple d__law_bernoulli d__law_low d__law_choose) (fun _ _ _ _ _ _ us hl => match us, hl with | [_], _ => rfl)
    have d__law_draw : Df P w K mg base 1 "_law_draw" ["hand", "below"] (spI K mg F__law_draw) := df_mk KX G A__law_draw (g__law_draw m_len m_int) (fun _ _ _ _ _ _ us hl => match us, hl with | [_, _], _ => rfl)
    have d__law_times : Df P w K mg base 1 "_law_times" ["number", "often"] (spP K mg F__law_times) := df_mk KX G A__law_times (g__law_times m_range) (fun _ _ _ _ _ _ us hl => match us, hl with | [_, _], _ => rfl)
    have d__law_value : Df P w K mg base 4 "_law_value" ["poly", "n"] (spP K mg F__law_value) := df_mk KX G A__law_value (g__law_value m_enumerate d__law_plus d__law_low d__law_times) (fun _ _ _ _ _ _ us hl => match us, hl with | [_, _], _ => rfl)
    have d__law_is_right : Df P w K mg base 7 "_law_is_right" ["hand"] (spI K mg F__law_is_right) := df_mk KX G A__law_is_right (g__law_is_right m_repr m_range m_sum m_int d__law_draw d__law_poly d_sum_at d__law_times d_sum_poly d__law_value d_bernoulli) (fun _ _ _ _ _ _ us hl => match us, hl with | [_], _ => rfl)
    exact g_law m_range m_all d__law_hand d_sum_at d_sum_poly d_bernoulli d__law_is_right
end Law
namespace Law
open PySem L2 RL

/-! ### the hand -/
@[irreducible] def cellTop : Nat := 2 ^ 1048576
theorem cellTop_eq : cellTop = 2 ^ 1048576 := by unfold cellTop; rfl
theorem cellTop_pos : 0 < cellTop := by rw [cellTop_eq]; exact Nat.two_pow_pos _
def nx1 (x : Int) : Int := x * 48271 % 2147483647
def nx2 (x : Int) : Int := x * (x / 1009 + 69621) % 2147483647
def nx3 (x : Int) : Int := x * (x / 2003 + 40014) % 2147483563
def hnd (cs : List Int) (a1 a2 a3 a4 : Int) : List D := [.lst (cs.map .int), .int a1, .int a2, .int a3, .int a4]
structure HandOk (t : Nat) (xs : List D) : Prop where
  ex : ∃ (cs : List Int) (a1 a2 a3 a4 : Int), xs = hnd cs a1 a2 a3 a4 ∧ (∀ c ∈ cs, 0 ≤ c ∧ c.natAbs < cellTop) ∧ 0 ≤ a1 ∧ 0 ≤ a2 ∧ a2.natAbs < cellTop ∧ 0 ≤ a3 ∧ a3 < 2147483648 ∧ 0 ≤ a4 ∧ a4 ≤ (t : Nat)
theorem small_abs {i : Int} {n : Nat} (h0 : -(n : Int) < i) (h : i < (n : Int)) : i.natAbs < n := by omega
theorem mulS {i j : Int} {n m a b : Nat} (h0 : -(n : Int) < i) (h : i < (n : Int)) (k0 : -(m : Int) < j) (k : j < (m : Int)) (hn : n ≤ 2 ^ a) (hm : m ≤ 2 ^ b) (hab : a + b ≤ 134000000) : mulOk i j = true :=
  mul_ok (Nat.lt_of_lt_of_le (small_abs h0 h) hn) (Nat.lt_of_lt_of_le (small_abs k0 k) hm) hab
theorem divC {i : Int} {n : Nat} (h : 0 < n) (hn : n < 2 ^ 64) : divOk i (n : Int) = true := div_ok (by omega) (by
  rw [Int.natAbs_natCast]
  exact Nat.lt_of_lt_of_le hn (Nat.pow_le_pow_right (by decide) (by decide)))
theorem draw_1 {cs : List Int} {a1 a2 a3 a4 b : Int} (hc : ∀ c ∈ cs, 0 ≤ c ∧ c.natAbs < cellTop) (h1 : 0 ≤ a1) (h2 : 0 ≤ a2) (h2' : a2.natAbs < cellTop) (h3 : 0 ≤ a3) (h3' : a3 < 2147483648) :
    ∃ (a1' a2' a3' : Int) (s : Sl), S__law_draw_1 [.io (hnd cs a1 a2 a3 a4), .d (.int b), .no, .no, .no] = .next [.io (hnd cs a1' a2' a3' a4), .d (.int b), s, .no, .no] ∧ 0 ≤ a1' ∧ 0 ≤ a2' ∧ a2'.natAbs < cellTop ∧ 0 ≤ a3' ∧ a3' < 2147483648 := by
  unfold hnd S__law_draw_1
  by_cases e2 : a2 = 0
  · subst e2
    by_cases e1 : a1 < cs.length
    · have hlt : a1.toNat < cs.length := by omega
      have hm : cs[a1.toNat] ∈ cs := List.getElem_mem hlt
      obtain ⟨c0, c1⟩ := hc _ hm
      have hg : atI (cs.map D.int) a1 = some (.int cs[a1.toNat]) := by
        rw [atI_nn h1, List.getElem?_map, List.getElem?_eq_getElem hlt]
        rfl
      generalize cs[a1.toNat] = c at c0 c1 hg
      have m1 : mulOk a3 69621 = true := mulS (n := 2147483648) (m := 69622) (a := 31) (b := 20) (by omega) (by omega) (by decide) (by decide) (by decide) (by decide) (by decide)
      have m2 : mulOk c 40692 = true := mul_ok (a := 1048576) (b := 20) (by rw [← cellTop_eq]; exact c1) (by decide) (by decide)
      have p1 : powOk 10 18 = true := by decide
      by_cases e3 : 1000000000000000000 ≤ c
      · refine ⟨a1 + 1, c, (a3 * 69621 + c * 40692 + 31) % 2147483629, .d (.int c), ?_, by omega, c0, c1, Int.emod_nonneg _ (by decide), Int.lt_trans (Int.emod_lt_of_pos _ (by decide)) (by decide)⟩
        simp [put_d0, kSI_ok, kSI2_ok, gIx_r, gLen_r, e1, hg, gMul_int m1, gMul_int m2, gMod_int, ixN_ok, gPow_int p1, e3]
      · refine ⟨a1 + 1, 0, (a3 * 69621 + c * 40692 + 31) % 2147483629, .d (.int c), ?_, by omega, by omega, cellTop_pos, Int.emod_nonneg _ (by decide), Int.lt_trans (Int.emod_lt_of_pos _ (by decide)) (by decide)⟩
        simp [put_d0, kSI_ok, kSI2_ok, gIx_r, gLen_r, e1, hg, gMul_int m1, gMul_int m2, gMod_int, ixN_ok, gPow_int p1, e3]
    · refine ⟨a1, 0, a3, .no, ?_, h1, by omega, h2', h3, h3'⟩
      simp [gIx_r, gLen_r, e1]
  · refine ⟨a1, a2, a3, .no, ?_, h1, h2, h2', h3, h3'⟩
    simp [gIx_r, gLen_r, e2]
theorem draw_ok {t : Nat} {xs : List D} {b : Int} (h : HandOk t xs) (ht : t < 1000000) (hb : 0 < b) (hb2 : b.natAbs < 2 ^ 9000) : ∃ (v : Int) (ys : List D), F__law_draw xs [.int b] = .ok (.d (.int v)) ys ∧ 0 ≤ v ∧ v < b ∧ HandOk (t + 1) ys := by
  obtain ⟨cs, a1, a2, a3, a4, rfl, hc, h1, h2, h2', h3, h3', h4, h4'⟩ := h
  obtain ⟨b1, b2, b3, s, e, k1, k2, k2', k3, k3'⟩ := draw_1 (a4 := a4) (b := b) hc h1 h2 h2' h3 h3'
  unfold F__law_draw B__law_draw
  rw [runI_1]
  simp only [sSeq_ap, Nat.reduceSub, List.reduceReplicate, e, kThn_next]
  unfold hnd S__law_draw_2
  by_cases e2 : 0 < b2
  · refine ⟨b2 % b, hnd cs b1 (b2 / b) b3 a4, ?_, Int.emod_nonneg _ (by omega), Int.emod_lt_of_pos _ hb, ⟨cs, b1, b2 / b, b3, a4, rfl, hc, k1, Int.ediv_nonneg k2 (by omega), ?_, k3, k3', h4, by omega⟩⟩
    · simp [put_d0, kSI_ok, kSI2_ok, gIx_r, e2, gMod_int hb, gDiv_int (div_ok hb hb2), ixN_ok, hnd]
    · exact Nat.lt_of_le_of_lt (by
        have := Int.ediv_le_self b k2
        have := Int.ediv_nonneg k2 (show 0 ≤ b by omega)
        omega) k2'
  · have e3 : b2 = 0 := by omega
    subst e3
    have q1 : ∀ x : Int, 0 ≤ x % 2147483647 ∧ x % 2147483647 < 2147483647 := fun x => ⟨Int.emod_nonneg _ (by decide), Int.emod_lt_of_pos _ (by decide)⟩
    have m1 : mulOk 7919 (a4 + 1) = true := mulS (n := 8192) (m := 1048577) (a := 13) (b := 21) (by decide) (by decide) (by omega) (by omega) (by decide) (by decide) (by decide)
    have m2 : mulOk (b3 + 7919 * (a4 + 1)) 48271 = true := mulS (n := 2 ^ 40) (m := 65536) (a := 40) (b := 16) (by omega) (by omega) (by decide) (by decide) (by decide) (by decide) (by decide)
    have d1 : ∀ x : Int, divOk x 1009 = true := fun x => divC (n := 1009) (by decide) (by decide)
    have d2 : ∀ x : Int, divOk x 2003 = true := fun x => divC (n := 2003) (by decide) (by decide)
    have d3 : ∀ x : Int, divOk x 16 = true := fun x => divC (n := 16) (by decide) (by decide)
    have m3 : mulOk (nx1 (b3 + 7919 * (a4 + 1))) (nx1 (b3 + 7919 * (a4 + 1)) / 1009 + 69621) = true := by
      have := q1 ((b3 + 7919 * (a4 + 1)) * 48271)
      unfold nx1
      exact mulS (n := 2147483648) (m := 2147483648) (a := 31) (b := 31) (by omega) (by omega) (by omega) (by omega) (by decide) (by decide) (by decide)
    have m4 : ∀ x, mulOk (nx2 x) (nx2 x / 2003 + 40014) = true := fun x => by
      have := q1 (x * (x / 1009 + 69621))
      unfold nx2
      exact mulS (n := 2147483648) (m := 2147483648) (a := 31) (b := 31) (by omega) (by omega) (by omega) (by omega) (by decide) (by decide) (by decide)
    refine ⟨nx3 (nx2 (nx1 (b3 + 7919 * (a4 + 1)))) / 16 % b, hnd cs b1 0 b3 (a4 + 1), ?_, Int.emod_nonneg _ (by omega), Int.emod_lt_of_pos _ hb, ⟨cs, b1, 0, b3, a4 + 1, rfl, hc, k1, by omega, k2', k3, k3', by omega, by omega⟩⟩
    have e1 : (b3 + 7919 * (a4 + 1)) * 48271 % 2147483647 = nx1 (b3 + 7919 * (a4 + 1)) := rfl
    have e2 : ∀ x : Int, x * (x / 1009 + 69621) % 2147483647 = nx2 x := fun _ => rfl
    have e3 : ∀ x : Int, x * (x / 2003 + 40014) % 2147483563 = nx3 x := fun _ => rfl
    simp [put_d0, kSI_ok, kSI2_ok, gIx_r, gMod_int, ixN_ok, S__law_draw_3, S__law_draw_4, S__law_draw_5, S__law_draw_6, S__law_draw_7, gMul_int m1, gMul_int m2, gDiv_int (d1 _), gDiv_int (d2 _), gDiv_int (d3 _), e1, e2, e3, gMul_int m3, gMul_int (m4 _), gMod_int hb, hnd]
end Law
namespace Law
open PySem L2 RL
def absI (z : Int) : Int := if z < 0 then -z else z
theorem cut_63 {xs : List D} (h : xs.length ≤ 63) : cutD xs none (some 63) = xs := by
  unfold cutD
  rw [show HT.sIx xs.length xs.length (some 63) = min 63 xs.length from HT.sIx_nat xs.length xs.length 63, HT.sIx_none, Nat.min_eq_right h, List.drop_zero, Nat.sub_zero, List.take_length]
theorem intBits_abs {z : Int} (h : Builtin.Int.intBits z ≤ 1048576) : (absI z).natAbs < cellTop := by
  rw [cellTop_eq]
  have := intBits_le_iff.mp h
  unfold absI
  split
  · rwa [Int.natAbs_neg]
  · exact this
theorem hand_ok {ns : List Int} (hl : ns.length ≤ 63) (hb : ∀ z ∈ ns, Builtin.Int.intBits z ≤ 1048576) : ∃ xs, F__law_hand [.fls (ns.map D.int)] = .ok (.l xs) [] ∧ HandOk 0 xs := by
  refine ⟨hnd (ns.map absI) 0 0 (4819 + 7 * ns.length) 0, ?_, ⟨ns.map absI, 0, 0, _, 0, rfl, ?_, by omega, by omega, cellTop_pos, by omega, by omega, by omega, by omega⟩⟩
  · unfold F__law_hand B__law_hand
    rw [runP_1]
    have m1 : mulOk 7 ns.length = true := mulS (n := 8) (m := 64) (a := 3) (b := 6) (by decide) (by decide) (by omega) (by omega) (by decide) (by decide) (by decide)
    have key : S__law_hand_1 [.d (.fls (ns.map D.int)), .no, .no] = .next [.d (.fls (ns.map D.int)), .d (.lst ((ns.map absI).map .int)), .no] := by
      unfold S__law_hand_1
      simp [cut_63, hl]
      rw [lc_map (φ := fun d => match d with | .int z => .int (absI z) | d => d) rfl rfl _ (by rw [List.length_map]; exact Nat.le_trans hl (by decide))]
      · simp [put_d0]
      · intro d hd
        obtain ⟨z, hz, rfl⟩ := List.mem_map.mp hd
        simp
        rfl
    simp [key, S__law_hand_2, gMul_int m1, hnd]
  · intro c hc
    obtain ⟨z, hz, rfl⟩ := List.mem_map.mp hc
    exact ⟨by unfold absI; split <;> omega, intBits_abs (hb z hz)⟩
end Law
/-! fractions -/
namespace Law
open PySem L2 RL

def gd (a b : Int) : Int := (Int.gcd a b : Nat)
def red (t b : Int) : Int × Int := (t / gd t b, b / gd t b)
theorem gd_pos {a b : Int} (h : 0 < b) : 0 < gd a b := by
  unfold gd
  have := Int.gcd_pos_of_ne_zero_right a (show b ≠ 0 by omega)
  omega
theorem red_fst {t b : Int} : gd t b * (red t b).1 = t := Int.mul_ediv_cancel' (Int.gcd_dvd_left t b)
theorem red_snd {t b : Int} : gd t b * (red t b).2 = b := Int.mul_ediv_cancel' (Int.gcd_dvd_right t b)
theorem red_eq {t b N L : Int} (hb : 0 < b) (hL : 0 < L) (e : t * L = N * b) : red t b = red N L := by
  have k : gd t b * L = gd N L * b := by
    have h1 : Int.gcd (t * L) (b * L) = Int.gcd t b * L.natAbs := Int.gcd_mul_right t L b
    have h2 : Int.gcd (N * b) (L * b) = Int.gcd N L * b.natAbs := Int.gcd_mul_right N b L
    rw [e, Int.mul_comm b L, h2] at h1
    unfold gd
    have h3 : ((Int.gcd N L * b.natAbs : Nat) : Int) = ((Int.gcd t b * L.natAbs : Nat) : Int) := by rw [h1]
    rw [Int.natCast_mul, Int.natCast_mul] at h3
    have e1 : ((b.natAbs : Nat) : Int) = b := by omega
    have e2 : ((L.natAbs : Nat) : Int) = L := by omega
    rw [e1, e2] at h3
    exact h3.symm
  have g0 := gd_pos (a := t) hb
  have h0 := gd_pos (a := N) hL
  have z1 : gd N L * b * (red t b).1 = gd N L * b * (red N L).1 := by
    rw [← k, Int.mul_assoc, Int.mul_comm L, ← Int.mul_assoc, red_fst, e, k, Int.mul_assoc, Int.mul_comm b, ← Int.mul_assoc, red_fst]
  have z2 : gd t b * gd N L * (red t b).2 = gd t b * gd N L * (red N L).2 := by
    rw [Int.mul_assoc, Int.mul_comm (gd N L), ← Int.mul_assoc, red_snd, Int.mul_assoc, red_snd, k, Int.mul_comm]
  have p1 : gd N L * b ≠ 0 := Int.ne_of_gt (Int.mul_pos h0 hb)
  have p2 : gd t b * gd N L ≠ 0 := Int.ne_of_gt (Int.mul_pos g0 h0)
  exact Prod.ext (Int.eq_of_mul_eq_mul_left p1 z1) (Int.eq_of_mul_eq_mul_left p2 z2)
theorem red_pos {N L : Int} (hL : 0 < L) : 0 < (red N L).2 := by
  have := red_snd (t := N) (b := L)
  have h := gd_pos (a := N) hL
  exact Int.pos_of_mul_pos_right (by rw [this]; exact hL) h
theorem red_cross {N L : Int} : (red N L).1 * L = N * (red N L).2 := by
  have h1 := red_fst (t := N) (b := L)
  have h2 := red_snd (t := N) (b := L)
  calc (red N L).1 * L = (red N L).1 * (gd N L * (red N L).2) := by rw [h2]
    _ = gd N L * (red N L).1 * (red N L).2 := by rw [← Int.mul_assoc, Int.mul_comm (red N L).1]
    _ = N * (red N L).2 := by rw [h1]
theorem red_plus {N M L : Int} (hL : 0 < L) : red ((red N L).1 * (red M L).2 + (red M L).1 * (red N L).2) ((red N L).2 * (red M L).2) = red (N + M) L := by
  refine red_eq (Int.mul_pos (red_pos hL) (red_pos hL)) hL ?_
  have h1 := red_cross (N := N) (L := L)
  have h2 := red_cross (N := M) (L := L)
  calc ((red N L).1 * (red M L).2 + (red M L).1 * (red N L).2) * L = (red N L).1 * L * (red M L).2 + (red M L).1 * L * (red N L).2 := by
        rw [Int.add_mul, Int.mul_right_comm, Int.mul_right_comm (red M L).1]
    _ = N * (red N L).2 * (red M L).2 + M * (red M L).2 * (red N L).2 := by rw [h1, h2]
    _ = (N + M) * ((red N L).2 * (red M L).2) := by
        rw [Int.add_mul, Int.mul_assoc, Int.mul_assoc M, Int.mul_comm (red M L).2]
theorem red_scale {N L n : Int} (hL : 0 < L) : red ((red N L).1 * n) (red N L).2 = red (N * n) L := by
  refine red_eq (red_pos hL) hL ?_
  have h1 := red_cross (N := N) (L := L)
  rw [Int.mul_right_comm, h1, Int.mul_right_comm]
theorem red_term {t b c L n : Int} (hb : 0 < b) (hL : 0 < L) (e : t * L = c * b) : red (t * n) b = red (c * n) L := by
  refine red_eq hb hL ?_
  rw [Int.mul_right_comm, e, Int.mul_right_comm]
theorem red_one {S L : Int} (hL : 0 < L) : red (L * S) L = (S, 1) := by
  have : red (L * S) L = red S 1 := red_eq hL (by decide) (by rw [Int.mul_one, Int.mul_comm])
  rw [this]
  unfold red gd
  rw [Int.gcd_one_right]
  simp
theorem abs_div_le {a g : Int} (hg : 0 < g) (h : g ∣ a) : (a / g).natAbs ≤ a.natAbs := by
  rw [Int.natAbs_ediv_of_dvd h]
  exact Nat.div_le_self _ _
theorem red_fst_le {N L : Int} (hL : 0 < L) : (red N L).1.natAbs ≤ N.natAbs := abs_div_le (gd_pos hL) (Int.gcd_dvd_left N L)
theorem red_snd_le {N L : Int} (hL : 0 < L) : (red N L).2.natAbs ≤ L.natAbs := abs_div_le (gd_pos hL) (Int.gcd_dvd_right N L)
theorem gd_le {t b : Int} (hb : 0 < b) : (gd t b).natAbs ≤ b.natAbs := by
  have := Int.gcd_le_right t hb
  unfold gd
  omega
/-! ### the loop of the divisor -/
theorem gd_step {x y : Int} (hx : 0 ≤ x) (hy : 0 < y) : gd y (x % y) = gd x y := by
  unfold gd Int.gcd
  rw [Int.natAbs_emod_of_nonneg hx, Nat.gcd_comm x.natAbs y.natAbs, Nat.gcd_rec y.natAbs x.natAbs, Nat.gcd_comm]
theorem gd_zero {x : Int} (hx : 0 ≤ x) : gd x 0 = x := by
  unfold gd
  rw [Int.gcd_zero_right]
  omega
theorem gd_abs (a b : Int) : gd (if a < 0 then -a else a) (if b < 0 then -b else b) = gd a b := by
  unfold gd
  split <;> split <;> simp
theorem gcd_ok {a b : Int} (hb : b.natAbs < 2 ^ 100000) : F_common_divisor [.int a, .int b] = .ok (.d (.int (gd a b))) [] := by
  have ha0 : 0 ≤ if a < 0 then -a else a := by split <;> omega
  have hb0 : 0 ≤ if b < 0 then -b else b := by split <;> omega
  have hb1 : (if b < 0 then -b else b).natAbs < 2 ^ 100000 := by split <;> omega
  unfold F_common_divisor B_common_divisor
  rw [runP_2]
  have k1 : S_common_divisor_1 [.d (.int a), .d (.int b)] = .next [.d (.int (if a < 0 then -a else a)), .d (.int (if b < 0 then -b else b))] := by
    unfold S_common_divisor_1
    simp [put_d0]
  simp only [sSeq_ap, Nat.reduceSub, List.reduceReplicate, k1, kThn_next]
  rw [← gd_abs a b]
  generalize (if a < 0 then -a else a) = x at ha0 ⊢
  generalize (if b < 0 then -b else b) = y at hb0 hb1 ⊢
  obtain ⟨e', h1, h2⟩ := while_run (c := tVal (eOp gGt (eV 1) (eC (.int 0)))) (f := S_common_divisor_2b) (fun e => ∃ u v : Int, e = [.d (.int u), .d (.int v)] ∧ 0 ≤ u ∧ 0 ≤ v ∧ gd u v = gd x y) (fun e => ∃ v : Int, e = [.d (.int (gd x y)), .d (.int v)]) (fun e => match e with
    | [_, .d (.int v)] => v.natAbs
    | _ => 0) (fun e ⟨u, v, he, hu, hv, hg⟩ => by
      subst he
      by_cases h : 0 < v
      · refine .inr ⟨[.d (.int u), .d (.int v)], [.d (.int v), .d (.int (u % v))], by simp [h], .inl (by simp [S_common_divisor_2b, gMod_int h, put_d0]), ⟨v, u % v, rfl, hv, Int.emod_nonneg _ (by omega), by rw [gd_step hu h, hg]⟩, ?_⟩
        have := Int.emod_lt_of_pos u h
        have := Int.emod_nonneg u (show v ≠ 0 by omega)
        simp only
        omega
      · have : v = 0 := by omega
        subst this
        refine .inl ⟨[.d (.int u), .d (.int 0)], by simp, 0, ?_⟩
        rw [← hg, gd_zero hu]) [.d (.int x), .d (.int y)] ⟨x, y, rfl, ha0, hb0, rfl⟩ (by simpa using hb1)
  obtain ⟨v, rfl⟩ := h2
  unfold S_common_divisor_2
  rw [h1]
  simp [S_common_divisor_3]
theorem gcd_ok2 {a b : Int} (hb : b.natAbs < 2 ^ 100000) : F__law_divisor [.int a, .int b] = .ok (.d (.int (gd a b))) [] := by
  have ha0 : 0 ≤ if a < 0 then -a else a := by split <;> omega
  have hb0 : 0 ≤ if b < 0 then -b else b := by split <;> omega
  have hb1 : (if b < 0 then -b else b).natAbs < 2 ^ 100000 := by split <;> omega
  unfold F__law_divisor B__law_divisor
  rw [runP_2]
  have k1 : S__law_divisor_1 [.d (.int a), .d (.int b)] = .next [.d (.int (if a < 0 then -a else a)), .d (.int (if b < 0 then -b else b))] := by
    unfold S__law_divisor_1
    simp [put_d0]
  simp only [sSeq_ap, Nat.reduceSub, List.reduceReplicate, k1, kThn_next]
  rw [← gd_abs a b]
  generalize (if a < 0 then -a else a) = x at ha0 ⊢
  generalize (if b < 0 then -b else b) = y at hb0 hb1 ⊢
  obtain ⟨e', h1, h2⟩ := while_run (c := tVal (eOp gGt (eV 1) (eC (.int 0)))) (f := S__law_divisor_2b) (fun e => ∃ u v : Int, e = [.d (.int u), .d (.int v)] ∧ 0 ≤ u ∧ 0 ≤ v ∧ gd u v = gd x y) (fun e => ∃ v : Int, e = [.d (.int (gd x y)), .d (.int v)]) (fun e => match e with
    | [_, .d (.int v)] => v.natAbs
    | _ => 0) (fun e ⟨u, v, he, hu, hv, hg⟩ => by
      subst he
      by_cases h : 0 < v
      · refine .inr ⟨[.d (.int u), .d (.int v)], [.d (.int v), .d (.int (u % v))], by simp [h], .inl (by simp [S__law_divisor_2b, gMod_int h, put_d0]), ⟨v, u % v, rfl, hv, Int.emod_nonneg _ (by omega), by rw [gd_step hu h, hg]⟩, ?_⟩
        have := Int.emod_lt_of_pos u h
        have := Int.emod_nonneg u (show v ≠ 0 by omega)
        simp only
        omega
      · have : v = 0 := by omega
        subst this
        refine .inl ⟨[.d (.int u), .d (.int 0)], by simp, 0, ?_⟩
        rw [← hg, gd_zero hu]) [.d (.int x), .d (.int y)] ⟨x, y, rfl, ha0, hb0, rfl⟩ (by simpa using hb1)
  obtain ⟨v, rfl⟩ := h2
  unfold S__law_divisor_2
  rw [h1]
  simp [S__law_divisor_3]

/-! ### fractions as data -/
def fr (p : Int × Int) : D := .tup [.int p.1, .int p.2]
def lim : Nat := 2 ^ 4000
theorem lim_pos : 0 < lim := Nat.two_pow_pos _
theorem div9 {b : Int} (h0 : 0 < b) (h : b.natAbs < lim * lim) : divOk = divOk ∧ b.natAbs < 2 ^ 9000 := ⟨rfl, Nat.lt_trans h (by
  unfold lim
  rw [← Nat.pow_add]
  exact Nat.pow_lt_pow_right (by decide) (by decide))⟩
theorem mulL {i j : Int} (h1 : i.natAbs < lim) (h2 : j.natAbs < lim) : mulOk i j = true := mul_ok (a := 4000) (b := 4000) h1 h2 (by decide)
theorem abs_mul_lt {i j : Int} (h1 : i.natAbs < lim) (h2 : j.natAbs < lim) : (i * j).natAbs < lim * lim := by
  rw [Int.natAbs_mul]
  exact Nat.mul_lt_mul'' h1 h2
theorem fraction_ok {t b : Int} (hb : 0 < b) (hz : b.natAbs < lim * lim) : F_fraction [.int t, .int b] = .ok (.d (fr (red t b))) [] := by
  have h9 := (div9 hb hz).2
  have d1 : ∀ x, divOk x (gd t b) = true := fun x => div_ok (gd_pos hb) (Nat.lt_of_le_of_lt (gd_le hb) h9)
  have g := gcd_ok (a := t) (b := b) (Nat.lt_trans h9 (Nat.pow_lt_pow_right (by decide) (by decide)))
  unfold F_fraction B_fraction
  simp [S_fraction_1, S_fraction_2, g, put_d0, gDiv_int (d1 _), fr, red]
theorem low_ok {t b : Int} (hb : 0 < b) (hz : b.natAbs < lim * lim) : F__law_low [.int t, .int b] = .ok (.d (fr (red t b))) [] := by
  have h9 := (div9 hb hz).2
  have d1 : ∀ x, divOk x (gd t b) = true := fun x => div_ok (gd_pos hb) (Nat.lt_of_le_of_lt (gd_le hb) h9)
  have g := gcd_ok2 (a := t) (b := b) (Nat.lt_trans h9 (Nat.pow_lt_pow_right (by decide) (by decide)))
  unfold F__law_low B__law_low
  simp [S__law_low_1, S__law_low_2, g, put_d0, gDiv_int (d1 _), fr, red]
/-- small fractions -/
structure Sm (p : Int × Int) : Prop where
  a : p.1.natAbs < lim
  b : p.2.natAbs < lim
  c : 0 < p.2
theorem red_sm {N L : Int} (hL : 0 < L) (hN : N.natAbs < lim) (hl : L.natAbs < lim) : Sm (red N L) := ⟨Nat.lt_of_le_of_lt (red_fst_le hL) hN, Nat.lt_of_le_of_lt (red_snd_le hL) hl, red_pos hL⟩
theorem plus_ok {p q : Int × Int} (hp : Sm p) (hq : Sm q) : F_plus [fr p, fr q] = .ok (.d (fr (red (p.1 * q.2 + q.1 * p.2) (p.2 * q.2)))) [] := by
  have f := fraction_ok (t := p.1 * q.2 + q.1 * p.2) (b := p.2 * q.2) (Int.mul_pos hp.c hq.c) (abs_mul_lt hp.b hq.b)
  unfold F_plus B_plus
  simp only [fr] at f ⊢
  simp [S_plus_1, gMul_int (mulL hp.a hq.b), gMul_int (mulL hq.a hp.b), gMul_int (mulL hp.b hq.b), f]
theorem lplus_ok {p q : Int × Int} (hp : Sm p) (hq : Sm q) : F__law_plus [fr p, fr q] = .ok (.d (fr (red (p.1 * q.2 + q.1 * p.2) (p.2 * q.2)))) [] := by
  have f := low_ok (t := p.1 * q.2 + q.1 * p.2) (b := p.2 * q.2) (Int.mul_pos hp.c hq.c) (abs_mul_lt hp.b hq.b)
  unfold F__law_plus B__law_plus
  simp only [fr] at f ⊢
  simp [S__law_plus_1, gMul_int (mulL hp.a hq.b), gMul_int (mulL hq.a hp.b), gMul_int (mulL hp.b hq.b), f]
end Law
namespace Law
open PySem L2 RL
/-! ### powers -/
theorem pow_small {n : Int} {m i : Nat} (hm : m < 1000) (hn : n.natAbs < 2 ^ 60) (hi : i ≤ m) : (n ^ i).natAbs < 2 ^ 60000 := by
  rw [Int.natAbs_pow]
  refine Nat.lt_of_le_of_lt (Nat.pow_le_pow_left (Nat.le_of_lt hn) i) ?_
  rw [← Nat.pow_mul]
  exact Nat.pow_lt_pow_right (by decide) (by omega)
theorem pow_mul_ok {n : Int} {m i : Nat} (hm : m < 1000) (hn : n.natAbs < 2 ^ 60) (hi : i ≤ m) : mulOk (n ^ i) n = true := mul_ok (a := 60000) (b := 60) (pow_small hm hn hi) hn (by decide)
theorem times_ok {n : Int} {m : Nat} (hm : m < 1000) (hn : n.natAbs < 2 ^ 60) : F__law_times [.int n, .int m] = .ok (.d (.int (n ^ m))) [] := by
  unfold F__law_times B__law_times
  rw [runP_2]
  have l : lim62 (m : Int) = true := by
    unfold lim62
    simp
    omega
  obtain ⟨e', h1, s, h2⟩ := forD_run (t := tgN 3) (f := S__law_times_2b) (fun k e => ∃ s, e = [.d (.int n), .d (.int m), .d (.int (n ^ k)), s] ∧ isIo [s] 0 = false) (rng 0 m) 0 [.d (.int n), .d (.int m), .d (.int 1), .no] ⟨.no, by simp, rfl⟩ (fun i d e hd ⟨s, he, hs⟩ => by
    obtain ⟨hi, rfl⟩ := rng_get hd
    subst he
    have hs' : isIo [s] 0 = false := hs
    refine ⟨[.d (.int n), .d (.int m), .d (.int (n ^ (0 + i))), .d (.int (0 + (i : Nat)))], [.d (.int n), .d (.int m), .d (.int (n ^ (0 + i + 1))), .d (.int (0 + (i : Nat)))], ?_, .inl ?_, ⟨_, rfl, rfl⟩⟩
    · simp only [tgN_ap, isIo_s, hs', Bool.false_eq_true, if_false]
      rfl
    · have m1 : mulOk (n ^ (0 + i)) n = true := pow_mul_ok hm hn (by omega)
      simp only [S__law_times_2b, sSet_ap, eOp_ap, eV_ap, List.getElem?_cons_succ, List.getElem?_cons_zero, vS_d, kOp_ok, kOp2_ok, gMul_int m1, kSet_ok, put_d0, isIo_s, isIo_0, Bool.false_eq_true, if_false, List.set_cons_succ, List.set_cons_zero, Int.pow_succ])
  have k1 : S__law_times_2 [.d (.int n), .d (.int m), .d (.int 1), .no] = .next e' := by
    unfold S__law_times_2
    simp [kR1_ok l, h1]
  simp only [sSeq_ap, Nat.reduceSub, List.reduceReplicate, S__law_times_1, sSet_ap, eC_ap, kSet_ok, put_d0, isIo_s, isIo_0, Bool.false_eq_true, if_false, List.set_cons_succ, List.set_cons_zero, kThn_next, k1]
  rw [h2.1]
  simp [S__law_times_3]
end Law
/-! polynomials -/
namespace Law
open PySem L2 RL

def ev (cs : List Int) (n : Int) : Int := cs.foldr (fun c a => a * n + c) 0
def addL : List Int → List Int → List Int
  | [], ys => ys
  | xs, [] => xs
  | x :: xs, y :: ys => (x + y) :: addL xs ys
def shiftL : List Int → List Int
  | [] => []
  | c :: cs => addL [c] (addL (shiftL cs) (0 :: shiftL cs))
def mono (L : Int) (k : Nat) : List Int := List.replicate k 0 ++ [L]
theorem ev_cons (c : Int) (cs : List Int) (n : Int) : ev (c :: cs) n = ev cs n * n + c := rfl
theorem ev_add (n : Int) : ∀ xs ys : List Int, ev (addL xs ys) n = ev xs n + ev ys n
  | [], ys => by simp [addL, ev]
  | x :: xs, [] => by simp [addL, ev]
  | x :: xs, y :: ys => by
    rw [addL, ev_cons, ev_cons, ev_cons, ev_add n xs ys, Int.add_mul]
    omega
theorem ev_shift (n : Int) : ∀ cs : List Int, ev (shiftL cs) n = ev cs (n + 1)
  | [] => rfl
  | c :: cs => by
    rw [shiftL, ev_add, ev_add, ev_cons, ev_cons, ev_cons, ev_shift n cs]
    show (0 : Int) * n + c + (ev cs (n + 1) + (ev cs (n + 1) * n + 0)) = _
    rw [Int.mul_add, Int.mul_one]
    omega
theorem ev_mono (L n : Int) : ∀ k : Nat, ev (mono L k) n = L * n ^ k
  | 0 => by simp [mono, ev]
  | k + 1 => by
    have ih := ev_mono L n k
    unfold mono at ih ⊢
    rw [List.replicate_succ, List.cons_append, ev_cons, ih, Int.pow_succ, Int.mul_assoc, Int.add_zero]
/-- sums of powers -/
def S (k : Nat) : Nat → Int
  | 0 => 0
  | n + 1 => S k n + (n : Int) ^ k
theorem ev_S {cs : List Int} {L : Int} {k : Nat} (h : shiftL cs = addL cs (mono L k)) (h0 : cs.head? = some 0) : ∀ n : Nat, ev cs (n : Int) = L * S k n
  | 0 => by
    cases cs with
    | nil => cases h0
    | cons c cs =>
      cases h0
      rw [ev_cons]
      simp [S]
  | n + 1 => by
    have := ev_shift (n : Int) cs
    rw [h, ev_add, ev_mono, ev_S h h0 n] at this
    rw [S, Int.mul_add]
    exact this.symm
def sm (n : Int) : List Int → Nat → Int
  | [], _ => 0
  | c :: cs, i => c * n ^ i + sm n cs (i + 1)
theorem sm_ev (n : Int) : ∀ (cs : List Int) (i : Nat), sm n cs i = ev cs n * n ^ i
  | [], i => by simp [sm, ev]
  | c :: cs, i => by
    rw [sm, sm_ev n cs (i + 1), ev_cons, Int.add_mul, Int.pow_succ, ← Int.mul_assoc, Int.mul_right_comm]
    omega
/-- what is known of a polynomial's terms -/
structure PolyOk (k : Nat) (L : Int) (cs : List Int) : Prop where
  pos : 0 < L
  sml : L.natAbs < 2 ^ 200
  cof : ∀ c ∈ cs, c.natAbs < 2 ^ 200
  len : cs.length ≤ 22
  shf : shiftL cs = addL cs (mono L k)
  zro : cs.head? = some 0
/-! ### the sum by Horner -/
theorem lim_ge : 2 ^ 3000 * 2 ^ 900 ≤ lim := by
  unfold lim
  rw [← Nat.pow_add]
  exact Nat.pow_le_pow_right (by decide) (by decide)
theorem lim200 : (2 : Nat) ^ 200 < lim := by
  unfold lim
  exact Nat.pow_lt_pow_right (by decide) (by decide)
def G (j : Nat) : Nat := 2 ^ 200 * 2 ^ (30 * j)
theorem G_lim {j : Nat} (h : j ≤ 100) : G j < lim := by
  unfold G lim
  rw [← Nat.pow_add]
  exact Nat.pow_lt_pow_right (by decide) (by omega)
theorem G_pos (j : Nat) : 2 ^ 200 ≤ G j := Nat.le_mul_of_pos_right _ (Nat.two_pow_pos _)
theorem G_step {A n c : Int} {j : Nat} (hA : A.natAbs ≤ G j) (hn : 0 ≤ n) (hn2 : n ≤ 1000000000) (hc : c.natAbs < 2 ^ 200) : (A * n).natAbs ≤ G j * 1000000000 ∧ (A * n + c).natAbs ≤ G (j + 1) := by
  have h1 : (A * n).natAbs ≤ G j * 1000000000 := by
    rw [Int.natAbs_mul]
    exact Nat.mul_le_mul hA (by omega)
  refine ⟨h1, ?_⟩
  have h2 : G (j + 1) = G j * 1073741824 := by
    unfold G
    rw [Nat.mul_add, Nat.pow_add, ← Nat.mul_assoc]
  have h3 := G_pos j
  omega
theorem sm_term {L c : Int} (hL : 0 < L) (hl : L.natAbs < 2 ^ 200) (hc : c.natAbs < 2 ^ 200) : Sm (red c L) := red_sm hL (Nat.lt_trans hc lim200) (Nat.lt_trans hl lim200)
theorem horner {K n L : Int} (hn : 0 ≤ n) (hn2 : n ≤ 1000000000) (hL : 0 < L) (hl : L.natAbs < 2 ^ 200) : ∀ (cs : List Int) (j : Nat) (A : Int) (s : Sl), isIo [s] 0 = false → (∀ c ∈ cs, c.natAbs < 2 ^ 200) → j + cs.length ≤ 90 → A.natAbs ≤ G j →
    ∃ s', forD (tgN 3) S_sum_at_4b (cs.map fun c => fr (red c L)) [.d (.int K), .d (.int n), .d (fr (red A L)), s] = .next [.d (.int K), .d (.int n), .d (fr (red (cs.foldl (fun a c => a * n + c) A) L)), s']
  | [], j, A, s, _, _, _, _ => ⟨s, rfl⟩
  | c :: cs, j, A, s, hs, hc, hj, hA => by
    rw [List.length_cons] at hj
    have c0 := hc c (List.mem_cons_self ..)
    obtain ⟨g1, g2⟩ := G_step hA hn hn2 c0
    have l1 : L.natAbs < lim := Nat.lt_trans hl lim200
    have sA : Sm (red A L) := red_sm hL (Nat.lt_of_le_of_lt hA (G_lim (by omega))) l1
    have sAn : Sm (red (A * n) L) := red_sm hL (by
      have h2 : G (j + 1) = G j * 1073741824 := by
        unfold G
        rw [Nat.mul_add, Nat.pow_add, ← Nat.mul_assoc]
      have := G_lim (j := j + 1) (by omega)
      omega) l1
    have m1 : mulOk (red A L).1 n = true := mul_ok (a := 4000) (b := 40) sA.a (by omega) (by decide)
    have f1 := fraction_ok (t := (red A L).1 * n) (b := (red A L).2) sA.c (Nat.lt_of_lt_of_le sA.b (Nat.le_mul_of_pos_right _ lim_pos))
    rw [red_scale hL] at f1
    have p1 := plus_ok sAn (sm_term hL hl c0)
    rw [red_plus hL] at p1
    obtain ⟨s', ih⟩ := horner (K := K) hn hn2 hL hl cs (j + 1) (A * n + c) (.d (fr (red c L))) rfl (fun c' h => hc c' (List.mem_cons_of_mem _ h)) (by omega) g2
    refine ⟨s', ?_⟩
    rw [List.map_cons, forD_cons]
    have e1 : tgN 3 (fr (red c L)) [.d (.int K), .d (.int n), .d (fr (red A L)), s] = some [.d (.int K), .d (.int n), .d (fr (red A L)), .d (fr (red c L))] := by
      simp only [tgN_ap, isIo_s, hs, Bool.false_eq_true, if_false]
      rfl
    have e2 : S_sum_at_4b [.d (.int K), .d (.int n), .d (fr (red A L)), .d (fr (red c L))] = .next [.d (.int K), .d (.int n), .d (fr (red (A * n + c) L)), .d (fr (red c L))] := by
      unfold S_sum_at_4b
      have u : ∀ p : Int × Int, fr p = .tup [.int p.1, .int p.2] := fun _ => rfl
      simp only [sSet_ap, eCall_ap, aCons_ap, aNil_ap, eOp_ap, eV_ap, eC_ap, List.getElem?_cons_succ, List.getElem?_cons_zero, vS_d, kOp_ok, kOp2_ok, u (red A L), gIx_t, atI_0, atI_1, ixS_s, gMul_int m1, kC_ok, kC2_ok, kCall_2, f1, kCall2_d, p1, kSet_ok, put_d0, isIo_s, isIo_0, Bool.false_eq_true, if_false, List.set_cons_succ, List.set_cons_zero]
    rw [e1]
    simp only [e2]
    exact ih
theorem foldl_ev (cs : List Int) (n : Int) : cs.reverse.foldl (fun a c => a * n + c) 0 = ev cs n := by
  rw [List.foldl_reverse]
  rfl
theorem red_zero {L : Int} (hL : 0 < L) : red 0 L = (0, 1) := by
  have := red_one (S := 0) hL
  rw [Int.mul_zero] at this
  exact this
theorem check_ok {i lo hi : Int} (h1 : lo ≤ i) (h2 : i ≤ hi) : F_check_number [.int i, .int lo, .int hi] = .ok (.d .non) [] := by
  have e1 : ∀ j : Int, F_is_integer [.int j] = .ok (.d (.bl true)) [] := fun j => by
    unfold F_is_integer B_is_integer
    simp [S_is_integer_1, show isSub "int" "int" = true by decide, show isSub "int" "bool" = false by decide]
  have e2 : F_is_within [.int i, .int lo, .int hi] = .ok (.d (.bl true)) [] := by
    unfold F_is_within B_is_within
    simp [S_is_within_1, e1, h1, h2]
  unfold F_check_number B_check_number
  simp [S_check_number_1, e2]
theorem sum_at_ok {k : Nat} {L : Int} {cs : List Int} {n : Nat} (P : PolyOk k L cs) (hk : k ≤ 20) (hn : n ≤ 1000000000) (hr : F_raw_poly [.int k] = .ok (.l (cs.map fun c => fr (red c L))) []) : F_sum_at [.int k, .int n] = .ok (.d (.int (S k n))) [] := by
  obtain ⟨s', h⟩ := horner (K := k) (n := n) (by omega) (by omega) P.pos P.sml cs.reverse 0 0 .no rfl (fun c hc => P.cof c (List.mem_reverse.mp hc)) (by have := P.len; simp; omega) (by simp)
  rw [foldl_ev, ev_S P.shf P.zro, red_one P.pos, red_zero P.pos, List.map_reverse] at h
  have u : fr (0, 1) = .tup [.int 0, .int 1] := rfl
  have u2 : fr (S k n, 1) = .tup [.int (S k n), .int 1] := rfl
  rw [u, u2] at h
  unfold F_sum_at B_sum_at
  simp [S_sum_at_1, S_sum_at_2, S_sum_at_3, S_sum_at_4, S_sum_at_5, check_ok (i := (k : Int)) (lo := 0) (hi := 20) (by omega) (by omega), check_ok (i := (n : Int)) (lo := 0) (hi := 1000000000) (by omega) (by omega), put_d0, hr, h]
end Law
/-! the law's own value of a polynomial -/
namespace Law
open PySem L2 RL

theorem value_loop {poly : D} {n L : Int} (hn : 0 ≤ n) (hn2 : n ≤ 1000000000) (hL : 0 < L) (hl : L.natAbs < 2 ^ 200) : ∀ (cs : List Int) (j : Nat) (A : Int) (s1 s2 s3 : Sl), isIo [s1] 0 = false → isIo [s2] 0 = false → isIo [s3] 0 = false → (∀ c ∈ cs, c.natAbs < 2 ^ 200) → j + cs.length ≤ 50 → A.natAbs ≤ j * G j →
    ∃ t1 t2 t3, forD (tgT [tgN 3, tgT [tgN 4, tgN 5]]) S__law_value_2b (((cs.map fun c => fr (red c L)).zipIdx j).map fun p => .tup [.int (p.2 : Nat), p.1]) [.d poly, .d (.int n), .d (fr (red A L)), s1, s2, s3] = .next [.d poly, .d (.int n), .d (fr (red (A + sm n cs j) L)), t1, t2, t3]
  | [], j, A, s1, s2, s3, _, _, _, _, _, _ => ⟨s1, s2, s3, by simp [forD, sm]⟩
  | c :: cs, j, A, s1, s2, s3, h1, h2, h3, hc, hj, hA => by
    rw [List.length_cons] at hj
    have c0 := hc c (List.mem_cons_self ..)
    have l1 : L.natAbs < lim := Nat.lt_trans hl lim200
    have jG : ∀ i, i ≤ 51 → i * G i < lim := fun i hi => by
      have h : i * G i ≤ 2 ^ 6 * G i := Nat.mul_le_mul_right _ (by omega)
      refine Nat.lt_of_le_of_lt h ?_
      unfold G lim
      rw [← Nat.pow_add, ← Nat.pow_add]
      exact Nat.pow_lt_pow_right (by decide) (by omega)
    have pw : (n ^ j).natAbs ≤ 2 ^ (30 * j) := by
      rw [Int.natAbs_pow, Nat.pow_mul]
      exact Nat.pow_le_pow_left (by omega) j
    have cp : (c * n ^ j).natAbs ≤ G j := by
      rw [Int.natAbs_mul]
      unfold G
      exact Nat.mul_le_mul (Nat.le_of_lt c0) pw
    have gs : G j ≤ G (j + 1) := by
      unfold G
      exact Nat.mul_le_mul_left _ (Nat.pow_le_pow_right (by decide) (by omega))
    have g2 : (A + c * n ^ j).natAbs ≤ (j + 1) * G (j + 1) := by
      have : (A + c * n ^ j).natAbs ≤ A.natAbs + (c * n ^ j).natAbs := Int.natAbs_add_le _ _
      have e : (j + 1) * G (j + 1) = j * G (j + 1) + G (j + 1) := by rw [Nat.add_mul, Nat.one_mul]
      have e2 : j * G j ≤ j * G (j + 1) := Nat.mul_le_mul_left _ gs
      omega
    have sA : Sm (red A L) := red_sm hL (Nat.lt_of_le_of_lt hA (jG j (by omega))) l1
    have st : Sm (red c L) := sm_term hL hl c0
    have sC : Sm (red (c * n ^ j) L) := red_sm hL (Nat.lt_of_le_of_lt cp (G_lim (by omega))) l1
    have m1 : mulOk (red c L).1 (n ^ j) = true := mul_ok (a := 4000) (b := 4000) st.a (Nat.lt_of_le_of_lt pw (Nat.pow_lt_pow_right (by decide) (by omega))) (by decide)
    have t1 := times_ok (n := n) (m := j) (by omega) (by omega)
    have f1 := low_ok (t := (red c L).1 * n ^ j) (b := (red c L).2) st.c (Nat.lt_of_lt_of_le st.b (Nat.le_mul_of_pos_right _ lim_pos))
    rw [red_scale hL] at f1
    have p1 := lplus_ok sA sC
    rw [red_plus hL] at p1
    obtain ⟨t1', t2', t3', ih⟩ := value_loop (poly := poly) hn hn2 hL hl cs (j + 1) (A + c * n ^ j) (.d (.int j)) (.d (.int (red c L).1)) (.d (.int (red c L).2)) rfl rfl rfl (fun c' h => hc c' (List.mem_cons_of_mem _ h)) (by omega) g2
    refine ⟨t1', t2', t3', ?_⟩
    rw [List.map_cons, List.zipIdx_cons, List.map_cons]
    have e1 : tgT [tgN 3, tgT [tgN 4, tgN 5]] (.tup [.int (j : Nat), fr (red c L)]) [.d poly, .d (.int n), .d (fr (red A L)), s1, s2, s3] = some [.d poly, .d (.int n), .d (fr (red A L)), .d (.int j), .d (.int (red c L).1), .d (.int (red c L).2)] := by
      have u : ∀ p : Int × Int, fr p = .tup [.int p.1, .int p.2] := fun _ => rfl
      have k1 : ∀ x, isIo [s1, x] 0 = false := fun x => by
        rw [← h1]
        cases s1 <;> simp
      have q1 : ∀ l : Ro, isIo (s1 :: l) 0 = false := fun l => by rw [← h1]; cases s1 <;> simp
      have q2 : ∀ l : Ro, isIo (s2 :: l) 0 = false := fun l => by rw [← h2]; cases s2 <;> simp
      have q3 : ∀ l : Ro, isIo (s3 :: l) 0 = false := fun l => by rw [← h3]; cases s3 <;> simp
      simp only [tgT_ap, tgs_cons, tgN_ap, isIo_s, q1, q2, q3, Bool.false_eq_true, if_false, kTgs_s, u (red c L), tgs_nil, List.set_cons_succ, List.set_cons_zero]
    have e2 : S__law_value_2b [.d poly, .d (.int n), .d (fr (red A L)), .d (.int j), .d (.int (red c L).1), .d (.int (red c L).2)] = .next [.d poly, .d (.int n), .d (fr (red (A + c * n ^ j) L)), .d (.int j), .d (.int (red c L).1), .d (.int (red c L).2)] := by
      unfold S__law_value_2b
      simp only [sSet_ap, eCall_ap, aCons_ap, aNil_ap, eOp_ap, eV_ap, eC_ap, List.getElem?_cons_succ, List.getElem?_cons_zero, vS_d, kOp_ok, kOp2_ok, t1, gMul_int m1, kC_ok, kC2_ok, kCall_2, f1, kCall2_d, p1, kSet_ok, put_d0, isIo_s, isIo_0, Bool.false_eq_true, if_false, List.set_cons_succ, List.set_cons_zero]
    have e3 : A + c * n ^ j + sm n cs (j + 1) = A + sm n (c :: cs) j := by rw [sm, Int.add_assoc]
    rw [e3] at ih
    exact (forD_next e1 e2).trans ih
theorem value_ok {k : Nat} {L : Int} {cs : List Int} {n : Nat} (P : PolyOk k L cs) (hn : n ≤ 1000000000) : F__law_value [.tup (cs.map fun c => fr (red c L)), .int n] = .ok (.d (fr (S k n, 1))) [] := by
  obtain ⟨t1, t2, t3, h⟩ := value_loop (poly := .tup (cs.map fun c => fr (red c L))) (n := n) (by omega) (by omega) P.pos P.sml cs 0 0 .no .no .no rfl rfl rfl P.cof (by have := P.len; omega) (by simp)
  rw [sm_ev, ev_S P.shf P.zro, Int.zero_add, Int.pow_zero, Int.mul_one, red_one P.pos, red_zero P.pos] at h
  have u : fr (0, 1) = .tup [.int 0, .int 1] := rfl
  rw [u] at h
  unfold F__law_value B__law_value
  simp [S__law_value_1, S__law_value_2, S__law_value_3, put_d0]
  unfold pairsI
  rw [h]
  simp
end Law
/-! the tables, reckoned by the kernel -/
namespace Law
open PySem L2 RL

def decP : D → Option (Int × Int)
  | .tup [.int a, .int b] => some (a, b)
  | _ => none
def decL : List D → Option (List (Int × Int))
  | [] => some []
  | d :: ds => match decP d, decL ds with
    | some p, some l => some (p :: l)
    | _, _ => none
theorem decP_ok {d : D} {p : Int × Int} (h : decP d = some p) : d = fr p := by
  unfold decP at h
  split at h
  · cases h
    rfl
  · cases h
theorem decL_ok : ∀ {ds : List D} {l : List (Int × Int)}, decL ds = some l → ds = l.map fr
  | [], l, h => by cases h; rfl
  | d :: ds, l, h => by
    unfold decL at h
    split at h
    · rename_i p m h1 h2
      cases h
      rw [decP_ok h1, decL_ok h2]
      rfl
    · cases h
def lcmAll (l : List (Int × Int)) : Int := l.foldl (fun a p => ((Int.lcm a p.2 : Nat) : Int)) 1
def reprOk (d : D) : Bool := match d.py with
  | some p => p.showable && decide (p.depth ≤ 64) && decide (p.shown.length ≤ SZ) && SeqAt.shaped (.str p.shown)
  | none => false
def chkP (k : Nat) (l : List (Int × Int)) : Bool :=
  let L := lcmAll l
  let cs := l.map fun p => p.1 * (L / p.2)
  decide (0 < L) && decide (L.natAbs < 2 ^ 200) && decide (l = cs.map fun c => red c L) && cs.all (fun c => decide (c.natAbs < 2 ^ 200)) && decide (cs.length ≤ 22) && decide (shiftL cs = addL cs (mono L k)) && decide (cs.head? = some 0) && reprOk (.tup (l.map fr))
def chkL (r : Res) (l : List (Int × Int)) : Bool := match r with
  | .ok (.d (.tup es)) [] => decide (decL es = some l)
  | _ => false
def chkB (k : Nat) (r : Res) (l : List (Int × Int)) : Bool := match r, l[1]? with
  | .ok (.d d) [], some p => decide (decP d = some p) && reprOk d && (decide ((k : Int) % 2 = 0) || decide ((k : Int) < 3) || decide (p = (0, 1)))
  | _, _ => false
def chkR (k : Nat) (r1 r2 r3 : Res) : Bool := match r1 with
  | .ok (.l ds) [] => (match decL ds with
    | some l => chkP k l && chkL r2 l && chkB k r3 l
    | none => false)
  | _ => false
def chkS : Bool := (List.range 21).all fun k => (List.range 60).all fun n => reprOk (.int (S k n))
end Law
namespace Law
open PySem L2 RL
theorem chk_0 : chkR 0 (F_raw_poly [.int 0]) (F__law_poly [.int 0]) (F_bernoulli [.int 0]) = true := by decide +kernel
theorem chk_1 : chkR 1 (F_raw_poly [.int 1]) (F__law_poly [.int 1]) (F_bernoulli [.int 1]) = true := by decide +kernel
theorem chk_2 : chkR 2 (F_raw_poly [.int 2]) (F__law_poly [.int 2]) (F_bernoulli [.int 2]) = true := by decide +kernel
theorem chk_3 : chkR 3 (F_raw_poly [.int 3]) (F__law_poly [.int 3]) (F_bernoulli [.int 3]) = true := by decide +kernel
theorem chk_4 : chkR 4 (F_raw_poly [.int 4]) (F__law_poly [.int 4]) (F_bernoulli [.int 4]) = true := by decide +kernel
theorem chk_5 : chkR 5 (F_raw_poly [.int 5]) (F__law_poly [.int 5]) (F_bernoulli [.int 5]) = true := by decide +kernel
theorem chk_6 : chkR 6 (F_raw_poly [.int 6]) (F__law_poly [.int 6]) (F_bernoulli [.int 6]) = true := by decide +kernel
theorem chk_7 : chkR 7 (F_raw_poly [.int 7]) (F__law_poly [.int 7]) (F_bernoulli [.int 7]) = true := by decide +kernel
theorem chk_8 : chkR 8 (F_raw_poly [.int 8]) (F__law_poly [.int 8]) (F_bernoulli [.int 8]) = true := by decide +kernel
theorem chk_9 : chkR 9 (F_raw_poly [.int 9]) (F__law_poly [.int 9]) (F_bernoulli [.int 9]) = true := by decide +kernel
theorem chk_10 : chkR 10 (F_raw_poly [.int 10]) (F__law_poly [.int 10]) (F_bernoulli [.int 10]) = true := by decide +kernel
theorem chk_11 : chkR 11 (F_raw_poly [.int 11]) (F__law_poly [.int 11]) (F_bernoulli [.int 11]) = true := by decide +kernel
theorem chk_12 : chkR 12 (F_raw_poly [.int 12]) (F__law_poly [.int 12]) (F_bernoulli [.int 12]) = true := by decide +kernel
theorem chk_13 : chkR 13 (F_raw_poly [.int 13]) (F__law_poly [.int 13]) (F_bernoulli [.int 13]) = true := by decide +kernel
theorem chk_14 : chkR 14 (F_raw_poly [.int 14]) (F__law_poly [.int 14]) (F_bernoulli [.int 14]) = true := by decide +kernel
theorem chk_15 : chkR 15 (F_raw_poly [.int 15]) (F__law_poly [.int 15]) (F_bernoulli [.int 15]) = true := by decide +kernel
theorem chk_16 : chkR 16 (F_raw_poly [.int 16]) (F__law_poly [.int 16]) (F_bernoulli [.int 16]) = true := by decide +kernel
theorem chk_17 : chkR 17 (F_raw_poly [.int 17]) (F__law_poly [.int 17]) (F_bernoulli [.int 17]) = true := by decide +kernel
theorem chk_18 : chkR 18 (F_raw_poly [.int 18]) (F__law_poly [.int 18]) (F_bernoulli [.int 18]) = true := by decide +kernel
theorem chk_19 : chkR 19 (F_raw_poly [.int 19]) (F__law_poly [.int 19]) (F_bernoulli [.int 19]) = true := by decide +kernel
theorem chk_20 : chkR 20 (F_raw_poly [.int 20]) (F__law_poly [.int 20]) (F_bernoulli [.int 20]) = true := by decide +kernel
theorem chkS_ok : chkS = true := by decide +kernel
theorem chk_all : ∀ k : Nat, k ≤ 20 → chkR k (F_raw_poly [.int k]) (F__law_poly [.int k]) (F_bernoulli [.int k]) = true
  | 0, _ => chk_0
  | 1, _ => chk_1
  | 2, _ => chk_2
  | 3, _ => chk_3
  | 4, _ => chk_4
  | 5, _ => chk_5
  | 6, _ => chk_6
  | 7, _ => chk_7
  | 8, _ => chk_8
  | 9, _ => chk_9
  | 10, _ => chk_10
  | 11, _ => chk_11
  | 12, _ => chk_12
  | 13, _ => chk_13
  | 14, _ => chk_14
  | 15, _ => chk_15
  | 16, _ => chk_16
  | 17, _ => chk_17
  | 18, _ => chk_18
  | 19, _ => chk_19
  | 20, _ => chk_20
  | n + 21, h => absurd h (by omega)
end Law
namespace Law
open PySem L2 RL

structure Tab (k : Nat) (due : List D) (b : Int × Int) (L : Int) (cs : List Int) : Prop where
  pol : PolyOk k L cs
  dueq : due = cs.map fun c => fr (red c L)
  raw : F_raw_poly [.int k] = .ok (.l due) []
  law : F__law_poly [.int k] = .ok (.d (.tup due)) []
  ber : F_bernoulli [.int k] = .ok (.d (fr b)) []
  one : due[1]? = some (fr b)
  r1 : reprOk (.tup due) = true
  r2 : reprOk (fr b) = true
  odd : (k : Int) % 2 = 0 ∨ (k : Int) < 3 ∨ b = (0, 1)
theorem tab_of' {k : Nat} {r1 r2 r3 : Res} (h : chkR k r1 r2 r3 = true) : ∃ (due : List D) (b : Int × Int) (L : Int) (cs : List Int), PolyOk k L cs ∧ (due = cs.map fun c => fr (red c L)) ∧ r1 = .ok (.l due) [] ∧ r2 = .ok (.d (.tup due)) [] ∧ r3 = .ok (.d (fr b)) [] ∧
    due[1]? = some (fr b) ∧ reprOk (.tup due) = true ∧ reprOk (fr b) = true ∧ ((k : Int) % 2 = 0 ∨ (k : Int) < 3 ∨ b = (0, 1)) := by
  unfold chkR at h
  split at h
  · rename_i ds
    split at h
    · rename_i l hl
      have hds := decL_ok hl
      simp only [Bool.and_eq_true] at h
      obtain ⟨⟨hP, hL⟩, hB⟩ := h
      unfold chkP at hP
      simp only [Bool.and_eq_true, decide_eq_true_eq, List.all_eq_true] at hP
      obtain ⟨⟨⟨⟨⟨⟨⟨p1, p2⟩, p3⟩, p4⟩, p5⟩, p6⟩, p7⟩, p8⟩ := hP
      unfold chkL at hL
      split at hL
      · rename_i es
        have hes := decL_ok (of_decide_eq_true hL)
        unfold chkB at hB
        split at hB
        · rename_i d p h1
          simp only [Bool.and_eq_true, Bool.or_eq_true, decide_eq_true_eq] at hB
          obtain ⟨⟨b1, b2⟩, b3⟩ := hB
          have hd := decP_ok b1
          subst hds hes hd
          refine ⟨l.map fr, p, lcmAll l, l.map fun p => p.1 * (lcmAll l / p.2), ⟨p1, p2, p4, p5, p6, p7⟩, ?_, rfl, rfl, rfl, ?_, p8, b2, ?_⟩
          · have := congrArg (List.map fr) p3
            rw [List.map_map] at this
            exact this
          · rw [List.getElem?_map, h1]
            rfl
          · rcases b3 with (h | h) | h
            · exact .inl h
            · exact .inr (.inl h)
            · exact .inr (.inr h)
        · cases hB
      · cases hL
    · cases h
  · cases h
theorem tab_of {k : Nat} (h : chkR k (F_raw_poly [.int k]) (F__law_poly [.int k]) (F_bernoulli [.int k]) = true) : ∃ due b L cs, Tab k due b L cs := by
  obtain ⟨due, b, L, cs, h1, h2, h3, h4, h5, h6, h7, h8, h9⟩ := tab_of' h
  exact ⟨due, b, L, cs, h1, h2, h3, h4, h5, h6, h7, h8, h9⟩
theorem repr_ok {d : D} (h : reprOk d = true) : ∃ s : Str, (∀ e, gRepr [.d d] e = .ok (.d (.str s)) e) ∧ SeqAt.shaped (.str s) = true := by
  unfold reprOk at h
  split at h
  · rename_i p hp
    simp only [Bool.and_eq_true, decide_eq_true_eq] at h
    obtain ⟨⟨⟨h1, h2⟩, h3⟩, h4⟩ := h
    refine ⟨p.shown, fun e => ?_, h4⟩
    unfold gRepr
    simp only [vw_d, hp]
    rw [if_pos (by rw [h1, decide_eq_true h2, decide_eq_true h3]; rfl)]
  · cases h
theorem eq_str {s : Str} {e : Ro} (h : SeqAt.shaped (.str s) = true) : gEq (.d (.str s)) (.d (.str s)) e = .ok (.d (.bl true)) e := by
  unfold gEq gEqD
  simp [vw, D.py, h, PyData.eqv]
theorem ne_str {s : Str} {e : Ro} (h : SeqAt.shaped (.str s) = true) : gNe (.d (.str s)) (.d (.str s)) e = .ok (.d (.bl false)) e := by
  unfold gNe gEqD
  simp [vw, D.py, h, PyData.eqv]
theorem eq_fr {p q : Int × Int} {e : Ro} : gEq (.d (fr p)) (.d (fr q)) e = .ok (.d (.bl (decide (p = q)))) e := by
  unfold gEq gEqD fr
  simp [vw, D.py, D.pyL, SeqAt.shaped, PyData.canLay0, PyData.canLayAll0, PyData.depth, PyData.depthAll, PyData.eqv, PyData.eqvAll, Prod.ext_iff]
  rfl
theorem ne_fr {p q : Int × Int} {e : Ro} : gNe (.d (fr p)) (.d (fr q)) e = .ok (.d (.bl (!decide (p = q)))) e := by
  unfold gNe gEqD fr
  simp [vw, D.py, D.pyL, SeqAt.shaped, PyData.canLay0, PyData.canLayAll0, PyData.depth, PyData.depthAll, PyData.eqv, PyData.eqvAll, Prod.ext_iff]
  rfl
theorem sum_poly_ok {k : Nat} {due : List D} (hk : k ≤ 20) (h : F_raw_poly [.int k] = .ok (.l due) []) : F_sum_poly [.int k] = .ok (.d (.tup due)) [] := by
  unfold F_sum_poly B_sum_poly
  simp [S_sum_poly_1, S_sum_poly_2, check_ok (i := (k : Int)) (lo := 0) (hi := 20) (by omega) (by omega), h]
  rfl
theorem intsOf_map {α : Type} (g : α → Int) : ∀ l : List α, intsOf (l.map fun a => D.int (g a)) = some (l.map g)
  | [] => rfl
  | a :: l => by
    rw [List.map_cons, intsOf, intsOf_map g l]
    rfl
theorem sum_S (k : Nat) : ∀ n : Nat, ((List.range n).map fun i : Nat => (i : Int) ^ k).sum = S k n
  | 0 => rfl
  | n + 1 => by
    rw [List.range_succ, List.map_append, List.sum_append, sum_S k n]
    simp [S]
end Law
namespace Law
open PySem L2 RL

theorem lim62_nat {m : Nat} (h : m < 1000000000) : lim62 (m : Int) = true := by
  unfold lim62
  rw [decide_eq_true (show (-4611686018427387904 : Int) ≤ (m : Int) by omega), decide_eq_true (show (m : Int) < 4611686018427387904 by omega)]
  rfl
theorem comp_ok {ys due : List D} {k n : Nat} (hk : k ≤ 20) (hn : n < 60) : eLc [4] (srcR1 (aCons (eV 2) aNil)) (tgN 4) tYesD (eCall F__law_times (aCons (eV 4) (aCons (eV 1) aNil))) [.io ys, .d (.int k), .d (.int n), .d (.tup due), .no, .no] =
    .ok (.l ((List.range n).map fun i : Nat => D.int ((i : Int) ^ k))) [.io ys, .d (.int k), .d (.int n), .d (.tup due), .no, .no] := by
  have e1 : lcD [4] (tgN 4) tYesD (eCall F__law_times (aCons (eV 4) (aCons (eV 1) aNil))) (rng 0 n) [] [.io ys, .d (.int k), .d (.int n), .d (.tup due), .no, .no] = .ok (.l ((rng 0 n).map fun d => match d with
      | .int i => .int (i ^ k)
      | d => d)) [.io ys, .d (.int k), .d (.int n), .d (.tup due), .no, .no] := by
    refine lc_map rfl rfl _ (by rw [rng_len]; exact Nat.le_trans (Nat.le_of_lt hn) (by decide)) fun d hd => ?_
    obtain ⟨i, hi, rfl⟩ := List.mem_map.mp hd
    have hi := List.mem_range.mp hi
    have t := times_ok (n := 0 + (i : Nat)) (m := k) (by omega) (by omega)
    simp only [List.set_cons_succ, List.set_cons_zero, eFz_ap, eCall_ap, aCons_ap, aNil_ap, eV_ap, List.getElem?_cons_succ, List.getElem?_cons_zero, vS_d, kC_ok, kC2_ok, kCall_2, t, kCall2_d, kUn_ok, fz_d]
  have e2 : ((rng 0 n).map fun d => match d with
      | .int i => D.int (i ^ k)
      | d => d) = (List.range n).map fun i : Nat => D.int ((i : Int) ^ k) := by
    unfold rng
    rw [List.map_map]
    refine List.map_congr_left fun i _ => ?_
    show D.int ((0 + (i : Int)) ^ k) = _
    rw [Int.zero_add]
  rw [e2] at e1
  simp only [eLc_ap, srcR1_ap, aCons_ap, aNil_ap, eV_ap, List.getElem?_cons_succ, List.getElem?_cons_zero, vS_d, kC_ok, kC2_ok, kSrcA_ok, kR1_ok (lim62_nat (show n < 1000000000 by omega)), Int.toNat_natCast, kLc_ok, lend_n, plainAt_1, List.getD_cons_succ, List.getD_cons_zero, plain_no, kLc2_t, wip_1, List.set_cons_succ, List.set_cons_zero, e1, lcEnd_ok, rest_1, back_n]
theorem S_repr {k n : Nat} (hS : chkS = true) (hk : k ≤ 20) (hn : n < 60) : reprOk (.int (S k n)) = true := by
  unfold chkS at hS
  exact List.all_eq_true.mp (List.all_eq_true.mp hS k (List.mem_range.mpr (by omega))) n (List.mem_range.mpr hn)
theorem is_right_ok {t : Nat} {xs : List D} (hchk : ∀ k : Nat, k ≤ 20 → chkR k (F_raw_poly [.int k]) (F__law_poly [.int k]) (F_bernoulli [.int k]) = true) (hS : chkS = true) (h : HandOk t xs) (ht : t < 999990) :
    ∃ ys, F__law_is_right xs [] = .ok (.d (.bl true)) ys ∧ HandOk (t + 3) ys := by
  obtain ⟨k', y1, d1, k0, k1, H1⟩ := draw_ok (b := 21) h (by omega) (by decide) (Nat.lt_of_lt_of_le (show (21 : Int).natAbs < 2 ^ 5 by decide) (Nat.pow_le_pow_right (by decide) (by decide)))
  obtain ⟨k, rfl⟩ := Int.eq_ofNat_of_zero_le k0
  obtain ⟨n', y2, d2, n0, n1, H2⟩ := draw_ok (b := 60) H1 (by omega) (by decide) (Nat.lt_of_lt_of_le (show (60 : Int).natAbs < 2 ^ 6 by decide) (Nat.pow_le_pow_right (by decide) (by decide)))
  obtain ⟨n, rfl⟩ := Int.eq_ofNat_of_zero_le n0
  obtain ⟨g', y3, d3, g0, g1, H3⟩ := draw_ok (b := 1000000000) H2 (by omega) (by decide) (Nat.lt_of_lt_of_le (show (1000000000 : Int).natAbs < 2 ^ 30 by decide) (Nat.pow_le_pow_right (by decide) (by decide)))
  obtain ⟨g, rfl⟩ := Int.eq_ofNat_of_zero_le g0
  have hk : k ≤ 20 := by omega
  have hn : n < 60 := by omega
  obtain ⟨due, b, L, cs, T⟩ := tab_of (hchk k hk)
  have sp := sum_poly_ok hk T.raw
  have sat : ∀ m : Nat, m ≤ 1000000000 → F_sum_at [.int k, .int m] = .ok (.d (.int (S k m))) [] := fun m hm => sum_at_ok T.pol hk hm (T.dueq ▸ T.raw)
  have val : F__law_value [.tup due, .int g] = .ok (.d (fr (S k g, 1))) [] := by
    have := value_ok T.pol (n := g) (by omega)
    rw [← T.dueq] at this
    exact this
  obtain ⟨s1, r1, q1⟩ := repr_ok T.r1
  obtain ⟨s2, r2, q2⟩ := repr_ok T.r2
  obtain ⟨s3, r3, q3⟩ := repr_ok (S_repr hS hk hn)
  have c1 := comp_ok (ys := y2) (due := due) hk hn
  refine ⟨y3, ?_, H3⟩
  unfold F__law_is_right B__law_is_right
  rw [runI_0]
  have e1 : S__law_is_right_1 [.io xs, .no, .no, .no, .no, .no] = .next [.io y2, .d (.int k), .d (.int n), .no, .no, .no] := by
    unfold S__law_is_right_1
    simp [kCallI_1, d1, d2]
  have e2 : S__law_is_right_2 [.io y2, .d (.int k), .d (.int n), .no, .no, .no] = .next [.io y2, .d (.int k), .d (.int n), .d (.tup due), .no, .no] := by
    unfold S__law_is_right_2
    simp [T.law, put_d0]
  have e3 : S__law_is_right_3 [.io y2, .d (.int k), .d (.int n), .d (.tup due), .no, .no] = .next [.io y2, .d (.int k), .d (.int n), .d (.tup due), .no, .no] := by
    unfold S__law_is_right_3
    have gs : ∀ e, gSum [.l ((List.range n).map fun i : Nat => D.int ((i : Int) ^ k))] e = .ok (.d (.int (S k n))) e := fun e => by
      unfold gSum contL
      simp only [vw_l, intsOf_map, sum_S]
    have z1 := sat n (by omega)
    simp only [eLc_ap, srcR1_ap, aCons_ap, aNil_ap, eV_ap, List.getElem?_cons_succ, List.getElem?_cons_zero, vS_d, kC_ok, kC2_ok, kSrcA_ok] at c1
    simp [sp, r1, ne_str q1, z1, r3, gs, ne_str q3, c1]
  have e4 : S__law_is_right_4 [.io y2, .d (.int k), .d (.int n), .d (.tup due), .no, .no] = .next [.io y3, .d (.int k), .d (.int n), .d (.tup due), .no, .d (.int g)] := by
    unfold S__law_is_right_4
    have p1 : powOk 10 9 = true := by decide
    simp [gPow_int p1, kCallI_1, d3, put_d0]
  have e5 : S__law_is_right_5 [.io y3, .d (.int k), .d (.int n), .d (.tup due), .no, .d (.int g)] = .next [.io y3, .d (.int k), .d (.int n), .d (.tup due), .no, .d (.int g)] := by
    unfold S__law_is_right_5
    have z1 := sat g (by omega)
    have u : D.tup [.int (S k g), .int 1] = fr (S k g, 1) := rfl
    simp [val, z1, u, ne_fr]
  have e6 : S__law_is_right_6 [.io y3, .d (.int k), .d (.int n), .d (.tup due), .no, .d (.int g)] = .ret (.d (.bl true)) [.io y3, .d (.int k), .d (.int n), .d (.tup due), .no, .d (.int g)] := by
    unfold S__law_is_right_6
    have u : D.tup [.int 0, .int 1] = fr (0, 1) := rfl
    rcases T.odd with h | h | h
    · simp [T.ber, T.one, r2, eq_str q2, gMod_int, h]
    · by_cases h2 : (k : Int) % 2 = 0
      · simp [T.ber, T.one, r2, eq_str q2, gMod_int, h2]
      · simp [T.ber, T.one, r2, eq_str q2, gMod_int, h2, h]
    · by_cases h2 : (k : Int) % 2 = 0
      · simp [T.ber, T.one, r2, eq_str q2, gMod_int, h2]
      · by_cases h3 : (k : Int) < 3
        · simp [T.ber, T.one, r2, eq_str q2, gMod_int, h2, h3]
        · have h4 : decide (b = (0, 1)) = true := decide_eq_true h
          simp only [sRet_ap, eAnd_ap, eOr_ap, eOp_ap, eAp_ap, eCall_ap, aCons_ap, aNil_ap, eV_ap, eC_ap, eTup, List.getElem?_cons_succ, List.getElem?_cons_zero, vS_d, kC_ok, kC2_ok, kCall_1, T.ber, kCall2_d, kAp_ok, r2, kOp_ok, gIx_t, atI_1, T.one, ixS_s, kOp2_ok, eq_str q2, kAnd_ok, tru_bl, kAnd2_t, gInt_int, gMod_int (show (0 : Int) < 2 by decide), gEq_int, decide_eq_false h2, kOr_ok, kOr2_f, gLt_int, decide_eq_false h3, gTup_2, u, eq_fr, h4, kRet_ok]
  simp only [sSeq_ap, Nat.reduceSub, List.reduceReplicate, e1, e2, e3, e4, e5, e6, kThn_next, kRunI_d]
end Law
namespace Law
open PySem L2 RL

def outTrue : FO → Bool
  | .next [.d (.non), .no, .no] => true
  | _ => false
theorem boolsOf_rep : ∀ n : Nat, boolsOf (List.replicate n (D.bl true)) = some (List.replicate n true)
  | 0 => rfl
  | n + 1 => by
    rw [List.replicate_succ, boolsOf, boolsOf_rep n]
    rfl
/-- the fixed checks at the start -/
theorem fixed_2 (hchk : ∀ k : Nat, k ≤ 20 → chkR k (F_raw_poly [.int k]) (F__law_poly [.int k]) (F_bernoulli [.int k]) = true) (h1 : F_sum_poly [.int 1] = .ok (.d (.tup [fr (0, 1), fr (-1, 2), fr (1, 2)])) []) (h0 : F_sum_poly [.int 0] = .ok (.d (.tup [fr (0, 1), fr (1, 1)])) []) (a b : Sl) :
    S_law_2 [a, b, .no] = .next [a, b, .no] := by
  obtain ⟨due, p, L, cs, T⟩ := tab_of (hchk 2 (by decide))
  have sat : F_sum_at [.int 2, .int 4] = .ok (.d (.int (S 2 4))) [] := sum_at_ok (k := 2) (n := 4) T.pol (by decide) (by decide) (T.dueq ▸ T.raw)
  have e : S 2 4 = 14 := by decide
  rw [e] at sat
  have n1 : ∀ e, gNe (.d (.tup [fr (0, 1), fr (-1, 2), fr (1, 2)])) (.d (.tup [.tup [.int 0, .int 1], .tup [.int (-1), .int 2], .tup [.int 1, .int 2]])) e = .ok (.d (.bl false)) e := fun e => rfl
  have n2 : ∀ e, gNe (.d (.tup [fr (0, 1), fr (1, 1)])) (.d (.tup [.tup [.int 0, .int 1], .tup [.int 1, .int 1]])) e = .ok (.d (.bl false)) e := fun e => rfl
  unfold S_law_2
  simp [h1, h0, sat, n1, n2]
theorem fixed_3 (h2 : F_bernoulli [.int 2] = .ok (.d (fr (1, 6))) []) (h12 : F_bernoulli [.int 12] = .ok (.d (fr (-691, 2730))) []) (h1 : F_bernoulli [.int 1] = .ok (.d (fr (-1, 2))) []) (a b : Sl) : S_law_3 [a, b, .no] = .next [a, b, .no] := by
  have u : ∀ x y : Int, D.tup [.int x, .int y] = fr (x, y) := fun _ _ => rfl
  unfold S_law_3
  simp [h1, h2, h12, u, ne_fr]
def isT (r : Res) (l : List (Int × Int)) : Bool := match r with
  | .ok (.d (.tup ds)) [] => decide (decL ds = some l)
  | _ => false
def isP (r : Res) (p : Int × Int) : Bool := match r with
  | .ok (.d d) [] => decide (decP d = some p)
  | _ => false
theorem isT_ok {r : Res} {l : List (Int × Int)} (h : isT r l = true) : r = .ok (.d (.tup (l.map fr))) [] := by
  unfold isT at h
  split at h
  · rw [decL_ok (of_decide_eq_true h)]
  · cases h
theorem isP_ok {r : Res} {p : Int × Int} (h : isP r p = true) : r = .ok (.d (fr p)) [] := by
  unfold isP at h
  split at h
  · rw [decP_ok (of_decide_eq_true h)]
  · cases h
theorem f1 : isT (F_sum_poly [.int 1]) [(0, 1), (-1, 2), (1, 2)] = true := by decide +kernel
theorem f0 : isT (F_sum_poly [.int 0]) [(0, 1), (1, 1)] = true := by decide +kernel
theorem b2 : isP (F_bernoulli [.int 2]) (1, 6) = true := by decide +kernel
theorem b12 : isP (F_bernoulli [.int 12]) (-691, 2730) = true := by decide +kernel
theorem b1 : isP (F_bernoulli [.int 1]) (-1, 2) = true := by decide +kernel
theorem right_of (hchk : ∀ k : Nat, k ≤ 20 → chkR k (F_raw_poly [.int k]) (F__law_poly [.int k]) (F_bernoulli [.int k]) = true) (hS : chkS = true) : Right F_law := by
  refine ⟨fun ns hl hb => ⟨[], ?_⟩⟩
  obtain ⟨xs, hx, H0⟩ := hand_ok hl hb
  unfold F_law B_law
  rw [runP_1]
  have e1 : S_law_1 [.d (.fls (ns.map D.int)), .no, .no] = .next [.d (.fls (ns.map D.int)), .l xs, .no] := by
    unfold S_law_1
    simp [hx, put_l0]
  have e2 := fixed_2 hchk (isT_ok f1) (isT_ok f0) (.d (.fls (ns.map D.int))) (.l xs)
  have e3 := fixed_3 (isP_ok b2) (isP_ok b12) (isP_ok b1) (.d (.fls (ns.map D.int))) (.l xs)
  obtain ⟨acc, e', h1, ⟨ha, ys, he, _⟩⟩ := lcD_run (vs := [2]) (t := tgN 2) (tst := tYesD) (elt := eCallI F__law_is_right (aCons (eV 1) aNil)) (fun i acc e => acc = List.replicate i (.bl true) ∧ ∃ ys, e = [.d (.fls (ns.map D.int)), .l ys, .no] ∧ HandOk (3 * i) ys) (rng 0 5) 0 [] [.d (.fls (ns.map D.int)), .l xs, .no]
    ⟨rfl, xs, rfl, H0⟩ (by simp; decide) (fun i d acc e hd ⟨ha, ys, he, hH⟩ => by
      obtain ⟨hi, rfl⟩ := rng_get hd
      obtain ⟨zs, hz, hZ⟩ := is_right_ok hchk hS hH (by omega)
      subst he
      refine ⟨[.d (.fls (ns.map D.int)), .l ys, .d (.int (0 + (i : Nat)))], [.d (.fls (ns.map D.int)), .l ys, .d (.int (0 + (i : Nat)))], .bl true, [.d (.fls (ns.map D.int)), .l zs, .d (.int (0 + (i : Nat)))], by simp, rfl, by simp [kCallI_0, hz], ?_, zs, by simp, ?_⟩
      · rw [ha, ← List.replicate_succ']
      · have e : 3 * (0 + i + 1) = 3 * (0 + i) + 3 := by omega
        rw [e]
        exact hZ)
  subst ha he
  have e4 : S_law_4 [.d (.fls (ns.map D.int)), .l xs, .no] = .ret (.d (.bl true)) [.d (.fls (ns.map D.int)), .l ys, .no] := by
    have l5 : lim62 5 = true := by decide
    have g1 : ∀ e, gAll [.l [D.bl true, D.bl true, D.bl true, D.bl true, D.bl true]] e = .ok (.d (.bl true)) e := fun e => rfl
    unfold S_law_4
    simp only [rng_len, Nat.zero_add] at h1
    simp [kR1_ok l5, h1, -List.replicate_succ, g1, show (5 : Int).toNat = 5 from rfl]
  simp only [sSeq_ap, Nat.reduceSub, List.reduceReplicate, e1, e2, e3, e4, kThn_next, kRun_d]
end Law
namespace Law
theorem right : RL.Right F_law := right_of chk_all chkS_ok
end Law
open PySem PySem.W PyProof.Rows in
set_option maxHeartbeats 0 in
theorem PySem.Challenge.cw_powersalike_k79_whole_polynomials_of_sum_holds : PySem.Challenge.rw_powersalike_k79_whole_polynomials_of_sum.Holds := by
  w_on; o_law; k_head; (case hw => w_witness2)
  k_fill
  refine RL.walkG (l := PySem.Challenge.rw_powersalike_k79_whole_polynomials_of_sum) (n := 63) (k := 8) (x := "script") (F := Law.F_law) rfl (by decide) rfl ⟨rfl, by decide, by decide⟩ (fun w h Y => PySem.W.kIn_of Y) Law.right ?F
  case F =>
    intro w mg fa h KX G hmg
    refine' Law.law_all KX G hmg ?A__law_hand ?A_is_integer ?A_is_within ?A_check_number ?A_common_divisor ?A_fraction ?A_plus ?A_ways_to_take ?A_all_bernoulli ?A_raw_poly ?A_sum_poly ?A_sum_at ?A_bernoulli ?A__law_divisor ?A__law_low ?A__law_plus ?A__law_choose ?A__law_bernoulli ?A__law_poly ?A__law_draw ?A__law_times ?A__law_value ?A__law_is_right ?A_law ?z_int ?z_abs ?z_len ?z_isinstance ?z_bool ?z_range ?z_enumerate ?z_tuple ?z_repr ?z_sum ?z_all ?c_MOST_POLY ?c_MOST_N
    (case A__law_hand => refine' RL.at_mk ?a ?l ?c ?k; (case a => k_is); (case l => k_is); (case c => k_is); (case k => k_is))
    (case A_is_integer => refine' RL.at_mk ?a ?l ?c ?k; (case a => k_is); (case l => k_is); (case c => k_is); (case k => k_is))
    (case A_is_within => refine' RL.at_mk ?a ?l ?c ?k; (case a => k_is); (case l => k_is); (case c => k_is); (case k => k_is))
    (case A_check_number => refine' RL.at_mk ?a ?l ?c ?k; (case a => k_is); (case l => k_is); (case c => k_is); (case k => k_is))
    (case A_common_divisor => refine' RL.at_mk ?a ?l ?c ?k; (case a => k_is); (case l => k_is); (case c => k_is); (case k => k_is))
    (case A_fraction => refine' RL.at_mk ?a ?l ?c ?k; (case a => k_is); (case l => k_is); (case c => k_is); (case k => k_is))
    (case A_plus => refine' RL.at_mk ?a ?l ?c ?k; (case a => k_is); (case l => k_is); (case c => k_is); (case k => k_is))
    (case A_ways_to_take => refine' RL.at_mk ?a ?l ?c ?k; (case a => k_is); (case l => k_is); (case c => k_is); (case k => k_is))
    (case A_all_bernoulli => refine' RL.at_mk ?a ?l ?c ?k; (case a => k_is); (case l => k_is); (case c => k_is); (case k => k_is))
    (case A_raw_poly => refine' RL.at_mk ?a ?l ?c ?k; (case a => k_is); (case l => k_is); (case c => k_is); (case k => k_is))
    (case A_sum_poly => refine' RL.at_mk ?a ?l ?c ?k; (case a => k_is); (case l => k_is); (case c => k_is); (case k => k_is))
    (case A_sum_at => refine' RL.at_mk ?a ?l ?c ?k; (case a => k_is); (case l => k_is); (case c => k_is); (case k => k_is))
    (case A_bernoulli => refine' RL.at_mk ?a ?l ?c ?k; (case a => k_is); (case l => k_is); (case c => k_is); (case k => k_is))
    (case A__law_divisor => refine' RL.at_mk ?a ?l ?c ?k; (case a => k_is); (case l => k_is); (case c => k_is); (case k => k_is))
    (case A__law_low => refine' RL.at_mk ?a ?l ?c ?k; (case a => k_is); (case l => k_is); (case c => k_is); (case k => k_is))
    (case A__law_plus => refine' RL.at_mk ?a ?l ?c ?k; (case a => k_is); (case l => k_is); (case c => k_is); (case k => k_is))
    (case A__law_choose => refine' RL.at_mk ?a ?l ?c ?k; (case a => k_is); (case l => k_is); (case c => k_is); (case k => k_is))
    (case A__law_bernoulli => refine' RL.at_mk ?a ?l ?c ?k; (case a => k_is); (case l => k_is); (case c => k_is); (case k => k_is))
    (case A__law_poly => refine' RL.at_mk ?a ?l ?c ?k; (case a => k_is); (case l => k_is); (case c => k_is); (case k => k_is))
    (case A__law_draw => refine' RL.at_mk ?a ?l ?c ?k; (case a => k_is); (case l => k_is); (case c => k_is); (case k => k_is))
    (case A__law_times => refine' RL.at_mk ?a ?l ?c ?k; (case a => k_is); (case l => k_is); (case c => k_is); (case k => k_is))
    (case A__law_value => refine' RL.at_mk ?a ?l ?c ?k; (case a => k_is); (case l => k_is); (case c => k_is); (case k => k_is))
    (case A__law_is_right => refine' RL.at_mk ?a ?l ?c ?k; (case a => k_is); (case l => k_is); (case c => k_is); (case k => k_is))
    (case A_law => refine' RL.at_mk ?a ?l ?c ?k; (case a => k_is); (case l => k_is); (case c => k_is); (case k => k_is))
    (case z_int => k_is)
    (case z_abs => k_is)
    (case z_len => k_is)
    (case z_isinstance => k_is)
    (case z_bool => k_is)
    (case z_range => k_is)
    (case z_enumerate => k_is)
    (case z_tuple => k_is)
    (case z_repr => k_is)
    (case z_sum => k_is)
    (case z_all => k_is)
    (case c_MOST_POLY => k_is)
    (case c_MOST_N => k_is)
