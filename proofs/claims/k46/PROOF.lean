import PyProof.Rows.All
import Wide.All
import OpenK.AllK
import Wide.FinOn
import HandS.ForMost
import KE.SortData
import HandS.Wide
import HandS.Flow
import HandS.Style
import HandS.IsInst
import HandS.Zip
import PyProof.MaxThree
import KE.KMathG
import HandS.HeadWalk
import HandS.Codes
import HandS.Defaults
import HandS.EndBits
import HandS.Head0
import HandS.Head1
import HandS.Head2
import HandS.HeadEnd
import HandS.HeadHook1
import HandS.HeadHook2
import HandS.Words
import KE.KStateDown
import PySem.Challenge.RW_orrery_k46_whole_charges_one_span_behind
set_option Elab.async false
set_option linter.all false
set_option maxRecDepth 100000
set_option maxHeartbeats 4000000
/-! G1: data trees, what they stand for in an abstract heap, states, outcomes -/
namespace G
open PySem L2

/-- data as trees -/
inductive D where
  | non | bl (b : Bool) | int (i : Int) | str (x : Str) | tup (xs : List D) | lst (xs : List D)
  | ins (c : Nat) (ns : List Nat) (ds : List D) | fn (f : Nat)
/-- an object that is still written -/
inductive O where
  | lst (xs : List D)
  | ins (c : Nat) (ns : List Nat) (ds : List D)
def O.d : O → D
  | .lst xs => .lst xs
  | .ins c ns ds => .ins c ns ds
/-- what a slot holds: nothing known, data, an object of one's own (t: 0 of the def itself, j + 1: handed in as the j-th argument) -/
inductive Sl where
  | un
  | dat (d : D)
  | own (t : Nat) (o : O)
/-- what an expression gives: data, a new object, the object of the i-th slot -/
inductive Val where
  | dat (d : D)
  | new (o : O)
  | own (i : Nat)
abbrev Mem := List Sl

/-- addresses of the globals by number, names of fields by number -/
structure Cn where
  K : PySem.W.Frag
  ad : Nat → Addr
  fn : Nat → Str
  inj : ∀ a b, fn a = fn b → a = b
/-- what of the text a class must have whose instances bear these fields -/
def CF (C : Cn) (c : Nat) (ns : List Nat) : Prop := Cls C.K (C.ad c) ∧ ∀ n ∈ ns, NoAttr C.K (C.ad c) (C.fn n)

/-- a list: tracked, known, or a list of the module -/
def SqX (K : PySem.W.Frag) (H : Hp) (a : Addr) (xs : List V) : Prop :=
  Rd H a (.lst xs) ∨ ∃ (its : List Value) (n : Nat), K.lookup a = some { cls := .type "list", data := .seq its.toArray n } ∧ its.length ≤ sizeLine ∧ Vals xs its
theorem SqX.l {K : PySem.W.Frag} {H : Hp} {a : Addr} {xs : List V} (h : SqX K H a xs) : SqL K H a xs := by
  rcases h with h | ⟨its, n, h1, h2, h3⟩
  · exact .inl h
  · exact .inr ⟨_, its.toArray, n, h1, rfl, rfl, rfl, by simpa using h2, by simpa using h3⟩

section
variable (C : Cn) (G : Hp)
mutual
inductive Rp : V → D → Prop where
  | non : Rp .non .non
  | bl (b : Bool) : Rp (.bl b) (.bl b)
  | int (i : Int) : Rp (.int i) (.int i)
  | str (x : Str) : Rp (.str x) (.str x)
  | tup {a : Addr} {xs : List V} {ds : List D} : SqT C.K G a xs → RpL xs ds → Rp (.ref a) (.tup ds)
  | lst {a : Addr} {xs : List V} {ds : List D} : SqX C.K G a xs → RpL xs ds → Rp (.ref a) (.lst ds)
  | ins {a dx : Addr} {c : Nat} {ns : List Nat} {xs : List V} {ds : List D} : CF C c ns → G a = some (.ins (C.ad c) dx ((ns.map C.fn).zip xs)) → ns.length = xs.length → RpL xs ds → Rp (.ref a) (.ins c ns ds)
  | fn (f : Nat) : Rp (.ref (C.ad f)) (.fn f)
inductive RpL : List V → List D → Prop where
  | nil : RpL [] []
  | cons {v : V} {vs : List V} {d : D} {ds : List D} : Rp v d → RpL vs ds → RpL (v :: vs) (d :: ds)
end
end

theorem Same.rd {H H' : Hp} {a : Addr} {u : HO} (e : Same H H') (h : Rd H a u) : Rd H' a u := by
  rcases h with h | ⟨o, h⟩
  · exact .inl (e _ _ h)
  · exact .inr ⟨o, e _ _ h⟩
theorem Same.x {K : PySem.W.Frag} {H H' : Hp} {a : Addr} {xs : List V} (e : Same H H') (h : SqX K H a xs) : SqX K H' a xs := by
  rcases h with h | h
  · exact .inl (Same.rd e h)
  · exact .inr h
theorem Same.t {K : PySem.W.Frag} {H H' : Hp} {a : Addr} {xs : List V} (e : Same H H') (h : SqT K H a xs) : SqT K H' a xs := by
  rcases h with h | h
  · exact .inl (Same.rd e h)
  · exact .inr h
section
variable {C : Cn} {G G' H : Hp}
mutual
theorem Rp.mono (e : Same G G') : ∀ (d : D) (v : V), Rp C G v d → Rp C G' v d
  | .non, _, h => by cases h; exact .non
  | .bl b, _, h => by cases h; exact .bl b
  | .int i, _, h => by cases h; exact .int i
  | .str x, _, h => by cases h; exact .str x
  | .tup ds, _, h => by
    cases h with
    | tup h1 h2 => exact .tup (Same.t e h1) (RpL.mono e ds _ h2)
  | .lst ds, _, h => by
    cases h with
    | lst h1 h2 => exact .lst (Same.x e h1) (RpL.mono e ds _ h2)
  | .ins c ns ds, _, h => by
    cases h with
    | ins h0 h1 h2 h3 => exact .ins h0 (e _ _ h1) h2 (RpL.mono e ds _ h3)
  | .fn f, _, h => by cases h; exact .fn f
theorem RpL.mono (e : Same G G') : ∀ (ds : List D) (vs : List V), RpL C G vs ds → RpL C G' vs ds
  | [], _, h => by cases h; exact .nil
  | d :: ds, _, h => by
    cases h with
    | cons h1 h2 => exact .cons (Rp.mono e d _ h1) (RpL.mono e ds _ h2)
end
theorem Rp.up {v : V} {d : D} (h : Rp C G v d) (e : Same G G') : Rp C G' v d := Rp.mono e d v h
theorem RpL.up {vs : List V} {ds : List D} (h : RpL C G vs ds) (e : Same G G') : RpL C G' vs ds := RpL.mono e ds vs h
theorem RpL.len : ∀ {vs : List V} {ds : List D}, RpL C G vs ds → vs.length = ds.length
  | _, _, .nil => rfl
  | _, _, .cons _ t => congrArg Nat.succ (RpL.len t)
theorem RpL.get : ∀ {vs : List V} {ds : List D} {i : Nat} {d : D}, RpL C G vs ds → ds[i]? = some d → ∃ v, vs[i]? = some v ∧ Rp C G v d
  | _, _, _, _, .nil, e => by simp at e
  | _, _, 0, _, .cons r _, e => by
    simp at e
    subst e
    exact ⟨_, rfl, r⟩
  | _, _, i + 1, d, .cons _ t, e => by
    obtain ⟨v, h1, h2⟩ := RpL.get (i := i) (d := d) t (by simpa using e)
    exact ⟨v, by simpa using h1, h2⟩
theorem RpL.app : ∀ {vs ws : List V} {ds es : List D}, RpL C G vs ds → RpL C G ws es → RpL C G (vs ++ ws) (ds ++ es)
  | _, _, _, _, .nil, h => h
  | _, _, _, _, .cons r t, h => .cons r (RpL.app t h)
theorem RpL.drop : ∀ {vs : List V} {ds : List D} (n : Nat), RpL C G vs ds → RpL C G (vs.drop n) (ds.drop n)
  | _, _, 0, h => h
  | _, _, _ + 1, .nil => .nil
  | _, _, n + 1, .cons _ t => RpL.drop n t
theorem RpL.take : ∀ {vs : List V} {ds : List D} (n : Nat), RpL C G vs ds → RpL C G (vs.take n) (ds.take n)
  | _, _, 0, _ => .nil
  | _, _, _ + 1, .nil => .nil
  | _, _, n + 1, .cons r t => .cons r (RpL.take n t)
theorem RpL.set {v : V} {d : D} (r : Rp C G v d) : ∀ {vs : List V} {ds : List D} (i : Nat), RpL C G vs ds → RpL C G (vs.set i v) (ds.set i d)
  | _, _, _, .nil => .nil
  | _, _, 0, .cons _ t => .cons r t
  | _, _, i + 1, .cons q t => .cons q (RpL.set r i t)
theorem RpL.dropLast : ∀ {vs : List V} {ds : List D}, RpL C G vs ds → RpL C G vs.dropLast ds.dropLast
  | _, _, .nil => .nil
  | _, _, .cons _ .nil => .nil
  | _, _, .cons r (.cons r2 t) => .cons r (RpL.dropLast (.cons r2 t))
theorem RpL.rev {vs : List V} {ds : List D} (h : RpL C G vs ds) : RpL C G vs.reverse ds.reverse := by
  induction h using RpL.rec (motive_1 := fun _ _ _ => True) with
  | nil => exact .nil
  | cons r t _ ih =>
    rw [List.reverse_cons, List.reverse_cons]
    exact RpL.app ih (.cons r .nil)
  | _ => trivial
theorem RpL.ints : ∀ {vs : List V} {ns : List Int}, RpL C G vs (ns.map D.int) → vs = ns.map V.int
  | _, [], h => by cases h; rfl
  | _, n :: ns, h => by
    cases h with
    | cons r t =>
      cases r
      rw [RpL.ints t]
      rfl
theorem RpL.ofInts : ∀ {ns : List Int}, RpL C G (ns.map V.int) (ns.map D.int)
  | [] => .nil
  | _ :: _ => .cons (.int _) RpL.ofInts
end

/-- an own object at l -/
def OwnAt (C : Cn) (G H : Hp) (l : Addr) : O → Prop
  | .lst ds => ∃ xs, H l = some (.lst xs) ∧ RpL C G xs ds
  | .ins c ns ds => CF C c ns ∧ ∃ dx xs, H l = some (.ins (C.ad c) dx ((ns.map C.fn).zip xs)) ∧ ns.length = xs.length ∧ RpL C G xs ds
theorem OwnAt.up {C : Cn} {G G' H H' : Hp} {l : Addr} {o : O} (h : OwnAt C G H l o) (e : Same G G') (eq : H' l = H l) : OwnAt C G' H' l o := by
  cases o with
  | lst ds =>
    obtain ⟨xs, h1, h2⟩ := h
    exact ⟨xs, eq.trans h1, h2.up e⟩
  | ins c ns ds =>
    obtain ⟨h0, dx, xs, h1, h2, h3⟩ := h
    exact ⟨h0, dx, xs, eq.trans h1, h2, h3.up e⟩
theorem OwnAt.some {C : Cn} {G H : Hp} {l : Addr} {o : O} (h : OwnAt C G H l o) : ∃ u, H l = some u := by
  cases o with
  | lst ds => exact ⟨_, h.choose_spec.1⟩
  | ins c ns ds => exact ⟨_, h.2.choose_spec.choose_spec.1⟩

/-- where the own objects of the slots stand -/
def Own (σ : L2.St) (m : Mem) (l : Addr) : Prop := ∃ (i t : Nat) (o : O), m[i]? = some (.own t o) ∧ σ[i]? = some (some (.ref l))

/-- the state: G the part of the heap that is frozen, H the heap, ρ the addresses of the arguments -/
structure SR (C : Cn) (ρ : Nat → Addr) (G H : Hp) (σ : L2.St) (m : Mem) : Prop where
  len : σ.length = m.length
  sub : Same G H
  dat : ∀ (i : Nat) (d : D), m[i]? = some (.dat d) → ∃ v, σ[i]? = some (some v) ∧ Rp C G v d
  own : ∀ (i t : Nat) (o : O), m[i]? = some (.own t o) → ∃ l, σ[i]? = some (some (.ref l)) ∧ G l = none ∧ OwnAt C G H l o ∧ ∀ j, t = j + 1 → ρ j = l
  sep : ∀ (i j t : Nat) (o : O) (t' : Nat) (o' : O) (l : Addr), m[i]? = some (.own t o) → m[j]? = some (.own t' o') → σ[i]? = some (some (.ref l)) → σ[j]? = some (some (.ref l)) → i = j

/-- what a piece of code leaves of the heap: W its own objects ahead, W' behind -/
structure Fr (G H : Hp) (W : Addr → Prop) (G' H' : Hp) (W' : Addr → Prop) : Prop where
  g : Same G G'
  h : ∀ b o, H b = some o → ¬ W b → H' b = some o
  new : ∀ b, G' b ≠ none → G b ≠ none ∨ W b ∨ H b = none
  own : ∀ b, W' b → W b ∨ H b = none
  there : ∀ b, H b ≠ none → H' b ≠ none
theorem Fr.refl {G H : Hp} {W : Addr → Prop} : Fr G H W G H W := ⟨Same.refl _, fun _ _ h _ => h, fun _ h => .inl h, fun _ h => .inl h, fun _ h => h⟩
theorem Fr.trans {G H G1 H1 G2 H2 : Hp} {W W1 W2 : Addr → Prop} (a : Fr G H W G1 H1 W1) (b : Fr G1 H1 W1 G2 H2 W2) : Fr G H W G2 H2 W2 where
  g := a.g.trans b.g
  h := fun c o e n => b.h c o (a.h c o e n) fun w => by
    rcases a.own c w with q | q
    · exact n q
    · rw [e] at q; cases q
  new := fun c e => by
    rcases b.new c e with q | q | q
    · exact a.new c q
    · exact .inr (a.own c q)
    · refine .inr ?_
      cases z : H c with
      | none => exact .inr rfl
      | some u => exact absurd q (a.there c (by rw [z]; simp))
  own := fun c w => by
    rcases b.own c w with q | q
    · exact a.own c q
    · refine Or.inr ?_
      cases z : H c with
      | none => rfl
      | some u => exact absurd q (a.there c (by rw [z]; simp))
  there := fun c e => b.there c (a.there c e)
theorem Fr.less {G H G' H' : Hp} {W W' W'' : Addr → Prop} (a : Fr G H W G' H' W') (h : ∀ b, W'' b → W' b) : Fr G H W G' H' W'' := ⟨a.g, a.h, a.new, fun b w => a.own b (h b w), a.there⟩
theorem Fr.back {G H G' H' : Hp} {W W' : Addr → Prop} (a : Fr G H W G' H' W') {p : Addr} (h : H' p = none) : H p = none := by
  cases z : H p with
  | none => rfl
  | some u => exact absurd h (a.there p (by rw [z]; simp))

/-- an outcome -/
inductive R (α : Type) where
  | ok (a : α) (m : Mem)
  | ex (c : Nat) (x : Option (List Nat × List D)) (m : Mem)
  | st
def R.bind {α β : Type} (r : R α) (f : α → Mem → R β) : R β := match r with
  | .ok a m => f a m
  | .ex c x m => .ex c x m
  | .st => .st
theorem R.bind_ok {α β : Type} (a : α) (m : Mem) (f : α → Mem → R β) : (R.ok a m).bind f = f a m := rfl
theorem R.bind_ex {α β : Type} (c : Nat) (x : Option (List Nat × List D)) (m : Mem) (f : α → Mem → R β) : (R.ex c x m).bind f = .ex c x m := rfl
theorem R.bind_st {α β : Type} (f : α → Mem → R β) : (R.st : R α).bind f = .st := rfl
def R.opt {α : Type} (o : Option α) (m : Mem) : R α := match o with
  | some a => .ok a m
  | none => .st

/-- an exception as it flies -/
def XOk (C : Cn) (G H : Hp) (c : Nat) (x : Option (List Nat × List D)) (cls : Value) (d : Option Addr) : Prop :=
  cls = .ref (C.ad c) ∧ match x with
    | none => d = none
    | some (ns, ds) => ∃ a xs, d = some a ∧ H a = some (.xd ((ns.map C.fn).zip xs)) ∧ ns.length = xs.length ∧ RpL C G xs ds

/-- what a value stands for; H the heap ahead of the piece, G' H' those behind it -/
def VOk (C : Cn) (G' H' : Hp) (σ : L2.St) (m : Mem) (H : Hp) (v : V) : Val → Prop
  | .dat d => Rp C G' v d
  | .new o => ∃ p, v = .ref p ∧ H p = none ∧ G' p = none ∧ ¬ Own σ m p ∧ OwnAt C G' H' p o
  | .own i => ∃ (t : Nat) (o : O), m[i]? = some (.own t o) ∧ σ[i]? = some (some v)

/-- the wish: what must be so behind an outcome. G H W: the state ahead -/
def Res {α β : Type} (C : Cn) (ρ : Nat → Addr) (E : XK) (G H : Hp) (W : Addr → Prop) (σ : L2.St) (ok : Hp → Hp → Mem → α → β → Prop) (r : R α) (Q : β → Hp → Prop) : Prop :=
  match r with
  | .ok a m' => ∀ G' H' v, Fr G H W G' H' (Own σ m') → SR C ρ G' H' σ m' → ok G' H' m' a v → Q v H'
  | .ex c x m' => ∀ G' H' cls d, Fr G H W G' H' (Own σ m') → SR C ρ G' H' σ m' → XOk C G' H' c x cls d → E cls d H'
  | .st => False
abbrev okV (C : Cn) (σ : L2.St) (H : Hp) : Hp → Hp → Mem → Val → V → Prop := fun G' H' m' a v => VOk C G' H' σ m' H v a
abbrev okB : Hp → Hp → Mem → Bool → Bool → Prop := fun _ _ _ a v => v = a
/-- the reading of an expression, of a test by its meaning f -/
def tX (C : Cn) (ρ : Nat → Addr) (E : XK) (f : Mem → R Val) : TE := fun σ H Q => ∃ G m, SR C ρ G H σ m ∧ Res C ρ E G H (Own σ m) σ (okV C σ H) (f m) Q
def tXT (C : Cn) (ρ : Nat → Addr) (E : XK) (f : Mem → R Bool) : TT := fun σ H Q => ∃ G m, SR C ρ G H σ m ∧ Res C ρ E G H (Own σ m) σ okB (f m) Q

theorem PE.of {X : Cx} {e : Expr} {t t' : TE} (h : PE X e t) (i : ∀ σ H Q, t' σ H Q → t σ H Q) : PE X e t' := ⟨fun pins s σ H Q I q => h.run pins s σ H Q I (i σ H Q q)⟩
theorem PT.of {X : Cx} {e : Expr} {t t' : TT} (h : PT X e t) (i : ∀ σ H Q, t' σ H Q → t σ H Q) : PT X e t' := ⟨fun pins s σ H Q I q => h.run pins s σ H Q I (i σ H Q q)⟩
theorem PA.of {X : Cx} {es : List Expr} {t t' : TA} (h : PA X es t) (i : ∀ σ H Q, t' σ H Q → t σ H Q) : PA X es t' := ⟨fun pos pins s σ H Q I q => h.run pos pins s σ H Q I (i σ H Q q)⟩
theorem PS.of {X : Cx} {st : Stmt} {t t' : TS} (h : PS X st t) (i : ∀ D σ H, t' D σ H → t D σ H) : PS X st t' := ⟨fun pins s σ H D I q => h.run pins s σ H D I (i D σ H q)⟩
theorem PSs.of {X : Cx} {st : List Stmt} {t t' : TS} (h : PSs X st t) (i : ∀ D σ H, t' D σ H → t D σ H) : PSs X st t' := ⟨fun pins s σ H D I q => h.run pins s σ H D I (i D σ H q)⟩

section
variable {C : Cn} {ρ : Nat → Addr} {E : XK} {G H G1 H1 G' H' : Hp} {σ : L2.St} {m m' : Mem} {W W1 W' : Addr → Prop}
/-- a piece of r.bind k is run from G1 H1, the wish over the whole stands at G H -/
theorem Res.step {α β α' β' : Type} {ok : Hp → Hp → Mem → α → β → Prop} {ok0 : Hp → Hp → Mem → α' → β' → Prop} {r : R α} {k : α → Mem → R α'} {Q : β' → Hp → Prop} {Q1 : β → Hp → Prop}
    (f0 : Fr G H W G1 H1 W1) (hB : Res C ρ E G H W σ ok0 (r.bind k) Q)
    (st : ∀ a m2 G2 H2 v, r = .ok a m2 → Fr G1 H1 W1 G2 H2 (Own σ m2) → Fr G H W G2 H2 (Own σ m2) → SR C ρ G2 H2 σ m2 → ok G2 H2 m2 a v → Res C ρ E G H W σ ok0 (k a m2) Q → Q1 v H2) : Res C ρ E G1 H1 W1 σ ok r Q1 := by
  cases r with
  | st => exact False.elim hB
  | ex c x m1 => exact fun G2 H2 cls d f s x => hB G2 H2 cls d (f0.trans f) s x
  | ok a m1 => exact fun G2 H2 v f s o => st a m1 G2 H2 v rfl f (f0.trans f) s o hB
theorem VOk.back {v : V} {a : Val} {H1 : Hp} (h : VOk C G' H' σ m' H1 v a) (b : ∀ b, H1 b = none → H b = none) : VOk C G' H' σ m' H v a := by
  cases a with
  | dat d => exact h
  | new o =>
    obtain ⟨p, e, n, r⟩ := h
    exact ⟨p, e, b p n, r⟩
  | own i => exact h

theorem same_upd {p : Addr} {u : HO} (hn : G p = none) : Same G (upd G p u) := fun b o q => by rw [upd_ne (ne_of_none q hn)]; exact q
/-- a new object is frozen -/
theorem SR.freeze {p : Addr} {u : HO} (s : SR C ρ G H σ m) (hp : H p = some u) (hn : G p = none) (ho : ¬ Own σ m p) : SR C ρ (upd G p u) H σ m := by
  have e : Same G (upd G p u) := same_upd hn
  refine ⟨s.len, fun b o q => ?_, fun i d q => ?_, fun i t o q => ?_, s.sep⟩
  · by_cases hb : b = p
    · subst hb
      rw [upd_same] at q
      cases q
      exact hp
    · rw [upd_ne hb] at q
      exact s.sub b o q
  · obtain ⟨v, h1, h2⟩ := s.dat i d q
    exact ⟨v, h1, h2.up e⟩
  · obtain ⟨l, h1, h2, h3, h4⟩ := s.own i t o q
    refine ⟨l, h1, ?_, h3.up e rfl, h4⟩
    rw [upd_ne fun z => ho ⟨i, t, o, q, by rw [← z]; exact h1⟩]
    exact h2
/-- .. as a frame: the object is younger than the piece -/
theorem Fr.freeze {p : Addr} {u : HO} (f : Fr G H W G' H' W') (hn : G' p = none) (h0 : H p = none) : Fr G H W (upd G' p u) H' W' := by
  refine ⟨f.g.trans (same_upd hn), f.h, fun b q => ?_, f.own, f.there⟩
  by_cases hb : b = p
  · subst hb; exact .inr (.inr h0)
  · rw [upd_ne hb] at q; exact f.new b q
/-- what a frozen object stands for -/
theorem Rp.frozen {p : Addr} {o : O} (h : OwnAt C G H p o) (hn : G p = none) : ∃ u, H p = some u ∧ Rp C (upd G p u) (.ref p) o.d := by
  cases o with
  | lst ds =>
    obtain ⟨xs, h1, h2⟩ := h
    exact ⟨_, h1, .lst (.inl (.inl upd_same)) (h2.up (same_upd hn))⟩
  | ins c ns ds =>
    obtain ⟨h0, dx, xs, h1, h2, h3⟩ := h
    exact ⟨_, h1, .ins h0 upd_same h2 (h3.up (same_upd hn))⟩
/-- a heap that grew by an object that nobody knows -/
theorem SR.grow {p : Addr} {u : HO} (s : SR C ρ G H σ m) (hp : H p = none) : SR C ρ G (upd H p u) σ m := by
  refine ⟨s.len, fun b o q => ?_, s.dat, fun i t o q => ?_, s.sep⟩
  · have z := s.sub b o q
    rw [upd_ne (ne_of_none z hp)]
    exact z
  · obtain ⟨l, h1, h2, h3, h4⟩ := s.own i t o q
    obtain ⟨w, hw⟩ := h3.some
    exact ⟨l, h1, h2, h3.up (Same.refl _) (upd_ne (ne_of_none hw hp)), h4⟩
theorem Fr.grow {p : Addr} {u : HO} (f : Fr G H W G' H' W') (hp : H' p = none) : Fr G H W G' (upd H' p u) W' := by
  refine ⟨f.g, fun b o q w => ?_, f.new, f.own, fun b q => ?_⟩
  · have z := f.h b o q w
    rw [upd_ne (ne_of_none z hp)]
    exact z
  · by_cases hb : b = p
    · subst hb; rw [upd_same]; simp
    · rw [upd_ne hb]; exact f.there b q
theorem SR.gnone {p : Addr} (s : SR C ρ G H σ m) (hp : H p = none) : G p = none := s.sub.free hp
theorem SR.notOwn {p : Addr} (s : SR C ρ G H σ m) (hp : H p = none) : ¬ Own σ m p := fun ⟨i, t, o, q, e⟩ => by
  obtain ⟨l, h1, h2, h3, h4⟩ := s.own i t o q
  rw [e] at h1
  cases h1
  obtain ⟨w, hw⟩ := h3.some
  rw [hp] at hw
  cases hw

/-- a value that will last -/
def VS (C : Cn) (G : Hp) (σ : L2.St) (v : V) : Val → Prop
  | .dat d => Rp C G v d
  | .new o => Rp C G v o.d
  | .own i => σ[i]? = some (some v)
theorem VS.up {v : V} {a : Val} (h : VS C G σ v a) (e : Same G G') : VS C G' σ v a := by
  cases a with
  | dat d => exact Rp.up h e
  | new o => exact Rp.up h e
  | own i => exact h
theorem settle {v : V} {a : Val} {Hs : Hp} (f : Fr G H W G1 H1 (Own σ m)) (s : SR C ρ G1 H1 σ m) (o : VOk C G1 H1 σ m Hs v a) (b : ∀ p, Hs p = none → H p = none) :
    ∃ G2, Same G1 G2 ∧ Fr G H W G2 H1 (Own σ m) ∧ SR C ρ G2 H1 σ m ∧ VS C G2 σ v a := by
  cases a with
  | dat d => exact ⟨G1, Same.refl _, f, s, o⟩
  | own i =>
    obtain ⟨t, o, h1, h2⟩ := o
    exact ⟨G1, Same.refl _, f, s, h2⟩
  | new o =>
    obtain ⟨p, rfl, h0, h1, h2, h3⟩ := o
    obtain ⟨u, h4, h5⟩ := Rp.frozen h3 h1
    exact ⟨_, same_upd h1, f.freeze h1 (b p h0), s.freeze h4 h1 h2, h5⟩

/-- what may be read as d: data, or an own object -/
def Rq (C : Cn) (G H : Hp) (v : V) (d : D) : Prop := Rp C G v d ∨ ∃ l o, v = .ref l ∧ OwnAt C G H l o ∧ d = o.d
theorem Rp.seq {v : V} {ds : List D} (s : Same G H) (h : Rp C G v (.lst ds)) : ∃ a xs, v = .ref a ∧ SqX C.K H a xs ∧ RpL C G xs ds := by
  cases h with
  | lst h1 h2 => exact ⟨_, _, rfl, Same.x s h1, h2⟩
theorem Rq.lst {v : V} {ds : List D} (s : Same G H) (h : Rq C G H v (.lst ds)) : ∃ a xs, v = .ref a ∧ SqX C.K H a xs ∧ RpL C G xs ds := by
  rcases h with h | ⟨l, o, rfl, h, e⟩
  · exact Rp.seq s h
  · cases o with
    | lst es =>
      cases e
      obtain ⟨xs, h1, h2⟩ := h
      exact ⟨l, xs, rfl, .inl (.inl h1), h2⟩
    | ins c ns es => cases e
theorem Rq.tup {v : V} {ds : List D} (s : Same G H) (h : Rq C G H v (.tup ds)) : ∃ a xs, v = .ref a ∧ SqT C.K H a xs ∧ RpL C G xs ds := by
  rcases h with h | ⟨l, o, rfl, h, e⟩
  · cases h with
    | tup h1 h2 => exact ⟨_, _, rfl, Same.t s h1, h2⟩
  · cases o <;> cases e
theorem Rq.ins {v : V} {c : Nat} {ns : List Nat} {ds : List D} (s : Same G H) (h : Rq C G H v (.ins c ns ds)) : ∃ a dx xs, v = .ref a ∧ CF C c ns ∧ H a = some (.ins (C.ad c) dx ((ns.map C.fn).zip xs)) ∧ ns.length = xs.length ∧ RpL C G xs ds := by
  rcases h with h | ⟨l, o, rfl, h, e⟩
  · cases h with
    | ins h0 h1 h2 h3 => exact ⟨_, _, _, rfl, h0, s _ _ h1, h2, h3⟩
  · cases o with
    | lst es => cases e
    | ins c' ns' es =>
      cases e
      obtain ⟨h0, dx, xs, h1, h2, h3⟩ := h
      exact ⟨l, dx, xs, rfl, h0, h1, h2, h3⟩
theorem Rq.int {v : V} {i : Int} (h : Rq C G H v (.int i)) : v = .int i := by
  rcases h with h | ⟨l, o, rfl, h, e⟩
  · cases h; rfl
  · cases o <;> cases e
theorem Rq.str {v : V} {x : Str} (h : Rq C G H v (.str x)) : v = .str x := by
  rcases h with h | ⟨l, o, rfl, h, e⟩
  · cases h; rfl
  · cases o <;> cases e
theorem Rq.bl {v : V} {b : Bool} (h : Rq C G H v (.bl b)) : v = .bl b := by
  rcases h with h | ⟨l, o, rfl, h, e⟩
  · cases h; rfl
  · cases o <;> cases e
theorem Rq.non {v : V} (h : Rq C G H v .non) : v = .non := by
  rcases h with h | ⟨l, o, rfl, h, e⟩
  · cases h; rfl
  · cases o <;> cases e

/-! the ends -/
theorem fin_dat {v : V} {d : D} {Q : VK} (f : Fr G H W G1 H1 (Own σ m)) (s : SR C ρ G1 H1 σ m) (r : Rp C G1 v d)
    (q : ∀ G' H' v, Fr G H W G' H' (Own σ m) → SR C ρ G' H' σ m → VOk C G' H' σ m H v (.dat d) → Q v H') : Q v H1 := q G1 H1 v f s r
theorem fin_new {ds : List D} {xs : List V} {p : Addr} {Q : VK} (f : Fr G H W G1 H1 (Own σ m)) (s : SR C ρ G1 H1 σ m) (hp : H1 p = none) (r : RpL C G1 xs ds)
    (q : ∀ G' H' v, Fr G H W G' H' (Own σ m) → SR C ρ G' H' σ m → VOk C G' H' σ m H v (.new (.lst ds)) → Q v H') : Q (.ref p) (upd H1 p (.lst xs)) :=
  q G1 _ _ (f.grow hp) (s.grow hp) ⟨p, rfl, f.back hp, s.gnone hp, s.notOwn hp, xs, upd_same, r⟩
theorem fin_tup {ds : List D} {xs : List V} {p : Addr} {Q : VK} (f : Fr G H W G1 H1 (Own σ m)) (s : SR C ρ G1 H1 σ m) (hp : H1 p = none) (r : RpL C G1 xs ds)
    (q : ∀ G' H' v, Fr G H W G' H' (Own σ m) → SR C ρ G' H' σ m → VOk C G' H' σ m H v (.dat (.tup ds)) → Q v H') : Q (.ref p) (upd H1 p (.tup xs)) := by
  have s2 : SR C ρ (upd G1 p (.tup xs)) (upd H1 p (.tup xs)) σ m := (s.grow hp).freeze upd_same (s.gnone hp) (s.notOwn hp)
  exact q _ _ _ ((f.grow hp).freeze (s.gnone hp) (f.back hp)) s2 (.tup (.inl (.inl upd_same)) (r.up (same_upd (s.gnone hp))))
end
end G

set_option maxRecDepth 100000
set_option maxHeartbeats 4000000
/-! G2: the small language, its meaning, and the look that ties it to a text -/
namespace G
open PySem L2

/-! ### functions -/
inductive Arg where
  | d (d : D)
  | io (o : O)
inductive FR where
  | ok (v : Val) (os : List O)
  | ex (c : Nat) (x : Option (List Nat × List D)) (os : List O)
  | st
abbrev Fn := List Arg → FR
def slots : Nat → List Arg → Mem
  | _, [] => []
  | j, .d d :: r => .dat d :: slots (j + 1) r
  | j, .io o :: r => .own (j + 1) o :: slots (j + 1) r
def putA : List Arg → List O → List Arg
  | [], _ => []
  | .d d :: r, os => .d d :: putA r os
  | .io o :: r, [] => .io o :: putA r []
  | .io _ :: r, o :: os => .io o :: putA r os
def nio : List Arg → Nat
  | [] => 0
  | .d _ :: r => nio r
  | .io _ :: r => nio r + 1

/-! ### the language -/
inductive Bo where
  | add | sub | mul | fdiv | mod | pow
inductive Co where
  | eq | ne | lt | le | gt | ge | is | isn | inn | nin
inductive Bi where
  | len | int | abs | min | max | sum | sorted | list | tuple | isqrt | str
inductive Bm where
  | pop | append | reverse | index | count
inductive Ty where
  | tuple | list | bool | int | str
inductive Ik where
  | seq | rng1 | rng2 | enum | zip
inductive Tg where
  | one (i : Nat)
  | tup (is : List Nat)
inductive E where
  | nop
  | var (i : Nat) | int (n : Int) | str (x : Str) | bool (b : Bool) | non
  | cst (g : Nat) (d : D)
  | bin (o : Bo) (a b : E)
  | neg (a : E) | not (a : E)
  | cmp (o : Co) (a b : E)
  | chn (a : E) (os : List Co) (es : List E)
  | band (es : List E) | bor (es : List E)
  | ife (t a b : E)
  | tup (es : List E) | lst (es : List E)
  | ix (a b : E)
  | slc (a lo hi : E)
  | fld (a : E) (k : Nat)
  | call (f : Nat) (φ : Fn) (es : List E)
  | mk (c fi : Nat) (φ : Fn) (es : List E)
  | meth (c m : Nat) (φ : Fn) (o : E) (es : List E)
  | bi (b : Bi) (es : List E)
  | isi (a : E) (ts : List Ty)
  | bm (b : Bm) (o : E) (es : List E)
  | lc (vs : List Nat) (tg : Tg) (ik : Ik) (es : List E) (t e : E)
inductive S where
  | set (i : Nat) (e : E) | setO (i : Nat) (e : E) | setT (tg : Tg) (e : E)
  | setF (i c k : Nat) (e : E) | setI (i : Nat) (ix e : E)
  | aug (i : Nat) (o : Bo) (e : E)
  | ret (e : E) | retN
  | ife (t : E) (a b : List S)
  | for (tg : Tg) (ik : Ik) (es : List E) (b : List S)
  | whl (n : Nat) (t : E) (b : List S)
  | exp (e : E)
  | brk | cnt | pas | nev
  | frz (i : Nat)
inductive Fl where
  | nx | rt (v : Val) | bk | ct

/-! ### data -/
def opt {α β : Type} (o : Option α) (f : α → R β) : R β := match o with
  | some a => f a
  | none => .st
def rd (v : Val) (m : Mem) : Option D := match v with
  | .dat d => some d
  | .new o => some o.d
  | .own i => match m[i]? with
    | some (.own _ o) => some o.d
    | _ => none
def mulOk (i j : Int) : Bool := decide (i.natAbs.log2 + j.natAbs.log2 < 100000000)
def binD : Bo → D → D → Option Val
  | .add, .int i, .int j => some (.dat (.int (i + j)))
  | .add, .str x, .str y => if x.length + y.length ≤ sizeLine then some (.dat (.str (x ++ y))) else none
  | .add, .lst xs, .lst ys => if xs.length + ys.length ≤ sizeLine then some (.new (.lst (xs ++ ys))) else none
  | .sub, .int i, .int j => some (.dat (.int (i - j)))
  | .mul, .int i, .int j => if mulOk i j = true then some (.dat (.int (i * j))) else none
  | .mul, .lst xs, .int k => if -(2 ^ 63) ≤ k ∧ k < 2 ^ 63 ∧ xs.length * k.toNat ≤ sizeLine then some (.new (.lst (List.replicate k.toNat xs).flatten)) else none
  | .fdiv, .int i, .int j => if 0 < j ∧ j.natAbs.log2 < 9000 then some (.dat (.int (i / j))) else none
  | .mod, .int i, .int j => if 0 < j then some (.dat (.int (i % j))) else none
  | .pow, .int i, .int j => if 0 ≤ j ∧ j ≤ 1000000 ∧ i.natAbs < 2 ^ 64 then some (.dat (.int (i ^ j.toNat))) else none
  | _, _, _ => none
mutual
def D.py : D → PyData
  | .non => .none
  | .bl b => .bool b
  | .int i => .int i
  | .str x => .str x
  | .tup ds => .tuple (pyL ds)
  | .lst ds => .list (pyL ds)
  | .ins _ _ _ => .dict []
  | .fn _ => .dict []
def pyL : List D → List PyData
  | [] => []
  | d :: ds => d.py :: pyL ds
end
def eqD : D → D → Option Bool
  | .int i, .int j => some (decide (i = j))
  | .str x, .str y => some (decide (x = y))
  | .bl x, .bl y => some (decide (x = y))
  | a, b => if SeqAt.shaped a.py = true ∧ SeqAt.shaped b.py = true then some (PyData.eqv a.py b.py) else none
def flatD : D → Bool
  | .non => true
  | .bl _ => true
  | .int _ => true
  | .str _ => true
  | _ => false
/-- flat data as values -/
def D.v : D → V
  | .non => .non
  | .bl b => .bl b
  | .int i => .int i
  | .str x => .str x
  | _ => .non
def inD (x : D) : D → Option Bool
  | .lst ds => if flatD x = true ∧ ds.all flatD = true then some (ds.any fun y => eqV y.v x.v) else none
  | .tup ds => if flatD x = true ∧ ds.all flatD = true then some (ds.any fun y => eqV y.v x.v) else none
  | .str z => match x with
    | .str y => some (!(Builtin.Str.occurrences z y 0 z.length 1).isEmpty)
    | _ => none
  | _ => none
def cmpD : Co → D → D → Option Bool
  | .eq, a, b => eqD a b
  | .ne, a, b => (eqD a b).map not
  | .lt, .int i, .int j => some (decide (i < j))
  | .le, .int i, .int j => some (decide (i ≤ j))
  | .gt, .int i, .int j => some (decide (j < i))
  | .ge, .int i, .int j => some (decide (j ≤ i))
  | .lt, .str x, .str y => some (decide (x.cps.toList < y.cps.toList))
  | .is, .non, .non => some true
  | .is, _, .non => some false
  | .isn, .non, .non => some false
  | .isn, _, .non => some true
  | .is, .bl a, .bl b => some (decide (a = b))
  | .is, .non, .bl _ => some false
  | .isn, .bl a, .bl b => some (!decide (a = b))
  | .inn, x, y => inD x y
  | .nin, x, y => (inD x y).map not
  | _, _, _ => none
def truD : D → Option Bool
  | .non => some false
  | .bl b => some b
  | .int i => some (i != 0)
  | .str x => if x.length ≤ sizeLine then some ((x.length : Int) != 0) else none
  | .tup ds => some (!ds.isEmpty)
  | .lst ds => some (!ds.isEmpty)
  | _ => none
def ints? : List D → Option (List Int)
  | [] => some []
  | .int i :: r => (ints? r).map (i :: ·)
  | _ :: _ => none
def fget : List Nat → List D → Nat → Option D
  | n :: ns, d :: ds, f => if n = f then some d else fget ns ds f
  | _, _, _ => none
def ixD : D → D → Option D
  | .lst ds, .int i => atI ds i
  | .tup ds, .int i => atI ds i
  | .str z, .int i => if z.length ≤ sizeLine then (atI z.cps.toList i).map fun c => .str ⟨#[c]⟩ else none
  | _, _ => none
def cutD {α : Type} (xs : List α) (lo hi : Option Int) : List α := (xs.drop (HT.sIx xs.length 0 lo)).take (HT.sIx xs.length xs.length hi - HT.sIx xs.length 0 lo)
def slcD : D → Option Int → Option Int → Option Val
  | .lst ds, lo, hi => some (.new (.lst (cutD ds lo hi)))
  | _, _, _ => none
def tyN : Ty → String
  | .tuple => "tuple"
  | .list => "list"
  | .bool => "bool"
  | .int => "int"
  | .str => "str"
def tyOf : D → Option String
  | .non => some "NoneType"
  | .bl _ => some "bool"
  | .int _ => some "int"
  | .str _ => some "str"
  | .tup _ => some "tuple"
  | .lst _ => some "list"
  | _ => none
def subTy : D → Ty → Bool
  | .bl _, .bool => true
  | .bl _, .int => true
  | .int _, .int => true
  | .str _, .str => true
  | .tup _, .tuple => true
  | .lst _, .list => true
  | _, _ => false
def isiD (d : D) (ts : List Ty) : Option Bool := match tyOf d with
  | some _ => some (ts.any (subTy d))
  | none => none
def tupC : D → Bool
  | .tup (_ :: _) => true
  | _ => false
def noTup : D → Bool
  | .tup _ => false
  | .non => false
  | _ => true
/-- these may be sorted -/
def sortOk (ds : List D) : Bool := (ds.all fun d => d.py.canLay0 && decide (d.py.depth ≤ 60) && ds.all fun e => PySem.W.alike d.py e.py) && (ds.all tupC || ds.all noTup)
def minL : Option (List Int) → Option Val
  | some (n :: ns) => some (.dat (.int (ns.foldl min n)))
  | _ => none
def maxL : Option (List Int) → Option Val
  | some (n :: ns) => some (.dat (.int (ns.foldl max n)))
  | _ => none
def sumL : Option (List Int) → Option Val
  | some ns => some (.dat (.int ns.sum))
  | none => none
def biD : Bi → List D → Option Val
  | .len, [.lst ds] => some (.dat (.int ds.length))
  | .len, [.tup ds] => some (.dat (.int ds.length))
  | .len, [.str z] => if z.length ≤ sizeLine then some (.dat (.int z.length)) else none
  | .int, [.int i] => some (.dat (.int i))
  | .int, [.bl b] => some (.dat (.int (if b then 1 else 0)))
  | .abs, [.int i] => some (.dat (.int (if i < 0 then -i else i)))
  | .min, [.int i, .int j] => some (.dat (.int (if j < i then j else i)))
  | .max, [.int i, .int j] => some (.dat (.int (if j > i then j else i)))
  | .max, [.int i, .int j, .int k] => some (.dat (.int (max (max i j) k)))
  | .min, [.lst ds] => minL (ints? ds)
  | .max, [.lst ds] => maxL (ints? ds)
  | .sum, [.lst ds] => sumL (ints? ds)
  | .sorted, [.lst ds] => if sortOk ds = true then some (.new (.lst (ds.mergeSort (PySem.W.dataLe false D.py)))) else none
  | .list, [.lst ds] => some (.new (.lst ds))
  | .list, [.tup ds] => some (.new (.lst ds))
  | .tuple, [.lst ds] => some (.dat (.tup ds))
  | .tuple, [.tup ds] => some (.dat (.tup ds))
  | .isqrt, [.int i] => if 0 ≤ i ∧ i.toNat.log2 < 13000 then some (.dat (.int ((Float64.isqrt i.toNat : Nat) : Int))) else none
  | .str, [.int i] => if i.natAbs.log2 < 1920 then some (.dat (.str (toString i))) else none
  | _, _ => none
/-- methods of built-in types: those that write their object -/
def mutB : Bm → Bool
  | .pop => true
  | .append => true
  | .reverse => true
  | _ => false
def bmT : Bm → Ty
  | .pop => .list
  | .append => .list
  | .reverse => .list
  | .index => .list
  | .count => .list
def isTy : Ty → D → Bool
  | .list, .lst _ => true
  | .str, .str _ => true
  | .int, .int _ => true
  | _, _ => false
def bmM : Bm → List D → List D → Option (D × List D)
  | .pop, ds, [] => (ds[ds.length - 1]?).map fun d => (d, ds.dropLast)
  | .append, ds, [d] => if ds.length < sizeLine then some (.non, ds ++ [d]) else none
  | .reverse, ds, [] => some (.non, ds.reverse)
  | _, _, _ => none
/-- .. those that only look -/
def bmP : Bm → D → List D → Option Val
  | _, _, _ => none
def bmD (b : Bm) (o : Val) (as : List D) (m : Mem) : R Val := if mutB b = true then match o with
  | .own i => match m[i]? with
    | some (.own t (.lst ds)) => match bmM b ds as with
      | some (d, ds') => .ok (.dat d) (m.set i (.own t (.lst ds')))
      | none => .st
    | _ => .st
  | _ => .st
  else opt (rd o m) fun d => opt (bmP b d as) fun v => .ok v m
def setAll (m : Mem) : List Nat → List D → Option Mem
  | [], [] => some m
  | i :: is, d :: ds => if i < m.length then setAll (m.set i (.dat d)) is ds else none
  | _, _ => none
def asg (tg : Tg) (d : D) (m : Mem) : Option Mem := match tg with
  | .one i => if i < m.length then some (m.set i (.dat d)) else none
  | .tup is => match d with
    | .tup ds => setAll m is ds
    | _ => none
/-- what a loop goes over -/
def itD (ik : Ik) (ds : List D) : Option (List D) := match ik, ds with
  | .seq, [.lst xs] => some xs
  | .seq, [.tup xs] => some xs
  | .rng1, [.int j] => if -(2 ^ 62) ≤ j ∧ j < 2 ^ 62 then some ((List.range j.toNat).map fun (k : Nat) => .int (0 + (k : Int))) else none
  | .rng2, [.int i, .int j] => if -(2 ^ 62) ≤ i ∧ i < 2 ^ 62 ∧ -(2 ^ 62) ≤ j ∧ j < 2 ^ 62 then some ((List.range (j - i).toNat).map fun (k : Nat) => .int (i + (k : Int))) else none
  | .enum, [.lst xs] => some (xs.mapIdx fun k x => .tup [.int (k : Int), x])
  | .zip, [.lst xs, .lst ys] => some (List.zipWith (fun x y => .tup [x, y]) xs ys)
  | .zip, [.tup xs, .tup ys] => some (List.zipWith (fun x y => .tup [x, y]) xs ys)
  | _, _ => none
/-- several values as data (own objects are none) -/
def dats : List Val → Option (List D)
  | [] => some []
  | .dat d :: r => (dats r).map (d :: ·)
  | .new o :: r => (dats r).map (o.d :: ·)
  | .own _ :: _ => none
/-- .. read (own objects too) -/
def rds (m : Mem) : List Val → Option (List D)
  | [] => some []
  | v :: r => match rd v m, rds m r with
    | some d, some ds => some (d :: ds)
    | _, _ => none
def argsOf (m : Mem) : List Val → Option (List Arg)
  | [] => some []
  | .dat d :: r => (argsOf m r).map (.d d :: ·)
  | .new o :: r => (argsOf m r).map (.d o.d :: ·)
  | .own i :: r => match m[i]? with
    | some (.own _ o) => (argsOf m r).map (.io o :: ·)
    | _ => none
def owns : List Val → List Nat
  | [] => []
  | .own i :: r => i :: owns r
  | _ :: r => owns r
def putIos (m : Mem) : List Nat → List O → Mem
  | i :: is, o :: os => putIos (match m[i]? with
    | some (.own t _) => m.set i (.own t o)
    | _ => m) is os
  | _, _ => m
def nodupB : List Nat → Bool
  | [] => true
  | i :: r => !r.contains i && nodupB r
def callR (φ : Fn) (vs : List Val) (m : Mem) : R Val := match argsOf m vs with
  | none => .st
  | some as => if nodupB (owns vs) = true then match φ as with
    | .ok v os => match v with
      | .own _ => .st
      | v => if os.length = (owns vs).length then .ok v (putIos m (owns vs) os) else .st
    | .ex c x os => if os.length = (owns vs).length then .ex c x (putIos m (owns vs) os) else .st
    | .st => .st
  else .st
/-- C(..): the new instance goes ahead -/
def mkR (c : Nat) (φ : Fn) (vs : List Val) (m : Mem) : R Val := match argsOf m vs with
  | none => .st
  | some as => if nodupB (owns vs) = true then match φ (.io (.ins c [] []) :: as) with
    | .ok (.dat .non) (o :: os) => if os.length = (owns vs).length then .ok (.new o) (putIos m (owns vs) os) else .st
    | _ => .st
  else .st
def wipeM (m : Mem) : List Nat → Mem
  | [] => m
  | i :: r => (wipeM m r).set i .un
/-- the block's own names as they were -/
def backM (m m' : Mem) : List Nat → Mem
  | [] => m'
  | i :: r => match m[i]? with
    | some s => (backM m m' r).set i s
    | none => backM m m' r
def noOwn (m : Mem) (vs : List Nat) : Bool := vs.all fun i => match m[i]? with
  | some (.own _ _) => false
  | some _ => true
  | none => false

/-! ### the meaning -/
def forD (a : D → Mem → Option Mem) (b : Mem → R Fl) : List D → Mem → R Fl
  | [], m => .ok .nx m
  | d :: ds, m => match a d m with
    | none => .st
    | some m1 => match b m1 with
      | .ok .nx m2 => forD a b ds m2
      | .ok .ct m2 => forD a b ds m2
      | .ok .bk m2 => .ok .nx m2
      | .ok (.rt v) m2 => .ok (.rt v) m2
      | .ex c x m2 => .ex c x m2
      | .st => .st
def whlD (t : Mem → R Bool) (b : Mem → R Fl) : Nat → Mem → R Fl
  | 0, _ => .st
  | n + 1, m => match t m with
    | .ok true m1 => match b m1 with
      | .ok .nx m2 => whlD t b n m2
      | .ok .ct m2 => whlD t b n m2
      | .ok .bk m2 => .ok .nx m2
      | .ok (.rt v) m2 => .ok (.rt v) m2
      | .ex c x m2 => .ex c x m2
      | .st => .st
    | .ok false m1 => .ok .nx m1
    | .ex c x m1 => .ex c x m1
    | .st => .st
def lcD (a : D → Mem → Option Mem) (w : Mem → Mem) (t : Mem → R Bool) (e : Mem → R Val) : Nat → List D → Mem → R (List D)
  | _, [], m => .ok [] m
  | k, d :: ds, m => match a d m with
    | none => .st
    | some m1 => match t m1 with
      | .ok true m2 => match e m2 with
        | .ok (.dat y) m3 => if k < sizeLine then (lcD a w t e (k + 1) ds (w m3)).bind fun ys m4 => .ok (y :: ys) m4 else .st
        | .ok (.new o) m3 => if k < sizeLine then (lcD a w t e (k + 1) ds (w m3)).bind fun ys m4 => .ok (o.d :: ys) m4 else .st
        | _ => .st
      | .ok false m2 => lcD a w t e k ds (w m2)
      | _ => .st
/-! the forms -/
def okD : Val → Mem → R Bool := fun v m => opt (rd v m) fun d => opt (truD d) fun b => .ok b m
def varF (i : Nat) : Mem → R Val := fun m => match m[i]? with
  | some (.dat d) => .ok (.dat d) m
  | some (.own _ _) => .ok (.own i) m
  | _ => .st
def binF (o : Bo) (fa fb : Mem → R Val) : Mem → R Val := fun m => (fa m).bind fun x m => (fb m).bind fun y m => opt (rd x m) fun x => opt (rd y m) fun y => opt (binD o x y) fun v => .ok v m
def negF (fa : Mem → R Val) : Mem → R Val := fun m => (fa m).bind fun x m => match x with
  | .dat (.int i) => .ok (.dat (.int (-i))) m
  | _ => .st
def notF (fa : Mem → R Val) : Mem → R Val := fun m => (fa m).bind fun v m => opt (rd v m) fun d => opt (truD d) fun b => .ok (.dat (.bl !b)) m
def notT (ta : Mem → R Bool) : Mem → R Bool := fun m => (ta m).bind fun b m => .ok (!b) m
def cmpF (o : Co) (fa fb : Mem → R Val) : Mem → R Val := fun m => (fa m).bind fun x m => (fb m).bind fun y m => opt (rd x m) fun x => opt (rd y m) fun y => opt (cmpD o x y) fun c => .ok (.dat (.bl c)) m
/-- a value, as a value and as a test -/
structure P where
  v : Mem → R Val
  t : Mem → R Bool
def P.of (f : Mem → R Val) : P := ⟨f, fun m => (f m).bind okD⟩
def chnG : List Co → List P → Val → Mem → R Val
  | [], _, _, _ => .st
  | _, [], _, _ => .st
  | o :: os, b :: bs, x, m => (b.v m).bind fun y m => opt (rd x m) fun x => opt (rd y m) fun y' => opt (cmpD o x y') fun c => if (c && !os.isEmpty) = true then chnG os bs y m else .ok (.dat (.bl c)) m
def chnF (fa : Mem → R Val) (os : List Co) (es : List P) : Mem → R Val := fun m => (fa m).bind fun x m => chnG os es x m
def andF : List P → Mem → R Val
  | [], _ => .st
  | [e], m => e.v m
  | e :: es, m => (e.v m).bind fun v m => match v with
    | .dat (.bl b) => if b = true then andF es m else .ok (.dat (.bl false)) m
    | _ => .st
def orF : List P → Mem → R Val
  | [], _ => .st
  | [e], m => e.v m
  | e :: es, m => (e.v m).bind fun v m => match v with
    | .dat (.bl b) => if b = true then .ok (.dat (.bl true)) m else orF es m
    | _ => .st
def andT : List P → Mem → R Bool
  | [], _ => .st
  | [e], m => e.t m
  | e :: es, m => (e.t m).bind fun b m => if b = true then andT es m else .ok false m
def orT : List P → Mem → R Bool
  | [], _ => .st
  | [e], m => e.t m
  | e :: es, m => (e.t m).bind fun b m => if b = true then .ok true m else orT es m
def ifeF (t : Mem → R Bool) (fa fb : Mem → R Val) : Mem → R Val := fun m => (t m).bind fun c m => if c = true then fa m else fb m
def evsF : List P → Mem → R (List Val)
  | [], m => .ok [] m
  | e :: es, m => (e.v m).bind fun v m => (evsF es m).bind fun vs m => .ok (v :: vs) m
def tupF (es : List P) : Mem → R Val := fun m => (evsF es m).bind fun vs m => opt (dats vs) fun ds => if ds.length ≤ sizeLine then .ok (.dat (.tup ds)) m else .st
def lstF (es : List P) : Mem → R Val := fun m => (evsF es m).bind fun vs m => opt (dats vs) fun ds => if ds.length ≤ sizeLine then .ok (.new (.lst ds)) m else .st
def ixF (fa fb : Mem → R Val) : Mem → R Val := fun m => (fa m).bind fun x m => (fb m).bind fun y m => opt (rd x m) fun x => opt (rd y m) fun y => opt (ixD x y) fun d => .ok (.dat d) m
def partF (o : Option (Mem → R Val)) : Mem → R (Option Int) := fun m => match o with
  | none => .ok none m
  | some f => (f m).bind fun v m => match v with
    | .dat (.int i) => .ok (some i) m
    | _ => .st
def slcF (fa : Mem → R Val) (lo hi : Option (Mem → R Val)) : Mem → R Val := fun m => (fa m).bind fun x m => (partF lo m).bind fun l m => (partF hi m).bind fun h m => opt (rd x m) fun x => opt (slcD x l h) fun v => .ok v m
def fldF (fa : Mem → R Val) (k : Nat) : Mem → R Val := fun m => (fa m).bind fun x m => opt (rd x m) fun x => match x with
  | .ins _ ns ds => opt (fget ns ds k) fun d => .ok (.dat d) m
  | _ => .st
def callF (φ : Fn) (es : List P) : Mem → R Val := fun m => (evsF es m).bind fun vs m => callR φ vs m
def mkF (c : Nat) (φ : Fn) (es : List P) : Mem → R Val := fun m => (evsF es m).bind fun vs m => mkR c φ vs m
def methF (c k : Nat) (φ : Fn) (fo : Mem → R Val) (es : List P) : Mem → R Val := fun m => (fo m).bind fun x m => opt (rd x m) fun d => match d with
  | .ins c' ns _ => if c' = c ∧ ns.contains k = false then (evsF es m).bind fun vs m => callR φ (x :: vs) m else .st
  | _ => .st
def biF (b : Bi) (es : List P) : Mem → R Val := fun m => (evsF es m).bind fun vs m => opt (rds m vs) fun ds => opt (biD b ds) fun v => .ok v m
def isiF (fa : Mem → R Val) (ts : List Ty) : Mem → R Val := fun m => (fa m).bind fun x m => opt (rd x m) fun x => opt (isiD x ts) fun b => .ok (.dat (.bl b)) m
def bmF (b : Bm) (fo : Mem → R Val) (es : List P) : Mem → R Val := fun m => (fo m).bind fun x m => opt (rd x m) fun d => if isTy (bmT b) d = true then (evsF es m).bind fun vs m => opt (dats vs) fun ds => bmD b x ds m else .st
def lcF (vs : List Nat) (tg : Tg) (ik : Ik) (es : List P) (t : Mem → R Bool) (e : Mem → R Val) : Mem → R Val := fun m => (evsF es m).bind fun xs m => opt (dats xs) fun xs => opt (itD ik xs) fun ds => if noOwn m vs = true then
  (lcD (asg tg) (fun m => wipeM m vs) t e 0 ds (wipeM m vs)).bind fun ys m' => .ok (.new (.lst ys)) (backM m m' vs) else .st
def isNop : E → Bool
  | .nop => true
  | _ => false
def yesT : Mem → R Bool := fun m => .ok true m
mutual
def evp : E → P
  | .nop => P.of fun _ => .st
  | .var i => P.of (varF i)
  | .int n => P.of fun m => .ok (.dat (.int n)) m
  | .str x => P.of fun m => .ok (.dat (.str x)) m
  | .bool b => P.of fun m => .ok (.dat (.bl b)) m
  | .non => P.of fun m => .ok (.dat .non) m
  | .cst _ d => P.of fun m => .ok (.dat d) m
  | .bin o a b => P.of (binF o (evp a).v (evp b).v)
  | .neg a => P.of (negF (evp a).v)
  | .not a => ⟨notF (evp a).v, notT (evp a).t⟩
  | .cmp o a b => P.of (cmpF o (evp a).v (evp b).v)
  | .chn a os es => P.of (chnF (evp a).v os (evps es))
  | .band es => ⟨andF (evps es), andT (evps es)⟩
  | .bor es => ⟨orF (evps es), orT (evps es)⟩
  | .ife t a b => ⟨ifeF (evp t).t (evp a).v (evp b).v, fun _ => .st⟩
  | .tup es => P.of (tupF (evps es))
  | .lst es => P.of (lstF (evps es))
  | .ix a b => P.of (ixF (evp a).v (evp b).v)
  | .slc a lo hi => P.of (slcF (evp a).v (if isNop lo = true then none else some (evp lo).v) (if isNop hi = true then none else some (evp hi).v))
  | .fld a k => P.of (fldF (evp a).v k)
  | .call _ φ es => P.of (callF φ (evps es))
  | .mk c _ φ es => P.of (mkF c φ (evps es))
  | .meth c k φ o es => P.of (methF c k φ (evp o).v (evps es))
  | .bi b es => P.of (biF b (evps es))
  | .isi a ts => P.of (isiF (evp a).v ts)
  | .bm b o es => P.of (bmF b (evp o).v (evps es))
  | .lc vs tg ik es t e => P.of (lcF vs tg ik (evps es) (if isNop t = true then yesT else (evp t).t) (evp e).v)
def evps : List E → List P
  | [] => []
  | e :: es => evp e :: evps es
end
def ev (e : E) : Mem → R Val := (evp e).v
def tst (e : E) : Mem → R Bool := (evp e).t
def augB : Bo → D → D → Option D
  | .add, .int i, .int j => some (.int (i + j))
  | .sub, .int i, .int j => some (.int (i - j))
  | _, _, _ => none
def setF' (i : Nat) (f : Mem → R Val) : Mem → R Fl := fun m => (f m).bind fun v m => match v with
  | .dat d => if i < m.length then .ok .nx (m.set i (.dat d)) else .st
  | .new o => if i < m.length then .ok .nx (m.set i (.dat o.d)) else .st
  | .own _ => .st
def setOF (i : Nat) (f : Mem → R Val) : Mem → R Fl := fun m => (f m).bind fun v m => match v with
  | .new o => if i < m.length then .ok .nx (m.set i (.own 0 o)) else .st
  | _ => .st
def setTF (tg : Tg) (f : Mem → R Val) : Mem → R Fl := fun m => (f m).bind fun v m => match v with
  | .dat d => opt (asg tg d m) fun m => .ok .nx m
  | _ => .st
def setFF (i c k : Nat) (f : Mem → R Val) : Mem → R Fl := fun m => (f m).bind fun v m => opt (dats [v]) fun ds0 => match m[i]?, ds0 with
  | some (.own t (.ins c' ns ds)), [d] => if c' = c ∧ ns.length < 999 ∧ ns.length = ds.length ∧ ns.contains k = false then .ok .nx (m.set i (.own t (.ins c (ns ++ [k]) (ds ++ [d])))) else .st
  | _, _ => .st
def setIF (i : Nat) (fx f : Mem → R Val) : Mem → R Fl := fun m => (f m).bind fun v m => opt (dats [v]) fun ds0 => match m[i]? with
  | some (.own _ _) => (fx m).bind fun y m => match y, m[i]?, ds0 with
    | .dat (.int k), some (.own t (.lst ds)), [d] => opt (ixN ds.length k) fun j => .ok .nx (m.set i (.own t (.lst (ds.set j d))))
    | _, _, _ => .st
  | _ => .st
def augF (i : Nat) (o : Bo) (f : Mem → R Val) : Mem → R Fl := fun m => match m[i]? with
  | some (.dat a) => (f m).bind fun v m => opt (rd v m) fun b => opt (augB o a b) fun d => .ok .nx (m.set i (.dat d))
  | _ => .st
def retF (f : Mem → R Val) : Mem → R Fl := fun m => (f m).bind fun v m => .ok (.rt v) m
def ifF (t : Mem → R Bool) (a b : Mem → R Fl) : Mem → R Fl := fun m => (t m).bind fun c m => if c = true then a m else b m
def forF (tg : Tg) (ik : Ik) (es : List P) (b : Mem → R Fl) : Mem → R Fl := fun m => (evsF es m).bind fun xs m => opt (dats xs) fun xs => opt (itD ik xs) fun ds => forD (asg tg) b ds m
def expF (f : Mem → R Val) : Mem → R Fl := fun m => (f m).bind fun _ m => .ok .nx m
def frzF (i : Nat) : Mem → R Fl := fun m => match m[i]? with
  | some (.own 0 o) => .ok .nx (m.set i (.dat o.d))
  | _ => .ok .nx m
def seqF (a b : Mem → R Fl) : Mem → R Fl := fun m => (a m).bind fun f m => match f with
  | .nx => b m
  | f => .ok f m
mutual
def exec : S → Mem → R Fl
  | .set i e => setF' i (ev e)
  | .setO i e => setOF i (ev e)
  | .setT tg e => setTF tg (ev e)
  | .setF i c k e => setFF i c k (ev e)
  | .setI i x e => setIF i (ev x) (ev e)
  | .aug i o e => augF i o (ev e)
  | .ret e => retF (ev e)
  | .retN => fun m => .ok (.rt (.dat .non)) m
  | .ife t a b => ifF (tst t) (execs a) (execs b)
  | .for tg ik es b => forF tg ik (evps es) (execs b)
  | .whl n t b => whlD (tst t) (execs b) n
  | .exp e => expF (ev e)
  | .brk => fun m => .ok .bk m
  | .cnt => fun m => .ok .ct m
  | .pas => fun m => .ok .nx m
  | .nev => fun _ => .st
  | .frz i => frzF i
def execs : List S → Mem → R Fl
  | [] => fun m => .ok .nx m
  | s :: ss => seqF (exec s) (execs ss)
end
/-- the objects handed in, behind the body -/
def iosOf : Nat → List Arg → Mem → Option (List O)
  | _, [], _ => some []
  | j, .d _ :: r, m => iosOf (j + 1) r m
  | j, .io _ :: r, m => match m[j]? with
    | some (.own t o) => if t = j + 1 then (iosOf (j + 1) r m).map (o :: ·) else none
    | _ => none
def fin (as : List Arg) (v : Val) (m : Mem) : FR := match iosOf 0 as m with
  | none => .st
  | some os => match v with
    | .own i => match m[i]? with
      | some (.own 0 o) => .ok (.new o) os
      | _ => .st
    | v => .ok v os
def run (np nl : Nat) (b : List S) : Fn := fun as => if as.length = np then match execs b (slots 0 as ++ List.replicate (nl - np) .un) with
  | .ok .nx m => fin as (.dat .non) m
  | .ok (.rt v) m => fin as v m
  | .ok _ _ => .st
  | .ex c x m => match iosOf 0 as m with
    | none => .st
    | some os => .ex c x os
  | .st => .st
  else .st

/-! ### the look: is this the text? -/
structure Sy where
  gn : Nat → Str
  fn : Nat → Str
def boE : Bo → Operator → Bool
  | .add, .Add => true
  | .sub, .Sub => true
  | .mul, .Mult => true
  | .fdiv, .FloorDiv => true
  | .mod, .Mod => true
  | .pow, .Pow => true
  | _, _ => false
def coE : Co → CmpOp → Bool
  | .eq, .Eq => true
  | .ne, .NotEq => true
  | .lt, .Lt => true
  | .le, .LtE => true
  | .gt, .Gt => true
  | .ge, .GtE => true
  | .is, .Is => true
  | .isn, .IsNot => true
  | .inn, .In => true
  | .nin, .NotIn => true
  | _, _ => false
def biN : Bi → String
  | .len => "len"
  | .int => "int"
  | .abs => "abs"
  | .min => "min"
  | .max => "max"
  | .sum => "sum"
  | .sorted => "sorted"
  | .list => "list"
  | .tuple => "tuple"
  | .isqrt => "isqrt"
  | .str => "str"
def bmN : Bm → String
  | .pop => "pop"
  | .append => "append"
  | .reverse => "reverse"
  | .index => "index"
  | .count => "count"
def glB (sc : Scope) (x : Str) : Bool := decide (sc.names.lookup x = some .globalImplicit) && !(x == ("__debug__" : Str)) && !(x == ("__name__" : Str))
def visB (N : List Str) (sc : Scope) (i : Nat) (x : Str) : Bool := decide (N[i]? = some x) && (decide (sc.names.lookup x = some .local) || decide (sc.names.lookup x = some .cell) || decide (sc.names.lookup x = some .free)) && !(x == ("__debug__" : Str)) && !(x == ("__classdict__" : Str))
def locB (N : List Str) (sc : Scope) (i : Nat) (x : Str) : Bool := decide (N[i]? = some x) && (decide (sc.names.lookup x = some .local) || decide (sc.names.lookup x = some .cell))
def tgB (N : List Str) (sc : Scope) : Tg → Expr → Bool
  | .one i, .Name x _ => locB N sc i x
  | .tup is, .Tuple es _ _ => tgsB N sc is es
  | _, _ => false
where tgsB (N : List Str) (sc : Scope) : List Nat → List Expr → Bool
  | [], [] => true
  | i :: is, .Name x _ :: es => locB N sc i x && tgsB N sc is es
  | _, _ => false
def ikB (N : List Str) (sc : Scope) (ik : Ik) (it : Expr) : Option (List Expr) := match ik, it with
  | .rng1, .Call (.Name x _) [a] [] _ => if glB sc x && decide (x = "range") then some [a] else none
  | .rng2, .Call (.Name x _) [a, b] [] _ => if glB sc x && decide (x = "range") then some [a, b] else none
  | .enum, .Call (.Name x _) [a] [] _ => if glB sc x && decide (x = "enumerate") then some [a] else none
  | .zip, .Call (.Name x _) [a, b] [] _ => if glB sc x && decide (x = "zip") then some [a, b] else none
  | .seq, e => some [e]
  | _, _ => none
def ikTg : Ik → Tg → Bool
  | .enum, .one _ => false
  | .zip, .one _ => false
  | _, _ => true
def tgL : Tg → List Nat
  | .one i => [i]
  | .tup is => is
def tysB (sc : Scope) : List Ty → List Expr → Bool
  | [], [] => true
  | t :: ts, .Name x _ :: es => glB sc x && decide (x = tyN t) && tysB sc ts es
  | _, _ => false
def notCall0 : Expr → Bool
  | .Call _ [] _ _ => false
  | _ => true
def scIn (N : List Str) (sc sc' : Scope) (vs : List Nat) : Option (List (Str × Nat)) :=
  let own := vs.filterMap fun i => N[i]?.map fun x => (x, i)
  if own.map (·.2) = vs ∧ blkC N sc sc' own = true then some own else none
def cosB : List Co → List CmpOp → Bool
  | [], [] => true
  | o :: os, p :: ps => coE o p && cosB os ps
  | _, _ => false
mutual
def cE (Y : Sy) (N : List Str) (sc : Scope) : E → Expr → Bool
  | .var i, .Name x _ => visB N sc i x
  | .int n, .Constant (.int k) _ _ => decide (n = k)
  | .str x, .Constant (.str y) _ _ => decide (x = y)
  | .bool b, .Constant (.bool c) _ _ => decide (b = c)
  | .non, .Constant .none _ _ => true
  | .cst g _, .Name x _ => glB sc x && decide (Y.gn g = x)
  | .bin o a b, .BinOp l op r _ => boE o op && cE Y N sc a l && cE Y N sc b r
  | .neg a, .UnaryOp .USub e _ => cE Y N sc a e
  | .not a, .UnaryOp .Not e _ => cE Y N sc a e
  | .cmp o a b, .Compare l [op] [r] _ => coE o op && cE Y N sc a l && cE Y N sc b r
  | .chn a os es, .Compare l ops rs _ => decide (2 ≤ ops.length) && decide (ops.length = rs.length) && cosB os ops && cE Y N sc a l && cEs Y N sc es rs
  | .band es, .BoolOp .And vs _ => cEs Y N sc es vs
  | .bor es, .BoolOp .Or vs _ => cEs Y N sc es vs
  | .ife t a b, .IfExp t' a' b' _ => cE Y N sc t t' && cE Y N sc a a' && cE Y N sc b b'
  | .tup es, .Tuple vs _ _ => cEs Y N sc es vs
  | .lst es, .List vs _ => cEs Y N sc es vs
  | .ix a b, .Subscript l r _ => cE Y N sc a l && cE Y N sc b r
  | .slc a lo hi, .Subscript l (.Slice lo' hi' none _) _ => cE Y N sc a l && (match lo' with | none => isNop lo | some x => !isNop lo && cE Y N sc lo x) && (match hi' with | none => isNop hi | some x => !isNop hi && cE Y N sc hi x)
  | .fld a k, .Attribute e f _ => decide (Y.fn k = f) && notCall0 e && cE Y N sc a e
  | .call f _ es, .Call (.Name x _) as [] _ => glB sc x && decide (Y.gn f = x) && cEs Y N sc es as
  | .mk c _ _ es, .Call (.Name x _) as [] _ => glB sc x && decide (Y.gn c = x) && cEs Y N sc es as
  | .meth _ k _ o es, .Call (.Attribute e f apos) as [] pos => decide (Y.fn k = f) && notCall0 e && apos.endLine == pos.line && decide (as.length < 29) && cE Y N sc o e && cEs Y N sc es as
  | .bi b es, .Call (.Name x _) as [] _ => glB sc x && decide (x = biN b) && !as.isEmpty && cEs Y N sc es as
  | .isi a [t], .Call (.Name x _) [e, .Name y _] [] _ => glB sc x && decide (x = "isinstance") && glB sc y && decide (y = tyN t) && cE Y N sc a e
  | .isi a (t :: t' :: ts), .Call (.Name x _) [e, .Tuple es _ _] [] _ => glB sc x && decide (x = "isinstance") && decide ((t :: t' :: ts).length ≤ sizeLine) && tysB sc (t :: t' :: ts) es && cE Y N sc a e
  | .bm b o es, .Call (.Attribute e f apos) as [] pos => mutB b && decide (f = bmN b) && notCall0 e && apos.endLine == pos.line && decide (as.length < 29) && cE Y N sc o e && cEs Y N sc es as
  | .lc vs tg ik es t e, .ListComp e' [⟨tg', it, ifs, 0⟩] sc' _ => match ikB N sc ik it, scIn N sc sc' vs with
    | some is, some _ => ikTg ik tg && (tgL tg).all (fun i => vs.contains i) && cEs Y N sc es is && tgB N sc' tg tg' && (match ifs with | [] => isNop t | [x] => !isNop t && cE Y N sc' t x | _ => false) && cE Y N sc' e e'
    | _, _ => false
  | _, _ => false
def cEs (Y : Sy) (N : List Str) (sc : Scope) : List E → List Expr → Bool
  | [], [] => true
  | a :: es, e :: vs => cE Y N sc a e && cEs Y N sc es vs
  | _, _ => false
end
def isLc : Expr → Bool
  | .ListComp .. => true
  | .SetComp .. => true
  | .DictComp .. => true
  | _ => false
/-- name = [..] on one line, the name a local that is no name of the comprehension: it is stored in the comprehension's frame -/
def swapB (sc : Scope) (y : Str) (py : Pos) : Expr → Bool
  | .ListComp _ _ s p => decide (sc.names.lookup y = some .local) && py.line == p.line && !(s.names.any fun (n, k) => n == y && (k == .local || k == .cell))
  | _ => false
def starB : Expr → Bool
  | .Starred .. => true
  | _ => false
def nmS (sc : Scope) (ts : List Expr) : List Str := ts.filterMap fun e => match e with
  | .Name id pos => if sc.names.lookup id == some .local && pos.line == (ts.head?.map (·.pos.line)).getD 0 then some id else none
  | _ => none
/-- are the stores swapped? (none: not told) -/
def swN (sc : Scope) (ts vs : List Expr) : Option (Option (List Str)) :=
  if (!(ts.length == 2 || ts.length == 3) || vs.length != ts.length) = true then some none else
  if vs.any starB = true then some none else
  if ((nmS sc ts).length != ts.length || (nmS sc ts).eraseDups.length != (nmS sc ts).length) = true then some none else
  if vs.all (foldedForSure 8) = true then some none else
  if vs.all (constantsAlone 8) = true then none else some (some (nmS sc ts))
def nmsOf : List Expr → List Str
  | .Name x _ :: r => x :: nmsOf r
  | _ :: r => nmsOf r
  | [] => []
def augOk : Bo → Bool
  | .add => true
  | .sub => true
  | _ => false
def lclB (sc : Scope) : Expr → Bool
  | .Name x _ => decide (sc.names.lookup x = some .local)
  | _ => false
/-! parts of statements -/
def deA : Stmt → Option (Expr × Expr × Pos)
  | .Assign [t] v p => some (t, v, p)
  | _ => none
def deG : Stmt → Option (Expr × Operator × Expr × Pos)
  | .AugAssign t o v p => some (t, o, v, p)
  | _ => none
def deR : Stmt → Option (Option Expr × Pos)
  | .Return v p => some (v, p)
  | _ => none
def deI : Stmt → Option (Expr × List Stmt × List Stmt × Pos)
  | .If t a b p => some (t, a, b, p)
  | _ => none
def deF : Stmt → Option (Expr × Expr × List Stmt × Pos)
  | .For t i b [] p => some (t, i, b, p)
  | _ => none
def deW : Stmt → Option (Expr × List Stmt × Pos)
  | .While t b [] p => some (t, b, p)
  | _ => none
def deX : Stmt → Option (Expr × Pos)
  | .Expr v p => some (v, p)
  | _ => none
def deK : Stmt → Option (Nat × Pos)
  | .Break p => some (0, p)
  | .Continue p => some (1, p)
  | .Pass p => some (2, p)
  | _ => none
def deN : Expr → Option (Str × Pos)
  | .Name x p => some (x, p)
  | _ => none
def deT : Expr → Option (List Expr × Nat × Pos)
  | .Tuple es k p => some (es, k, p)
  | _ => none
def deB : Expr → Option (Expr × Str × Pos)
  | .Attribute e f p => some (e, f, p)
  | _ => none
def deS : Expr → Option (Expr × Expr × Pos)
  | .Subscript e i p => some (e, i, p)
  | _ => none
def tupE : E → List E
  | .tup es => es
  | _ => []
def isTupE : E → Bool
  | .tup _ => true
  | _ => false
mutual
def cS (Y : Sy) (N : List Str) (sc : Scope) : S → Stmt → Bool
  | .set i e, x => (deA x).any fun (t, v, _) => (deN t).any fun (y, p) => locB N sc i y && (!isLc v || swapB sc y p v) && cE Y N sc e v
  | .setO i e, x => (deA x).any fun (t, v, _) => (deN t).any fun (y, p) => locB N sc i y && (!isLc v || swapB sc y p v) && cE Y N sc e v
  | .setT tg e, x => (deA x).any fun (t, v, _) => (deT t).any fun (ts, _, _) => tgB N sc tg t && (match deT v with
    | some (vs, _, _) => (swN sc ts vs).any fun r => (match r with
      | none => cE Y N sc e v
      | some ns => decide (ns = nmsOf ts) && nodupB (tgL tg) && ts.all (lclB sc) && isTupE e && cE Y N sc e v)
    | none => !isLc v && cE Y N sc e v)
  | .setF i _ k e, x => (deA x).any fun (t, v, _) => (deB t).any fun (o, f, _) => (deN o).any fun (y, _) => visB N sc i y && decide (Y.fn k = f) && !isLc v && cE Y N sc e v
  | .setI i fx e, x => (deA x).any fun (t, v, _) => (deS t).any fun (o, j, _) => (deN o).any fun (y, _) => visB N sc i y && !isLc v && cE Y N sc fx j && cE Y N sc e v
  | .aug i o e, x => (deG x).any fun (t, op, v, _) => (deN t).any fun (y, _) => augOk o && locB N sc i y && boE o op && cE Y N sc e v
  | .ret e, x => (deR x).any fun (v, _) => v.any fun v => cE Y N sc e v
  | .retN, x => (deR x).any fun (v, _) => v.isNone
  | .ife t a b, x => (deI x).any fun (t', a', b', _) => cE Y N sc t t' && cSs Y N sc a a' && cSs Y N sc b b'
  | .for tg ik es b, x => (deF x).any fun (t, it, b', _) => (ikB N sc ik it).any fun is => ikTg ik tg && cEs Y N sc es is && tgB N sc tg t && cSs Y N sc b b'
  | .whl _ t b, x => (deW x).any fun (t', b', _) => cE Y N sc t t' && cSs Y N sc b b'
  | .exp e, x => (deX x).any fun (v, _) => !isLc v && cE Y N sc e v
  | .brk, x => (deK x).any fun (n, _) => n == 0
  | .cnt, x => (deK x).any fun (n, _) => n == 1
  | .pas, x => (deK x).any fun (n, _) => n == 2
  | .nev, _ => true
  | .frz _, _ => false
def cSs (Y : Sy) (N : List Str) (sc : Scope) : List S → List Stmt → Bool
  | [], xs => xs.isEmpty
  | s :: ss, xs => match s with
    | .frz _ => cSs Y N sc ss xs
    | s => (match xs with
      | x :: xs => cS Y N sc s x && cSs Y N sc ss xs
      | [] => false)
end
end G

set_option maxRecDepth 100000
set_option maxHeartbeats 4000000
/-! G3: expressions -/
namespace G
open PySem PySem.Spec PyProof.Rows L2

section
variable {C : Cn} {ρ : Nat → Addr} {E : XK} {G H G1 H1 G' H' : Hp} {σ : L2.St} {m m' : Mem} {W W1 W' : Addr → Prop}
theorem VS.read {v : V} {a : Val} {d : D} (s : SR C ρ G H σ m) (h : VS C G σ v a) (e : rd a m = some d) : Rq C G H v d := by
  cases a with
  | dat d' => cases e; exact .inl h
  | new o => cases e; exact .inl h
  | own i =>
    unfold rd at e
    dsimp only at e
    split at e
    · rename_i t o q
      cases e
      obtain ⟨l, h1, h2, h3, h4⟩ := s.own i t o q
      have h' : σ[i]? = some (some v) := h
      rw [h1] at h'
      cases h'
      exact .inr ⟨l, o, rfl, h3, rfl⟩
    · cases e

theorem opt_st {α β : Type} {ok0 : Hp → Hp → Mem → β → α → Prop} {Q : α → Hp → Prop} {γ : Type} {o : Option γ} {f : γ → R β} (h : Res C ρ E G H W σ ok0 (opt o f) Q) : ∃ a, o = some a ∧ Res C ρ E G H W σ ok0 (f a) Q := by
  cases o with
  | none => exact False.elim h
  | some a => exact ⟨a, rfl, h⟩
theorem ite_st {α β : Type} {ok0 : Hp → Hp → Mem → β → α → Prop} {Q : α → Hp → Prop} {c : Prop} [Decidable c] {r : R β} (h : Res C ρ E G H W σ ok0 (if c then r else .st) Q) : c ∧ Res C ρ E G H W σ ok0 r Q := by
  by_cases hc : c
  · rw [if_pos hc] at h
    exact ⟨hc, h⟩
  · rw [if_neg hc] at h
    exact False.elim h

/-- two values one behind the other -/
theorem two {fa fb : Mem → R Val} {r : R2} {k : Val → Val → Mem → R Val}
    (hk : ∀ (G H : Hp) (W : Addr → Prop) (σ : L2.St) (m : Mem) (G1 H1 : Hp) (x y : V) (a b : Val) (Q : VK), Fr G H W G1 H1 (Own σ m) → SR C ρ G1 H1 σ m → VS C G1 σ x a → VS C G1 σ y b → Res C ρ E G H W σ (okV C σ H) (k a b m) Q → r x y H1 Q) :
    ∀ σ H Q, tX C ρ E (fun m => (fa m).bind fun a m => (fb m).bind fun b m => k a b m) σ H Q → tOp r (tX C ρ E fa) (tX C ρ E fb) σ H Q := by
  rintro σ H Q ⟨G, m, s, h⟩
  refine ⟨G, m, s, Res.step Fr.refl h fun a m1 G1 H1 x ea f1 f1b s1 o1 h1 => ?_⟩
  obtain ⟨G1', e1, f1', s1', v1⟩ := settle f1 s1 o1 fun p q => q
  refine ⟨G1', m1, s1', Res.step f1' h1 fun b m2 G2 H2 y eb f2 f2b s2 o2 h2 => ?_⟩
  obtain ⟨G2', e2, f2', s2', v2⟩ := settle f2b s2 o2 fun p q => f1'.back q
  exact hk _ _ _ _ _ _ _ _ _ _ _ _ f2' s2' (v1.up (f2.g.trans e2)) v2 h2

/-- an operation on two data -/
def OpS (C : Cn) (ρ : Nat → Addr) (f : D → D → Option Val) (r : R2) : Prop := ∀ (G H : Hp) (W : Addr → Prop) (σ : L2.St) (m : Mem) (G1 H1 : Hp) (x y : V) (dx dy : D) (val : Val) (Q : VK),
  Fr G H W G1 H1 (Own σ m) → SR C ρ G1 H1 σ m → Rq C G1 H1 x dx → Rq C G1 H1 y dy → f dx dy = some val → (∀ G' H' v, Fr G H W G' H' (Own σ m) → SR C ρ G' H' σ m → VOk C G' H' σ m H v val → Q v H') → r x y H1 Q
theorem two_op {fa fb : Mem → R Val} {r : R2} {f : D → D → Option Val} (hf : OpS C ρ f r) :
    ∀ σ H Q, tX C ρ E (fun m => (fa m).bind fun x m => (fb m).bind fun y m => opt (rd x m) fun x => opt (rd y m) fun y => opt (f x y) fun v => .ok v m) σ H Q → tOp r (tX C ρ E fa) (tX C ρ E fb) σ H Q :=
  two fun G H W σ m G1 H1 x y a b Q fr s va vb h => by
    obtain ⟨dx, ex, h⟩ := opt_st h
    obtain ⟨dy, ey, h⟩ := opt_st h
    obtain ⟨val, ev, h⟩ := opt_st h
    exact hf G H W σ m G1 H1 x y dx dy val Q fr s (va.read s ex) (vb.read s ey) ev fun G' H' v f' s' o' => h G' H' v f' s' o'

/-- one value -/
theorem oneV {fa : Mem → R Val} {r : V → Hp → VK → Prop} {k : Val → Mem → R Val}
    (hk : ∀ (G H : Hp) (W : Addr → Prop) (σ : L2.St) (m : Mem) (G1 H1 : Hp) (x : V) (a : Val) (Q : VK), Fr G H W G1 H1 (Own σ m) → SR C ρ G1 H1 σ m → VS C G1 σ x a → Res C ρ E G H W σ (okV C σ H) (k a m) Q → r x H1 Q) :
    ∀ σ H Q, tX C ρ E (fun m => (fa m).bind k) σ H Q → tX C ρ E fa σ H fun x H1 => r x H1 Q := by
  rintro σ H Q ⟨G, m, s, h⟩
  refine ⟨G, m, s, Res.step Fr.refl h fun a m1 G1 H1 x ea f1 f1b s1 o1 h1 => ?_⟩
  obtain ⟨G1', e1, f1', s1', v1⟩ := settle f1 s1 o1 fun p q => q
  exact hk _ _ _ _ _ _ _ _ _ _ f1' s1' v1 h1
theorem oneB {fa : Mem → R Val} {r : V → Hp → (Bool → Hp → Prop) → Prop} {k : Val → Mem → R Bool}
    (hk : ∀ (G H : Hp) (W : Addr → Prop) (σ : L2.St) (m : Mem) (G1 H1 : Hp) (x : V) (a : Val) (Q : Bool → Hp → Prop), Fr G H W G1 H1 (Own σ m) → SR C ρ G1 H1 σ m → VS C G1 σ x a → Res C ρ E G H W σ okB (k a m) Q → r x H1 Q) :
    ∀ σ H Q, tXT C ρ E (fun m => (fa m).bind k) σ H Q → tX C ρ E fa σ H fun x H1 => r x H1 Q := by
  rintro σ H Q ⟨G, m, s, h⟩
  refine ⟨G, m, s, Res.step Fr.refl h fun a m1 G1 H1 x ea f1 f1b s1 o1 h1 => ?_⟩
  obtain ⟨G1', e1, f1', s1', v1⟩ := settle f1 s1 o1 fun p q => q
  exact hk _ _ _ _ _ _ _ _ _ _ f1' s1' v1 h1
end

/-! ### operators -/
section
variable {X : Cx} {C : Cn} {ρ : Nat → Addr} {E : XK} {pos : Pos}
theorem Inv.lstX {pins : List (Addr × Obj)} {σ : L2.St} {H : Hp} {s : Shared} {a : Addr} {xs : List V} (I : Inv X pins σ H s) (h : SqX X.K H a xs) : ∃ (its : List Value) (n : Nat), Vals xs its ∧ xs.length ≤ sizeLine ∧ s.heap.get? a = some { cls := .type "list", data := .seq its.toArray n } := by
  rcases h with h | ⟨its, n, h1, h2, h3⟩
  · obtain ⟨z, its, n, r, e⟩ := h.ok I.hok
    exact ⟨its, n, r, z, e⟩
  · refine ⟨its, n, h3, ?_, I.kIn a _ h1⟩
    rw [h3.length]
    exact h2
def rCatX (K : PySem.W.Frag) : R2 := fun x y H Q => ∃ l b xs zs, x = .ref l ∧ y = .ref b ∧ SqX K H l xs ∧ SqX K H b zs ∧ xs.length + zs.length ≤ sizeLine ∧ ∀ p, H p = none → Q (.ref p) (upd H p (.lst (xs ++ zs)))
theorem op_catX : OpR X (binaryOp .Add) (rCatX X.K) := by
  intro pins s σ H x y v u Q I rx ry h
  obtain ⟨l, b, xs, zs, rfl, rfl, hH, hB, hz, q⟩ := h
  cases rx
  cases ry
  obtain ⟨its, n, r, z, e⟩ := Inv.lstX I hH
  obtain ⟨its2, n2, r2, z2, e2⟩ := Inv.lstX I hB
  have hl := r.length
  have hl2 := r2.length
  refine PySem.P.add_list e e2 ?_ (by rw [List.size_toArray, List.size_toArray]; omega)
  have ea : its.toArray ++ its2.toArray = (its ++ its2).toArray := by simp
  rw [ea]
  exact ⟨.ref _, _, I.lnew (t' := s.toks) (r.append r2) (by rw [List.length_append]; omega), rfl, q _ I.fresh⟩
def rRepX (K : PySem.W.Frag) : R2 := fun x y H Q => ∃ l k xs, x = .ref l ∧ y = .int k ∧ SqX K H l xs ∧ -(2 ^ 63) ≤ k ∧ k < 2 ^ 63 ∧ xs.length * k.toNat ≤ sizeLine ∧
  ∀ p, H p = none → Q (.ref p) (upd H p (.lst (List.replicate k.toNat xs).flatten))
def rAddS2 : R2 := fun x y H Q => ∃ i j, x = .str i ∧ y = .str j ∧ i.length + j.length ≤ sizeLine ∧ Q (.str (i ++ j)) H
def CMulX (i j : Int) : Prop := mulOk i j = true
theorem CMulX.ok {i j : Int} (h : CMulX i j) : IntMulOk i j := by
  have b : ∀ x : Int, Builtin.Int.intBits x ≤ x.natAbs.log2 + 1 := fun x => by
    unfold Builtin.Int.intBits
    split <;> omega
  have h1 := b i
  have h2 := b j
  have h3 : i.natAbs.log2 + j.natAbs.log2 < 100000000 := of_decide_eq_true h
  have e : bitsLine = 134217728 := by decide
  unfold IntMulOk
  intro z
  rw [Bool.and_eq_true] at z
  have z2 := z.2
  unfold Builtin.Int.intTooBig at z2
  have z3 := of_decide_eq_true z2
  rw [e] at z3
  omega
theorem op_mulX : OpR X (binaryOp .Mult) (rI CMulX fun i j => .int (i * j)) := opI fun _ _ _ _ _ _ _ hc q => mul_int q hc.ok
theorem no_val {P : Prop} {val : Val} (e : (none : Option Val) = some val) : P := nomatch e
theorem rep_fold (its : List Value) (k : Nat) : List.foldl (fun x1 x2 => x1 ++ x2) #[] (List.replicate (if its.toArray.isEmpty = true then 0 else k) its.toArray) = (List.replicate k its).flatten.toArray := by
  have z : ∀ n : Nat, List.foldl (fun x1 x2 => x1 ++ x2) #[] (List.replicate n its.toArray) = (List.replicate n its).flatten.toArray := fun n => (foldl_rep its n []).trans (by rw [List.nil_append])
  rw [z]
  cases its <;> simp
theorem op_repX : OpR X (binaryOp .Mult) (rRepX X.K) := by
  rintro pins s σ H x y v u Q I rx ry ⟨l, k, xs, rfl, rfl, hH, h1, h2, hz, q⟩
  cases rx
  obtain ⟨t, rfl⟩ := ry
  obtain ⟨its, n, r, z, e⟩ := Inv.lstX I hH
  have hl : its.toArray.size * k.toNat ≤ sizeLine := by
    rw [List.size_toArray, ← r.length]
    exact hz
  have hs : sizeLine = 16777216 := sizeLine_eq
  have c1 : ¬ its.toArray.size * k.toNat > (2 ^ 63 - 1) / 8 := by omega
  have c2 : ¬ (!Builtin.List.listFitsIndex k) = true := by simp [fitsIndex_both h1 h2]
  have c3 : ¬ Builtin.List.listTooLong (its.toArray.size * k.toNat) = true := by rw [notLongL hl]; exact Bool.false_ne_true
  have inner := AutoListH.list___mul___list_int_3 l its.toArray n k t c2 c1 c3
  refine wpAny_binaryOp_repeat_ref (T := "list") (U := "int") (by decide) ⟨_, e, rfl⟩ (fun _ => typeIs_int _ k t) noFill_list_mul F.fills_int_mul F.slot_int_rmul repeat_list F.slot_int_index.lookup ?_
  refine call_meets F.slot_int_rmul (typeIs_int s k t) F.entry_int_rmul (F.args_int_rmul_2 _ _) (int___rmul___int_list k t l its.toArray n) ⟨e, rfl, ⟨_, e, rfl⟩, ?_⟩
  refine call_meets F.slot_list_mul ⟨_, e, rfl⟩ F.entry_list_mul (F.args_list_mul_2 _ _) inner ⟨e, ?_⟩
  rw [rep_fold]
  exact ⟨.ref _, _, I.lnew (t' := s.toks) (r.rep k.toNat) (by rw [lm_len_rep_flat, Nat.mul_comm]; exact hz), rfl, q _ I.fresh⟩

/-- what each operator asks -/
def rB (K : PySem.W.Frag) : Bo → R2
  | .add => fun x y H Q => rI0 (fun i j => .int (i + j)) x y H Q ∨ (rAddS2 x y H Q ∨ rCatX K x y H Q)
  | .sub => rI0 fun i j => .int (i - j)
  | .mul => fun x y H Q => rI CMulX (fun i j => .int (i * j)) x y H Q ∨ rRepX K x y H Q
  | .fdiv => rI CDivW fun i j => .int (i / j)
  | .mod => rI (fun _ j => 0 < j) fun i j => .int (i % j)
  | .pow => rI CPow fun i j => .int (i ^ j.toNat)
theorem op_B : ∀ {o : Bo} {op : Operator}, boE o op = true → OpR X (binaryOp op) (rB X.K o) := by
  intro o op h
  cases o <;> cases op <;> first
    | exact absurd h Bool.false_ne_true
    | exact op_add.or (op_add_str.or op_catX)
    | exact op_sub
    | exact op_mulX.or op_repX
    | exact op_fdivW
    | exact op_mod
    | exact op_pow
theorem RpL.rep {G : Hp} {xs : List V} {ds : List D} (h : RpL C G xs ds) : ∀ k : Nat, RpL C G (List.replicate k xs).flatten (List.replicate k ds).flatten
  | 0 => .nil
  | k + 1 => by
    rw [List.replicate_succ, List.flatten_cons, List.replicate_succ, List.flatten_cons]
    exact h.app (RpL.rep h k)
theorem binS (hK : X.K = C.K) (o : Bo) : OpS C ρ (binD o) (rB X.K o) := by
  intro G H W σ m G1 H1 x y dx dy val Q f s rx ry e q
  have fi : ∀ {i : Int}, some (Val.dat (.int i)) = some val → Q (.int i) H1 := fun {i} e => by
    cases e
    exact q G1 H1 _ f s (.int i)
  cases o
  case add =>
    cases dx <;> cases dy <;> first
      | exact no_val e
      | skip
    case int.int i j => exact .inl ⟨i, j, rx.int, ry.int, fi e⟩
    case str.str a b =>
      by_cases hz : a.length + b.length ≤ sizeLine
      · have e' : some (Val.dat (.str (a ++ b))) = some val := (if_pos hz).symm.trans e
        cases e'
        exact .inr (.inl ⟨a, b, rx.str, ry.str, hz, q G1 H1 _ f s (.str _)⟩)
      · exact no_val ((if_neg hz).symm.trans e)
    case lst.lst as bs =>
      by_cases hz : as.length + bs.length ≤ sizeLine
      · have e' : some (Val.new (.lst (as ++ bs))) = some val := (if_pos hz).symm.trans e
        cases e'
        obtain ⟨a, xs, e1, h1, r1⟩ := rx.lst s.sub
        obtain ⟨b, ys, e2, h2, r2⟩ := ry.lst s.sub
        rw [hK]
        exact .inr (.inr ⟨a, b, xs, ys, e1, e2, h1, h2, by rw [r1.len, r2.len]; exact hz, fun p hp => fin_new f s hp (r1.app r2) q⟩)
      · exact no_val ((if_neg hz).symm.trans e)
  case sub =>
    cases dx <;> cases dy <;> first
      | exact no_val e
      | skip
    case int.int i j => exact ⟨i, j, rx.int, ry.int, fi e⟩
  case mul =>
    cases dx <;> cases dy <;> first
      | exact no_val e
      | skip
    case int.int i j =>
      by_cases hz : mulOk i j = true
      · exact .inl ⟨i, j, rx.int, ry.int, hz, fi ((if_pos hz).symm.trans e)⟩
      · exact no_val ((if_neg hz).symm.trans e)
    case lst.int as k =>
      by_cases hz : -(2 ^ 63) ≤ k ∧ k < 2 ^ 63 ∧ as.length * k.toNat ≤ sizeLine
      · have e' : some (Val.new (.lst (List.replicate k.toNat as).flatten)) = some val := (if_pos hz).symm.trans e
        cases e'
        obtain ⟨a, xs, e1, h1, r1⟩ := rx.lst s.sub
        rw [hK]
        exact .inr ⟨a, k, xs, e1, ry.int, h1, hz.1, hz.2.1, by rw [r1.len]; exact hz.2.2, fun p hp => fin_new f s hp (RpL.rep r1 _) q⟩
      · exact no_val ((if_neg hz).symm.trans e)
  case fdiv =>
    cases dx <;> cases dy <;> first
      | exact no_val e
      | skip
    case int.int i j =>
      by_cases hz : 0 < j ∧ j.natAbs.log2 < 9000
      · exact ⟨i, j, rx.int, ry.int, hz, fi ((if_pos hz).symm.trans e)⟩
      · exact no_val ((if_neg hz).symm.trans e)
  case mod =>
    cases dx <;> cases dy <;> first
      | exact no_val e
      | skip
    case int.int i j =>
      by_cases hz : 0 < j
      · exact ⟨i, j, rx.int, ry.int, hz, fi ((if_pos hz).symm.trans e)⟩
      · exact no_val ((if_neg hz).symm.trans e)
  case pow =>
    cases dx <;> cases dy <;> first
      | exact no_val e
      | skip
    case int.int i j =>
      by_cases hz : 0 ≤ j ∧ j ≤ 1000000 ∧ i.natAbs < 2 ^ 64
      · exact ⟨i, j, rx.int, ry.int, hz, fi ((if_pos hz).symm.trans e)⟩
      · exact no_val ((if_neg hz).symm.trans e)
/-- a op b -/
theorem pe_binG {o : Bo} {op : Operator} {l r : Expr} {fa fb : Mem → R Val} (hK : X.K = C.K) (h : boE o op = true) (ha : PE X l (tX C ρ E fa)) (hb : PE X r (tX C ρ E fb)) :
    PE X (.BinOp l op r pos) (tX C ρ E (binF o fa fb)) :=
  PE.of (pe_op (op_B h) ha hb) (two_op (binS hK o))
theorem pe_negG {a : Expr} {fa : Mem → R Val} (ha : PE X a (tX C ρ E fa)) :
    PE X (.UnaryOp .USub a pos) (tX C ρ E (negF fa)) :=
  PE.of (pe_un un_neg ha) (oneV fun G H W σ m G1 H1 x a Q f s v h => by
    split at h
    · rename_i i
      cases (show Rp C G1 x (.int i) from v)
      exact ⟨i, rfl, h G1 H1 _ f s (.int _)⟩
    · exact False.elim h)
end
end G

set_option maxRecDepth 100000
set_option maxHeartbeats 4000000
/-! G4: comparisons, tests -/
namespace G
open PySem PySem.Spec PyProof.Rows L2

section
variable {C : Cn} {G H : Hp}
mutual
theorem Rp.dp (s : Same G H) : ∀ (d : D) (v : V), Rp C G v d → d.py.canLay0 = true → Dp C.K H v d.py
  | .non, _, h, _ => by cases h; exact .non
  | .bl b, _, h, _ => by cases h; exact .bl b
  | .int i, _, h, _ => by cases h; exact .int i
  | .str x, _, h, _ => by cases h; exact .str x
  | .tup ds, _, h, k => by
    cases h with
    | tup h1 h2 => exact .tup (Same.t s h1) (RpL.dp s ds _ h2 (by simpa [D.py, PyData.canLay0] using k))
  | .lst ds, _, h, k => by
    cases h with
    | lst h1 h2 => exact .lst (Same.x s h1).l (RpL.dp s ds _ h2 (by simpa [D.py, PyData.canLay0] using k))
  | .ins c ns ds, _, _, k => by simp [D.py, PyData.canLay0] at k
  | .fn f, _, _, k => by simp [D.py, PyData.canLay0] at k
theorem RpL.dp (s : Same G H) : ∀ (ds : List D) (vs : List V), RpL C G vs ds → PyData.canLayAll0 (pyL ds) = true → DpAll C.K H vs (pyL ds)
  | [], _, h, _ => by cases h; exact .nil
  | d :: ds, _, h, k => by
    cases h with
    | cons h1 h2 =>
      simp only [pyL, PyData.canLayAll0, Bool.and_eq_true] at k
      exact .cons (Rp.dp s d _ h1 k.1) (RpL.dp s ds _ h2 k.2)
end
theorem Rq.dp {v : V} {d : D} (s : Same G H) (h : Rq C G H v d) (k : SeqAt.shaped d.py = true) : Dp C.K H v d.py := by
  have k' := SeqAt.canLay_of_shaped k
  rcases h with h | ⟨l, o, rfl, h, e⟩
  · exact Rp.dp s d v h k'
  · cases o with
    | lst ds =>
      cases e
      obtain ⟨xs, h1, h2⟩ := h
      exact .lst (.inl (.inl h1)) (RpL.dp s ds _ h2 (by simpa [O.d, D.py, PyData.canLay0] using k'))
    | ins c ns ds =>
      cases e
      simp [O.d, D.py, PyData.canLay0] at k'
theorem Rp.flat {v : V} {d : D} (h : Rp C G v d) (f : flatD d = true) : v = d.v ∧ flatV v = true := by
  cases h <;> first
    | exact ⟨rfl, rfl⟩
    | exact absurd (show false = true from f) Bool.false_ne_true
theorem RpL.flat : ∀ {vs : List V} {ds : List D}, RpL C G vs ds → ds.all flatD = true → vs = ds.map D.v ∧ vs.all flatV = true
  | _, _, .nil, _ => ⟨rfl, rfl⟩
  | _, _, .cons r t, f => by
    rw [List.all_cons, Bool.and_eq_true] at f
    obtain ⟨h1, h2⟩ := r.flat f.1
    obtain ⟨h3, h4⟩ := RpL.flat t f.2
    subst h3
    exact ⟨by rw [h1]; rfl, by rw [List.all_cons, h2, h4] <;> rfl⟩
theorem Rq.flat {v : V} {d : D} (h : Rq C G H v d) (f : flatD d = true) : v = d.v ∧ flatV v = true := by
  rcases h with h | ⟨l, o, rfl, h, e⟩
  · exact h.flat f
  · cases o <;> (cases e; exact absurd (show false = true from f) Bool.false_ne_true)
end

section
variable {X : Cx} {C : Cn} {ρ : Nat → Addr} {E : XK} {pos : Pos}
theorem op_isNB : OpR X (compareOp .Is) (fun x y H Q => x = .non ∧ (∃ b, y = .bl b) ∧ Q (.bl false) H) := by
  rintro pins s σ H x y v u Q I rx ry ⟨rfl, ⟨b, rfl⟩, q⟩
  cases (show v = Value.none from rx)
  cases (show u = Value.bool b from ry)
  exact wpAny_is_other rfl (fun z => nomatch z) ⟨.bl false, H, I, rfl, q⟩
/-- what each comparison asks -/
def rC (K : PySem.W.Frag) : Co → R2
  | .eq => fun x y H Q => rEq x y H Q ∨ rEqD K x y H Q
  | .ne => fun x y H Q => rNe x y H Q ∨ rNeD K x y H Q
  | .lt => fun x y H Q => rI0 (fun i j => .bl (decide (i < j))) x y H Q ∨ (∃ i j, x = .str i ∧ y = .str j ∧ Q (.bl (decide (i.cps.toList < j.cps.toList))) H)
  | .le => rI0 fun i j => .bl (decide (i ≤ j))
  | .gt => rI0 fun i j => .bl (decide (j < i))
  | .ge => rI0 fun i j => .bl (decide (j ≤ i))
  | .is => fun x y H Q => (y = .non ∧ Q (.bl (decide (x = .non))) H) ∨ ((∃ a b : Bool, x = .bl a ∧ y = .bl b ∧ Q (.bl (decide (a = b))) H) ∨ (x = .non ∧ (∃ b, y = .bl b) ∧ Q (.bl false) H))
  | .isn => fun x y H Q => (y = .non ∧ Q (.bl (!decide (x = .non))) H) ∨ (∃ a b : Bool, x = .bl a ∧ y = .bl b ∧ Q (.bl (!decide (a = b))) H)
  | .inn => fun x y H Q => rIn K false x y H Q ∨ (∃ i j, x = .str i ∧ y = .str j ∧ Q (.bl (!(Builtin.Str.occurrences j i 0 j.length 1).isEmpty)) H)
  | .nin => fun x y H Q => rIn K true x y H Q ∨ (∃ i j, x = .str i ∧ y = .str j ∧ Q (.bl (!(!(Builtin.Str.occurrences j i 0 j.length 1).isEmpty))) H)
theorem op_C (hu : X.A.units + 64 < cLine) : ∀ {o : Co} {op : CmpOp}, coE o op = true → OpR X (compareOp op) (rC X.K o) := by
  intro o op h
  cases o <;> cases op <;> first
    | exact absurd h Bool.false_ne_true
    | exact op_eq.or (op_eqD hu)
    | exact op_ne.or (op_neD hu)
    | exact op_lt.or op_lt_str
    | exact op_le
    | exact op_gt
    | exact op_ge
    | exact op_isN.or (op_isBl.or op_isNB)
    | exact op_notN.or op_notBl
    | exact op_in_seq.or op_in_str
    | exact op_notIn_seq.or op_notin_str
theorem Rq.isNon {G H : Hp} {v : V} {d : D} (h : Rq C G H v d) : decide (v = .non) = (match d with | .non => true | _ => false) := by
  rcases h with h | ⟨l, o, rfl, h, e⟩
  · cases h <;> rfl
  · cases o <;> (cases e; rfl)
theorem no_bool {P : Prop} {b : Bool} (e : (none : Option Bool) = some b) : P := nomatch e
theorem cmpS (hK : X.K = C.K) (o : Co) : OpS C ρ (fun x y => (cmpD o x y).map fun c => .dat (.bl c)) (rC X.K o) := by
  intro G H W σ m G1 H1 x y dx dy val Q f s rx ry e q
  obtain ⟨c, ec, e⟩ := Option.map_eq_some_iff.mp e
  subst e
  have fb : Q (.bl c) H1 := q G1 H1 _ f s (.bl c)
  have eqc : ∀ {b : Bool}, eqD dx dy = some b → ∀ {g : Bool → Bool} {r r' : R2}, (∀ {x y : V} {Q : VK}, scal x y = true → Q (.bl (g (decide (x = y)))) H1 → r x y H1 Q) → (∀ {d e : PyData}, Dp C.K H1 x d → Dp C.K H1 y e → SeqAt.shaped d = true → SeqAt.shaped e = true → Q (.bl (g (PyData.eqv d e))) H1 → r' x y H1 Q) →
      Q (.bl (g b)) H1 → r x y H1 Q ∨ r' x y H1 Q := by
    intro b eb g r r' h1 h2 qb
    have gen : (if SeqAt.shaped dx.py = true ∧ SeqAt.shaped dy.py = true then some (PyData.eqv dx.py dy.py) else none) = some b → r x y H1 Q ∨ r' x y H1 Q := fun z => by
      by_cases hz : SeqAt.shaped dx.py = true ∧ SeqAt.shaped dy.py = true
      · rw [if_pos hz] at z
        cases z
        exact .inr (h2 (rx.dp s.sub hz.1) (ry.dp s.sub hz.2) hz.1 hz.2 qb)
      · rw [if_neg hz] at z
        cases z
    unfold eqD at eb
    split at eb
    · rename_i i j
      cases eb
      obtain rfl := rx.int
      obtain rfl := ry.int
      exact .inl (h1 rfl (by rw [dec_int, Bool.beq_eq_decide_eq]; exact qb))
    · rename_i a b'
      cases eb
      obtain rfl := rx.str
      obtain rfl := ry.str
      exact .inl (h1 rfl (by rw [dec_str, Bool.beq_eq_decide_eq]; exact qb))
    · rename_i a b'
      cases eb
      obtain rfl := rx.bl
      obtain rfl := ry.bl
      exact .inl (h1 rfl (by rw [dec_bl, Bool.beq_eq_decide_eq]; exact qb))
    · exact gen eb
  have inc : ∀ {b : Bool}, inD dx dy = some b → ∀ {neg : Bool}, Q (.bl (if neg then !b else b)) H1 →
      rIn C.K neg x y H1 Q ∨ (∃ i j, x = .str i ∧ y = .str j ∧ Q (.bl (if neg then !(!(Builtin.Str.occurrences j i 0 j.length 1).isEmpty) else (!(Builtin.Str.occurrences j i 0 j.length 1).isEmpty))) H1) := by
    intro b eb neg qb
    have seq : ∀ {ds : List D} {a : Addr} {xs : List V}, y = .ref a → (SqL C.K H1 a xs ∨ SqT C.K H1 a xs) → RpL C G1 xs ds → (if flatD dx = true ∧ ds.all flatD = true then some (ds.any fun z => eqV z.v dx.v) else none) = some b → rIn C.K neg x y H1 Q := by
      intro ds a xs ey hs hr z
      by_cases hz : flatD dx = true ∧ ds.all flatD = true
      · rw [if_pos hz] at z
        cases z
        obtain ⟨f1, f2⟩ := rx.flat hz.1
        obtain ⟨f3, f4⟩ := hr.flat hz.2
        refine ⟨a, xs, ey, hs, f2, f4, ?_⟩
        have ei : inV x xs = ds.any fun z => eqV z.v dx.v := by
          unfold inV
          rw [f3, f1, List.any_map]
          rfl
        rw [ei]
        exact qb
      · rw [if_neg hz] at z
        cases z
    unfold inD at eb
    split at eb
    · obtain ⟨a, xs, e1, h1, r1⟩ := ry.lst s.sub
      exact .inl (seq e1 (.inl h1.l) r1 eb)
    · obtain ⟨a, xs, e1, h1, r1⟩ := ry.tup s.sub
      exact .inl (seq e1 (.inr h1) r1 eb)
    · split at eb
      · cases eb
        exact .inr ⟨_, _, rx.str, ry.str, qb⟩
      · cases eb
    · cases eb
  rw [hK]
  cases o
  case eq => exact eqc (b := c) ec (g := fun b => b) (fun h q => ⟨h, q⟩) (fun h1 h2 h3 h4 q => ⟨_, _, h1, h2, h3, h4, q⟩) fb
  case ne =>
    obtain ⟨b, eb, e2⟩ := Option.map_eq_some_iff.mp (show (eqD dx dy).map not = some c from ec)
    subst e2
    exact eqc eb (g := fun b => !b) (fun h q => ⟨h, q⟩) (fun h1 h2 h3 h4 q => ⟨_, _, h1, h2, h3, h4, q⟩) fb
  case inn => exact inc (b := c) ec (neg := false) fb
  case nin =>
    obtain ⟨b, eb, e2⟩ := Option.map_eq_some_iff.mp (show (inD dx dy).map not = some c from ec)
    subst e2
    exact inc eb (neg := true) fb
  case lt =>
    cases dx <;> cases dy <;> first
      | exact no_bool ec
      | skip
    case int.int i j => cases ec; exact .inl ⟨i, j, rx.int, ry.int, fb⟩
    case str.str i j => cases ec; exact .inr ⟨i, j, rx.str, ry.str, fb⟩
  case le =>
    cases dx <;> cases dy <;> first
      | exact no_bool ec
      | skip
    case int.int i j => cases ec; exact ⟨i, j, rx.int, ry.int, fb⟩
  case gt =>
    cases dx <;> cases dy <;> first
      | exact no_bool ec
      | skip
    case int.int i j => cases ec; exact ⟨i, j, rx.int, ry.int, fb⟩
  case ge =>
    cases dx <;> cases dy <;> first
      | exact no_bool ec
      | skip
    case int.int i j => cases ec; exact ⟨i, j, rx.int, ry.int, fb⟩
  case is =>
    have hn := rx.isNon
    cases dy <;> first
      | (cases dx <;> exact no_bool ec)
      | skip
    case non =>
      refine .inl ⟨ry.non, ?_⟩
      rw [hn]
      cases dx <;> (cases ec; exact fb)
    case bl b =>
      cases dx <;> first
        | exact no_bool ec
        | skip
      case non =>
        cases ec
        exact .inr (.inr ⟨rx.non, ⟨b, ry.bl⟩, fb⟩)
      case bl a =>
        cases ec
        exact .inr (.inl ⟨a, b, rx.bl, ry.bl, fb⟩)
  case isn =>
    have hn := rx.isNon
    cases dy <;> first
      | (cases dx <;> exact no_bool ec)
      | skip
    case non =>
      refine .inl ⟨ry.non, ?_⟩
      rw [hn]
      cases dx <;> (cases ec; exact fb)
    case bl b =>
      cases dx <;> first
        | exact no_bool ec
        | skip
      case bl a =>
        cases ec
        exact .inr ⟨a, b, rx.bl, ry.bl, fb⟩

theorem opt_map {α β γ : Type} (o : Option α) (g : α → β) (f : β → R γ) : opt (o.map g) f = opt o fun a => f (g a) := by cases o <;> rfl
theorem cmpF_eq (o : Co) (fa fb : Mem → R Val) : cmpF o fa fb = fun m => (fa m).bind fun x m => (fb m).bind fun y m => opt (rd x m) fun x => opt (rd y m) fun y => opt ((cmpD o x y).map fun c => Val.dat (.bl c)) fun v => .ok v m := by
  unfold cmpF
  simp only [opt_map]
theorem pe_cmpG {o : Co} {op : CmpOp} {l r : Expr} {fa fb : Mem → R Val} (hK : X.K = C.K) (hu : X.A.units + 64 < cLine) (h : coE o op = true) (hm : behindInMarks op r = false) (ha : PE X l (tX C ρ E fa)) (hb : PE X r (tX C ρ E fb)) :
    PE X (.Compare l [op] [r] pos) (tX C ρ E (cmpF o fa fb)) :=
  PE.of (pe_cmpR (op_C hu h) ha hb hm) (by rw [cmpF_eq]; exact two_op (cmpS hK o))

theorem cmpT {o : Co} {fa fb : Mem → R Val} {σ : L2.St} {H : Hp} {Q : Bool → Hp → Prop} (h : tXT C ρ E (fun m => (cmpF o fa fb m).bind okD) σ H Q) : tX C ρ E (cmpF o fa fb) σ H fun x H' => ∃ k, x = .bl k ∧ Q k H' := by
  obtain ⟨G, m, s, h⟩ := h
  refine ⟨G, m, s, Res.step Fr.refl h fun a m1 G1 H1 x ea f1 f1b s1 o1 h1 => ?_⟩
  unfold cmpF at ea
  cases e1 : fa m with
  | st => rw [e1] at ea; cases ea
  | ex c x m2 => rw [e1] at ea; cases ea
  | ok x2 m2 =>
    rw [e1] at ea
    cases e2 : fb m2 with
    | st => simp only [R.bind_ok, e2] at ea; cases ea
    | ex c x m2 => simp only [R.bind_ok, e2] at ea; cases ea
    | ok y2 m3 =>
      simp only [R.bind_ok, e2] at ea
      cases e3 : rd x2 m3 with
      | none => rw [e3] at ea; cases ea
      | some dx =>
        cases e4 : rd y2 m3 with
        | none => rw [e3, e4] at ea; cases ea
        | some dy =>
          rw [e3, e4] at ea
          cases e5 : cmpD o dx dy with
          | none => simp only [opt, e5] at ea; cases ea
          | some c =>
            simp only [opt, e5] at ea
            cases ea
            cases (show Rp C G1 x (.bl c) from o1)
            exact ⟨c, rfl, h1 G1 H1 _ f1 s1 rfl⟩
theorem pt_cmpG {o : Co} {op : CmpOp} {l r : Expr} {fa fb : Mem → R Val} (hK : X.K = C.K) (hu : X.A.units + 64 < cLine) (h : coE o op = true) (hm : behindInMarks op r = false) (ha : PE X l (tX C ρ E fa)) (hb : PE X r (tX C ρ E fb)) :
    PT X (.Compare l [op] [r] pos) (tXT C ρ E fun m => (cmpF o fa fb m).bind okD) :=
  PT.of (pt_cmpR (op_C hu h) ha hb hm) fun σ H Q z => (by
    have z2 := cmpT z
    rw [cmpF_eq] at z2
    exact two_op (cmpS hK o) σ H _ z2)
end
end G

set_option maxRecDepth 100000
set_option maxHeartbeats 4000000
/-! G5: chains, lists of expressions, displays, subscripts, fields -/
namespace G
open PySem PySem.Spec PyProof.Rows L2

section
variable (X : Cx) (C : Cn) (ρ : Nat → Addr) (Z : XK)
inductive PEL : List P → List Expr → Prop where
  | nil : PEL [] []
  | cons {e : P} {es : List P} {r : Expr} {rs : List Expr} : PE X r (tX C ρ Z e.v) → PEL es rs → PEL (e :: es) (r :: rs)
end
section
variable {X : Cx} {C : Cn} {ρ : Nat → Addr} {Z : XK} {pos : Pos}
theorem PEL.len : ∀ {es : List P} {rs : List Expr}, PEL X C ρ Z es rs → es.length = rs.length
  | _, _, .nil => rfl
  | _, _, .cons _ t => congrArg Nat.succ t.len
theorem cosB_len : ∀ {os : List Co} {ops : List CmpOp}, cosB os ops = true → os.length = ops.length
  | [], [], _ => rfl
  | [], _ :: _, h => absurd h Bool.false_ne_true
  | _ :: _, [], h => absurd h Bool.false_ne_true
  | o :: os, p :: ps, h => congrArg Nat.succ (cosB_len (Bool.and_eq_true_iff.mp h).2)
theorem chnG_eq (o : Co) (os : List Co) (b : P) (bs : List P) (x : Val) (m : Mem) : chnG (o :: os) (b :: bs) x m = (b.v m).bind fun y m => opt (rd x m) fun x => opt (rd y m) fun y' => opt (cmpD o x y') fun c => if (c && !os.isEmpty) = true then chnG os bs y m else .ok (.dat (.bl c)) m := by rw [chnG]
/-- one link of a chain: behind the comparison stands a bool, and the rest of the meaning -/
theorem link {β : Type} {o : Co} {op : CmpOp} {e : P} {r : Expr} {pins : List (Addr × Obj)} {s : Shared} {σ : L2.St} {x : V} {v : Value} {a : Val} {G H : Hp} {W : Addr → Prop} {m : Mem} {G1 H1 : Hp} {α : Type} {ok0 : Hp → Hp → Mem → α → β → Prop} {Q : β → Hp → Prop} {k : Val → Bool → Mem → R α} {Q2' : Value → Value → Shared → Prop}
    (hK : X.K = C.K) (hu : X.A.units + 64 < cLine) (h : coE o op = true) (hr : PE X r (tX C ρ Z e.v)) (I : L2.Inv X pins σ H1 s) (rx : L2.RelV x v) (f : Fr G H W G1 H1 (Own σ m)) (sr : SR C ρ G1 H1 σ m) (va : VS C G1 σ x a)
    (hB : Res C ρ Z G H W σ ok0 ((e.v m).bind fun y m => opt (rd a m) fun x => opt (rd y m) fun y' => opt (cmpD o x y') fun c => k y c m) Q)
    (fin : ∀ (u : Value) (y : V) (b : Val) (m3 : Mem) (G3 H3 : Hp) (c : Bool) (s3 : Shared), L2.Inv X pins σ H3 s3 → L2.RelV y u → Fr G H W G3 H3 (Own σ m3) → SR C ρ G3 H3 σ m3 → VS C G3 σ y b → Res C ρ Z G H W σ ok0 (k b c m3) Q → Q2' u (.bool c) s3) :
    wpAny (model X.prog X.w) X.A (eval r X.env) (fun u s1 => wpAny (model X.prog X.w) X.A (compareOp op v u) (fun c s2 => Q2' u c s2) X.xe s1) X.xe s := by
  refine thn (hr.run pins s σ H1 (fun y H2 => rC X.K o x y H2 fun z H3 => ∃ (b : Val) (m3 : Mem) (G3 : Hp) (c : Bool), z = .bl c ∧ Fr G H W G3 H3 (Own σ m3) ∧ SR C ρ G3 H3 σ m3 ∧ VS C G3 σ y b ∧ Res C ρ Z G H W σ ok0 (k b c m3) Q) I
    ⟨G1, m, sr, Res.step f hB fun b m2 G2 H2 y eb f2 f2b s2 o2 h2 => ?_⟩) fun u s2 ⟨y, H2, I2, r2, q2⟩ => thn (op_C hu h pins s2 σ H2 x y v u _ I2 rx r2 q2) fun w s3 ⟨z, H3, I3, r3, b, m3, G3, c, ez, f3, s3', v3, h3⟩ => ?_
  · obtain ⟨G2', e2, f2', s2', v2⟩ := settle f2b s2 o2 fun p q => f.back q
    obtain ⟨dx, ex, h⟩ := opt_st h2
    obtain ⟨dy, ey, h⟩ := opt_st h
    obtain ⟨c, ec, h⟩ := opt_st h
    refine cmpS hK o G2' H2 (Own σ m2) σ m2 G2' H2 x y dx dy (.dat (.bl c)) _ Fr.refl s2' ((va.up (f2.g.trans e2)).read s2' ex) (v2.read s2' ey) (by show (cmpD o dx dy).map _ = _; rw [ec]; rfl) fun G' H' v f' s' o' => ?_
    cases (show Rp C G' v (.bl c) from o')
    exact ⟨b, m2, G', c, rfl, f2'.trans f', s', v2.up f'.g, h⟩
  · subst ez
    cases r3
    exact fin u y b m3 G3 H3 c s3 I3 r2 f3 s3' v3 h3
theorem chain_ev : ∀ (os : List Co) (ops : List CmpOp) (es : List P) (rs : List Expr), cosB os ops = true → PEL X C ρ Z es rs → X.K = C.K → X.A.units + 64 < cLine → ops.length = rs.length → ops ≠ [] →
    ∀ (pins : List (Addr × Obj)) (s : Shared) (σ : L2.St) (x : V) (v : Value) (a : Val) (G H : Hp) (W : Addr → Prop) (m : Mem) (G1 H1 : Hp) (Q : VK), L2.Inv X pins σ H1 s → L2.RelV x v → Fr G H W G1 H1 (Own σ m) → SR C ρ G1 H1 σ m → VS C G1 σ x a →
    Res C ρ Z G H W σ (okV C σ H) (chnG os es a m) Q → wpAny (model X.prog X.w) X.A (compareChain pos v ops (evalEach rs X.env)) (EP X pins σ Q) X.xe s := by
  intro os
  induction os with
  | nil =>
    intro ops es rs hc hp hK hu hl hn
    cases ops with
    | nil => exact absurd rfl hn
    | cons p ps => exact absurd hc Bool.false_ne_true
  | cons o os ih =>
    intro ops es rs hc hp hK hu hl hn pins s σ x v a G H W m G1 H1 Q I rx f sr va hB
    cases ops with
    | nil => exact absurd rfl hn
    | cons op ops =>
      obtain ⟨ho, hc'⟩ := Bool.and_eq_true_iff.mp hc
      cases hp with
      | nil => exact absurd hl (by simp)
      | @cons e es r rs hr hrs =>
        rw [chnG_eq] at hB
        cases ops with
        | nil =>
          have eo : os = [] := List.eq_nil_of_length_eq_zero (cosB_len hc')
          have er : rs = [] := List.eq_nil_of_length_eq_zero (by simpa using hl.symm)
          subst eo er
          refine chain_last (link hK hu ho hr I rx f sr va hB fun u y b m3 G3 H3 c s3 I3 r2 f3 s3' v3 h3 => ?_)
          rw [show (c && !([] : List Co).isEmpty) = false from Bool.and_false c] at h3
          exact ⟨.bl c, H3, I3, rfl, h3 G3 H3 _ f3 s3' (.bl c)⟩
        | cons op' ops =>
          cases rs with
          | nil => exact absurd hl (by simp)
          | cons r' rs =>
            refine chain_link (link hK hu ho hr I rx f sr va hB fun u y b m3 G3 H3 c s3 I3 r2 f3 s3' v3 h3 => wpAny_truthy_bool ?_)
            have hne : os.isEmpty = false := by
              cases os with
              | nil => exact absurd hc' Bool.false_ne_true
              | cons _ _ => rfl
            rw [hne] at h3
            cases c with
            | false => exact ite_ff ⟨.bl false, H3, I3, rfl, h3 G3 H3 _ f3 s3' (.bl false)⟩
            | true => exact ite_tt (ih (op' :: ops) es (r' :: rs) hc' hrs hK hu (by simpa using hl) (by simp) pins s3 σ y u b G H W m3 G3 H3 Q I3 r2 f3 s3' v3 h3)
theorem chain_t : ∀ (os : List Co) (ops : List CmpOp) (es : List P) (rs : List Expr), cosB os ops = true → PEL X C ρ Z es rs → X.K = C.K → X.A.units + 64 < cLine → ops.length = rs.length → ops ≠ [] →
    ∀ (pins : List (Addr × Obj)) (s : Shared) (σ : L2.St) (x : V) (v : Value) (a : Val) (G H : Hp) (W : Addr → Prop) (m : Mem) (G1 H1 : Hp) (Q : Bool → Hp → Prop), L2.Inv X pins σ H1 s → L2.RelV x v → Fr G H W G1 H1 (Own σ m) → SR C ρ G1 H1 σ m → VS C G1 σ x a →
    Res C ρ Z G H W σ okB ((chnG os es a m).bind okD) Q → wpAny (model X.prog X.w) X.A (testChain pos v ops (evalEach rs X.env)) (TP X pins σ Q) X.xe s := by
  intro os
  induction os with
  | nil =>
    intro ops es rs hc hp hK hu hl hn
    cases ops with
    | nil => exact absurd rfl hn
    | cons p ps => exact absurd hc Bool.false_ne_true
  | cons o os ih =>
    intro ops es rs hc hp hK hu hl hn pins s σ x v a G H W m G1 H1 Q I rx f sr va hB
    cases ops with
    | nil => exact absurd rfl hn
    | cons op ops =>
      obtain ⟨ho, hc'⟩ := Bool.and_eq_true_iff.mp hc
      cases hp with
      | nil => exact absurd hl (by simp)
      | @cons e es r rs hr hrs =>
        have asc : ((chnG (o :: os) (e :: es) a m).bind okD) = (e.v m).bind fun y m => opt (rd a m) fun x => opt (rd y m) fun y' => opt (cmpD o x y') fun c => (if (c && !os.isEmpty) = true then chnG os es y m else .ok (.dat (.bl c)) m).bind okD := by
          rw [chnG_eq]
          cases e.v m with
          | st => rfl
          | ex c x m => rfl
          | ok y m =>
            simp only [R.bind_ok]
            cases rd a m with
            | none => rfl
            | some dx =>
              cases rd y m with
              | none => rfl
              | some dy =>
                simp only [opt]
                cases cmpD o dx dy <;> rfl
        rw [asc] at hB
        cases ops with
        | nil =>
          have eo : os = [] := List.eq_nil_of_length_eq_zero (cosB_len hc')
          have er : rs = [] := List.eq_nil_of_length_eq_zero (by simpa using hl.symm)
          subst eo er
          refine test_last (link hK hu ho hr I rx f sr va hB fun u y b m3 G3 H3 c s3 I3 r2 f3 s3' v3 h3 => wpAny_truthy_bool ?_)
          rw [show (c && !([] : List Co).isEmpty) = false from Bool.and_false c] at h3
          exact ⟨H3, I3, h3 G3 H3 _ f3 s3' rfl⟩
        | cons op' ops =>
          cases rs with
          | nil => exact absurd hl (by simp)
          | cons r' rs =>
            refine test_link (link hK hu ho hr I rx f sr va hB fun u y b m3 G3 H3 c s3 I3 r2 f3 s3' v3 h3 => wpAny_truthy_bool ?_)
            have hne : os.isEmpty = false := by
              cases os with
              | nil => exact absurd hc' Bool.false_ne_true
              | cons _ _ => rfl
            rw [hne] at h3
            cases c with
            | false => exact ite_ff ⟨H3, I3, h3 G3 H3 _ f3 s3' rfl⟩
            | true => exact ite_tt (ih (op' :: ops) es (r' :: rs) hc' hrs hK hu (by simpa using hl) (by simp) pins s3 σ y u b G H W m3 G3 H3 Q I3 r2 f3 s3' v3 h3)
/-- no set among the operands -/
def noSet : Expr → Bool
  | .Set .. => false
  | _ => true
theorem marks0 {op : CmpOp} {e : Expr} (h : noSet e = true) : behindInMarks op e = false := by
  cases e <;> first
    | rfl
    | exact absurd h Bool.false_ne_true
theorem marksL : ∀ (ops : List CmpOp) (rs : List Expr), rs.all noSet = true → lastMarks ops rs = false
  | [], _, _ => by cases ‹List Expr› <;> rfl
  | [op], [], _ => rfl
  | _ :: _ :: _, [], _ => rfl
  | [op], [e], h => marks0 (by simpa using h)
  | [op], e :: e' :: es, h => marksL [] (e' :: es) (by
    simp only [List.all_cons, Bool.and_eq_true] at h ⊢
    exact h.2)
  | op :: op' :: ops, e :: es, h => by
    have := marksL (op' :: ops) es (by
      simp only [List.all_cons, Bool.and_eq_true] at h ⊢
      exact h.2)
    cases es <;> exact this
theorem pe_chnG {l : Expr} {rs : List Expr} {os : List Co} {ops : List CmpOp} {fa : Mem → R Val} {es : List P} (hK : X.K = C.K) (hu : X.A.units + 64 < cLine) (h2 : 2 ≤ ops.length) (hc : cosB os ops = true) (hl : ops.length = rs.length) (hs : rs.all noSet = true)
    (ha : PE X l (tX C ρ Z fa)) (hp : PEL X C ρ Z es rs) : PE X (.Compare l ops rs pos) (tX C ρ Z (chnF fa os es)) := by
  refine ⟨fun pins s σ H Q I ⟨G, m, sr, hB⟩ => ?_⟩
  match ops, rs, h2, hl, hs, hp, hc with
  | op :: op' :: ops, r :: r' :: rs, _, hl, hs, hp, hc =>
    refine Compare_chain (thn (ha.run pins s σ H (fun x H1 => ∃ (a : Val) (m1 : Mem) (G1 : Hp), Fr G H (Own σ m) G1 H1 (Own σ m1) ∧ SR C ρ G1 H1 σ m1 ∧ VS C G1 σ x a ∧ Res C ρ Z G H (Own σ m) σ (okV C σ H) (chnG os es a m1) Q) I
      ⟨G, m, sr, Res.step Fr.refl hB fun a m1 G1 H1 x ea f1 f1b s1 o1 h1 => ?_⟩) fun v s1 ⟨x, H1, I1, r1, a, m1, G1, f1, s1', v1, h1⟩ => chain_ev os (op :: op' :: ops) es (r :: r' :: rs) hc hp hK hu hl (by simp) pins s1 σ x v a G H _ m1 G1 H1 Q I1 r1 f1 s1' v1 h1) (marksL _ _ hs)
    obtain ⟨G1', e1, f1', s1', v1⟩ := settle f1 s1 o1 fun p q => q
    exact ⟨a, m1, G1', f1', s1', v1, h1⟩
theorem pt_chnG {l : Expr} {rs : List Expr} {os : List Co} {ops : List CmpOp} {fa : Mem → R Val} {es : List P} (hK : X.K = C.K) (hu : X.A.units + 64 < cLine) (h2 : 2 ≤ ops.length) (hc : cosB os ops = true) (hl : ops.length = rs.length) (hs : rs.all noSet = true)
    (ha : PE X l (tX C ρ Z fa)) (hp : PEL X C ρ Z es rs) : PT X (.Compare l ops rs pos) (tXT C ρ Z fun m => (chnF fa os es m).bind okD) := by
  refine ⟨fun pins s σ H Q I ⟨G, m, sr, hB⟩ => ?_⟩
  match ops, rs, h2, hl, hs, hp, hc with
  | op :: op' :: ops, r :: r' :: rs, _, hl, hs, hp, hc =>
    have asc : (chnF fa os es m).bind okD = (fa m).bind fun x m => (chnG os es x m).bind okD := by
      unfold chnF
      cases fa m <;> rfl
    dsimp only at hB
    rw [asc] at hB
    refine isTrue_chain (thn (ha.run pins s σ H (fun x H1 => ∃ (a : Val) (m1 : Mem) (G1 : Hp), Fr G H (Own σ m) G1 H1 (Own σ m1) ∧ SR C ρ G1 H1 σ m1 ∧ VS C G1 σ x a ∧ Res C ρ Z G H (Own σ m) σ okB ((chnG os es a m1).bind okD) Q) I
      ⟨G, m, sr, Res.step Fr.refl hB fun a m1 G1 H1 x ea f1 f1b s1 o1 h1 => ?_⟩) fun v s1 ⟨x, H1, I1, r1, a, m1, G1, f1, s1', v1, h1⟩ => chain_t os (op :: op' :: ops) es (r :: r' :: rs) hc hp hK hu hl (by simp) pins s1 σ x v a G H _ m1 G1 H1 Q I1 r1 f1 s1' v1 h1) (marksL _ _ hs)
    obtain ⟨G1', e1, f1', s1', v1⟩ := settle f1 s1 o1 fun p q => q
    exact ⟨a, m1, G1', f1', s1', v1, h1⟩
end
end G

set_option maxRecDepth 100000
set_option maxHeartbeats 4000000
/-! G6: names, constants, and, or, not, tests, lists of expressions, displays, subscripts, fields -/
namespace G
open PySem PySem.Spec PyProof.Rows L2

section
variable {X : Cx} {C : Cn} {ρ : Nat → Addr} {Z : XK} {pos : Pos}
/-! ### names and constants -/
theorem pe_varG {i : Nat} {x : Str} (hN : X.N[i]? = some x) (hv : Vis X.env.scope x) (hd : (x == ("__debug__" : Str)) = false) (hcd : (x == ("__classdict__" : Str)) = false) : PE X (.Name x pos) (tX C ρ Z (varF i)) :=
  PE.of (pe_var hN hv hd hcd) fun σ H Q ⟨G, m, s, h⟩ => by
    unfold varF at h
    split at h
    · rename_i d e
      obtain ⟨v, h1, h2⟩ := s.dat i d e
      exact ⟨v, h1, h G H v Fr.refl s h2⟩
    · rename_i t o e
      obtain ⟨l, h1, h2, h3, h4⟩ := s.own i t o e
      exact ⟨.ref l, h1, h G H (.ref l) Fr.refl s ⟨t, o, e, h1⟩⟩
    · exact False.elim h
theorem pe_constG {e : Expr} {v : V} {d : D} (h : PE X e (tC v)) (r : ∀ G, Rp C G v d) : PE X e (tX C ρ Z fun m => .ok (.dat d) m) :=
  PE.of h fun σ H Q ⟨G, m, s, h⟩ => h G H v Fr.refl s (r G)

/-! ### a value's truth -/
theorem Rq.tru {G H : Hp} {v : V} {d : D} {b : Bool} (s : Same G H) (h : Rq C G H v d) (e : truD d = some b) : TruV C.K v H b := by
  have em : ∀ {xs : List V} {ds : List D}, RpL C G xs ds → (!ds.isEmpty) = !xs.isEmpty := fun r => by cases r <;> rfl
  cases d with
  | non => cases e; rw [h.non]; rfl
  | bl c => cases e; rw [h.bl]; rfl
  | int i => cases e; rw [h.int]; rfl
  | str x =>
    by_cases hz : x.length ≤ sizeLine
    · have e' : some ((x.length : Int) != 0) = some b := (if_pos hz).symm.trans e
      cases e'
      rw [h.str]
      exact ⟨hz, rfl⟩
    · exact nomatch (if_neg hz).symm.trans e
  | tup ds =>
    cases e
    obtain ⟨a, xs, rfl, h1, r⟩ := h.tup s
    exact .inr (.inl ⟨xs, h1, em r⟩)
  | lst ds =>
    cases e
    obtain ⟨a, xs, rfl, h1, r⟩ := h.lst s
    exact .inl ⟨xs, h1.l, em r⟩
  | ins c ns ds => cases e
  | fn f => cases e
theorem pe_notG {a : Expr} {fa : Mem → R Val} (hK : X.K = C.K) (ha : PE X a (tX C ρ Z fa)) : PE X (.UnaryOp .Not a pos) (tX C ρ Z (notF fa)) :=
  PE.of (pe_notT ha) (oneV fun G H W σ m G1 H1 x a Q f s v h => by
    obtain ⟨d, ed, h⟩ := opt_st h
    obtain ⟨b, eb, h⟩ := opt_st h
    rw [hK]
    exact ⟨b, (v.read s ed).tru s.sub eb, h G1 H1 _ f s (.bl !b)⟩)
theorem pt_truthG {a : Expr} {fa : Mem → R Val} (hK : X.K = C.K) (ha : PE X a (tX C ρ Z fa)) (he : ∀ whole, isTrue a X.env whole = (do let v ← whole; standAt a.pos; holding [v] (truthy v))) : PT X a (tXT C ρ Z fun m => (fa m).bind okD) :=
  PT.of (pt_truth ha he) (oneB fun G H W σ m G1 H1 x a Q f s v h => by
    obtain ⟨d, ed, h⟩ := opt_st h
    obtain ⟨b, eb, h⟩ := opt_st h
    rw [hK]
    exact ⟨b, (v.read s ed).tru s.sub eb, h G1 H1 _ f s rfl⟩)
theorem pt_notG {a : Expr} {ta : Mem → R Bool} (ha : PT X a (tXT C ρ Z ta)) : PT X (.UnaryOp .Not a pos) (tXT C ρ Z (notT ta)) :=
  PT.of (pt_not ha) fun σ H Q ⟨G, m, s, h⟩ => ⟨G, m, s, Res.step Fr.refl h fun a m1 G1 H1 x ea f1 f1b s1 o1 h1 => by
    cases (show x = a from o1)
    exact h1 G1 H1 _ f1b s1 rfl⟩

/-! ### and, or -/
section
variable (X C ρ Z)
inductive PTL : List P → List Expr → Prop where
  | nil : PTL [] []
  | cons {e : P} {es : List P} {r : Expr} {rs : List Expr} : PE X r (tX C ρ Z e.v) → PT X r (tXT C ρ Z e.t) → PTL es rs → PTL (e :: es) (r :: rs)
end
theorem PTL.pel : ∀ {es : List P} {rs : List Expr}, PTL X C ρ Z es rs → PEL X C ρ Z es rs
  | _, _, .nil => .nil
  | _, _, .cons h _ t => .cons h t.pel
theorem never_E {e : Expr} : PE X e (tX C ρ Z fun _ => .st) := ⟨fun pins s σ H Q I ⟨G, m, sr, h⟩ => False.elim h⟩
theorem never_T {e : Expr} : PT X e (tXT C ρ Z fun _ => .st) := ⟨fun pins s σ H Q I ⟨G, m, sr, h⟩ => False.elim h⟩
theorem pe_andG : ∀ {es : List P} {rs : List Expr}, PEL X C ρ Z es rs → PE X (.BoolOp .And rs pos) (tX C ρ Z (andF es))
  | [], [], _ => never_E
  | [e], [r], .cons h _ => pe_one h
  | e :: e' :: es, r :: r' :: rs, .cons h t => PE.of (pe_and h (pe_andG t)) fun σ H Q ⟨G, m, s, h⟩ => ⟨G, m, s, Res.step Fr.refl h fun a m1 G1 H1 x ea f1 f1b s1 o1 h1 => by
    split at h1
    · rename_i b
      cases (show Rp C G1 x (.bl b) from o1)
      refine ⟨b, rfl, ?_⟩
      cases b with
      | true => exact ⟨G1, m1, s1, by
          have h2 : Res C ρ Z G H (Own σ m) σ (okV C σ H) (andF (e' :: es) m1) Q := h1
          exact Res.step (r := andF (e' :: es) m1) (k := fun a m => .ok a m) f1b (by cases z : andF (e' :: es) m1 <;> (rw [z] at h2; exact h2)) fun b m2 G2 H2 y eb f2 f2b s2 o2 h3 => h3 G2 H2 y f2b s2 (o2.back fun p q => f1b.back q)⟩
      | false => exact h1 G1 H1 _ f1b s1 (.bl false)
    · exact False.elim h1⟩
theorem pe_orG : ∀ {es : List P} {rs : List Expr}, PEL X C ρ Z es rs → PE X (.BoolOp .Or rs pos) (tX C ρ Z (orF es))
  | [], [], _ => never_E
  | [e], [r], .cons h _ => pe_one h
  | e :: e' :: es, r :: r' :: rs, .cons h t => PE.of (pe_or h (pe_orG t)) fun σ H Q ⟨G, m, s, h⟩ => ⟨G, m, s, Res.step Fr.refl h fun a m1 G1 H1 x ea f1 f1b s1 o1 h1 => by
    split at h1
    · rename_i b
      cases (show Rp C G1 x (.bl b) from o1)
      refine ⟨b, rfl, ?_⟩
      cases b with
      | false => exact ⟨G1, m1, s1, by
          have h2 : Res C ρ Z G H (Own σ m) σ (okV C σ H) (orF (e' :: es) m1) Q := h1
          exact Res.step (r := orF (e' :: es) m1) (k := fun a m => .ok a m) f1b (by cases z : orF (e' :: es) m1 <;> (rw [z] at h2; exact h2)) fun b m2 G2 H2 y eb f2 f2b s2 o2 h3 => h3 G2 H2 y f2b s2 (o2.back fun p q => f1b.back q)⟩
      | true => exact h1 G1 H1 _ f1b s1 (.bl true)
    · exact False.elim h1⟩
theorem Res.tail {α β : Type} {r : R α} {G H G1 H1 : Hp} {W W1 : Addr → Prop} {σ : L2.St} {ok0 ok : Hp → Hp → Mem → α → β → Prop} {Q : β → Hp → Prop} (f : Fr G H W G1 H1 W1) (h : Res C ρ Z G H W σ ok0 r Q) (i : ∀ G' H' m' a v, ok G' H' m' a v → ok0 G' H' m' a v) : Res C ρ Z G1 H1 W1 σ ok r Q := by
  cases r with
  | st => exact h
  | ex c x m1 => exact fun G2 H2 cls d f2 s x => h G2 H2 cls d (f.trans f2) s x
  | ok a m1 => exact fun G2 H2 v f2 s o => h G2 H2 v (f.trans f2) s (i _ _ _ _ _ o)
theorem pw_andG : ∀ {es : List P} {rs : List Expr}, PTL X C ρ Z es rs → PW X (.BoolOp .And rs pos) (tXT C ρ Z (andT es))
  | [], [], _ => ⟨fun _ pins s σ H Q I ⟨G, m, sr, h⟩ => False.elim h⟩
  | [e], [r], .cons _ h _ => pw_and1 h
  | e :: e' :: es, r :: r' :: rs, .cons _ h t => ⟨fun wh pins s σ H Q I ⟨G, m, sr, hq⟩ => (pw_and h (pw_andG t)).run wh pins s σ H Q I ⟨G, m, sr, Res.step Fr.refl hq fun b m1 G1 H1 x ea f1 f1b s1 o1 h1 => by
    cases (show x = b from o1)
    cases b with
    | true => exact ⟨G1, m1, s1, Res.tail f1b h1 fun _ _ _ _ _ o => o⟩
    | false => exact h1 G1 H1 _ f1b s1 rfl⟩⟩
theorem pw_orG : ∀ {es : List P} {rs : List Expr}, PTL X C ρ Z es rs → PW X (.BoolOp .Or rs pos) (tXT C ρ Z (orT es))
  | [], [], _ => ⟨fun _ pins s σ H Q I ⟨G, m, sr, h⟩ => False.elim h⟩
  | [e], [r], .cons _ h _ => pw_or1 h
  | e :: e' :: es, r :: r' :: rs, .cons _ h t => ⟨fun wh pins s σ H Q I ⟨G, m, sr, hq⟩ => (pw_or h (pw_orG t)).run wh pins s σ H Q I ⟨G, m, sr, Res.step Fr.refl hq fun b m1 G1 H1 x ea f1 f1b s1 o1 h1 => by
    cases (show x = b from o1)
    cases b with
    | false => exact ⟨G1, m1, s1, Res.tail f1b h1 fun _ _ _ _ _ o => o⟩
    | true => exact h1 G1 H1 _ f1b s1 rfl⟩⟩
theorem pe_ifeG {c a b : Expr} {tc : Mem → R Bool} {fa fb : Mem → R Val} (hc : PT X c (tXT C ρ Z tc)) (ha : PE X a (tX C ρ Z fa)) (hb : PE X b (tX C ρ Z fb)) : PE X (.IfExp c a b pos) (tX C ρ Z (ifeF tc fa fb)) :=
  PE.of (pe_ifExp hc ha hb) fun σ H Q ⟨G, m, s, h⟩ => ⟨G, m, s, Res.step Fr.refl h fun b m1 G1 H1 x ea f1 f1b s1 o1 h1 => by
    cases (show x = b from o1)
    cases b with
    | true => exact ⟨G1, m1, s1, Res.tail f1b h1 fun _ _ _ _ _ o => o.back fun p q => f1b.back q⟩
    | false => exact ⟨G1, m1, s1, Res.tail f1b h1 fun _ _ _ _ _ o => o.back fun p q => f1b.back q⟩⟩

/-! ### lists of expressions -/
/-- values that will last -/
inductive VSL (C : Cn) (G : Hp) (σ : L2.St) : List V → List Val → Prop where
  | nil : VSL C G σ [] []
  | cons {v : V} {vs : List V} {a : Val} {as : List Val} : VS C G σ v a → VSL C G σ vs as → VSL C G σ (v :: vs) (a :: as)
theorem VSL.up {G G' : Hp} {σ : L2.St} (e : Same G G') : ∀ {vs : List V} {as : List Val}, VSL C G σ vs as → VSL C G' σ vs as
  | _, _, .nil => .nil
  | _, _, .cons h t => .cons (h.up e) (t.up e)
abbrev okL (C : Cn) (σ : L2.St) : Hp → Hp → Mem → List Val → List V → Prop := fun G' _ _ as vs => VSL C G' σ vs as
def tXA (C : Cn) (ρ : Nat → Addr) (Z : XK) (f : Mem → R (List Val)) : TA := fun σ H Q => ∃ G m, SR C ρ G H σ m ∧ Res C ρ Z G H (Own σ m) σ (okL C σ) (f m) Q
/-- no star -/
def noStar : Expr → Bool
  | .Starred .. => false
  | _ => true
theorem star0 {e : Expr} {es : List Expr} {env : PySem.Env} (h : noStar e = true) : starEach (e :: es) env = (false, eval e env) :: starEach es env := by
  cases e <;> first
    | rfl
    | exact absurd h Bool.false_ne_true
theorem starsL {env : PySem.Env} {pos : Pos} : ∀ {es : List Expr}, es.all noStar = true → (backTo pos (starEach es env)).any (·.1) = false
  | [], _ => rfl
  | e :: es, h => by
    simp only [List.all_cons, Bool.and_eq_true] at h
    rw [star0 h.1]
    show (false || (backTo pos (starEach es env)).any (·.1)) = false
    rw [starsL h.2] <;> rfl
theorem pa_G : ∀ {es : List P} {rs : List Expr}, PEL X C ρ Z es rs → rs.all noStar = true → PA X rs (tXA C ρ Z (evsF es))
  | [], [], _, _ => PA.of pa_nil fun σ H Q ⟨G, m, s, h⟩ => h G H [] Fr.refl s .nil
  | e :: es, r :: rs, .cons h t, hs => by
    simp only [List.all_cons, Bool.and_eq_true] at hs
    refine PA.of (pa_cons h (pa_G t hs.2) (star0 hs.1)) ?_
    rintro σ H Q ⟨G, m, s, hq⟩
    refine ⟨G, m, s, Res.step Fr.refl hq fun a m1 G1 H1 x ea f1 f1b s1 o1 h1 => ?_⟩
    obtain ⟨G1', e1, f1', s1', v1⟩ := settle f1b s1 o1 fun p q => q
    refine ⟨G1', m1, s1', Res.step f1' h1 fun as m2 G2 H2 ys eb f2 f2b s2 o2 h2 => ?_⟩
    exact h2 G2 H2 (x :: ys) f2b s2 (.cons (v1.up f2.g) o2)
theorem VSL.dats {G : Hp} {σ : L2.St} : ∀ {vs : List V} {as : List Val} {ds : List D}, VSL C G σ vs as → dats as = some ds → RpL C G vs ds
  | _, _, _, .nil, e => by cases e; exact .nil
  | _, .dat d :: as, ds, .cons h t, e => by
    obtain ⟨es, e1, e2⟩ := Option.map_eq_some_iff.mp (show (_root_.G.dats as).map (d :: ·) = some ds from e)
    subst e2
    exact .cons h (t.dats e1)
  | _, .new o :: as, ds, .cons h t, e => by
    obtain ⟨es, e1, e2⟩ := Option.map_eq_some_iff.mp (show (_root_.G.dats as).map (o.d :: ·) = some ds from e)
    subst e2
    exact .cons h (t.dats e1)
  | _, .own i :: as, ds, .cons h t, e => nomatch e
end
end G

set_option maxRecDepth 100000
set_option maxHeartbeats 4000000
/-! G7: displays, subscripts, slices, fields, calls of built-ins -/
namespace G
open PySem PySem.Spec PyProof.Rows L2

section
variable {X : Cx} {C : Cn} {ρ : Nat → Addr} {Z : XK} {pos : Pos}
theorem pe_tupG {es : List P} {rs : List Expr} {k : Nat} (hp : PEL X C ρ Z es rs) (hs : rs.all noStar = true) : PE X (.Tuple rs k pos) (tX C ρ Z (tupF es)) :=
  PE.of (pe_tup (pa_G hp hs)) fun σ H Q ⟨G, m, s, h⟩ => ⟨G, m, s, Res.step Fr.refl h fun as m1 G1 H1 xs ea f1 f1b s1 o1 h1 => by
    obtain ⟨ds, ed, h1⟩ := opt_st h1
    obtain ⟨hz, h1⟩ := ite_st h1
    have r := o1.dats ed
    exact ⟨by rw [r.len]; exact hz, fun p hp => fin_tup f1b s1 hp r fun G' H' v f' s' o' => h1 G' H' v f' s' o'⟩⟩
theorem pe_lstG {es : List P} {rs : List Expr} (hp : PEL X C ρ Z es rs) (hs : rs.all noStar = true) : PE X (.List rs pos) (tX C ρ Z (lstF es)) :=
  PE.of (pe_lst (pa_G hp hs)) fun σ H Q ⟨G, m, s, h⟩ => ⟨G, m, s, Res.step Fr.refl h fun as m1 G1 H1 xs ea f1 f1b s1 o1 h1 => by
    obtain ⟨ds, ed, h1⟩ := opt_st h1
    obtain ⟨hz, h1⟩ := ite_st h1
    have r := o1.dats ed
    exact ⟨by rw [r.len]; exact hz, fun p hp => fin_new f1b s1 hp r fun G' H' v f' s' o' => h1 G' H' v f' s' o'⟩⟩

/-! ### a[i] -/
theorem atI_rel {G : Hp} {xs : List V} {ds : List D} {i : Int} {d : D} (r : RpL C G xs ds) (e : atI ds i = some d) : ∃ v, atI xs i = some v ∧ Rp C G v d := by
  unfold atI at e ⊢
  rw [r.len]
  cases z : ixN ds.length i with
  | none => rw [z] at e; cases e
  | some j =>
    rw [z] at e
    exact r.get e
theorem no_datum {P : Prop} {d : D} (e : (none : Option D) = some d) : P := nomatch e
theorem ixS (hK : X.K = C.K) : OpS C ρ (fun x y => (ixD x y).map Val.dat) (rIx X.K) := by
  intro G H W σ m G1 H1 x y dx dy val Q f s rx ry e q
  obtain ⟨d, ed, e⟩ := Option.map_eq_some_iff.mp e
  subst e
  rw [hK]
  cases dx <;> cases dy <;> first
    | exact no_datum ed
    | skip
  case str.int z i =>
    by_cases hz : z.length ≤ sizeLine
    · obtain ⟨c, ec, e2⟩ := Option.map_eq_some_iff.mp ((if_pos hz).symm.trans ed)
      subst e2
      exact .inr (.inr ⟨z, i, c, rx.str, ry.int, hz, ec, q G1 H1 _ f s (.str _)⟩)
    · exact no_datum ((if_neg hz).symm.trans ed)
  case tup.int ds i =>
    obtain ⟨a, xs, e1, h1, r1⟩ := rx.tup s.sub
    obtain ⟨v, e2, r2⟩ := atI_rel r1 ed
    exact .inr (.inl ⟨a, xs, i, v, e1, ry.int, h1, e2, q G1 H1 v f s r2⟩)
  case lst.int ds i =>
    obtain ⟨a, xs, e1, h1, r1⟩ := rx.lst s.sub
    obtain ⟨v, e2, r2⟩ := atI_rel r1 ed
    exact .inl ⟨a, xs, i, v, e1, ry.int, h1.l, e2, q G1 H1 v f s r2⟩
theorem ixF_eq (fa fb : Mem → R Val) : ixF fa fb = fun m => (fa m).bind fun x m => (fb m).bind fun y m => opt (rd x m) fun x => opt (rd y m) fun y => opt ((ixD x y).map Val.dat) fun v => .ok v m := by
  unfold ixF
  simp only [opt_map]
/-- no slice -/
def noSlice : Expr → Bool
  | .Slice .. => false
  | _ => true
theorem plainIx0 {b : Expr} (h : noSlice b = true) : PlainIx b := by
  intro o i
  cases b <;> first
    | rfl
    | exact absurd h Bool.false_ne_true
theorem pe_ixG {a b : Expr} {fa fb : Mem → R Val} (hK : X.K = C.K) (hs : noSlice b = true) (ha : PE X a (tX C ρ Z fa)) (hb : PE X b (tX C ρ Z fb)) : PE X (.Subscript a b pos) (tX C ρ Z (ixF fa fb)) :=
  PE.of (pe_ix ix_seq ha hb (plainIx0 hs)) (by rw [ixF_eq]; exact two_op (ixS hK))

/-! ### a[lo:hi] -/
abbrev okI : Hp → Hp → Mem → Option Int → Option Int → Prop := fun _ _ _ a v => v = a
def tXO (C : Cn) (ρ : Nat → Addr) (Z : XK) (f : Mem → R (Option Int)) : TO := fun σ H Q => ∃ G m, SR C ρ G H σ m ∧ Res C ρ Z G H (Own σ m) σ okI (f m) Q
theorem PO.of {e : Option Expr} {t t' : TO} (h : PO X e t) (i : ∀ σ H Q, t' σ H Q → t σ H Q) : PO X e t' := ⟨fun pins s σ H Q I q => h.run pins s σ H Q I (i σ H Q q)⟩
theorem po_noneG : PO X none (tXO C ρ Z (partF none)) := PO.of po_none fun σ H Q ⟨G, m, s, h⟩ => h G H none Fr.refl s rfl
theorem po_someG {e : Expr} {fe : Mem → R Val} (h : PE X e (tX C ρ Z fe)) : PO X (some e) (tXO C ρ Z (partF (some fe))) :=
  PO.of (po_some h) fun σ H Q ⟨G, m, s, h⟩ => ⟨G, m, s, Res.step Fr.refl h fun a m1 G1 H1 x ea f1 f1b s1 o1 h1 => by
    split at h1
    · rename_i i
      cases (show Rp C G1 x (.int i) from o1)
      exact ⟨i, rfl, h1 G1 H1 _ f1b s1 rfl⟩
    · exact False.elim h1⟩
theorem RpL.cut {G : Hp} {xs : List V} {ds : List D} (r : RpL C G xs ds) (lo hi : Option Int) : RpL C G (cutV xs lo hi) (cutD ds lo hi) := by
  unfold cutV cutD
  rw [r.len]
  exact (r.drop _).take _
theorem pe_slcG {a : Expr} {lo hi : Option Expr} {p2 : Pos} {fa : Mem → R Val} {fl fh : Option (Mem → R Val)} (hK : X.K = C.K) (ha : PE X a (tX C ρ Z fa)) (hl : PO X lo (tXO C ρ Z (partF fl))) (hh : PO X hi (tXO C ρ Z (partF fh))) :
    PE X (.Subscript a (.Slice lo hi none p2) pos) (tX C ρ Z (slcF fa fl fh)) :=
  PE.of (pe_slice sl_list ha hl hh) fun σ H Q ⟨G, m, s, h⟩ => ⟨G, m, s, Res.step Fr.refl h fun a m1 G1 H1 x ea f1 f1b s1 o1 h1 => by
    obtain ⟨G1', e1, f1', s1', v1⟩ := settle f1b s1 o1 fun p q => q
    refine ⟨G1', m1, s1', Res.step f1' h1 fun l m2 G2 H2 l' el f2 f2b s2 o2 h2 => ?_⟩
    cases (show l' = l from o2)
    refine ⟨G2, m2, s2, Res.step f2b h2 fun hi m3 G3 H3 hi' eh f3 f3b s3 o3 h3 => ?_⟩
    cases (show hi' = hi from o3)
    obtain ⟨d, ed, h3⟩ := opt_st h3
    obtain ⟨v, ev, h3⟩ := opt_st h3
    cases d <;> first
      | exact no_val ev
      | skip
    case lst ds =>
      cases ev
      obtain ⟨b, xs, rfl, hx, r⟩ := ((v1.up (f2.g.trans f3.g)).read s3 ed).lst s3.sub
      rw [hK]
      exact ⟨b, xs, rfl, hx.l, fun p hp => fin_new f3b s3 hp (r.cut l hi) fun G' H' v f' s' o' => h3 G' H' v f' s' o'⟩⟩

/-! ### o.f -/
theorem look_f {G : Hp} : ∀ {ns : List Nat} {xs : List V} {ds : List D} {k : Nat} {d : D}, RpL C G xs ds → fget ns ds k = some d → ∃ v, ((ns.map C.fn).zip xs).lookup (C.fn k) = some v ∧ Rp C G v d
  | [], _, _, _, _, _, e => nomatch e
  | _ :: _, _, [], _, _, _, e => nomatch e
  | n :: ns, _, d' :: ds, k, d, .cons r t, e => by
    by_cases hn : n = k
    · have e' : some d' = some d := (if_pos hn).symm.trans e
      cases e'
      subst hn
      exact ⟨_, by simp [List.lookup], r⟩
    · obtain ⟨v, h1, h2⟩ := look_f t ((if_neg hn).symm.trans e)
      refine ⟨v, ?_, h2⟩
      have hb : (C.fn k == C.fn n) = false := beq_eq_false_iff_ne.mpr fun z => hn (C.inj _ _ z).symm
      show List.lookup (C.fn k) ((C.fn n, _) :: (ns.map C.fn).zip _) = some v
      simp only [List.lookup, hb]
      exact h1
theorem fget_mem : ∀ {ns : List Nat} {ds : List D} {k : Nat} {d : D}, fget ns ds k = some d → k ∈ ns
  | [], _, _, _, e => nomatch e
  | _ :: _, [], _, _, e => nomatch e
  | n :: ns, d' :: ds, k, d, e => by
    by_cases hn : n = k
    · rw [hn]; exact List.mem_cons_self
    · exact List.mem_cons_of_mem _ (fget_mem ((if_neg hn).symm.trans e))
theorem base0 {e : Expr} {f : Str} {env : PySem.Env} (h : notCall0 e = true) : attributeBase e f env (eval e env) = eval e env := by
  cases e with
  | Call func args kws p =>
    cases args with
    | nil => exact absurd h Bool.false_ne_true
    | cons a as =>
      cases func <;> rfl
  | _ => rfl
theorem pe_fldG {a : Expr} {k : Nat} {f : Str} {fa : Mem → R Val} (hK : X.K = C.K) (hf : C.fn k = f) (hb : notCall0 a = true) (ha : PE X a (tX C ρ Z fa)) : PE X (.Attribute a f pos) (tX C ρ Z (fldF fa k)) :=
  PE.of (pe_fld ha (base0 hb)) (oneV fun G H W σ m G1 H1 x a Q f' s v h => by
    obtain ⟨d, ed, h⟩ := opt_st h
    cases d <;> first
      | exact False.elim h
      | skip
    case ins c ns ds =>
      obtain ⟨d, eg, h⟩ := opt_st h
      obtain ⟨b, dx, xs, rfl, cf, hb, hl, r⟩ := (v.read s ed).ins s.sub
      obtain ⟨w, e1, r1⟩ := look_f r eg
      rw [hK]
      subst hf
      exact ⟨b, C.ad c, dx, _, w, rfl, hb, cf.1, cf.2 k (fget_mem eg), e1, h G1 H1 w f' s r1⟩)

/-! ### built-ins -/
inductive RqL (C : Cn) (G H : Hp) : List V → List D → Prop where
  | nil : RqL C G H [] []
  | cons {v : V} {vs : List V} {d : D} {ds : List D} : Rq C G H v d → RqL C G H vs ds → RqL C G H (v :: vs) (d :: ds)
theorem VSL.reads {G H : Hp} {σ : L2.St} {m : Mem} (s : SR C ρ G H σ m) : ∀ {vs : List V} {as : List Val} {ds : List D}, VSL C G σ vs as → rds m as = some ds → RqL C G H vs ds
  | _, _, _, .nil, e => by cases e; exact .nil
  | _, a :: as, ds, .cons h t, e => by
    unfold rds at e
    split at e
    · rename_i d es e1 e2
      cases e
      exact .cons (h.read s e1) (t.reads s e2)
    · cases e
theorem max_if (i j : Int) : (if j > i then j else i) = max i j := by
  by_cases h : j > i
  · rw [if_pos h]; omega
  · rw [if_neg h]; omega
theorem call_max3i (hc : X.calm = true) : CallR X (.builtin "max") (fun xs H Q => ∃ i j k, xs = [.int i, .int j, .int k] ∧ Q (.int (max (max i j) k)) H) := by
  rintro pins s σ H xs us Q I r ⟨i, j, k, rfl, q⟩
  cases r with
  | cons r1 r =>
    cases r with
    | cons r2 r =>
      cases r with
      | cons r3 r =>
        cases r
        obtain ⟨t, rfl⟩ := r1
        obtain ⟨u, rfl⟩ := r2
        obtain ⟨w, rfl⟩ := r3
        refine max_three_ints (I.ok.hd hc) fun h' tk kp => ⟨_, H, I.kept kp, ?_, q⟩
        by_cases h1 : j > i
        · rw [if_pos h1]
          by_cases h2 : k > j
          · rw [if_pos h2]; exact ⟨w, by rw [show max (max i j) k = k by omega]⟩
          · rw [if_neg h2]; exact ⟨u, by rw [show max (max i j) k = j by omega]⟩
        · rw [if_neg h1]
          by_cases h2 : k > i
          · rw [if_pos h2]; exact ⟨w, by rw [show max (max i j) k = k by omega]⟩
          · rw [if_neg h2]; exact ⟨t, by rw [show max (max i j) k = i by omega]⟩
/-- sorted of data -/
def rSortD (C : Cn) : List V → Hp → VK → Prop := fun vs H Q => ∃ (a : Addr) (xs : List V) (ds : List D) (G : Hp), vs = [.ref a] ∧ SqL C.K H a xs ∧ Same G H ∧ RpL C G xs ds ∧ sortOk ds = true ∧
  ∀ ys p, RpL C G ys (ds.mergeSort (PySem.W.dataLe false D.py)) → H p = none → Q (.ref p) (upd H p (.lst ys))
theorem RpL.each {pins : List (Addr × Obj)} {σ : L2.St} {s : Shared} {G H : Hp} (I : L2.Inv X pins σ H s) (hK : X.K = C.K) (sg : Same G H) : ∀ {xs : List V} {us : List Value} {ds : List D}, RpL C G xs ds → Vals xs us → (∀ d ∈ ds, d.py.canLay0 = true) →
    PySem.W.EachIs (fun u d => ∃ x, RelV x u ∧ Rp C G x d) us ds ∧ PySem.W.EachIs (fun u d => ∃ as, Reads s.heap u (D.py d) as) us ds
  | _, _, _, .nil, .nil, _ => ⟨.nil, .nil⟩
  | _, _, _, .cons h t, .cons r rr, hc => by
    obtain ⟨h1, h2⟩ := RpL.each I hK sg t rr fun d hd => hc d (List.mem_cons_of_mem _ hd)
    have dp := Rp.dp sg _ _ h (hc _ List.mem_cons_self)
    rw [← hK] at dp
    exact ⟨.cons ⟨_, r, h⟩ h1, .cons (Dp.reads I _ _ _ dp r) h2⟩
theorem each_back {G : Hp} : ∀ {us : List Value} {ds : List D}, PySem.W.EachIs (fun u d => ∃ x, RelV x u ∧ Rp C G x d) us ds → ∃ ys, Vals ys us ∧ RpL C G ys ds
  | _, _, .nil => ⟨[], .nil, .nil⟩
  | _, _, .cons ⟨x, r, h⟩ t => by
    obtain ⟨ys, h1, h2⟩ := each_back t
    exact ⟨x :: ys, .cons r h1, .cons h h2⟩
theorem cr_sortD (hK : X.K = C.K) (hu : X.A.units + 64 < cLine) : CallR X (.builtin "sorted") (rSortD C) := by
  rintro pins s σ H vs us Q I r ⟨a, xs, ds, G, rfl, hs, sg, rp, ok, q⟩
  rw [← hK] at hs
  obtain ⟨its, rv, hl, hz⟩ := I.list hs
  rw [Vals.ref1 r]
  unfold sortOk at ok
  simp only [Bool.and_eq_true, List.all_eq_true, decide_eq_true_eq, Bool.or_eq_true] at ok
  obtain ⟨ok1, ok2⟩ := ok
  obtain ⟨e1, e2⟩ := RpL.each I hK sg rp rv fun d hd => (ok1 d hd).1.1
  have hlen : ds.length = xs.length := rp.len.symm
  refine PySem.W.sorted_data hl.isList e1 e2 (fun d hd d' hd' => ?_) ?_ (by rw [hlen]; exact hz) (fun b hb => ?_) fun out ho eo => ?_
  · obtain ⟨b, hb, rfl⟩ := List.mem_map.mp hd
    obtain ⟨b', hb', rfl⟩ := List.mem_map.mp hd'
    exact (ok1 b hb).2 b' hb'
  · rcases ok2 with ok2 | ok2
    · refine .inl fun d hd => ?_
      obtain ⟨b, hb, rfl⟩ := List.mem_map.mp hd
      have z := ok2 b hb
      unfold tupC at z
      split at z
      · exact ⟨_, _, rfl⟩
      · cases z
    · refine .inr fun d hd => ?_
      obtain ⟨b, hb, rfl⟩ := List.mem_map.mp hd
      have z := ok2 b hb
      cases b <;> first
        | exact absurd (show false = true from z) Bool.false_ne_true
        | exact ⟨(fun e => nomatch e), fun _ e => nomatch e⟩
  · have := (ok1 b hb).1.2
    omega
  · obtain ⟨ys, h1, h2⟩ := each_back eo
    obtain ⟨ep, he'⟩ := sortedAll_at s.heap its out.toArray
    have hl2 : ys.length ≤ sizeLine := by
      rw [h1.length, ho, hlen]
      exact hz
    exact ⟨.ref _, upd H (s.heap.objs.size + 1) (.lst ys), I.laid (t' := s.toks) (fun _ _ => sortedAll_old) (Nat.le_succ _) ⟨hl2, out, ep, h1, he'⟩, rfl, q ys _ h2 (I.hok.fresh (Nat.le_succ _))⟩
end
end G

set_option maxRecDepth 100000
set_option maxHeartbeats 4000000
/-! G8: calls of built-ins -/
namespace G
open PySem PySem.Spec PyProof.Rows L2

section
variable {X : Cx} {C : Cn} {ρ : Nat → Addr} {Z : XK} {pos : Pos}
def rIsq : List V → Hp → VK → Prop := fun xs H Q => ∃ i : Int, xs = [.int i] ∧ (0 ≤ i ∧ i.toNat.log2 < 13000) ∧ Q (.int ((Float64.isqrt i.toNat : Nat) : Int)) H
theorem cr_isq : CallR X (.builtin "math.isqrt") rIsq := by
  rintro pins s σ H xs us Q I r ⟨i, rfl, ⟨h0, h1⟩, q⟩
  obtain ⟨u, rfl, t, rfl⟩ := vals1 r
  exact call_function_meets PySem.W.MGF.kind_isqrt PySem.W.MGF.plain_isqrt PySem.W.MGF.entry_isqrt (PySem.W.MGF.args_isqrt _) (PySem.W.mg_run_isqrt i t (by omega) (by omega) (by omega)).meets ⟨.int _, H, I.tok _, ⟨_, rfl⟩, q⟩
def lenR (K : PySem.W.Frag) : List V → Hp → VK → Prop := fun xs H Q => (∃ p ys, xs = [.ref p] ∧ (SqL K H p ys ∨ SqT K H p ys) ∧ Q (.int (List.length ys)) H) ∨ (∃ z : Str, xs = [.str z] ∧ z.length ≤ sizeLine ∧ Q (.int z.length) H)
def minR (K : PySem.W.Frag) : List V → Hp → VK → Prop := fun xs H Q => (∃ i j : Int, xs = [.int i, .int j] ∧ Q (.int (if j < i then j else i)) H) ∨ rMin K xs H Q
def maxR (K : PySem.W.Frag) : List V → Hp → VK → Prop := fun xs H Q => (∃ i j : Int, xs = [.int i, .int j] ∧ Q (.int (if j > i then j else i)) H) ∨ ((∃ i j k, xs = [.int i, .int j, .int k] ∧ Q (.int (max (max i j) k)) H) ∨ rMax K xs H Q)
def intR : List V → Hp → VK → Prop := fun xs H Q => (∃ i, xs = [.int i] ∧ Q (.int i) H) ∨ ∃ k, xs = [.bl k] ∧ Q (.int (if k then 1 else 0)) H
def listR (K : PySem.W.Frag) : List V → Hp → VK → Prop := fun xs H Q => ∃ p ys, xs = [.ref p] ∧ (SqL K H p ys ∨ SqT K H p ys) ∧ ∀ l, H l = none → Q (.ref l) (upd H l (.lst ys))
def tupleR (K : PySem.W.Frag) : List V → Hp → VK → Prop := fun xs H Q => ∃ p ys, xs = [.ref p] ∧ ((SqL K H p ys ∧ ∀ l, H l = none → Q (.ref l) (upd H l (.tup ys))) ∨ (SqT K H p ys ∧ Q (.ref p) H))
def biR (C : Cn) (K : PySem.W.Frag) : Bi → List V → Hp → VK → Prop
  | .len => lenR K
  | .int => intR
  | .abs => fun xs H Q => ∃ i, xs = [.int i] ∧ Q (.int (if i < 0 then -i else i)) H
  | .min => minR K
  | .max => maxR K
  | .sum => rSum K
  | .sorted => rSortD C
  | .list => listR K
  | .tuple => tupleR K
  | .isqrt => rIsq
  | .str => fun xs H Q => ∃ i : Int, xs = [.int i] ∧ i.natAbs.log2 < 1920 ∧ Q (.str (toString i)) H
theorem ints_some : ∀ {ds : List D} {ns : List Int}, ints? ds = some ns → ds = ns.map D.int
  | [], _, e => by cases e; rfl
  | d :: ds, ns, e => by
    cases d <;> first
      | exact nomatch (show (none : Option (List Int)) = some ns from e)
      | skip
    case int i =>
      obtain ⟨ms, e1, e2⟩ := Option.map_eq_some_iff.mp (show (ints? ds).map (i :: ·) = some ns from e)
      subst e2
      rw [ints_some e1]
      rfl
theorem foldl_max : ∀ (ns : List Int) (n : Int), (∀ y ∈ n :: ns, y ≤ ns.foldl max n) ∧ ns.foldl max n ∈ n :: ns
  | [], n => ⟨fun y hy => by rw [List.mem_singleton.mp hy]; exact Int.le_refl _, List.mem_singleton.mpr rfl⟩
  | k :: ns, n => by
    obtain ⟨h1, h2⟩ := foldl_max ns (max n k)
    refine ⟨fun y hy => ?_, ?_⟩
    · have hm := h1 (max n k) List.mem_cons_self
      rcases List.mem_cons.mp hy with e | hy
      · subst e; exact Int.le_trans (by omega) hm
      · rcases List.mem_cons.mp hy with e | hy
        · subst e; exact Int.le_trans (by omega) hm
        · exact h1 y (List.mem_cons_of_mem _ hy)
    · rcases List.mem_cons.mp h2 with e | h2
      · rw [List.foldl_cons, e]
        by_cases hk : n ≤ k
        · rw [show max n k = k by omega]; exact List.mem_cons_of_mem _ List.mem_cons_self
        · rw [show max n k = n by omega]; exact List.mem_cons_self
      · exact List.mem_cons_of_mem _ (List.mem_cons_of_mem _ h2)
theorem foldl_min : ∀ (ns : List Int) (n : Int), (∀ y ∈ n :: ns, ns.foldl min n ≤ y) ∧ ns.foldl min n ∈ n :: ns
  | [], n => ⟨fun y hy => by rw [List.mem_singleton.mp hy]; exact Int.le_refl _, List.mem_singleton.mpr rfl⟩
  | k :: ns, n => by
    obtain ⟨h1, h2⟩ := foldl_min ns (min n k)
    refine ⟨fun y hy => ?_, ?_⟩
    · have hm := h1 (min n k) List.mem_cons_self
      rcases List.mem_cons.mp hy with e | hy
      · subst e; exact Int.le_trans hm (by omega)
      · rcases List.mem_cons.mp hy with e | hy
        · subst e; exact Int.le_trans hm (by omega)
        · exact h1 y (List.mem_cons_of_mem _ hy)
    · rcases List.mem_cons.mp h2 with e | h2
      · rw [List.foldl_cons, e]
        by_cases hk : n ≤ k
        · rw [show min n k = n by omega]; exact List.mem_cons_self
        · rw [show min n k = k by omega]; exact List.mem_cons_of_mem _ List.mem_cons_self
      · exact List.mem_cons_of_mem _ (List.mem_cons_of_mem _ h2)
theorem biS {G H : Hp} {W : Addr → Prop} {σ : L2.St} {m : Mem} {G1 H1 : Hp} {vs : List V} {ds : List D} {val : Val} {Q : VK} {K : PySem.W.Frag} (hK : K = C.K) (b : Bi) (f : Fr G H W G1 H1 (Own σ m)) (s : SR C ρ G1 H1 σ m) (r : RqL C G1 H1 vs ds) (e : biD b ds = some val)
    (q : ∀ G' H' v, Fr G H W G' H' (Own σ m) → SR C ρ G' H' σ m → VOk C G' H' σ m H v val → Q v H') : biR C K b vs H1 Q := by
  subst hK
  have fi : ∀ {i : Int}, some (Val.dat (.int i)) = some val → Q (.int i) H1 := fun {i} e => by
    cases e
    exact q G1 H1 _ f s (.int i)
  have lstI : ∀ {v : V} {es : List D} {ns : List Int}, Rq C G1 H1 v (.lst es) → ints? es = some ns → ∃ a, v = .ref a ∧ SqL C.K H1 a (ns.map V.int) := fun {v es ns} h hi => by
    obtain ⟨a, xs, rfl, h1, r1⟩ := h.lst s.sub
    rw [ints_some hi] at r1
    rw [r1.ints] at h1
    exact ⟨a, rfl, h1.l⟩
  cases b
  case len =>
    match ds, r, e with
    | [.lst es], .cons h .nil, e =>
      obtain ⟨a, xs, rfl, h1, r1⟩ := h.lst s.sub
      exact .inl ⟨a, xs, rfl, .inl h1.l, by rw [r1.len]; exact fi e⟩
    | [.tup es], .cons h .nil, e =>
      obtain ⟨a, xs, rfl, h1, r1⟩ := h.tup s.sub
      exact .inl ⟨a, xs, rfl, .inr h1, by rw [r1.len]; exact fi e⟩
    | [.str z], .cons h .nil, e =>
      by_cases hz : z.length ≤ sizeLine
      · exact .inr ⟨z, by rw [h.str], hz, fi ((if_pos hz).symm.trans e)⟩
      · exact no_val ((if_neg hz).symm.trans e)
  case int =>
    match ds, r, e with
    | [.int i], .cons h .nil, e => exact .inl ⟨i, by rw [h.int], fi e⟩
    | [.bl k], .cons h .nil, e => exact .inr ⟨k, by rw [h.bl], fi e⟩
  case abs =>
    match ds, r, e with
    | [.int i], .cons h .nil, e => exact ⟨i, by rw [h.int], fi e⟩
  case min =>
    match ds, r, e with
    | [.int i, .int j], .cons h (.cons h2 .nil), e => exact .inl ⟨i, j, by rw [h.int, h2.int], fi e⟩
    | [.lst es], .cons h .nil, e =>
      cases hi : ints? es with
      | none => exact no_val ((congrArg minL hi).symm.trans e)
      | some ns =>
        cases ns with
        | nil => exact no_val ((congrArg minL hi).symm.trans e)
        | cons n ns =>
          have e' : some (Val.dat (.int (ns.foldl min n))) = some val := (congrArg minL hi).symm.trans e
          obtain ⟨a, rfl, h1⟩ := lstI h hi
          obtain ⟨k1, k2⟩ := foldl_min ns n
          exact .inr ⟨a, n :: ns, rfl, h1, by simp, fun mm hm hle => by
            have : mm = ns.foldl min n := by have := hle _ k2; have := k1 _ hm; omega
            rw [this]; exact fi e'⟩
  case max =>
    match ds, r, e with
    | [.int i, .int j], .cons h (.cons h2 .nil), e => exact .inl ⟨i, j, by rw [h.int, h2.int], fi e⟩
    | [.int i, .int j, .int k], .cons h (.cons h2 (.cons h3 .nil)), e => exact .inr (.inl ⟨i, j, k, by rw [h.int, h2.int, h3.int], fi e⟩)
    | [.lst es], .cons h .nil, e =>
      cases hi : ints? es with
      | none => exact no_val ((congrArg maxL hi).symm.trans e)
      | some ns =>
        cases ns with
        | nil => exact no_val ((congrArg maxL hi).symm.trans e)
        | cons n ns =>
          have e' : some (Val.dat (.int (ns.foldl max n))) = some val := (congrArg maxL hi).symm.trans e
          obtain ⟨a, rfl, h1⟩ := lstI h hi
          obtain ⟨k1, k2⟩ := foldl_max ns n
          exact .inr (.inr ⟨a, n :: ns, rfl, h1, by simp, fun mm hm hle => by
            have : mm = ns.foldl max n := by have := hle _ k2; have := k1 _ hm; omega
            rw [this]; exact fi e'⟩)
  case sum =>
    match ds, r, e with
    | [.lst es], .cons h .nil, e =>
      cases hi : ints? es with
      | none => exact no_val ((congrArg sumL hi).symm.trans e)
      | some ns =>
        have e' : some (Val.dat (.int ns.sum)) = some val := (congrArg sumL hi).symm.trans e
        obtain ⟨a, rfl, h1⟩ := lstI h hi
        exact ⟨a, ns, rfl, h1, fi e'⟩
  case sorted =>
    match ds, r, e with
    | [.lst es], .cons h .nil, e =>
      by_cases hz : sortOk es = true
      · have e' : some (Val.new (.lst (es.mergeSort (PySem.W.dataLe false D.py)))) = some val := (if_pos hz).symm.trans e
        cases e'
        obtain ⟨a, xs, rfl, h1, r1⟩ := h.lst s.sub
        exact ⟨a, xs, es, G1, rfl, h1.l, s.sub, r1, hz, fun ys p hr hp => fin_new f s hp hr q⟩
      · exact no_val ((if_neg hz).symm.trans e)
  case list =>
    match ds, r, e with
    | [.lst es], .cons h .nil, e =>
      cases e
      obtain ⟨a, xs, rfl, h1, r1⟩ := h.lst s.sub
      exact ⟨a, xs, rfl, .inl h1.l, fun p hp => fin_new f s hp r1 q⟩
    | [.tup es], .cons h .nil, e =>
      cases e
      obtain ⟨a, xs, rfl, h1, r1⟩ := h.tup s.sub
      exact ⟨a, xs, rfl, .inr h1, fun p hp => fin_new f s hp r1 q⟩
  case tuple =>
    match ds, r, e with
    | [.lst es], .cons h .nil, e =>
      cases e
      obtain ⟨a, xs, rfl, h1, r1⟩ := h.lst s.sub
      exact ⟨a, xs, rfl, .inl ⟨h1.l, fun p hp => fin_tup f s hp r1 q⟩⟩
    | [.tup es], .cons h .nil, e =>
      cases e
      rcases h with h | ⟨l, o, rfl, h, eo⟩
      · cases h with
        | tup h1 h2 => exact ⟨_, _, rfl, .inr ⟨Same.t s.sub h1, q G1 H1 _ f s (.tup h1 h2)⟩⟩
      · cases o <;> cases eo
  case isqrt =>
    match ds, r, e with
    | [.int i], .cons h .nil, e =>
      by_cases hz : 0 ≤ i ∧ i.toNat.log2 < 13000
      · exact ⟨i, by rw [h.int], hz, fi ((if_pos hz).symm.trans e)⟩
      · exact no_val ((if_neg hz).symm.trans e)
  case str =>
    match ds, r, e with
    | [.int i], .cons h .nil, e =>
      by_cases hz : i.natAbs.log2 < 1920
      · have e' : some (Val.dat (.str (toString i))) = some val := (if_pos hz).symm.trans e
        cases e'
        exact ⟨i, by rw [h.int], hz, q G1 H1 _ f s (.str _)⟩
      · exact no_val ((if_neg hz).symm.trans e)

/-- where a built-in stands -/
def biM (mg : Str → Option Value) : Bi → Prop
  | .isqrt => mg "isqrt" = some (.builtin "math.isqrt")
  | b => mg (Str.ofString (biN b)) = none
theorem red_bi {es : List P} {b : Bi} {rs : List Expr} {t : List V → Hp → VK → Prop} (hK : X.K = C.K) (ht : t = biR C X.K b) :
    ∀ σ H Q, tX C ρ Z (biF b es) σ H Q → tCB t (tXA C ρ Z (evsF es)) σ H Q := by
  rintro σ H Q ⟨G, m, s, h⟩
  refine ⟨G, m, s, Res.step Fr.refl h fun as m1 G1 H1 xs ea f1 f1b s1 o1 h1 => ?_⟩
  obtain ⟨ds, ed, h1⟩ := opt_st h1
  obtain ⟨v, ev, h1⟩ := opt_st h1
  rw [ht]
  exact biS hK b f1b s1 (o1.reads s1 ed) ev fun G' H' v f' s' o' => h1 G' H' v f' s' o'
theorem callRto {f : Value} {r r' : List V → Hp → VK → Prop} (h : CallR X f r) (e : r' = r) : CallR X f r' := e ▸ h
/-- f(e, ..), f a built-in of the module math -/
theorem pe_callM {x : Str} {p : Pos} {e : Expr} {es : List Expr} {t : TA} {id : String} {r : List V → Hp → VK → Prop} (hc : CallR X (.builtin id) r) (hg : Gl X x) (hm : X.mg x = some (.builtin id)) (ha : PA X (e :: es) t) (hdb : (x == ("__debug__" : Str)) = false)
    (he : starEach (e :: es) X.env = (false, eval e X.env) :: starEach es X.env) (hpl : (backTo pos (starEach es X.env)).any (·.1) = false) : PE X (.Call (.Name x p) (e :: es) [] pos) (tCB r t) := by
  refine ⟨fun pins s σ H Q I h => ?_⟩
  refine wpAny_Call_Name_kw (ld_glob I hg hm ?_ hdb)
  exact callWith_builtin1 (thn (ha.run pos pins s σ H _ I h) fun us s1 ⟨vs, H1, I1, r1, q1⟩ => hc pins s1 σ H1 vs us Q I1 r1 q1) he hpl
theorem pe_biG {b : Bi} {p : Pos} {es : List P} {rs : List Expr} (hK : X.K = C.K) (hc : X.calm = true) (hu : X.A.units + 64 < cLine) (hg : Gl X (Str.ofString (biN b))) (hm : biM X.mg b) (hn : rs.isEmpty = false) (hp : PEL X C ρ Z es rs) (hs : rs.all noStar = true) :
    PE X (.Call (.Name (Str.ofString (biN b)) p) rs [] pos) (tX C ρ Z (biF b es)) := by
  cases rs with
  | nil => cases hn
  | cons e rs =>
    have ha := pa_G hp hs
    have h1 : noStar e = true := (Bool.and_eq_true_iff.mp (by simpa only [List.all_cons] using hs)).1
    have h2 : rs.all noStar = true := (Bool.and_eq_true_iff.mp (by simpa only [List.all_cons] using hs)).2
    have st : starEach (e :: rs) X.env = (false, eval e X.env) :: starEach rs X.env := star0 h1
    have pl : (backTo pos (starEach rs X.env)).any (·.1) = false := starsL h2
    cases b
    case len => exact PE.of (pe_callB (id := "len") (call_len_seq.or call_len_str) hg hm (by decide +kernel) ha (by decide +kernel) (by decide +kernel) st pl) (red_bi (rs := []) hK rfl)
    case int => exact PE.of (pe_callTy (T := "int") call_int1 hg hm (by decide +kernel) ha (by decide +kernel) (by decide +kernel) st pl) (red_bi (rs := []) hK rfl)
    case abs => exact PE.of (pe_callB (id := "abs") call_abs hg hm (by decide +kernel) ha (by decide +kernel) (by decide +kernel) st pl) (red_bi (rs := []) hK rfl)
    case min => exact PE.of (pe_callB (id := "min") ((call_min2 hc).or (cr_min hc)) hg hm (by decide +kernel) ha (by decide +kernel) (by decide +kernel) st pl) (red_bi (rs := []) hK rfl)
    case max => exact PE.of (pe_callB (id := "max") ((call_max2 hc).or ((call_max3i hc).or (cr_max hc))) hg hm (by decide +kernel) ha (by decide +kernel) (by decide +kernel) st pl) (red_bi (rs := []) hK rfl)
    case sum => exact PE.of (pe_callB (id := "sum") (cr_sum hc) hg hm (by decide +kernel) ha (by decide +kernel) (by decide +kernel) st pl) (red_bi (rs := []) hK rfl)
    case sorted => exact PE.of (pe_callB (id := "sorted") (cr_sortD hK hu) hg hm (by decide +kernel) ha (by decide +kernel) (by decide +kernel) st pl) (red_bi (rs := []) hK rfl)
    case list => exact PE.of (pe_callTy (T := "list") call_list_of hg hm (by decide +kernel) ha (by decide +kernel) (by decide +kernel) st pl) (red_bi (rs := []) hK rfl)
    case tuple => exact PE.of (pe_callTy (T := "tuple") call_tuple_of hg hm (by decide +kernel) ha (by decide +kernel) (by decide +kernel) st pl) (red_bi (rs := []) hK rfl)
    case isqrt => exact PE.of (pe_callM cr_isq hg hm ha (by decide +kernel) st pl) (red_bi (rs := []) hK rfl)
    case str => exact PE.of (pe_callTy (T := "str") call_str_int hg hm (by decide +kernel) ha (by decide +kernel) (by decide +kernel) st pl) (red_bi (rs := []) hK rfl)

/-! ### isinstance -/
theorem kits : ∀ (d : D) (t : Ty) (n : String), tyOf d = some n → kitB n (tyN t) = some (subTy d t) := by
  have bb : ∀ t : Ty, kitB "bool" (tyN t) = some (subTy (.bl true) t) := fun t => by cases t <;> decide +kernel
  have nn : ∀ t : Ty, kitB "NoneType" (tyN t) = some false := fun t => by cases t <;> decide +kernel
  have ii : ∀ t : Ty, kitB "int" (tyN t) = some (subTy (.int 0) t) := fun t => by cases t <;> decide +kernel
  have ss : ∀ t : Ty, kitB "str" (tyN t) = some (subTy (.str ⟨#[]⟩) t) := fun t => by cases t <;> decide +kernel
  have tt : ∀ t : Ty, kitB "tuple" (tyN t) = some (subTy (.tup []) t) := fun t => by cases t <;> decide +kernel
  have ll : ∀ t : Ty, kitB "list" (tyN t) = some (subTy (.lst []) t) := fun t => by cases t <;> decide +kernel
  intro d t n e
  cases d <;> (first | cases e | skip)
  · exact (nn t).trans (by cases t <;> rfl)
  · exact (bb t).trans (by cases t <;> rfl)
  · exact (ii t).trans (by cases t <;> rfl)
  · exact (ss t).trans (by cases t <;> rfl)
  · exact (tt t).trans (by cases t <;> rfl)
  · exact (ll t).trans (by cases t <;> rfl)
theorem Rq.tyX {G H : Hp} {v : V} {d : D} {n : String} (s : Same G H) (h : Rq C G H v d) (e : tyOf d = some n) : TyX C.K H v (.type n) := by
  cases d with
  | non => cases e; rw [h.non]; exact .base .non
  | bl b => cases e; rw [h.bl]; exact .base (.bl b)
  | int i => cases e; rw [h.int]; exact .base (.int i)
  | str x => cases e; rw [h.str]; exact .base (.str x)
  | tup ds =>
    cases e
    obtain ⟨a, xs, rfl, h1, r⟩ := h.tup s
    rcases h1 with (h1 | ⟨o, h1⟩) | ⟨o, its, n, h1, h2, _⟩
    · exact .base (.tup h1)
    · exact .fTuple h1
    · exact .kTuple h1 h2
  | lst ds =>
    cases e
    obtain ⟨a, xs, rfl, h1, r⟩ := h.lst s
    rcases h1 with (h1 | ⟨o, h1⟩) | ⟨its, n, h1, _⟩
    · exact .base (.lst h1)
    · exact .base (.frz h1)
    · exact .kList h1 rfl
  | ins c ns ds => cases e
  | fn f => cases e
theorem kit_any {K : PySem.W.Frag} {d : D} {n : String} (e : tyOf d = some n) : ∀ ts : List Ty, PySem.W.kitAny K (.type n) (ts.map fun t => Value.type (tyN t)) = some (ts.any (subTy d))
  | [] => kitAny_nil
  | t :: ts => by
    have h1 : PySem.W.kitOne K (.type n) (.type (tyN t)) = some (subTy d t) := kit_ty (kits d t n e)
    rw [List.map_cons, List.any_cons]
    cases z : subTy d t with
    | true => exact kitAny_cons (b := true) (h1.trans (by rw [z])) (fun e => nomatch e) fun _ => rfl
    | false => exact kitAny_cons (b := false) (h1.trans (by rw [z])) (fun _ => kit_any e ts) fun e => nomatch e
theorem boot_ty : ∀ t : Ty, bootBuiltins (Str.ofString (tyN t)) = some (.type (tyN t)) := fun t => by cases t <;> decide +kernel
theorem ty_ne : ∀ t : Ty, Str.ofString (tyN t) ≠ "__name__" := fun t => by cases t <;> decide +kernel
theorem ty_nd : ∀ t : Ty, (Str.ofString (tyN t) == ("__debug__" : Str)) = false := fun t => by cases t <;> decide +kernel
theorem pe_ty {t : Ty} (hg : Gl X (Str.ofString (tyN t))) (hm : X.mg (Str.ofString (tyN t)) = none) : PE X (.Name (Str.ofString (tyN t)) pos) (tC (.ty (tyN t))) := pe_bltn hg hm (boot_ty t) rfl (ty_ne t) (ty_nd t)
theorem pe_isi1G {a : Expr} {t : Ty} {fa : Mem → R Val} {p p2 : Pos} (hK : X.K = C.K) (hg : Gl X (Str.ofString "isinstance")) (hm : X.mg (Str.ofString "isinstance") = none) (hg2 : Gl X (Str.ofString (tyN t))) (hm2 : X.mg (Str.ofString (tyN t)) = none) (hs : noStar a = true) (ha : PE X a (tX C ρ Z fa)) :
    PE X (.Call (.Name (Str.ofString "isinstance") p) [a, .Name (Str.ofString (tyN t)) p2] [] pos) (tX C ρ Z (isiF fa [t])) :=
  PE.of (pe_callB (id := "isinstance") call_isi hg hm (by decide +kernel) (pa_cons ha (pa_cons (pe_ty hg2 hm2) pa_nil) (star0 hs)) (by decide +kernel) (by decide +kernel) (star0 hs) (by rfl))
    (oneV fun G H W σ m G1 H1 x a Q f s v h => by
      obtain ⟨d, ed, h⟩ := opt_st h
      obtain ⟨b, eb, h⟩ := opt_st h
      unfold isiD at eb
      split at eb
      · rename_i n en
        cases eb
        have r := v.read s ed
        rw [hK]
        refine ⟨x, .ty (tyN t), .type n, .type (tyN t), subTy d t, rfl, .ty _, r.tyX s.sub en, kit_ty (kits d t n en), ?_⟩
        have := h G1 H1 _ f s (.bl _)
        simpa using this
      · cases eb)
def tysE : List Ty → List Expr → Prop
  | [], [] => True
  | t :: ts, .Name x _ :: es => x = Str.ofString (tyN t) ∧ tysE ts es
  | _, _ => False
theorem pa_tys : ∀ {ts : List Ty} {es : List Expr}, tysE ts es → (∀ t ∈ ts, X.mg (Str.ofString (tyN t)) = none) → (∀ t ∈ ts, Gl X (Str.ofString (tyN t))) → PA X es (fun _ H Q => Q (ts.map fun t => V.ty (tyN t)) H)
  | [], [], _, _, _ => pa_nil
  | t :: ts, .Name x p :: es, h, hg, g => by
    obtain ⟨rfl, h⟩ := h
    exact pa_cons (pe_ty (g t List.mem_cons_self) (hg t List.mem_cons_self)) (pa_tys h (fun t ht => hg t (List.mem_cons_of_mem _ ht)) fun t ht => g t (List.mem_cons_of_mem _ ht)) rfl
theorem clsL : ∀ ts : List Ty, Paired ClsV (ts.map fun t => V.ty (tyN t)) (ts.map fun t => Value.type (tyN t))
  | [] => .nil
  | t :: ts => .cons (.ty _) (clsL ts)
theorem pe_isiNG {a : Expr} {ts : List Ty} {es : List Expr} {k : Nat} {fa : Mem → R Val} {p p2 : Pos} (hK : X.K = C.K) (hg : Gl X (Str.ofString "isinstance")) (hm : X.mg (Str.ofString "isinstance") = none) (hg2 : ∀ t ∈ ts, Gl X (Str.ofString (tyN t))) (hm2 : ∀ t ∈ ts, X.mg (Str.ofString (tyN t)) = none)
    (ht : tysE ts es) (hz : ts.length ≤ sizeLine) (hs : noStar a = true) (ha : PE X a (tX C ρ Z fa)) :
    PE X (.Call (.Name (Str.ofString "isinstance") p) [a, .Tuple es k p2] [] pos) (tX C ρ Z (isiF fa ts)) :=
  PE.of (pe_callB (id := "isinstance") call_isiT hg hm (by decide +kernel) (pa_cons ha (pa_cons (pe_tup (pa_tys ht hm2 hg2)) pa_nil) (star0 hs)) (by decide +kernel) (by decide +kernel) (star0 hs) (by rfl))
    (oneV (C := C) (ρ := ρ) (E := Z) (fa := fa) (r := fun x H1 Q => (ts.map fun t => V.ty (tyN t)).length ≤ sizeLine ∧ ∀ tp, H1 tp = none → rIsiT X.K [x, .ref tp] (upd H1 tp (.tup (ts.map fun t => V.ty (tyN t)))) Q) (k := fun x m => opt (rd x m) fun x => opt (isiD x ts) fun b => .ok (.dat (.bl b)) m) fun G H W σ m G1 H1 x a Q f s v h => by
      obtain ⟨d, ed, h⟩ := opt_st h
      obtain ⟨b, eb, h⟩ := opt_st h
      unfold isiD at eb
      split at eb
      · rename_i n en
        cases eb
        have r := v.read s ed
        rw [hK]
        refine ⟨by rw [List.length_map]; exact hz, fun tp htp => ?_⟩
        have ty := r.tyX s.sub en
        have ty2 : TyX C.K (upd H1 tp (.tup (ts.map fun t => V.ty (tyN t)))) x (.type n) := (show Rq C G1 (upd H1 tp (.tup (ts.map fun t => V.ty (tyN t)))) x d from by
          rcases r with r | ⟨l, o, e1, e2, e3⟩
          · exact .inl r
          · obtain ⟨w, hw⟩ := e2.some
            exact .inr ⟨l, o, e1, e2.up (Same.refl _) (upd_ne (ne_of_none hw htp)), e3⟩).tyX ((s.grow htp).sub) en
        exact ⟨x, tp, _, .type n, _, _, rfl, upd_same, clsL ts, ty2, kit_any en ts, h G1 _ _ (f.grow htp) (s.grow htp) (.bl _)⟩
      · cases eb)
end
end G

set_option maxRecDepth 100000
set_option maxHeartbeats 4000000
/-! G9: own objects are written; methods of built-in types -/
namespace G
open PySem PySem.Spec PyProof.Rows L2

section
variable {C : Cn} {ρ : Nat → Addr} {Z : XK} {G H G1 H1 G' H' : Hp} {σ : L2.St} {m m' : Mem} {W W1 W' : Addr → Prop}
theorem gs_ne {m : Mem} {i j : Nat} {x : Sl} (h : j ≠ i) : (m.set i x)[j]? = m[j]? := List.getElem?_set_ne (fun e => h e.symm)
theorem gs_eq {m : Mem} {i : Nat} {x y : Sl} (h : m[i]? = some y) : (m.set i x)[i]? = some x := List.getElem?_set_self (List.getElem?_eq_some_iff.mp h).1
/-- own i of a memory whose i-th slot is written anew -/
theorem own_put {i t : Nat} {o o' : O} (q : m[i]? = some (.own t o)) {b : Addr} (h : Own σ (m.set i (.own t o')) b) : Own σ m b := by
  obtain ⟨j, t2, o2, h1, h2⟩ := h
  by_cases e : j = i
  · subst e; exact ⟨j, t, o, q, h2⟩
  · rw [gs_ne e] at h1; exact ⟨j, t2, o2, h1, h2⟩
theorem put_own {i t : Nat} {o o' : O} (q : m[i]? = some (.own t o)) {b : Addr} (h : Own σ m b) : Own σ (m.set i (.own t o')) b := by
  obtain ⟨j, t2, o2, h1, h2⟩ := h
  by_cases e : j = i
  · subst e; exact ⟨j, t, o', gs_eq q, h2⟩
  · exact ⟨j, t2, o2, by rw [gs_ne e]; exact h1, h2⟩
theorem SR.put {l : Addr} {i t : Nat} {o o' : O} {u : HO} (s : SR C ρ G H σ m) (q : m[i]? = some (.own t o)) (e : σ[i]? = some (some (.ref l))) (h : OwnAt C G (upd H l u) l o') : SR C ρ G (upd H l u) σ (m.set i (.own t o')) := by
  obtain ⟨l', k1, k2, k3, k4⟩ := s.own i t o q
  rw [e] at k1
  cases k1
  refine ⟨by rw [s.len, List.length_set], fun b w z => ?_, fun j d z => ?_, fun j t2 o2 z => ?_, fun j j2 t2 o2 t3 o3 l2 z1 z2 y1 y2 => ?_⟩
  · rw [upd_ne (ne_of_none z k2)]
    exact s.sub b w z
  · have n : j ≠ i := fun e => by subst e; rw [gs_eq q] at z; cases z
    rw [gs_ne n] at z
    exact s.dat j d z
  · by_cases n : j = i
    · subst n
      rw [gs_eq q] at z
      cases z
      exact ⟨l, e, k2, h, k4⟩
    · rw [gs_ne n] at z
      obtain ⟨l2, y1, y2, y3, y4⟩ := s.own j t2 o2 z
      refine ⟨l2, y1, y2, y3.up (Same.refl _) (upd_ne fun el => ?_), y4⟩
      subst el
      exact n (s.sep j i t2 o2 t o l2 z q y1 e)
  · have w1 : ∃ t o, m[j]? = some (.own t o) := by
      by_cases n : j = i
      · subst n; exact ⟨t, o, q⟩
      · rw [gs_ne n] at z1; exact ⟨_, _, z1⟩
    have w2 : ∃ t o, m[j2]? = some (.own t o) := by
      by_cases n : j2 = i
      · subst n; exact ⟨t, o, q⟩
      · rw [gs_ne n] at z2; exact ⟨_, _, z2⟩
    obtain ⟨a1, a2, a3⟩ := w1
    obtain ⟨b1, b2, b3⟩ := w2
    exact s.sep _ _ _ _ _ _ _ a3 b3 y1 y2
theorem Fr.put {l : Addr} {i t : Nat} {o o' : O} {u : HO} (f : Fr G H W G1 H1 (Own σ m)) (q : m[i]? = some (.own t o)) (e : σ[i]? = some (some (.ref l))) : Fr G H W G1 (upd H1 l u) (Own σ (m.set i (.own t o'))) := by
  refine ⟨f.g, fun b w z nw => ?_, f.new, fun b w => f.own b (own_put q w), fun b z => ?_⟩
  · have n : b ≠ l := fun el => by
      subst el
      rcases f.own b ⟨i, t, o, q, e⟩ with w2 | w2
      · exact nw w2
      · rw [w2] at z; cases z
    rw [upd_ne n]
    exact f.h b w z nw
  · by_cases n : b = l
    · subst n; rw [upd_same]; simp
    · rw [upd_ne n]; exact f.there b z
end

section
variable {X : Cx} {C : Cn} {ρ : Nat → Addr} {Z : XK} {pos : Pos}
theorem Rq.kit {G H : Hp} {v : V} {d : D} {t : Ty} (s : Same G H) (h : Rq C G H v d) (e : isTy t d = true) : L2.tyV C.K (tyN t) v H := by
  cases t <;> cases d <;> first
    | exact nomatch (show false = true from e)
    | skip
  case list.lst ds =>
    obtain ⟨a, xs, rfl, h1, r⟩ := h.lst s
    exact .inl ⟨rfl, xs, h1.l⟩
  case int.int i => rw [h.int]; rfl
  case str.str x => rw [h.str]; rfl
/-- what a method reads -/
def bmR (C : Cn) (K : PySem.W.Frag) : Bm → V → List V → Hp → VK → Prop
  | .pop => rPop
  | .append => rAppend
  | .reverse => rReverse
  | _ => fun _ _ _ _ => False
theorem RpL.one {G : Hp} {xs : List V} {d : D} (h : RpL C G xs [d]) : ∃ v, xs = [v] ∧ Rp C G v d := by
  cases h with
  | cons r t => cases t; exact ⟨_, rfl, r⟩
theorem bmM_S {G H : Hp} {W : Addr → Prop} {σ : L2.St} {m : Mem} {G1 H1 : Hp} {v : V} {xs : List V} {ds as ds' : List D} {d : D} {i t : Nat} {Q : VK} {K : PySem.W.Frag} (b : Bm) (hb : mutB b = true) (f : Fr G H W G1 H1 (Own σ m)) (s : SR C ρ G1 H1 σ m)
    (q : m[i]? = some (.own t (.lst ds))) (e : σ[i]? = some (some v)) (r : RpL C G1 xs as) (eb : bmM b ds as = some (d, ds'))
    (fin : ∀ G' H' v, Fr G H W G' H' (Own σ (m.set i (.own t (.lst ds')))) → SR C ρ G' H' σ (m.set i (.own t (.lst ds'))) → VOk C G' H' σ (m.set i (.own t (.lst ds'))) H v (.dat d) → Q v H') : bmR C K b v xs H1 Q := by
  obtain ⟨l, k1, k2, ⟨ys, k3, k4⟩, _⟩ := s.own i t _ q
  rw [e] at k1
  cases k1
  have go : ∀ {zs : List V} {y : V}, RpL C G1 zs ds' → Rp C G1 y d → Q y (upd H1 l (.lst zs)) := fun {zs y} hz hy => fin G1 _ y (f.put q e) (s.put q e ⟨zs, upd_same, hz⟩) hy
  cases b <;> first
    | exact nomatch (show false = true from hb)
    | skip
  case pop =>
    cases r with
    | cons _ _ => exact nomatch (show (none : Option (D × List D)) = some _ from eb)
    | nil =>
      obtain ⟨y, e1, e2⟩ := Option.map_eq_some_iff.mp (show (ds[ds.length - 1]?).map (fun d => (d, ds.dropLast)) = some (d, ds') from eb)
      cases e2
      obtain ⟨z, z1, z2⟩ := k4.get e1
      exact ⟨l, ys, z, rfl, rfl, k3, by rw [k4.len]; exact z1, go k4.dropLast z2⟩
  case append =>
    cases r with
    | nil => exact nomatch (show (none : Option (D × List D)) = some _ from eb)
    | cons r r2 =>
      cases r2 with
      | cons _ _ => exact nomatch (show (none : Option (D × List D)) = some _ from eb)
      | nil =>
        rename_i v1 d1
        have eb : (if ds.length < sizeLine then some (D.non, ds ++ [d1]) else none) = some (d, ds') := eb
        by_cases hz : ds.length < sizeLine
        · rw [if_pos hz] at eb
          cases eb
          exact ⟨l, ys, v1, rfl, rfl, k3, by rw [k4.len]; exact hz, go (k4.app (.cons r .nil)) .non⟩
        · rw [if_neg hz] at eb
          cases eb
  case reverse =>
    cases r with
    | cons _ _ => exact nomatch (show (none : Option (D × List D)) = some _ from eb)
    | nil =>
      cases (show some (D.non, ds.reverse) = some (d, ds') from eb)
      exact ⟨l, ys, rfl, rfl, k3, go k4.rev .non⟩
theorem bmP_S {G H : Hp} {W : Addr → Prop} {σ : L2.St} {m : Mem} {G1 H1 : Hp} {v : V} {xs : List V} {as : List D} {d : D} {val : Val} {Q : VK} {K : PySem.W.Frag} (hK : K = C.K) (b : Bm) (f : Fr G H W G1 H1 (Own σ m)) (s : SR C ρ G1 H1 σ m)
    (ro : Rq C G1 H1 v d) (r : RpL C G1 xs as) (eb : bmP b d as = some val)
    (fin : ∀ G' H' v, Fr G H W G' H' (Own σ m) → SR C ρ G' H' σ m → VOk C G' H' σ m H v val → Q v H') : bmR C K b v xs H1 Q := by
  exact no_val eb
theorem red_bm {b : Bm} {fo : Mem → R Val} {es : List P} (hK : X.K = C.K) :
    ∀ σ H Q, tX C ρ Z (bmF b fo es) σ H Q → tBM X.K (tyN (bmT b)) (bmR C X.K b) (tX C ρ Z fo) (tXA C ρ Z (evsF es)) σ H Q := by
  rintro σ H Q ⟨G, m, s, h⟩
  refine ⟨G, m, s, Res.step Fr.refl h fun a m1 G1 H1 x ea f1 f1b s1 o1 h1 => ?_⟩
  obtain ⟨G1', e1, f1', s1', v1⟩ := settle f1b s1 o1 fun p q => q
  obtain ⟨d, ed, h1⟩ := opt_st h1
  obtain ⟨ht, h1⟩ := ite_st h1
  refine ⟨by rw [hK]; exact (v1.read s1' ed).kit s1'.sub ht, G1', m1, s1', Res.step f1' h1 fun vs m2 G2 H2 xs ev f2 f2b s2 o2 h2 => ?_⟩
  obtain ⟨as, eas, h2⟩ := opt_st h2
  have ra := o2.dats eas
  unfold bmD at h2
  by_cases hb : mutB b = true
  · rw [if_pos hb] at h2
    split at h2
    · rename_i i
      split at h2
      · rename_i t ds q
        split at h2
        · rename_i d' ds' eb
          exact bmM_S b hb f2b s2 q v1 ra eb h2
        · exact False.elim h2
      · exact False.elim h2
    · exact False.elim h2
  · rw [if_neg hb] at h2
    obtain ⟨d2, ed2, h2⟩ := opt_st h2
    obtain ⟨v, ev2, h2⟩ := opt_st h2
    exact bmP_S hK b f2b s2 ((v1.up f2.g).read s2 ed2) ra ev2 h2
theorem red_bm0 {b : Bm} {fo : Mem → R Val} (hK : X.K = C.K) :
    ∀ σ H Q, tX C ρ Z (bmF b fo []) σ H Q → tBM0 X.K (tyN (bmT b)) (bmR C X.K b) (tX C ρ Z fo) σ H Q := by
  intro σ H Q h
  obtain ⟨G, m, s, h⟩ := red_bm (X := X) hK σ H Q h
  refine ⟨G, m, s, ?_⟩
  revert h
  cases fo m with
  | st => exact fun h => h
  | ex c x m1 => exact fun h => h
  | ok a m1 => exact fun h G' H' v f s o => ⟨(h G' H' v f s o).1, by
      obtain ⟨G2, m2, s2, h2⟩ := (h G' H' v f s o).2
      exact h2 G2 H' [] Fr.refl s2 .nil⟩
end
end G

set_option maxRecDepth 100000
set_option maxHeartbeats 4000000
/-! G10: calls of functions, methods, classes -/
namespace G
open PySem PySem.Spec PyProof.Rows L2

def adr (vs : List V) : Nat → Addr := fun j => match vs[j]? with
  | some (.ref a) => a
  | _ => 0
def slotOf (j : Nat) : Option Arg → Option Sl
  | some (.d d) => some (.dat d)
  | some (.io o) => some (.own (j + 1) o)
  | none => none
theorem slots_get : ∀ (as : List Arg) (j k : Nat), (slots j as)[k]? = slotOf (j + k) as[k]?
  | [], j, k => rfl
  | .d d :: r, j, 0 => rfl
  | .io o :: r, j, 0 => rfl
  | .d d :: r, j, k + 1 => by
    show (slots (j + 1) r)[k]? = slotOf (j + (k + 1)) r[k]?
    rw [slots_get r (j + 1) k]
    congr 1
    omega
  | .io o :: r, j, k + 1 => by
    show (slots (j + 1) r)[k]? = slotOf (j + (k + 1)) r[k]?
    rw [slots_get r (j + 1) k]
    congr 1
    omega
theorem slots_len : ∀ (as : List Arg) (j : Nat), (slots j as).length = as.length
  | [], _ => rfl
  | .d _ :: r, j => congrArg Nat.succ (slots_len r (j + 1))
  | .io _ :: r, j => congrArg Nat.succ (slots_len r (j + 1))
theorem slots_dat {as : List Arg} {k : Nat} {d : D} (h : (slots 0 as)[k]? = some (.dat d)) : as[k]? = some (.d d) := by
  rw [slots_get] at h
  cases e : as[k]? with
  | none => rw [e] at h; cases h
  | some a =>
    rw [e] at h
    cases a with
    | d d' => cases h; rfl
    | io o => cases h
theorem slots_own {as : List Arg} {k t : Nat} {o : O} (h : (slots 0 as)[k]? = some (.own t o)) : as[k]? = some (.io o) ∧ t = k + 1 := by
  rw [slots_get] at h
  cases e : as[k]? with
  | none => rw [e] at h; cases h
  | some a =>
    rw [e] at h
    cases a with
    | d d' => cases h
    | io o =>
      have h : some (Sl.own (0 + k + 1) o) = some (.own t _) := h
      cases h
      exact ⟨rfl, by omega⟩
theorem slots_io {as : List Arg} {k : Nat} {o : O} (h : as[k]? = some (.io o)) : (slots 0 as)[k]? = some (.own (k + 1) o) := by
  rw [slots_get, h]
  show some (Sl.own (0 + k + 1) o) = _
  rw [Nat.zero_add]
/-- the callee's outcome -/
def FRes (C : Cn) (E : XK) (G H : Hp) (vs : List V) (as : List Arg) (r : FR) (Q : VK) : Prop := match r with
  | .ok v os => ∀ G' H' u, Fr G H (Own (vs.map some) (slots 0 as)) G' H' (Own (vs.map some) (slots 0 (putA as os))) → SR C (adr vs) G' H' (vs.map some) (slots 0 (putA as os)) → VOk C G' H' (vs.map some) (slots 0 (putA as os)) H u v → Q u H'
  | .ex c x os => ∀ G' H' cls d, Fr G H (Own (vs.map some) (slots 0 as)) G' H' (Own (vs.map some) (slots 0 (putA as os))) → SR C (adr vs) G' H' (vs.map some) (slots 0 (putA as os)) → XOk C G' H' c x cls d → E cls d H'
  | .st => False
def spOf (C : Cn) (φ : Fn) : Sp := fun vs H Q E => ∃ G as, SR C (adr vs) G H (vs.map some) (slots 0 as) ∧ FRes C E G H vs as (φ as) Q

theorem owns_mem : ∀ {vs : List Val} {k i : Nat}, vs[k]? = some (.own i) → i ∈ owns vs
  | [], _, _, h => by simp at h
  | .own j :: r, 0, i, h => by cases h; exact List.mem_cons_self
  | .dat d :: r, 0, i, h => by cases h
  | .new d :: r, 0, i, h => by cases h
  | .own j :: r, k + 1, i, h => List.mem_cons_of_mem _ (owns_mem (vs := r) (k := k) h)
  | .dat d :: r, k + 1, i, h => owns_mem (vs := r) (k := k) h
  | .new d :: r, k + 1, i, h => owns_mem (vs := r) (k := k) h
theorem nodup_cons {i : Nat} {r : List Nat} (h : nodupB (i :: r) = true) : i ∉ r ∧ nodupB r = true := by
  obtain ⟨h1, h2⟩ := Bool.and_eq_true_iff.mp (show (!r.contains i && nodupB r) = true from h)
  refine ⟨fun hm => ?_, h2⟩
  rw [List.contains_iff_mem.mpr hm] at h1
  cases h1
theorem owns_inj : ∀ {vs : List Val} {k k' i : Nat}, nodupB (owns vs) = true → vs[k]? = some (.own i) → vs[k']? = some (.own i) → k = k'
  | [], _, _, _, _, h, _ => by simp at h
  | _ :: r, 0, 0, i, _, _, _ => rfl
  | .own j :: r, 0, k' + 1, i, n, h, h' => by
    cases h
    exact absurd (owns_mem (vs := r) (k := k') h') (nodup_cons n).1
  | .own j :: r, k + 1, 0, i, n, h, h' => by
    cases h'
    exact absurd (owns_mem (vs := r) (k := k) h) (nodup_cons n).1
  | .dat d :: r, 0, k' + 1, i, n, h, h' => by cases h
  | .new d :: r, 0, k' + 1, i, n, h, h' => by cases h
  | .dat d :: r, k + 1, 0, i, n, h, h' => by cases h'
  | .new d :: r, k + 1, 0, i, n, h, h' => by cases h'
  | .own j :: r, k + 1, k' + 1, i, n, h, h' => congrArg Nat.succ (owns_inj (vs := r) (nodup_cons n).2 h h')
  | .dat d :: r, k + 1, k' + 1, i, n, h, h' => congrArg Nat.succ (owns_inj (vs := r) n h h')
  | .new d :: r, k + 1, k' + 1, i, n, h, h' => congrArg Nat.succ (owns_inj (vs := r) n h h')
theorem argsOf_own {m : Mem} {i : Nat} {r : List Val} {as : List Arg} (h : argsOf m (.own i :: r) = some as) : ∃ t o as', m[i]? = some (.own t o) ∧ argsOf m r = some as' ∧ as = .io o :: as' := by
  have h : (match m[i]? with
    | some (.own _ o) => (argsOf m r).map (Arg.io o :: ·)
    | _ => none) = some as := h
  split at h
  · rename_i t o q
    obtain ⟨as', e1, e2⟩ := Option.map_eq_some_iff.mp h
    exact ⟨t, o, as', q, e1, e2.symm⟩
  · cases h
theorem argsOf_dat {m : Mem} {d : D} {r : List Val} {as : List Arg} (h : argsOf m (.dat d :: r) = some as) : ∃ as', argsOf m r = some as' ∧ as = .d d :: as' := by
  obtain ⟨as', e1, e2⟩ := Option.map_eq_some_iff.mp (show (argsOf m r).map (Arg.d d :: ·) = some as from h)
  exact ⟨as', e1, e2.symm⟩
theorem argsOf_new {m : Mem} {o : O} {r : List Val} {as : List Arg} (h : argsOf m (.new o :: r) = some as) : ∃ as', argsOf m r = some as' ∧ as = .d o.d :: as' := by
  obtain ⟨as', e1, e2⟩ := Option.map_eq_some_iff.mp (show (argsOf m r).map (Arg.d o.d :: ·) = some as from h)
  exact ⟨as', e1, e2.symm⟩
theorem argsOf_app {m : Mem} (ds : List D) : ∀ {vs : List Val} {as : List Arg}, argsOf m vs = some as → argsOf m (vs ++ ds.map Val.dat) = some (as ++ ds.map Arg.d)
  | [], _, h => by
    cases h
    show argsOf m (ds.map Val.dat) = some (ds.map Arg.d)
    induction ds with
    | nil => rfl
    | cons d ds ih => show (argsOf m (ds.map Val.dat)).map (Arg.d d :: ·) = _; rw [ih]; rfl
  | .dat d :: r, _, h => by
    obtain ⟨as', e1, rfl⟩ := argsOf_dat h
    show (argsOf m (r ++ ds.map Val.dat)).map (Arg.d d :: ·) = _
    rw [argsOf_app ds e1]; rfl
  | .new o :: r, _, h => by
    obtain ⟨as', e1, rfl⟩ := argsOf_new h
    show (argsOf m (r ++ ds.map Val.dat)).map (Arg.d o.d :: ·) = _
    rw [argsOf_app ds e1]; rfl
  | .own i :: r, _, h => by
    obtain ⟨t, o, as', q, e1, rfl⟩ := argsOf_own h
    show (match m[i]? with
      | some (.own _ o) => (argsOf m (r ++ ds.map Val.dat)).map (Arg.io o :: ·)
      | _ => none) = _
    rw [q, argsOf_app ds e1]; rfl
theorem owns_app (ds : List D) : ∀ vs : List Val, owns (vs ++ ds.map Val.dat) = owns vs
  | [] => by
    induction ds with
    | nil => rfl
    | cons d ds ih => exact ih
  | .dat d :: r => owns_app ds r
  | .new o :: r => owns_app ds r
  | .own i :: r => congrArg (i :: ·) (owns_app ds r)
theorem argsOf_len {m : Mem} : ∀ {vs : List Val} {as : List Arg}, argsOf m vs = some as → as.length = vs.length
  | [], _, h => by cases h; rfl
  | .dat d :: r, _, h => by
    obtain ⟨as', e1, rfl⟩ := argsOf_dat h
    exact congrArg Nat.succ (argsOf_len e1)
  | .new o :: r, _, h => by
    obtain ⟨as', e1, rfl⟩ := argsOf_new h
    exact congrArg Nat.succ (argsOf_len e1)
  | .own i :: r, _, h => by
    obtain ⟨t, o, as', q, e1, rfl⟩ := argsOf_own h
    exact congrArg Nat.succ (argsOf_len e1)
theorem VSL.len {C : Cn} {G : Hp} {σ : L2.St} : ∀ {xs : List V} {vs : List Val}, VSL C G σ xs vs → xs.length = vs.length
  | _, _, .nil => rfl
  | _, _, .cons _ t => congrArg Nat.succ t.len
theorem putIos_get {m : Mem} : ∀ {vs : List Val} {as : List Arg} {os : List O} {mm : Mem}, argsOf m vs = some as → os.length = (owns vs).length → nodupB (owns vs) = true → (∀ i ∈ owns vs, mm[i]? = m[i]?) →
    (putIos mm (owns vs) os).length = mm.length ∧ ∀ i, (i ∉ owns vs ∧ (putIos mm (owns vs) os)[i]? = mm[i]?) ∨ ∃ (k t : Nat) (o o' : O), vs[k]? = some (.own i) ∧ m[i]? = some (.own t o) ∧ as[k]? = some (.io o) ∧ (putA as os)[k]? = some (.io o') ∧ (putIos mm (owns vs) os)[i]? = some (.own t o')
  | [], as, os, mm, ha, lo, nd, ag => ⟨rfl, fun i => .inl ⟨fun h => (nomatch h), rfl⟩⟩
  | .dat d :: r, as, os, mm, ha, lo, nd, ag => by
    obtain ⟨as', e1, rfl⟩ := argsOf_dat ha
    obtain ⟨l, g⟩ := putIos_get (vs := r) (mm := mm) e1 lo nd ag
    refine ⟨l, fun i => ?_⟩
    rcases g i with g | ⟨k, t, o, o', h1, h2, h3, h4, h5⟩
    · exact .inl g
    · exact .inr ⟨k + 1, t, o, o', h1, h2, h3, h4, h5⟩
  | .new d :: r, as, os, mm, ha, lo, nd, ag => by
    obtain ⟨as', e1, rfl⟩ := argsOf_new ha
    obtain ⟨l, g⟩ := putIos_get (vs := r) (mm := mm) e1 lo nd ag
    refine ⟨l, fun i => ?_⟩
    rcases g i with g | ⟨k, t, o, o', h1, h2, h3, h4, h5⟩
    · exact .inl g
    · exact .inr ⟨k + 1, t, o, o', h1, h2, h3, h4, h5⟩
  | .own j :: r, as, [], mm, ha, lo, nd, ag => by cases lo
  | .own j :: r, as, o1 :: os, mm, ha, lo, nd, ag => by
    obtain ⟨t, o, as', q, e1, rfl⟩ := argsOf_own ha
    obtain ⟨n1, n2⟩ := nodup_cons nd
    have q2 : mm[j]? = some (.own t o) := (ag j List.mem_cons_self).trans q
    have ep : putIos mm (owns (.own j :: r)) (o1 :: os) = putIos (mm.set j (.own t o1)) (owns r) os := by
      show putIos (match mm[j]? with
        | some (.own t _) => mm.set j (.own t o1)
        | _ => mm) (owns r) os = _
      rw [q2]
    obtain ⟨l, g⟩ := putIos_get (vs := r) (os := os) (mm := mm.set j (.own t o1)) e1 (Nat.succ.inj lo) n2 fun i hi => by
      rw [gs_ne fun e => n1 (by rw [← e]; exact hi)]
      exact ag i (List.mem_cons_of_mem _ hi)
    rw [ep]
    refine ⟨by rw [l, List.length_set], fun i => ?_⟩
    by_cases e : i = j
    · subst e
      refine .inr ⟨0, t, o, o1, rfl, q, rfl, rfl, ?_⟩
      rcases g i with g | ⟨k, t2, o2, o', h1, h2, h3, h4, h5⟩
      · rw [g.2]; exact gs_eq q2
      · exact absurd (owns_mem h1) n1
    · rcases g i with g | ⟨k, t2, o2, o', h1, h2, h3, h4, h5⟩
      · refine .inl ⟨fun h => ?_, g.2.trans (gs_ne e)⟩
        rcases List.mem_cons.mp (show i ∈ j :: owns r from h) with h | h
        · exact e h
        · exact g.1 h
      · exact .inr ⟨k + 1, t2, o2, o', h1, h2, h3, h4, h5⟩

section
variable {C : Cn} {ρ : Nat → Addr} {Z : XK} {G H G1 H1 G' H' : Hp} {σ : L2.St} {m m' : Mem} {W W1 W' : Addr → Prop}
theorem args_ok : ∀ {vs : List Val} {xs : List V} {as : List Arg}, SR C ρ G1 H1 σ m → VSL C G1 σ xs vs → argsOf m vs = some as → ∀ k : Nat, (∀ d : D, as[k]? = some (.d d) → ∃ x, xs[k]? = some x ∧ Rp C G1 x d) ∧
    (∀ o : O, as[k]? = some (.io o) → ∃ (i t : Nat) (l : Addr), vs[k]? = some (.own i) ∧ m[i]? = some (.own t o) ∧ xs[k]? = some (.ref l) ∧ σ[i]? = some (some (.ref l)))
  | [], _, _, s, .nil, h, k => by
    cases h
    exact ⟨fun d h => by simp at h, fun o h => by simp at h⟩
  | .dat d :: r, x :: xs, _, s, .cons h1 t, h, k => by
    obtain ⟨as', e1, rfl⟩ := argsOf_dat h
    cases k with
    | zero => exact ⟨fun d' h => by cases h; exact ⟨x, rfl, h1⟩, fun o h => by cases h⟩
    | succ k => exact args_ok s t e1 k
  | .new o :: r, x :: xs, _, s, .cons h1 t, h, k => by
    obtain ⟨as', e1, rfl⟩ := argsOf_new h
    cases k with
    | zero => exact ⟨fun d' h => by cases h; exact ⟨x, rfl, h1⟩, fun o h => by cases h⟩
    | succ k => exact args_ok s t e1 k
  | .own i :: r, x :: xs, _, s, .cons h1 t, h, k => by
    obtain ⟨t1, o1, as', q, e1, rfl⟩ := argsOf_own h
    cases k with
    | zero =>
      refine ⟨fun d' h => (by cases h), fun o h => ?_⟩
      cases h
      obtain ⟨l, k1, _⟩ := s.own i t1 o1 q
      have h1' : σ[i]? = some (some x) := h1
      rw [k1] at h1'
      cases h1'
      exact ⟨i, t1, l, rfl, q, rfl, k1⟩
    | succ k => exact args_ok s t e1 k
theorem map_get {xs : List V} {k : Nat} {v : V} (h : xs[k]? = some v) : (xs.map some)[k]? = some (some v) := by rw [List.getElem?_map, h]; rfl
theorem get_map {xs : List V} {k : Nat} {v : V} (h : (xs.map some)[k]? = some (some v)) : xs[k]? = some v := by
  rw [List.getElem?_map] at h
  cases e : xs[k]? with
  | none => rw [e] at h; cases h
  | some w => rw [e] at h; cases h; rfl
theorem adr_at {xs : List V} {k : Nat} {l : Addr} (h : xs[k]? = some (.ref l)) : adr xs k = l := by unfold adr; rw [h]
theorem args_sr {vs : List Val} {xs : List V} {as : List Arg} (s : SR C ρ G1 H1 σ m) (vx : VSL C G1 σ xs vs) (ea : argsOf m vs = some as) (nd : nodupB (owns vs) = true) : SR C (adr xs) G1 H1 (xs.map some) (slots 0 as) := by
  refine ⟨by rw [List.length_map, slots_len, argsOf_len ea, vx.len], s.sub, fun k d h => ?_, fun k t o h => ?_, fun k k' t o t' o' l h h' e e' => ?_⟩
  · obtain ⟨x, h1, h2⟩ := (args_ok s vx ea k).1 d (slots_dat h)
    exact ⟨x, map_get h1, h2⟩
  · obtain ⟨h1, rfl⟩ := slots_own h
    obtain ⟨i, t, l, h2, h3, h4, h5⟩ := (args_ok s vx ea k).2 o h1
    obtain ⟨l', k1, k2, k3, _⟩ := s.own i t o h3
    rw [h5] at k1
    cases k1
    refine ⟨l, map_get h4, k2, k3, fun j ej => ?_⟩
    have : j = k := by omega
    subst this
    exact adr_at h4
  · obtain ⟨h1, rfl⟩ := slots_own h
    obtain ⟨i, t, l1, h2, h3, h4, h5⟩ := (args_ok s vx ea k).2 o h1
    obtain ⟨g1, rfl⟩ := slots_own h'
    obtain ⟨i', t', l2, g2, g3, g4, g5⟩ := (args_ok s vx ea k').2 o' g1
    have e1 := get_map e
    have e2 := get_map e'
    rw [h4] at e1
    rw [g4] at e2
    cases e1
    cases e2
    have := s.sep i i' _ _ _ _ _ h3 g3 h5 g5
    subst this
    exact owns_inj nd h2 g2
/-- behind a call -/
theorem call_after {vs : List Val} {xs : List V} {as : List Arg} {os : List O} {Hn : Hp} {WA WA' : Addr → Prop} (s : SR C ρ G1 H1 σ m) (vx : VSL C G1 σ xs vs) (ea : argsOf m vs = some as) (nd : nodupB (owns vs) = true) (lo : os.length = (owns vs).length)
    (hx : ∀ b o, H1 b = some o → Hn b = some o) (f : Fr G1 Hn WA G' H' WA') (hW : ∀ b, WA b → (∃ (k : Nat) (o : O), as[k]? = some (.io o) ∧ xs[k]? = some (.ref b)) ∨ H1 b = none) (sb : Same G' H')
    (ha : ∀ (k : Nat) (o' : O) (l : Addr), (putA as os)[k]? = some (.io o') → xs[k]? = some (.ref l) → G' l = none ∧ OwnAt C G' H' l o') :
    SR C ρ G' H' σ (putIos m (owns vs) os) ∧ Fr G1 H1 (Own σ m) G' H' (Own σ (putIos m (owns vs) os)) ∧ ∀ b, Own σ (putIos m (owns vs) os) b → Own σ m b := by
  obtain ⟨pl, pg⟩ := putIos_get (mm := m) ea lo nd fun _ _ => rfl
  have hn : ∀ b, Hn b = none → H1 b = none := fun b h => by
    cases z : H1 b with
    | none => rfl
    | some w => rw [hx b w z] at h; cases h
  have hA : ∀ b, WA b → (∃ (i t : Nat) (o : O), i ∈ owns vs ∧ m[i]? = some (.own t o) ∧ σ[i]? = some (some (.ref b))) ∨ H1 b = none := fun b w => by
    rcases hW b w with ⟨k, o, h1, h2⟩ | h
    · obtain ⟨i, t, l, g1, g2, g3, g4⟩ := (args_ok s vx ea k).2 o h1
      rw [h2] at g3
      cases g3
      exact .inl ⟨i, t, o, owns_mem g1, g2, g4⟩
    · exact .inr h
  have org : ∀ (i t : Nat) (o : O), (putIos m (owns vs) os)[i]? = some (.own t o) → ∃ o0 : O, m[i]? = some (.own t o0) := fun i t o h => by
    rcases pg i with g | ⟨k, t2, o2, o', h1, h2, h3, h4, h5⟩
    · rw [g.2] at h; exact ⟨o, h⟩
    · rw [h5] at h; cases h; exact ⟨o2, h2⟩
  have orgW : ∀ b, Own σ (putIos m (owns vs) os) b → Own σ m b := fun b ⟨i, t, o, h1, h2⟩ => by
    obtain ⟨o0, h0⟩ := org i t o h1
    exact ⟨i, t, o0, h0, h2⟩
  have hWo : ∀ b, WA b → Own σ m b ∨ H1 b = none := fun b w => by
    rcases hA b w with ⟨i, t, o, h1, h2, h3⟩ | h
    · exact .inl ⟨i, t, o, h2, h3⟩
    · exact .inr h
  refine ⟨⟨by rw [s.len, pl], sb, fun i d h => ?_, fun i t o h => ?_, fun i j t o t' o' l h h' e e' => ?_⟩, ⟨f.g, fun b w z nw => ?_, fun b g => ?_, fun b w => .inl (orgW b w), fun b z => ?_⟩, orgW⟩
  · rcases pg i with g | ⟨k, t2, o2, o', h1, h2, h3, h4, h5⟩
    · rw [g.2] at h
      obtain ⟨v, h1, h2⟩ := s.dat i d h
      exact ⟨v, h1, h2.up f.g⟩
    · rw [h5] at h; cases h
  · rcases pg i with g | ⟨k, t2, o2, o', h1, h2, h3, h4, h5⟩
    · rw [g.2] at h
      obtain ⟨l, k1, k2, k3, k4⟩ := s.own i t o h
      obtain ⟨w, hw⟩ := k3.some
      have nW : ¬ WA l := fun w2 => by
        rcases hA l w2 with ⟨i2, t2, o2, q1, q2, q3⟩ | q
        · have := s.sep i i2 _ _ _ _ _ h q2 k1 q3
          subst this
          exact g.1 q1
        · rw [q] at hw; cases hw
      refine ⟨l, k1, ?_, k3.up f.g ((f.h l w (hx l w hw) nW).trans hw.symm), k4⟩
      cases z : G' l with
      | none => rfl
      | some y =>
        rcases f.new l (by rw [z]; simp) with q | q | q
        · exact absurd k2 q
        · exact absurd q nW
        · rw [hn l q] at hw; cases hw
    · rw [h5] at h
      cases h
      obtain ⟨i2, t3, l, g1, g2, g3, g4⟩ := (args_ok s vx ea k).2 o2 h3
      rw [h1] at g1
      cases g1
      rw [h2] at g2
      cases g2
      obtain ⟨l2, k1, k2, k3, k4⟩ := s.own i t o2 h2
      rw [g4] at k1
      cases k1
      obtain ⟨a1, a2⟩ := ha k o l h4 g3
      exact ⟨l, g4, a1, a2, k4⟩
  · obtain ⟨o0, h0⟩ := org i t o h
    obtain ⟨o1, h1⟩ := org j t' o' h'
    exact s.sep i j _ _ _ _ _ h0 h1 e e'
  · refine f.h b w (hx b w z) fun w2 => ?_
    rcases hWo b w2 with q | q
    · exact nw q
    · rw [q] at z; cases z
  · rcases f.new b g with q | q | q
    · exact .inl q
    · rcases hWo b q with q | q
      · exact .inr (.inl q)
      · exact .inr (.inr q)
    · exact .inr (.inr (hn b q))
  · refine f.there b ?_
    cases e : H1 b with
    | none => exact absurd e z
    | some w => rw [hx b w e]; simp
/-- from the callee's state behind -/
theorem put_at {xs : List V} {as : List Arg} {os : List O} (s' : SR C (adr xs) G' H' (xs.map some) (slots 0 (putA as os))) : ∀ (k : Nat) (o' : O) (l : Addr), (putA as os)[k]? = some (.io o') → xs[k]? = some (.ref l) → G' l = none ∧ OwnAt C G' H' l o' := fun k o' l h1 h2 => by
  obtain ⟨l', k1, k2, k3, _⟩ := s'.own k _ _ (slots_io h1)
  have e := get_map k1
  rw [h2] at e
  cases e
  exact ⟨k2, k3⟩
theorem own_at {xs : List V} {as : List Arg} {b : Addr} (h : Own (xs.map some) (slots 0 as) b) : ∃ (k : Nat) (o : O), as[k]? = some (.io o) ∧ xs[k]? = some (.ref b) := by
  obtain ⟨k, t, o, h1, h2⟩ := h
  exact ⟨k, o, (slots_own h1).1, get_map h2⟩
end

/-- the defaults that fill up -/
def Dfl (dvs : List V) (dfl : List D) : Prop := dvs = dfl.map D.v ∧ ∀ d ∈ dfl, flatD d = true
theorem rp_flat {C : Cn} {G : Hp} : ∀ {d : D}, flatD d = true → Rp C G d.v d
  | .non, _ => .non
  | .bl b, _ => .bl b
  | .int i, _ => .int i
  | .str x, _ => .str x
theorem Dfl.vsl {C : Cn} {G : Hp} {σ : L2.St} : ∀ {dfl : List D}, (∀ d ∈ dfl, flatD d = true) → VSL C G σ (dfl.map D.v) (dfl.map Val.dat)
  | [], _ => .nil
  | d :: r, h => .cons (rp_flat (h d List.mem_cons_self)) (Dfl.vsl fun d hd => h d (List.mem_cons_of_mem _ hd))
theorem VSL.app {C : Cn} {G : Hp} {σ : L2.St} : ∀ {xs ys : List V} {vs ws : List Val}, VSL C G σ xs vs → VSL C G σ ys ws → VSL C G σ (xs ++ ys) (vs ++ ws)
  | _, _, _, _, .nil, h => h
  | _, _, _, _, .cons a t, h => .cons a (t.app h)

section
variable {X : Cx} {C : Cn} {ρ : Nat → Addr} {Z : XK} {pos : Pos}
/-- the values as arguments, the callee's outcome, the state behind -/
theorem call_fn {G H G1 H1 : Hp} {W : Addr → Prop} {σ : L2.St} {m1 : Mem} {vs : List Val} {xs dvs : List V} {dfl : List D} {φ φ0 : Fn} {Q : VK} (hφ : φ = fun as => φ0 (as ++ dfl.map Arg.d)) (hd : Dfl dvs dfl) (f1 : Fr G H W G1 H1 (Own σ m1)) (s1 : SR C ρ G1 H1 σ m1) (o1 : VSL C G1 σ xs vs)
    (h1 : Res C ρ Z G H W σ (okV C σ H) (callR φ vs m1) Q) : spOf C φ0 (xs ++ dvs) H1 Q Z := by
  unfold callR at h1
  split at h1
  · exact False.elim h1
  · rename_i as ea
    obtain ⟨nd, h1⟩ := ite_st h1
    obtain ⟨rfl, hf⟩ := hd
    have vx := o1.app (Dfl.vsl (C := C) (G := G1) (σ := σ) hf)
    have ea' := argsOf_app dfl ea
    have nd' : nodupB (owns (vs ++ dfl.map Val.dat)) = true := by rw [owns_app]; exact nd
    refine ⟨G1, as ++ dfl.map Arg.d, args_sr s1 vx ea' nd', ?_⟩
    subst hφ
    cases hr : φ0 (as ++ dfl.map Arg.d) with
    | st =>
      dsimp only at h1
      rw [hr] at h1
      exact False.elim h1
    | ok v os =>
      dsimp only at h1
      rw [hr] at h1
      dsimp only at h1
      intro G' H' u f s' o
      cases v with
      | own i => exact False.elim h1
      | dat d =>
        dsimp only at h1
        obtain ⟨lo, h1⟩ := ite_st h1
        obtain ⟨a1, a2, a3⟩ := call_after s1 vx ea' nd' (by rw [owns_app]; exact lo) (fun _ _ h => h) f (fun b w => .inl (own_at w)) s'.sub (put_at s')
        rw [owns_app] at a1 a2
        exact h1 G' H' u (f1.trans a2) a1 o
      | new d =>
        dsimp only at h1
        obtain ⟨lo, h1⟩ := ite_st h1
        obtain ⟨a1, a2, a3⟩ := call_after s1 vx ea' nd' (by rw [owns_app]; exact lo) (fun _ _ h => h) f (fun b w => .inl (own_at w)) s'.sub (put_at s')
        rw [owns_app] at a1 a2 a3
        obtain ⟨p, e1, e2, e3, e4, e5⟩ := o
        exact h1 G' H' u (f1.trans a2) a1 ⟨p, e1, f1.back e2, e3, fun w => s1.notOwn e2 (a3 p w), e5⟩
    | ex c x os =>
      dsimp only at h1
      rw [hr] at h1
      dsimp only at h1
      intro G' H' cls d f s' o
      obtain ⟨lo, h1⟩ := ite_st h1
      obtain ⟨a1, a2, a3⟩ := call_after s1 vx ea' nd' (by rw [owns_app]; exact lo) (fun _ _ h => h) f (fun b w => .inl (own_at w)) s'.sub (put_at s')
      rw [owns_app] at a1 a2
      exact h1 G' H' cls d (f1.trans a2) a1 o
theorem red_call {φ φ0 : Fn} {dvs : List V} {dfl : List D} {es : List P} (hφ : φ = fun as => φ0 (as ++ dfl.map Arg.d)) (hd : Dfl dvs dfl) :
    ∀ σ H Q, tX C ρ Z (callF φ es) σ H Q → tCall (spOf C φ0) dvs Z (tXA C ρ Z (evsF es)) σ H Q := by
  rintro σ H Q ⟨G, m, s, h⟩
  exact ⟨G, m, s, Res.step Fr.refl h fun vs m1 G1 H1 xs ea f1 f1b s1 o1 h1 => call_fn hφ hd f1b s1 o1 h1⟩
theorem tXA_nil {σ : L2.St} {H : Hp} {Q : List V → Hp → Prop} (h : tXA C ρ Z (evsF []) σ H Q) : Q [] H := by
  obtain ⟨G, m, s, h⟩ := h
  exact h G H [] Fr.refl s .nil
/-- a def as it is called: φ what this call's values give -/
structure FnG (CX : CXT) (P : Program) (w : World) (K : PySem.W.Frag) (mg : Str → Option Value) (base : Heap) (C : Cn) (k : Nat) (f : Addr) (φ : Fn) : Prop where
  to : ∃ (fd : FuncData) (ps : List Str) (ds : List Value) (dvs : List V) (dfl : List D) (φ0 : Fn), FnOk P w K mg base CX k f fd ps (spOf C φ0) ∧ Binds K fd ps ds ∧ Vals dvs ds ∧ Dfl dvs dfl ∧ φ = fun as => φ0 (as ++ dfl.map Arg.d)
theorem FnG.up {CX : CXT} {P : Program} {w : World} {K : PySem.W.Frag} {mg : Str → Option Value} {base : Heap} {j k : Nat} {f : Addr} {φ : Fn} (F : FnG CX P w K mg base C j f φ) (h : j ≤ k) : FnG CX P w K mg base C k f φ := by
  obtain ⟨fd, ps, ds, dvs, dfl, φ0, F, r⟩ := F.to
  exact ⟨fd, ps, ds, dvs, dfl, φ0, F.mono h, r⟩
theorem pe_callG {CX : CXT} {k : Nat} {f : Addr} {φ : Fn} {x : Str} {p : Pos} {es : List P} {rs : List Expr} (F : FnG CX X.prog X.w X.K X.mg X.base C k f φ) (hr : Room k X.A) (hg : Gl X x) (hm : X.mg x = some (.ref f)) (hk : PySem.W.keepIn X.K (.ref f) = true) (hx : Passes CX X Z)
    (hdb : (x == ("__debug__" : Str)) = false) (hp : PEL X C ρ Z es rs) (hs : rs.all noStar = true) : PE X (.Call (.Name x p) rs [] pos) (tX C ρ Z (callF φ es)) := by
  obtain ⟨fd, ps, ds, dvs, dfl, φ0, F, hb, hv, hd, hφ⟩ := F.to
  cases rs with
  | nil =>
    cases hp
    refine PE.of (pe_call0 F hr hg hm hk hb hv hx hdb) fun σ H Q h => ?_
    exact tXA_nil (red_call hφ hd σ H Q h)
  | cons e rs =>
    have ha := pa_G hp hs
    have h1 : noStar e = true := (Bool.and_eq_true_iff.mp (by simpa only [List.all_cons] using hs)).1
    have h2 : rs.all noStar = true := (Bool.and_eq_true_iff.mp (by simpa only [List.all_cons] using hs)).2
    exact PE.of (pe_call F hr hg hm hk hb hv hx ha hdb (star0 h1) (starsL h2)) (red_call hφ hd)
end
end G

set_option maxRecDepth 100000
set_option maxHeartbeats 4000000
/-! G11: statements -/
namespace G
open PySem PySem.Spec PyProof.Rows L2

/-- the wish behind a statement -/
def FlS (C : Cn) (G' H' : Hp) (σ' : L2.St) (m' : Mem) (H : Hp) (Dn : Ends) : Fl → Prop
  | .nx => Dn.nx σ' H'
  | .bk => Dn.bk σ' H'
  | .ct => Dn.ct σ' H'
  | .rt v => ∀ u, VOk C G' H' σ' m' H u v → Dn.rt u H'
def ResS (C : Cn) (ρ : Nat → Addr) (E : XK) (G H : Hp) (W : Addr → Prop) (r : R Fl) (Dn : Ends) : Prop := match r with
  | .ok f m' => ∀ G' H' σ', Fr G H W G' H' (Own σ' m') → SR C ρ G' H' σ' m' → FlS C G' H' σ' m' H Dn f
  | .ex c x m' => ∀ G' H' σ' cls d, Fr G H W G' H' (Own σ' m') → SR C ρ G' H' σ' m' → XOk C G' H' c x cls d → E cls d H'
  | .st => False
def tS (C : Cn) (ρ : Nat → Addr) (E : XK) (f : Mem → R Fl) : TS := fun Dn σ H => ∃ G m, SR C ρ G H σ m ∧ ResS C ρ E G H (Own σ m) (f m) Dn

section
variable {C : Cn} {ρ : Nat → Addr} {Z : XK} {G H G1 H1 G' H' : Hp} {σ : L2.St} {m m' : Mem} {W W1 W' : Addr → Prop} {Dn : Ends}
theorem ResS.step {α β : Type} {ok : Hp → Hp → Mem → α → β → Prop} {r : R α} {k : α → Mem → R Fl} {Q1 : β → Hp → Prop}
    (f0 : Fr G H W G1 H1 W1) (hB : ResS C ρ Z G H W (r.bind k) Dn)
    (st : ∀ a m2 G2 H2 v, r = .ok a m2 → Fr G1 H1 W1 G2 H2 (Own σ m2) → Fr G H W G2 H2 (Own σ m2) → SR C ρ G2 H2 σ m2 → ok G2 H2 m2 a v → ResS C ρ Z G H W (k a m2) Dn → Q1 v H2) : Res C ρ Z G1 H1 W1 σ ok r Q1 := by
  cases r with
  | st => exact False.elim hB
  | ex c x m1 => exact fun G2 H2 cls d f s x => hB G2 H2 σ cls d (f0.trans f) s x
  | ok a m1 => exact fun G2 H2 v f s o => st a m1 G2 H2 v rfl f (f0.trans f) s o hB
theorem optS {α : Type} {o : Option α} {f : α → R Fl} (h : ResS C ρ Z G H W (opt o f) Dn) : ∃ a, o = some a ∧ ResS C ρ Z G H W (f a) Dn := by
  cases o with
  | none => exact False.elim h
  | some a => exact ⟨a, rfl, h⟩
theorem iteS {c : Prop} [Decidable c] {r : R Fl} (h : ResS C ρ Z G H W (if c then r else .st) Dn) : c ∧ ResS C ρ Z G H W r Dn := by
  by_cases hc : c
  · rw [if_pos hc] at h
    exact ⟨hc, h⟩
  · rw [if_neg hc] at h
    exact False.elim h
theorem FlS.back {f : Fl} {H1 : Hp} (b : ∀ b, H1 b = none → H b = none) (h : FlS C G' H' σ m' H Dn f) : FlS C G' H' σ m' H1 Dn f := by
  cases f with
  | rt v => exact fun u o => h u (o.back b)
  | _ => exact h
theorem ResS.tail {r : R Fl} (f : Fr G H W G1 H1 W1) (h : ResS C ρ Z G H W r Dn) : ResS C ρ Z G1 H1 W1 r Dn := by
  cases r with
  | st => exact h
  | ex c x m1 => exact fun G2 H2 σ2 cls d f2 s x => h G2 H2 σ2 cls d (f.trans f2) s x
  | ok a m1 => exact fun G2 H2 σ2 f2 s => (h G2 H2 σ2 (f.trans f2) s).back fun b q => f.back q

/-! ### stores -/
theorem setL_ne {α : Type} {l : List α} {i j : Nat} {x : α} (h : j ≠ i) : (l.set i x)[j]? = l[j]? := List.getElem?_set_ne (fun e => h e.symm)
theorem setL_eq {α : Type} {l : List α} {i : Nat} {x : α} (h : i < l.length) : (l.set i x)[i]? = some x := List.getElem?_set_self h
theorem SR.set {v : V} {d : D} {i : Nat} (s : SR C ρ G H σ m) (hi : i < m.length) (r : Rp C G v d) : SR C ρ G H (σ.set i (some v)) (m.set i (.dat d)) := by
  have nd : ∀ j t o, (m.set i (.dat d))[j]? = some (Sl.own t o) → j ≠ i ∧ m[j]? = some (.own t o) := fun j t o h => by
    by_cases e : j = i
    · subst e; rw [setL_eq hi] at h; cases h
    · rw [setL_ne e] at h; exact ⟨e, h⟩
  refine ⟨by rw [List.length_set, List.length_set, s.len], s.sub, fun j d2 h => ?_, fun j t o h => ?_, fun j k t o t' o' l h h' e e' => ?_⟩
  · by_cases e : j = i
    · subst e
      rw [setL_eq hi] at h
      cases h
      exact ⟨v, setL_eq (by rw [s.len]; exact hi), r⟩
    · rw [setL_ne e] at h
      rw [setL_ne e]
      exact s.dat j d2 h
  · obtain ⟨n, h⟩ := nd j t o h
    rw [setL_ne n]
    exact s.own j t o h
  · obtain ⟨n, h⟩ := nd j t o h
    obtain ⟨n', h'⟩ := nd k t' o' h'
    rw [setL_ne n] at e
    rw [setL_ne n'] at e'
    exact s.sep j k t o t' o' l h h' e e'
theorem own_set {v : V} {d : D} {i : Nat} {b : Addr} (hi : i < m.length) (h : Own (σ.set i (some v)) (m.set i (.dat d)) b) : Own σ m b := by
  obtain ⟨j, t, o, h1, h2⟩ := h
  by_cases e : j = i
  · subst e; rw [setL_eq hi] at h1; cases h1
  · rw [setL_ne e] at h1 h2; exact ⟨j, t, o, h1, h2⟩
theorem SR.setOwn {p : Addr} {o : O} {i : Nat} (s : SR C ρ G H σ m) (hi : i < m.length) (hg : G p = none) (ho : OwnAt C G H p o) (hn : ¬ Own σ m p) : SR C ρ G H (σ.set i (some (.ref p))) (m.set i (.own 0 o)) := by
  have hs : i < σ.length := by rw [s.len]; exact hi
  refine ⟨by rw [List.length_set, List.length_set, s.len], s.sub, fun j d2 h => ?_, fun j t o h => ?_, fun j k t o t' o' l h h' e e' => ?_⟩
  · by_cases e : j = i
    · subst e
      rw [setL_eq hi] at h
      cases h
    · rw [setL_ne e] at h
      rw [setL_ne e]
      exact s.dat j d2 h
  · by_cases e : j = i
    · subst e
      rw [setL_eq hi] at h
      cases h
      exact ⟨p, setL_eq hs, hg, ho, fun j e => nomatch e⟩
    · rw [setL_ne e] at h
      rw [setL_ne e]
      exact s.own j t o h
  · by_cases e1 : j = i
    · by_cases e2 : k = i
      · rw [e1, e2]
      · subst e1
        rw [setL_eq hs] at e
        cases e
        rw [setL_ne e2] at h' e'
        exact absurd ⟨k, t', o', h', e'⟩ hn
    · by_cases e2 : k = i
      · subst e2
        rw [setL_eq hs] at e'
        cases e'
        rw [setL_ne e1] at h e
        exact absurd ⟨j, t, o, h, e⟩ hn
      · rw [setL_ne e1] at h e
        rw [setL_ne e2] at h' e'
        exact s.sep j k t o t' o' l h h' e e'
theorem own_setOwn {p : Addr} {o : O} {i : Nat} {b : Addr} (hl : σ.length = m.length) (hi : i < m.length) (h : Own (σ.set i (some (.ref p))) (m.set i (.own 0 o)) b) : Own σ m b ∨ b = p := by
  obtain ⟨j, t, o, h1, h2⟩ := h
  by_cases e : j = i
  · subst e
    rw [setL_eq (by rw [hl]; exact hi)] at h2
    cases h2
    exact .inr rfl
  · rw [setL_ne e] at h1 h2; exact .inl ⟨j, t, o, h1, h2⟩
theorem Fr.more {p : Addr} (f : Fr G H W G1 H1 W1) (hp : H p = none) (h : ∀ b, W' b → W1 b ∨ b = p) : Fr G H W G1 H1 W' := ⟨f.g, f.h, f.new, fun b w => by
  rcases h b w with w | rfl
  · exact f.own b w
  · exact .inr hp, f.there⟩
/-- an own object is written no more -/
theorem SR.frz {i : Nat} {o : O} (s : SR C ρ G1 H1 σ m) (f : Fr G H W G1 H1 (Own σ m)) (q : m[i]? = some (.own 0 o)) : ∃ G2, SR C ρ G2 H1 σ (m.set i (.dat o.d)) ∧ Fr G H W G2 H1 (Own σ (m.set i (.dat o.d))) := by
  obtain ⟨l, k1, k2, k3, _⟩ := s.own i 0 o q
  obtain ⟨u, e1, e2⟩ := Rp.frozen k3 k2
  have hi : i < m.length := (List.getElem?_eq_some_iff.mp q).1
  have nd : ∀ j t o', (m.set i (.dat o.d))[j]? = some (Sl.own t o') → j ≠ i ∧ m[j]? = some (.own t o') := fun j t o h => by
    by_cases e : j = i
    · subst e; rw [setL_eq hi] at h; cases h
    · rw [setL_ne e] at h; exact ⟨e, h⟩
  have sm : Same G1 (upd G1 l u) := same_upd k2
  refine ⟨upd G1 l u, ⟨by rw [List.length_set, s.len], fun b w z => ?_, fun j d h => ?_, fun j t o' h => ?_, fun j k t o t' o' l h h' e e' => ?_⟩, ⟨f.g.trans sm, f.h, fun b z => ?_, fun b w => ?_, f.there⟩⟩
  · by_cases e : b = l
    · subst e; rw [upd_same] at z; cases z; exact e1
    · rw [upd_ne e] at z; exact s.sub b w z
  · by_cases e : j = i
    · subst e; rw [setL_eq hi] at h; cases h; exact ⟨_, k1, e2⟩
    · rw [setL_ne e] at h
      obtain ⟨v, h1, h2⟩ := s.dat j d h
      exact ⟨v, h1, h2.up sm⟩
  · obtain ⟨n, h⟩ := nd j t o' h
    obtain ⟨l2, y1, y2, y3, y4⟩ := s.own j t o' h
    refine ⟨l2, y1, ?_, y3.up sm rfl, y4⟩
    rw [upd_ne fun e => n (s.sep j i _ _ _ _ l h q (by rw [← e]; exact y1) k1)]
    exact y2
  · exact s.sep j k _ _ _ _ l (nd j t o h).2 (nd k t' o' h').2 e e'
  · by_cases e : b = l
    · subst e
      rcases f.own b ⟨i, 0, o, q, k1⟩ with w | w
      · exact .inr (.inl w)
      · exact .inr (.inr w)
    · rw [upd_ne e] at z; exact f.new b z
  · obtain ⟨j, t, o', h1, h2⟩ := w
    exact f.own b ⟨j, t, o', (nd j t o' h1).2, h2⟩
end

section
variable {X : Cx} {C : Cn} {ρ : Nat → Addr} {Z : XK} {pos : Pos}
/-! ### the plain forms -/
theorem pss_nilG : PSs X [] (tS C ρ Z fun m => .ok .nx m) := PSs.of pss_nil fun Dn σ H ⟨G, m, s, h⟩ => h G H σ Fr.refl s
theorem ps_passG : PS X (.Pass pos) (tS C ρ Z fun m => .ok .nx m) := PS.of ps_pass fun Dn σ H ⟨G, m, s, h⟩ => h G H σ Fr.refl s
theorem ps_brkG : PS X (.Break pos) (tS C ρ Z fun m => .ok .bk m) := PS.of ps_break fun Dn σ H ⟨G, m, s, h⟩ => h G H σ Fr.refl s
theorem ps_cntG : PS X (.Continue pos) (tS C ρ Z fun m => .ok .ct m) := PS.of ps_continue fun Dn σ H ⟨G, m, s, h⟩ => h G H σ Fr.refl s
theorem ps_nevG {st : Stmt} : PS X st (tS C ρ Z fun _ => .st) := PS.of ps_never fun Dn σ H ⟨G, m, s, h⟩ => h
theorem ps_retNG : PS X (.Return none pos) (tS C ρ Z fun m => .ok (.rt (.dat .non)) m) := PS.of ps_retN fun Dn σ H ⟨G, m, s, h⟩ => h G H σ Fr.refl s .non .non
theorem ps_retG {e : Expr} {f : Mem → R Val} (he : PE X e (tX C ρ Z f)) : PS X (.Return (some e) pos) (tS C ρ Z (retF f)) :=
  PS.of (ps_ret he) fun Dn σ H ⟨G, m, s, h⟩ => ⟨G, m, s, ResS.step Fr.refl h fun a m1 G1 H1 x ea f1 f1b s1 o1 h1 => h1 G1 H1 σ f1b s1 x o1⟩
theorem ps_expG {e : Expr} {f : Mem → R Val} (he : PE X e (tX C ρ Z f)) (hs : swapsWith e none pos.line X.env = pure false) : PS X (.Expr e pos) (tS C ρ Z (expF f)) :=
  PS.of (ps_expr he hs) fun Dn σ H ⟨G, m, s, h⟩ => ⟨G, m, s, ResS.step Fr.refl h fun a m1 G1 H1 x ea f1 f1b s1 o1 h1 => h1 G1 H1 σ f1b s1⟩
theorem ps_ifG {c : Expr} {a b : List Stmt} {t : Mem → R Bool} {fa fb : Mem → R Fl} (hc : PT X c (tXT C ρ Z t)) (ha : PSs X a (tS C ρ Z fa)) (hb : PSs X b (tS C ρ Z fb)) : PS X (.If c a b pos) (tS C ρ Z (ifF t fa fb)) :=
  PS.of (ps_if hc ha hb) fun Dn σ H ⟨G, m, s, h⟩ => ⟨G, m, s, ResS.step Fr.refl h fun k m1 G1 H1 x ea f1 f1b s1 o1 h1 => by
    cases (show x = k from o1)
    cases k with
    | true => exact ⟨G1, m1, s1, ResS.tail f1b h1⟩
    | false => exact ⟨G1, m1, s1, ResS.tail f1b h1⟩⟩
theorem pss_consG {st : Stmt} {rest : List Stmt} {a b : Mem → R Fl} (h1 : PS X st (tS C ρ Z a)) (h2 : PSs X rest (tS C ρ Z b)) : PSs X (st :: rest) (tS C ρ Z (seqF a b)) :=
  PSs.of (pss_cons h1 h2) fun Dn σ H ⟨G, m, s, h⟩ => ⟨G, m, s, by
    unfold seqF at h
    revert h
    cases a m with
    | st => exact fun h => h
    | ex c x m1 => exact fun h => h
    | ok f m1 => cases f with
      | nx => exact fun h G1 H1 σ1 f1 s1 => ⟨G1, m1, s1, ResS.tail f1 h⟩
      | rt v => exact fun h => h
      | bk => exact fun h => h
      | ct => exact fun h => h⟩
/-- what is held of a store -/
theorem red_set {i : Nat} {f : Mem → R Val} : ∀ Dn σ H, tS C ρ Z (setF' i f) Dn σ H → tAsg (tX C ρ Z f) (gName i) Dn σ H := fun Dn σ H ⟨G, m, s, h⟩ => ⟨G, m, s, ResS.step Fr.refl h fun a m1 G1 H1 x ea f1 f1b s1 o1 h1 => by
  obtain ⟨G1', e1, f1', s1', v1⟩ := settle f1b s1 o1 fun p q => q
  cases a with
  | own j => exact False.elim h1
  | dat d =>
    obtain ⟨hi, h1⟩ := iteS h1
    exact h1 G1' H1 _ (f1'.less fun b w => own_set hi w) (s1'.set hi v1)
  | new o =>
    obtain ⟨hi, h1⟩ := iteS h1
    exact h1 G1' H1 _ (f1'.less fun b w => own_set hi w) (s1'.set hi v1)⟩
theorem red_setO {i : Nat} {f : Mem → R Val} : ∀ Dn σ H, tS C ρ Z (setOF i f) Dn σ H → tAsg (tX C ρ Z f) (gName i) Dn σ H := fun Dn σ H ⟨G, m, s, h⟩ => ⟨G, m, s, ResS.step Fr.refl h fun a m1 G1 H1 x ea f1 f1b s1 o1 h1 => by
  cases a with
  | own j => exact False.elim h1
  | dat d => exact False.elim h1
  | new o =>
    obtain ⟨hi, h1⟩ := iteS h1
    obtain ⟨p, rfl, k1, k2, k3, k4⟩ := o1
    exact h1 G1 H1 _ (f1b.more k1 fun b w => own_setOwn s1.len hi w) (s1.setOwn hi k2 k4 k3)⟩
theorem pss_frzG {i : Nat} {rest : List Stmt} {b : Mem → R Fl} (h2 : PSs X rest (tS C ρ Z b)) : PSs X rest (tS C ρ Z (seqF (frzF i) b)) :=
  PSs.of h2 fun Dn σ H ⟨G, m, s, h⟩ => by
    have key : ∃ G2 m2, SR C ρ G2 H σ m2 ∧ Fr G H (Own σ m) G2 H (Own σ m2) ∧ frzF i m = .ok .nx m2 := by
      unfold frzF
      split
      · rename_i o q
        obtain ⟨G2, s2, f2⟩ := s.frz Fr.refl q
        exact ⟨G2, _, s2, f2, rfl⟩
      · exact ⟨G, m, s, Fr.refl, rfl⟩
    obtain ⟨G2, m2, s2, f2, e⟩ := key
    have h' : ResS C ρ Z G H (Own σ m) ((frzF i m).bind fun f m => match f with
      | .nx => b m
      | f => .ok f m) Dn := h
    rw [e] at h'
    exact ⟨G2, m2, s2, ResS.tail f2 h'⟩
/-! ### while -/
theorem ps_whlG {c : Expr} {body : List Stmt} {n : Nat} {t : Mem → R Bool} {b : Mem → R Fl} (hp : PassesOwn (model X.prog X.w) X.A X.env X.xe) (hc : PT X c (tXT C ρ Z t)) (hb : PSs X body (tS C ρ Z b)) : PS X (.While c body [] pos) (tS C ρ Z fun m => whlD t b n m) :=
  PS.of (ps_whileE hp hc hb pss_nil) fun Dn σ H ⟨G, m, s, h⟩ => by
    refine ⟨fun k σ1 H1 => ∃ G1 m1, SR C ρ G1 H1 σ1 m1 ∧ Fr G H (Own σ m) G1 H1 (Own σ1 m1) ∧ ResS C ρ Z G H (Own σ m) (whlD t b k m1) Dn, ⟨n, G, m, s, Fr.refl, h⟩, ?_⟩
    rintro k σ1 H1 ⟨G1, m1, s1, f1, h1⟩
    cases k with
    | zero => exact False.elim h1
    | succ k =>
      refine ⟨G1, m1, s1, ?_⟩
      have h1 : ResS C ρ Z G H (Own σ m) (match t m1 with
        | .ok true m1 => match b m1 with
          | .ok .nx m2 => whlD t b k m2
          | .ok .ct m2 => whlD t b k m2
          | .ok .bk m2 => .ok .nx m2
          | .ok (.rt v) m2 => .ok (.rt v) m2
          | .ex c x m2 => .ex c x m2
          | .st => .st
        | .ok false m1 => .ok .nx m1
        | .ex c x m1 => .ex c x m1
        | .st => .st) Dn := h1
      revert h1
      cases t m1 with
      | st => exact fun h => h
      | ex c x m2 => exact fun h G2 H2 cls d f2 s2 x2 => h G2 H2 σ1 cls d (f1.trans f2) s2 x2
      | ok q m2 =>
        intro h G2 H2 y f2 s2 o2
        cases (show y = q from o2)
        cases q with
        | false => exact h G2 H2 σ1 (f1.trans f2) s2
        | true =>
          rw [if_pos rfl]
          refine ⟨fun σ' H' => ∃ G1 m1, SR C ρ G1 H' σ' m1 ∧ Fr G H (Own σ m) G1 H' (Own σ' m1) ∧ ResS C ρ Z G H (Own σ m) (whlD t b k m1) Dn, fun σ' H' w => ⟨k, Nat.lt_succ_self k, w⟩, G2, m2, s2, ?_⟩
          have f3 := f1.trans f2
          dsimp only at h
          revert h
          cases b m2 with
          | st => exact fun h => h
          | ex c x m4 => exact fun h G4 H4 σ4 cls d f4 s4 x4 => h G4 H4 σ4 cls d (f3.trans f4) s4 x4
          | ok fl m4 =>
            intro h G4 H4 σ4 f4 s4
            cases fl with
            | nx => exact ⟨G4, m4, s4, f3.trans f4, h⟩
            | ct => exact ⟨G4, m4, s4, f3.trans f4, h⟩
            | bk => exact h G4 H4 σ4 (f3.trans f4) s4
            | rt v => exact fun u o => h G4 H4 σ4 (f3.trans f4) s4 u (o.back fun b q => f3.back q)
end
end G

set_option maxRecDepth 100000
set_option maxHeartbeats 4000000
/-! G12: targets, loops, comprehensions -/
namespace G
open PySem PySem.Spec PyProof.Rows L2

/-! ### targets -/
abbrev tgI : Tg → List Nat := tgL
def setS : L2.St → List Nat → List V → L2.St
  | σ, i :: is, v :: vs => setS (σ.set i (some v)) is vs
  | σ, _, _ => σ
theorem wipe_get (σ : L2.St) : ∀ (vs : List Nat) (j : Nat), (wipe σ vs)[j]? = if j ∈ vs then (σ[j]?).map fun _ => none else σ[j]?
  | [], j => by simp [wipe]
  | v :: vs, j => by
    show ((wipe σ vs).set v none)[j]? = _
    by_cases e : j = v
    · subst e
      rw [if_pos List.mem_cons_self]
      by_cases h : j < σ.length
      · rw [List.getElem?_set_self (by rw [wipe_length]; exact h), List.getElem?_eq_getElem h]
        rfl
      · rw [List.getElem?_eq_none (by rw [List.length_set, wipe_length]; omega), List.getElem?_eq_none (by omega)]
        rfl
    · rw [List.getElem?_set_ne fun z => e z.symm, wipe_get σ vs j]
      by_cases h : j ∈ vs
      · rw [if_pos h, if_pos (List.mem_cons_of_mem _ h)]
      · rw [if_neg h, if_neg fun z => by
          rcases List.mem_cons.mp z with z | z
          · exact e z
          · exact h z]
theorem wipe_set {σ : L2.St} {i : Nat} {x : Option V} {vs : List Nat} (h : i ∈ vs) : wipe (σ.set i x) vs = wipe σ vs := by
  apply List.ext_getElem?
  intro j
  rw [wipe_get, wipe_get]
  by_cases hj : j ∈ vs
  · rw [if_pos hj, if_pos hj]
    by_cases e : j = i
    · subst e
      by_cases hl : j < σ.length
      · rw [List.getElem?_set_self hl, List.getElem?_eq_getElem hl]; rfl
      · rw [List.getElem?_eq_none (by rw [List.length_set]; omega), List.getElem?_eq_none (by omega)]
    · rw [List.getElem?_set_ne fun z => e z.symm]
  · rw [if_neg hj, if_neg hj, List.getElem?_set_ne fun z => hj (by rw [← z]; exact h)]
theorem wipe_wipe (σ : L2.St) (vs : List Nat) : wipe (wipe σ vs) vs = wipe σ vs := by
  apply List.ext_getElem?
  intro j
  rw [wipe_get, wipe_get]
  by_cases hj : j ∈ vs
  · rw [if_pos hj, if_pos hj]
    cases σ[j]? <;> rfl
  · rw [if_neg hj, if_neg hj]
theorem wipe_setS {vs : List Nat} : ∀ {is : List Nat} {xs : List V} {σ : L2.St}, (∀ i ∈ is, i ∈ vs) → wipe (setS σ is xs) vs = wipe σ vs
  | [], xs, σ, _ => by cases xs <;> rfl
  | i :: is, [], σ, _ => rfl
  | i :: is, x :: xs, σ, h => by
    show wipe (setS (σ.set i (some x)) is xs) vs = _
    rw [wipe_setS fun j hj => h j (List.mem_cons_of_mem _ hj), wipe_set (h i List.mem_cons_self)]
def gT (C : Cn) (ρ : Nat → Addr) (tg : Tg) : TG := fun v σ H Q => ∃ G m d m', SR C ρ G H σ m ∧ Rp C G v d ∧ asg tg d m = some m' ∧ ∀ σ', SR C ρ G H σ' m' → (∀ b, Own σ' m' b → Own σ m b) → (∀ vs, (∀ i ∈ tgI tg, i ∈ vs) → wipe σ' vs = wipe σ vs) → Q σ' H
theorem setAll_ok {C : Cn} {ρ : Nat → Addr} {G H : Hp} : ∀ {is : List Nat} {ds : List D} {xs : List V} {m m' : Mem} {σ : L2.St}, setAll m is ds = some m' → RpL C G xs ds → SR C ρ G H σ m → xs.length = is.length ∧ SR C ρ G H (setS σ is xs) m' ∧ ∀ b, Own (setS σ is xs) m' b → Own σ m b
  | [], [], xs, m, m', σ, h, r, s => by
    cases h
    cases r
    exact ⟨rfl, s, fun _ h => h⟩
  | i :: is, d :: ds, xs, m, m', σ, h, r, s => by
    cases r with
    | cons r rs =>
      have h : (if i < m.length then setAll (m.set i (.dat d)) is ds else none) = some m' := h
      by_cases hi : i < m.length
      · rw [if_pos hi] at h
        obtain ⟨l, a, b⟩ := setAll_ok h rs (s.set hi r)
        exact ⟨congrArg Nat.succ l, a, fun c w => own_set hi (b c w)⟩
      · rw [if_neg hi] at h; cases h
  | [], _ :: _, xs, m, m', σ, h, r, s => by cases h
  | _ :: _, [], xs, m, m', σ, h, r, s => by cases h

/-- the context, as a look at the scope gives it -/
structure Ctx (C : Cn) (X : Cx) (N : List Str) (sc : Scope) : Prop where
  K : X.K = C.K
  N : X.N = N
  nod : X.N.Nodup
  calm : X.calm = true
  kind : X.env.scope.kind = .function
  units : X.A.units + 64 < cLine
  vis : ∀ x k, sc.names.lookup x = some k → (k = .local ∨ k = .cell ∨ k = .free) → Vis X.env.scope x
  loc : ∀ x k, sc.names.lookup x = some k → (k = .local ∨ k = .cell) → Loc X.env.scope x ∧ (X.fn x = true ∨ X.env.scope.names.lookup x = some .local)
  gl : ∀ x, sc.names.lookup x = some .globalImplicit → Gl X x
  lcl : ∀ x, sc.names.lookup x = some .local → X.env.scope.names.lookup x = some .local
  fre : ∀ x k, sc.names.lookup x = some k → (k = .cell ∨ k = .free) → X.env.scope.names.lookup x = some .cell ∨ X.env.scope.names.lookup x = some .free

section
variable {X : Cx} {C : Cn} {ρ : Nat → Addr} {Z : XK} {pos : Pos} {N : List Str} {sc : Scope}
theorem PG.of {e : Expr} {t t' : TG} (h : PG X e t) (i : ∀ v σ H Q, t' v σ H Q → t v σ H Q) : PG X e t' := ⟨fun pins s σ H v u Q I r q => h.run pins s σ H v u Q I r (i v σ H Q q)⟩
theorem PGs.of {e : List Expr} {t t' : TGs} (h : PGs X e t) (i : ∀ v σ H Q, t' v σ H Q → t v σ H Q) : PGs X e t' := ⟨fun pins s σ H v u Q I r q => h.run pins s σ H v u Q I r (i v σ H Q q)⟩
theorem locB_ok (c : Ctx C X N sc) {i : Nat} {x : Str} (h : locB N sc i x = true) : X.N[i]? = some x ∧ Loc X.env.scope x ∧ (X.fn x = true ∨ X.env.scope.names.lookup x = some .local) := by
  unfold locB at h
  simp only [Bool.and_eq_true, Bool.or_eq_true, decide_eq_true_eq] at h
  obtain ⟨h1, h2⟩ := h
  refine ⟨by rw [c.N]; exact h1, ?_⟩
  rcases h2 with h2 | h2
  · exact c.loc x _ h2 (.inl rfl)
  · exact c.loc x _ h2 (.inr rfl)
theorem pg_oneG (c : Ctx C X N sc) {i : Nat} {x : Str} {p : Pos} (h : locB N sc i x = true) : PG X (.Name x p) (gT C ρ (.one i)) := by
  obtain ⟨h1, h2, h3⟩ := locB_ok c h
  refine PG.of (pg_name c.nod h1 h2 h3) ?_
  rintro v σ H Q ⟨G, m, d, m', s, r, e, k⟩
  have e : (if i < m.length then some (m.set i (.dat d)) else none) = some m' := e
  by_cases hi : i < m.length
  · rw [if_pos hi] at e
    cases e
    exact k _ (s.set hi r) (fun b w => own_set hi w) fun vs hv => wipe_set (hv i List.mem_cons_self)
  · rw [if_neg hi] at e; cases e
theorem pgs_G (c : Ctx C X N sc) : ∀ {is : List Nat} {es : List Expr}, tgB.tgsB N sc is es = true → PGs X es (fun vs σ H Q => vs.length = is.length ∧ Q (setS σ is vs) H) ∧ (assignEach es X.env).length = is.length ∧ (assignEach es X.env).findIdx? (·.1) = none
  | [], [], _ => ⟨PGs.of pgs_nil fun v σ H Q ⟨l, q⟩ => by
      cases v with
      | nil => exact ⟨rfl, q⟩
      | cons _ _ => exact absurd l (Nat.succ_ne_zero _), rfl, rfl⟩
  | i :: is, .Name x p :: es, h => by
    obtain ⟨h1, h2⟩ := Bool.and_eq_true_iff.mp (show (locB N sc i x && tgB.tgsB N sc is es) = true from h)
    obtain ⟨k1, k2, k3⟩ := locB_ok c h1
    obtain ⟨a1, a2, a3⟩ := pgs_G c h2
    refine ⟨PGs.of (pgs_cons (pg_name c.nod k1 k2 k3) a1) fun v σ H Q ⟨l, q⟩ => ?_, ?_, ?_⟩
    · cases v with
      | nil => cases l
      | cons v vs => exact ⟨v, vs, rfl, Nat.succ.inj l, q⟩
    · show (assignEach es X.env).length + 1 = is.length + 1
      rw [a2]
    · show List.findIdx? (·.1) ((false, assign (.Name x p) X.env) :: assignEach es X.env) = none
      rw [List.findIdx?_cons]
      show (if false = true then _ else _) = none
      rw [if_neg Bool.false_ne_true, a3]
      rfl
theorem pg_G (c : Ctx C X N sc) {tg : Tg} {e : Expr} (h : tgB N sc tg e = true) : PG X e (gT C ρ tg) := by
  cases tg with
  | one i =>
    cases e <;> first
      | exact nomatch (show false = true from h)
      | exact pg_oneG c h
  | tup is =>
    cases e <;> first
      | exact nomatch (show false = true from h)
      | skip
    rename_i es k p
    obtain ⟨a1, a2, a3⟩ := pgs_G c (show tgB.tgsB N sc is es = true from h)
    refine PG.of (pg_tup c.calm a1 a2 a3) ?_
    rintro v σ H Q ⟨G, m, d, m', s, r, e, kk⟩
    cases d <;> first
      | exact nomatch (show (none : Option Mem) = some m' from e)
      | skip
    rename_i ds
    cases r with
    | tup r1 r2 =>
      obtain ⟨l, a, b⟩ := setAll_ok (show setAll m is ds = some m' from e) r2 s
      exact ⟨_, _, rfl, by rw [c.K]; exact Same.t s.sub r1, l, l, kk _ a b fun vs hv => wipe_setS hv⟩

/-! ### what a loop goes over -/
structure JOk (C : Cn) (G1 : Hp) (ds : List D) (J : It) : Prop where
  go : ∀ i H G, Same G1 G → Same G H → i < ds.length → J.go i H
  stop : ∀ H G, Same G1 G → Same G H → J.stop ds.length H
  yld : ∀ i x H H', J.yld i H x H' → ∀ G, Same G1 G → Same G H → ∀ d, ds[i]? = some d → (H' = H ∧ Rp C G x d) ∨ ∃ p xs es, H p = none ∧ H' = upd H p (.tup xs) ∧ x = .ref p ∧ d = .tup es ∧ RpL C G xs es
abbrev okJ (C : Cn) : Hp → Hp → Mem → List D → It → Prop := fun G' _ _ ds J => JOk C G' ds J
def itF (ik : Ik) (es : List P) : Mem → R (List D) := fun m => (evsF es m).bind fun xs m => opt (dats xs) fun xs => opt (itD ik xs) fun ds => .ok ds m
def tXI (C : Cn) (ρ : Nat → Addr) (Z : XK) (ik : Ik) (es : List P) : TI := fun σ H Q => ∃ G m, SR C ρ G H σ m ∧ Res C ρ Z G H (Own σ m) σ (okJ C) (itF ik es m) Q
theorem PI.of {tg e : Expr} {t t' : TI} (h : PI X tg e t) (i : ∀ σ H R, t' σ H R → t σ H R) : PI X tg e t' := ⟨fun pins s σ H R I q => h.run pins s σ H R I (i σ H R q)⟩
theorem PI.cases {tg l : Expr} {tl : TE} (hl : PE X l tl) : PI X tg l (fun σ H R => tl σ H fun x H1 => ∃ a, x = .ref a ∧ (((∃ xs, SqL X.K H1 a xs) ∧ R (Itl X.K a) H1) ∨ ((∃ xs, SqT X.K H1 a xs) ∧ R (Itt X.K a) H1))) := by
  refine ⟨fun pins s σ H R I h => ?_⟩
  refine thn (hl.run pins s σ H _ I h) fun v s1 ⟨x, H1, I1, r1, q1⟩ => ?_
  obtain ⟨a, e, q1⟩ := q1
  subst e
  cases r1
  rcases q1 with ⟨⟨xs, hq⟩, q⟩ | ⟨⟨xs, hq⟩, q⟩
  · obtain ⟨its, rv, p, hz⟩ := I1.list hq
    refine wpAny_pyIter_list p.isList ?_
    refine ⟨s1.heap.objs.size, [s1.heap.objs.size], _, _, H1, rfl, I1.kept (t' := s1.toks) fun b o e => Heap.get?_push_of_some _ e, turn_list a _, ⟨_, Heap.get?_push_size _ rfl, rfl, rfl⟩, fun b hb => ?_, q⟩
    have e : b = s1.heap.objs.size := by simpa using hb
    subst e
    exact I1.fpOk (Nat.le_refl _) (I1.hok.fresh (Nat.le_refl _))
  · obtain ⟨its, rv, p, hz⟩ := I1.tuple hq
    refine wpAny_pyIter_tuple (show s1.heap.IsTuple a its.toArray from p) ?_
    refine ⟨s1.heap.objs.size, [s1.heap.objs.size], _, _, H1, rfl, I1.kept (t' := s1.toks) fun b o e => Heap.get?_push_of_some _ e, turn_tuple a _, ⟨_, Heap.get?_push_size _ rfl, rfl, rfl⟩, fun b hb => ?_, q⟩
    have e : b = s1.heap.objs.size := by simpa using hb
    subst e
    exact I1.fpOk (Nat.le_refl _) (I1.hok.fresh (Nat.le_refl _))
theorem RpL.get2 {G : Hp} : ∀ {vs : List V} {ds : List D} {i : Nat} {v : V}, RpL C G vs ds → vs[i]? = some v → ∀ d, ds[i]? = some d → Rp C G v d
  | _, _, _, _, .nil, e, _, _ => by simp at e
  | _, _, 0, _, .cons r _, e, d, h => by
    simp at e h
    subst e h
    exact r
  | _, _, i + 1, v, .cons _ t, e, d, h => RpL.get2 (i := i) t (by simpa using e) d (by simpa using h)
/-- a list as it stands, in whatever heap -/
theorem jl {G1 : Hp} {a : Addr} {xs : List V} {ds : List D} (hq : SqX C.K G1 a xs) (r : RpL C G1 xs ds) : JOk C G1 ds (Itl C.K a) where
  go := fun i H G e1 e2 h => by
    obtain ⟨x, hx⟩ : ∃ x, xs[i]? = some x := ⟨xs[i]'(by rw [r.len]; exact h), List.getElem?_eq_getElem _⟩
    exact ⟨xs, x, (Same.x e2 (Same.x e1 hq)).l, hx⟩
  stop := fun H G e1 e2 => ⟨xs, (Same.x e2 (Same.x e1 hq)).l, by rw [r.len]; exact Nat.le_refl _⟩
  yld := fun i x H H' y G e1 e2 d hd => .inl ⟨y.1, RpL.get2 (r.up e1) (y.2 xs (Same.x e2 (Same.x e1 hq)).l) d hd⟩
theorem jt {G1 : Hp} {a : Addr} {xs : List V} {ds : List D} (hq : SqT C.K G1 a xs) (r : RpL C G1 xs ds) : JOk C G1 ds (Itt C.K a) where
  go := fun i H G e1 e2 h => by
    obtain ⟨x, hx⟩ : ∃ x, xs[i]? = some x := ⟨xs[i]'(by rw [r.len]; exact h), List.getElem?_eq_getElem _⟩
    exact ⟨xs, x, Same.t e2 (Same.t e1 hq), hx⟩
  stop := fun H G e1 e2 => ⟨xs, Same.t e2 (Same.t e1 hq), by rw [r.len]; exact Nat.le_refl _⟩
  yld := fun i x H H' y G e1 e2 d hd => .inl ⟨y.1, RpL.get2 (r.up e1) (y.2 xs (Same.t e2 (Same.t e1 hq))) d hd⟩
theorem jr {G1 : Hp} (lo : Int) (n : Nat) : JOk C G1 ((List.range n).map fun (k : Nat) => D.int (lo + (k : Int))) (Itr lo n) where
  go := fun i H G e1 e2 h => by
    rw [List.length_map, List.length_range] at h
    exact h
  stop := fun H G e1 e2 => by show n ≤ _; simp
  yld := fun i x H H' y G e1 e2 d hd => by
    refine .inl ⟨y.1, ?_⟩
    rw [List.getElem?_map] at hd
    obtain ⟨k, hk, e⟩ := Option.map_eq_some_iff.mp hd
    obtain ⟨_, hk⟩ := List.getElem?_eq_some_iff.mp hk
    rw [List.getElem_range] at hk
    subst hk e
    rw [y.2]
    exact .int _
theorem je {G1 : Hp} {a : Addr} {xs : List V} {ds : List D} (hq : SqX C.K G1 a xs) (r : RpL C G1 xs ds) : JOk C G1 (ds.mapIdx fun k x => D.tup [.int (k : Int), x]) (Ite C.K a) where
  go := fun i H G e1 e2 h => by
    rw [List.length_mapIdx] at h
    obtain ⟨x, hx⟩ : ∃ x, xs[i]? = some x := ⟨xs[i]'(by rw [r.len]; exact h), List.getElem?_eq_getElem _⟩
    exact ⟨xs, x, (Same.x e2 (Same.x e1 hq)).l, hx⟩
  stop := fun H G e1 e2 => ⟨xs, (Same.x e2 (Same.x e1 hq)).l, by rw [List.length_mapIdx, r.len]; exact Nat.le_refl _⟩
  yld := fun i x H H' y G e1 e2 d hd => by
    obtain ⟨T, z, rfl, h1, h2, h3⟩ := y
    rw [List.getElem?_mapIdx] at hd
    obtain ⟨k, hk, rfl⟩ := Option.map_eq_some_iff.mp hd
    exact .inr ⟨T, _, _, h1, h2, rfl, rfl, .cons (.int _) (.cons (RpL.get2 (r.up e1) (h3 xs (Same.x e2 (Same.x e1 hq)).l) k hk) .nil)⟩
theorem zip_get : ∀ {xs ys : List D} {i : Nat} {d : D}, (List.zipWith (fun x y => D.tup [x, y]) xs ys)[i]? = some d → ∃ x y, xs[i]? = some x ∧ ys[i]? = some y ∧ d = .tup [x, y] := fun {xs ys i d} h => by
  rw [List.getElem?_zipWith] at h
  cases e1 : xs[i]? with
  | none => rw [e1] at h; cases h
  | some x =>
    cases e2 : ys[i]? with
    | none => rw [e1, e2] at h; cases h
    | some y => rw [e1, e2] at h; cases h; exact ⟨x, y, rfl, rfl, rfl⟩
theorem jz {G1 : Hp} {a b : Addr} {xs ys : List V} {ds es : List D} (hq : SqX C.K G1 a xs) (hq2 : SqX C.K G1 b ys) (r : RpL C G1 xs ds) (r2 : RpL C G1 ys es) : JOk C G1 (List.zipWith (fun x y => D.tup [x, y]) ds es) (Itz C.K a b) where
  go := fun i H G e1 e2 h => by
    rw [List.length_zipWith] at h
    have l1 := r.len
    have l2 := r2.len
    exact ⟨xs, ys, xs[i]'(by omega), ys[i]'(by omega), (Same.x e2 (Same.x e1 hq)).l, (Same.x e2 (Same.x e1 hq2)).l, List.getElem?_eq_getElem _, List.getElem?_eq_getElem _⟩
  stop := fun H G e1 e2 => ⟨xs, ys, (Same.x e2 (Same.x e1 hq)).l, (Same.x e2 (Same.x e1 hq2)).l, by
    rw [List.length_zipWith]
    have l1 := r.len
    have l2 := r2.len
    omega⟩
  yld := fun i x H H' y G e1 e2 d hd => by
    obtain ⟨T, z, w, rfl, h1, h2, h3, h4⟩ := y
    obtain ⟨k, l, hk, hl, rfl⟩ := zip_get hd
    exact .inr ⟨T, _, _, h1, h2, rfl, rfl, .cons (RpL.get2 (r.up e1) (h3 xs (Same.x e2 (Same.x e1 hq)).l) k hk) (.cons (RpL.get2 (r2.up e1) (h4 ys (Same.x e2 (Same.x e1 hq2)).l) l hl) .nil)⟩
theorem jzT {G1 : Hp} {a b : Addr} {xs ys : List V} {ds es : List D} (hq : SqT C.K G1 a xs) (hq2 : SqT C.K G1 b ys) (r : RpL C G1 xs ds) (r2 : RpL C G1 ys es) : JOk C G1 (List.zipWith (fun x y => D.tup [x, y]) ds es) (RZ.ItzT C.K a b) where
  go := fun i H G e1 e2 h => by
    rw [List.length_zipWith] at h
    have l1 := r.len
    have l2 := r2.len
    exact ⟨xs, ys, xs[i]'(by omega), ys[i]'(by omega), Same.t e2 (Same.t e1 hq), Same.t e2 (Same.t e1 hq2), List.getElem?_eq_getElem _, List.getElem?_eq_getElem _⟩
  stop := fun H G e1 e2 => ⟨xs, ys, Same.t e2 (Same.t e1 hq), Same.t e2 (Same.t e1 hq2), by
    rw [List.length_zipWith]
    have l1 := r.len
    have l2 := r2.len
    omega⟩
  yld := fun i x H H' y G e1 e2 d hd => by
    obtain ⟨T, z, w, rfl, h1, h2, h3, h4⟩ := y
    obtain ⟨k, l, hk, hl, rfl⟩ := zip_get hd
    exact .inr ⟨T, _, _, h1, h2, rfl, rfl, .cons (RpL.get2 (r.up e1) (h3 xs (Same.t e2 (Same.t e1 hq))) k hk) (.cons (RpL.get2 (r2.up e1) (h4 ys (Same.t e2 (Same.t e1 hq2))) l hl) .nil)⟩

/-- ranges, enumerate, zip must be the built-ins' -/
def IkM (X : Cx) : Ik → Prop
  | .seq => True
  | .rng1 => X.mg "range" = none
  | .rng2 => X.mg "range" = none
  | .enum => X.mg "enumerate" = none
  | .zip => X.mg "zip" = none
theorem glB_ok (c : Ctx C X N sc) {x : Str} (h : glB sc x = true) : Gl X x ∧ (x == ("__debug__" : Str)) = false ∧ x ≠ ("__name__" : Str) := by
  unfold glB at h
  simp only [Bool.and_eq_true, decide_eq_true_eq, Bool.not_eq_true'] at h
  obtain ⟨⟨h1, h2⟩, h3⟩ := h
  exact ⟨c.gl x h1, h2, fun e => by subst e; exact absurd h3 (by decide)⟩
theorem itF_step {ik : Ik} {es : List P} {G H : Hp} {σ : L2.St} {m : Mem} {Q : It → Hp → Prop} {Q1 : List V → Hp → Prop} (h : Res C ρ Z G H (Own σ m) σ (okJ C) (itF ik es m) Q)
    (k : ∀ G1 H1 xs ds0 ds, RpL C G1 xs ds0 → Same G1 H1 → itD ik ds0 = some ds → (∀ J, JOk C G1 ds J → Q J H1) → Q1 xs H1) : Res C ρ Z G H (Own σ m) σ (okL C σ) (evsF es m) Q1 :=
  Res.step Fr.refl h fun as m1 G1 H1 xs ea f1 f1b s1 o1 h1 => by
    obtain ⟨ds0, e0, h1⟩ := opt_st h1
    obtain ⟨ds, e1, h1⟩ := opt_st h1
    exact k G1 H1 xs ds0 ds (o1.dats e0) s1.sub e1 fun J j => h1 G1 H1 J f1b s1 j
theorem pel_one {es : List P} {e : Expr} (h : PEL X C ρ Z es [e]) : ∃ p, es = [p] ∧ PE X e (tX C ρ Z p.v) := by
  cases h with
  | cons h t => cases t; exact ⟨_, rfl, h⟩
theorem pi_seqG {tg it : Expr} {es : List P} (c : Ctx C X N sc) (hp : PEL X C ρ Z es [it]) : PI X tg it (tXI C ρ Z .seq es) := by
  obtain ⟨p, rfl, he⟩ := pel_one hp
  refine PI.of (PI.cases he) ?_
  rintro σ H R ⟨G, m, s, h⟩
  refine ⟨G, m, s, ?_⟩
  have h : Res C ρ Z G H (Own σ m) σ (okJ C) ((p.v m).bind fun v m => opt (dats [v]) fun xs => opt (itD .seq xs) fun ds => .ok ds m) R := by
    revert h
    unfold itF evsF
    cases p.v m with
    | st => exact fun h => h
    | ex c x m1 => exact fun h => h
    | ok v m1 => exact fun h => h
  refine Res.step Fr.refl h fun a m1 G1 H1 x ea f1 f1b s1 o1 h1 => ?_
  obtain ⟨G1', e1, f1', s1', v1⟩ := settle f1b s1 o1 fun p q => q
  obtain ⟨ds0, e0, h1⟩ := opt_st h1
  obtain ⟨ds, e1, h1⟩ := opt_st h1
  have r := (VSL.cons v1 .nil).dats e0
  match ds0, r, e1 with
  | [.tup xs], .cons r .nil, e1 =>
    cases e1
    cases r with
    | tup r1 r2 => exact ⟨_, rfl, .inr ⟨⟨_, by rw [c.K]; exact Same.t s1'.sub r1⟩, h1 G1' H1 _ f1' s1' (by rw [c.K]; exact jt r1 r2)⟩⟩
  | [.lst xs], .cons r .nil, e1 =>
    cases e1
    cases r with
    | lst r1 r2 => exact ⟨_, rfl, .inl ⟨⟨_, by rw [c.K]; exact (Same.x s1'.sub r1).l⟩, h1 G1' H1 _ f1' s1' (by rw [c.K]; exact jl r1 r2)⟩⟩
theorem starEach1 {e : Expr} {env : PySem.Env} (h : noStar e = true) : starEach [e] env = [(false, eval e env)] := star0 h
theorem no_list {P : Prop} {d : List D} (e : (none : Option (List D)) = some d) : P := nomatch e
theorem pi_rng1G {tg a : Expr} {p : Pos} {es : List P} (c : Ctx C X N sc) (hg : Gl X ("range" : Str)) (hm : X.mg "range" = none) (hs : noStar a = true) (hp : PEL X C ρ Z es [a]) : PI X tg (.Call (.Name ("range" : Str) p) [a] [] pos) (tXI C ρ Z .rng1 es) :=
  PI.of (pi_range1 hg hm (pa_G hp (by rw [List.all_cons, hs]; rfl)) (starEach1 hs)) fun σ H R ⟨G, m, s, h⟩ => ⟨G, m, s, itF_step h fun G1 H1 xs ds0 ds r sm e k => by
    match ds0, r, e with
    | [.int j], .cons r .nil, e =>
      have e : (if -(2 ^ 62) ≤ j ∧ j < 2 ^ 62 then some ((List.range j.toNat).map fun (k : Nat) => D.int (0 + (k : Int))) else none) = some ds := e
      by_cases hz : -(2 ^ 62) ≤ j ∧ j < 2 ^ 62
      · rw [if_pos hz] at e
        cases e
        cases r
        exact ⟨j, rfl, hz.1, hz.2, k _ (jr 0 j.toNat)⟩
      · rw [if_neg hz] at e; cases e⟩
theorem pi_rng2G {tg a b : Expr} {p : Pos} {es : List P} (c : Ctx C X N sc) (hg : Gl X ("range" : Str)) (hm : X.mg "range" = none) (hs : noStar a = true) (hs2 : noStar b = true) (hp : PEL X C ρ Z es [a, b]) : PI X tg (.Call (.Name ("range" : Str) p) [a, b] [] pos) (tXI C ρ Z .rng2 es) :=
  PI.of (pi_range2 hg hm (pa_G hp (by rw [List.all_cons, List.all_cons, hs, hs2]; rfl)) ((star0 hs).trans (congrArg _ (starEach1 hs2))) (starEach1 hs2)) fun σ H R ⟨G, m, s, h⟩ => ⟨G, m, s, itF_step h fun G1 H1 xs ds0 ds r sm e k => by
    match ds0, r, e with
    | [.int i, .int j], .cons r (.cons r2 .nil), e =>
      have e : (if -(2 ^ 62) ≤ i ∧ i < 2 ^ 62 ∧ -(2 ^ 62) ≤ j ∧ j < 2 ^ 62 then some ((List.range (j - i).toNat).map fun (k : Nat) => D.int (i + (k : Int))) else none) = some ds := e
      by_cases hz : -(2 ^ 62) ≤ i ∧ i < 2 ^ 62 ∧ -(2 ^ 62) ≤ j ∧ j < 2 ^ 62
      · rw [if_pos hz] at e
        cases e
        cases r
        cases r2
        exact ⟨i, j, rfl, hz, k _ (jr i (j - i).toNat)⟩
      · rw [if_neg hz] at e; cases e⟩
theorem pi_enumG {a : Expr} {p tpos : Pos} {elts : List Expr} {kk : Nat} {es : List P} (c : Ctx C X N sc) (hg : Gl X ("enumerate" : Str)) (hm : X.mg "enumerate" = none) (hs : noStar a = true) (hp : PEL X C ρ Z es [a]) : PI X (.Tuple elts kk tpos) (.Call (.Name ("enumerate" : Str) p) [a] [] pos) (tXI C ρ Z .enum es) :=
  PI.of (pi_enum hg hm (pa_G hp (by rw [List.all_cons, hs]; rfl)) (starEach1 hs)) fun σ H R ⟨G, m, s, h⟩ => ⟨G, m, s, itF_step h fun G1 H1 xs ds0 ds r sm e k => by
    match ds0, r, e with
    | [.lst es], .cons r .nil, e =>
      cases e
      cases r with
      | lst r1 r2 => exact ⟨_, _, rfl, by rw [c.K]; exact (Same.x sm r1).l, k _ (by rw [c.K]; exact je r1 r2)⟩⟩
theorem pi_zipG {a b : Expr} {p tpos : Pos} {elts : List Expr} {kk : Nat} {es : List P} (c : Ctx C X N sc) (hg : Gl X ("zip" : Str)) (hm : X.mg "zip" = none) (hs : noStar a = true) (hs2 : noStar b = true) (hp : PEL X C ρ Z es [a, b]) : PI X (.Tuple elts kk tpos) (.Call (.Name ("zip" : Str) p) [a, b] [] pos) (tXI C ρ Z .zip es) :=
  PI.of (RZ.pi_zipA hg hm (pa_G hp (by rw [List.all_cons, List.all_cons, hs, hs2]; rfl)) (star0 hs) (starsL (by rw [List.all_cons, hs2]; rfl))) fun σ H R ⟨G, m, s, h⟩ => ⟨G, m, s, itF_step h fun G1 H1 xs ds0 ds r sm e k => by
    match ds0, r, e with
    | [.lst xs, .lst ys], .cons r (.cons q .nil), e =>
      cases e
      cases r with
      | lst r1 r2 =>
        cases q with
        | lst q1 q2 => exact ⟨_, _, _, _, rfl, .inl ⟨by rw [c.K]; exact (Same.x sm r1).l, by rw [c.K]; exact (Same.x sm q1).l, k _ (by rw [c.K]; exact jz r1 q1 r2 q2)⟩⟩
    | [.tup xs, .tup ys], .cons r (.cons q .nil), e =>
      cases e
      cases r with
      | tup r1 r2 =>
        cases q with
        | tup q1 q2 => exact ⟨_, _, _, _, rfl, .inr ⟨by rw [c.K]; exact Same.t sm r1, by rw [c.K]; exact Same.t sm q1, k _ (by rw [c.K]; exact jzT r1 q1 r2 q2)⟩⟩⟩
end
end G

set_option maxRecDepth 100000
set_option maxHeartbeats 4000000
/-! G13: for, comprehensions -/
namespace G
open PySem PySem.Spec PyProof.Rows L2

section
variable {C : Cn} {ρ : Nat → Addr} {Z : XK} {G H G1 H1 G' H' : Hp} {σ : L2.St} {m m' : Mem} {W W1 W' : Addr → Prop} {Dn : Ends}
/-- a turn's value has come: perhaps in a new tuple -/
theorem turn_val {J : It} {ds : List D} {i : Nat} {x : V} {d : D} {Hj : Hp} (j : JOk C G1 ds J) (y : J.yld i H x Hj) (e : Same G1 G) (f : Fr G' H' W G H (Own σ m)) (s : SR C ρ G H σ m) (hd : ds[i]? = some d) :
    ∃ G2, Same G G2 ∧ Fr G' H' W G2 Hj (Own σ m) ∧ SR C ρ G2 Hj σ m ∧ Rp C G2 x d ∧ (∀ b, H b ≠ none → Hj b = H b) ∧ (∀ b, G b = none → H b ≠ none → G2 b = none) := by
  rcases j.yld i x H Hj y G e s.sub d hd with ⟨rfl, r⟩ | ⟨p, xs, es, hp, rfl, rfl, rfl, r⟩
  · exact ⟨G, Same.refl _, f, s, r, fun _ _ => rfl, fun _ h _ => h⟩
  · have s2 : SR C ρ (upd G p (.tup xs)) (upd H p (.tup xs)) σ m := (s.grow hp).freeze upd_same (s.gnone hp) (s.notOwn hp)
    refine ⟨_, same_upd (s.gnone hp), (f.grow hp).freeze (s.gnone hp) (f.back hp), s2, .tup (.inl (.inl upd_same)) (r.up (same_upd (s.gnone hp))), fun b h => upd_ne fun e => h (by rw [e]; exact hp), fun b h h2 => ?_⟩
    rw [upd_ne fun e => h2 (by rw [e]; exact hp)]
    exact h
end

section
variable {X : Cx} {C : Cn} {ρ : Nat → Addr} {Z : XK} {pos : Pos}
theorem forF_eq (tg : Tg) (ik : Ik) (es : List P) (b : Mem → R Fl) (m : Mem) : forF tg ik es b m = (itF ik es m).bind fun ds m => forD (asg tg) b ds m := by
  unfold forF itF
  cases evsF es m with
  | st => rfl
  | ex c x m1 => rfl
  | ok xs m1 =>
    rw [R.bind_ok, R.bind_ok]
    cases dats xs with
    | none => rfl
    | some xs =>
      show opt (itD ik xs) _ = (opt (itD ik xs) _).bind _
      cases itD ik xs <;> rfl
theorem red_for {tg : Tg} {ik : Ik} {es : List P} {b : Mem → R Fl} : ∀ Dn σ H, tS C ρ Z (forF tg ik es b) Dn σ H → tForE (tXI C ρ Z ik es) (gT C ρ tg) (tS C ρ Z b) tNext Dn σ H := by
  rintro Dn σ H ⟨G, m, s, h⟩
  rw [forF_eq] at h
  refine ⟨G, m, s, ResS.step Fr.refl h fun ds m1 G1 H1 J ea f1 f1b s1 oJ h1 => ?_⟩
  refine forE_by ds.length (fun i σ' H' => ∃ G' m', SR C ρ G' H' σ' m' ∧ Same G1 G' ∧ Fr G H (Own σ m) G' H' (Own σ' m') ∧ ResS C ρ Z G H (Own σ m) (forD (asg tg) b (ds.drop i) m') Dn) ⟨G1, m1, s1, Same.refl _, f1b, h1⟩
    (fun i σ' H' hi ⟨G', m', s', e, f, _⟩ => oJ.go i H' G' e s'.sub hi) (fun σ' H' ⟨G', m', s', e, f, _⟩ => oJ.stop H' G' e s'.sub) ?_ ?_
  · rintro i x σ2 H2 Hj hi ⟨G2, m2, s2, e2, f2, h2⟩ y
    obtain ⟨d, hd⟩ : ∃ d, ds[i]? = some d := ⟨ds[i], List.getElem?_eq_getElem hi⟩
    obtain ⟨G3, e3, f3, s3, r3, _, _⟩ := turn_val oJ y e2 f2 s2 hd
    have ed : ds.drop i = d :: ds.drop (i + 1) := by
      rw [List.drop_eq_getElem_cons hi]
      rw [List.getElem?_eq_getElem hi] at hd
      cases hd
      rfl
    rw [ed] at h2
    have h2 : ResS C ρ Z G H (Own σ m) (match asg tg d m2 with
      | none => .st
      | some m1 => match b m1 with
        | .ok .nx m2 => forD (asg tg) b (ds.drop (i + 1)) m2
        | .ok .ct m2 => forD (asg tg) b (ds.drop (i + 1)) m2
        | .ok .bk m2 => .ok .nx m2
        | .ok (.rt v) m2 => .ok (.rt v) m2
        | .ex c x m2 => .ex c x m2
        | .st => .st) Dn := h2
    cases ea : asg tg d m2 with
    | none => rw [ea] at h2; exact False.elim h2
    | some m3 =>
      rw [ea] at h2
      refine ⟨G3, m2, d, m3, s3, r3, ea, fun σ4 s4 ow _ => ⟨G3, m3, s4, ?_⟩⟩
      have f4 := f3.less ow
      dsimp only at h2
      revert h2
      cases b m3 with
      | st => exact fun h => h
      | ex c x m5 => exact fun h G5 H5 σ5 cls d f5 s5 x5 => h G5 H5 σ5 cls d (f4.trans f5) s5 x5
      | ok fl m5 =>
        intro h G5 H5 σ5 f5 s5
        cases fl with
        | nx => exact ⟨G5, m5, s5, (e2.trans e3).trans f5.g, f4.trans f5, h⟩
        | ct => exact ⟨G5, m5, s5, (e2.trans e3).trans f5.g, f4.trans f5, h⟩
        | bk => exact h G5 H5 σ5 (f4.trans f5) s5
        | rt v => exact fun u o => h G5 H5 σ5 (f4.trans f5) s5 u (o.back fun b q => f4.back q)
  · rintro σ2 H2 ⟨G2, m2, s2, e2, f2, h2⟩
    rw [List.drop_length] at h2
    exact h2 G2 H2 σ2 f2 s2
theorem ps_forG {tge it : Expr} {body : List Stmt} {tg : Tg} {ik : Ik} {es : List P} {b : Mem → R Fl} (hp : PassesOwn (model X.prog X.w) X.A X.env X.xe) (hc : X.calm = true) (hi : PI X tge it (tXI C ρ Z ik es)) (hg : PG X tge (gT C ρ tg)) (hb : PSs X body (tS C ρ Z b))
    (hs : ∀ x, foldedSetIterable it X.env x = pure x) : PS X (.For tge it body [] pos) (tS C ρ Z (forF tg ik es b)) :=
  PS.of (ps_forE hp hc hi hg hb pss_nil hs) red_for

/-! ### comprehensions -/
theorem lc_by {J : It} {g : TG} {tt : TT} {te : TE} {vs : List Nat} {σ : L2.St} {H1 : Hp} {Dd : Addr} {Qd : Hp → Prop} (n : Nat) (Pv : Nat → Hp → Prop) (h0 : Pv 0 (upd H1 Dd (.lst []))) (hgo : ∀ i H, i < n → Pv i H → J.go i H) (hstop : ∀ H, Pv n H → J.stop n H)
    (hs : ∀ i x H H', i < n → Pv i H → J.yld i H x H' → g x (wipe σ vs) H' fun σ2 H2 => wipe σ2 vs = wipe σ vs ∧ tt σ2 H2 fun b H3 =>
      if b = true then te σ2 H3 fun y H4 => ∃ acc, H4 Dd = some (.lst acc) ∧ acc.length < sizeLine ∧ Pv (i + 1) (upd H4 Dd (.lst (acc ++ [y]))) else Pv (i + 1) H3) (hd : ∀ H, Pv n H → Qd H) :
    ∃ W : Nat → Nat → Hp → Prop, (∃ m, W 0 m (upd H1 Dd (.lst []))) ∧ ∀ i m H, W i m H →
      (J.stop i H ∧ Qd H) ∨ (J.go i H ∧ ∃ Nx : Hp → Prop, (∀ H', Nx H' → ∃ m', m' < m ∧ W (i + 1) m' H') ∧ ∀ x H', J.yld i H x H' → g x (wipe σ vs) H' fun σ2 H2 => wipe σ2 vs = wipe σ vs ∧ tt σ2 H2 fun b H3 =>
        if b = true then te σ2 H3 fun y H4 => ∃ acc, H4 Dd = some (.lst acc) ∧ acc.length < sizeLine ∧ Nx (upd H4 Dd (.lst (acc ++ [y]))) else Nx H3) := by
  refine ⟨fun i m H => m = n - i ∧ i ≤ n ∧ Pv i H, ⟨n, by simp, Nat.zero_le _, h0⟩, ?_⟩
  rintro i m H ⟨rfl, hi, p⟩
  by_cases hlt : i < n
  · exact .inr ⟨hgo i H hlt p, Pv (i + 1), fun H' p' => ⟨n - (i + 1), by omega, rfl, hlt, p'⟩, fun x H' y => hs i x H H' hlt p y⟩
  · have e : i = n := by omega
    subst e
    exact .inl ⟨hstop H p, hd H p⟩
theorem wipeM_get (m : Mem) : ∀ (vs : List Nat) (j : Nat), (wipeM m vs)[j]? = if j ∈ vs then (m[j]?).map fun _ => Sl.un else m[j]?
  | [], j => by simp [wipeM]
  | v :: vs, j => by
    have ll : ∀ vs, (wipeM m vs).length = m.length := fun vs => by
      induction vs with
      | nil => rfl
      | cons v vs ih => show ((wipeM m vs).set v .un).length = _; rw [List.length_set, ih]
    show ((wipeM m vs).set v Sl.un)[j]? = _
    by_cases e : j = v
    · subst e
      rw [if_pos List.mem_cons_self]
      by_cases h : j < m.length
      · rw [List.getElem?_set_self (by rw [ll]; exact h), List.getElem?_eq_getElem h]
        rfl
      · rw [List.getElem?_eq_none (by rw [List.length_set, ll]; omega), List.getElem?_eq_none (by omega)]
        rfl
    · rw [List.getElem?_set_ne fun z => e z.symm, wipeM_get m vs j]
      by_cases h : j ∈ vs
      · rw [if_pos h, if_pos (List.mem_cons_of_mem _ h)]
      · rw [if_neg h, if_neg fun z => by
          rcases List.mem_cons.mp z with z | z
          · exact e z
          · exact h z]
theorem wipeM_len (m : Mem) : ∀ vs, (wipeM m vs).length = m.length
  | [] => rfl
  | v :: vs => by show ((wipeM m vs).set v .un).length = _; rw [List.length_set, wipeM_len m vs]
theorem backM_len (m m' : Mem) : ∀ vs, (backM m m' vs).length = m'.length
  | [] => rfl
  | v :: vs => by
    unfold backM
    split
    · rw [List.length_set, backM_len m m' vs]
    · exact backM_len m m' vs
theorem backM_get {m m' : Mem} (hl : m'.length = m.length) : ∀ (vs : List Nat) (j : Nat), (backM m m' vs)[j]? = if j ∈ vs then m[j]? else m'[j]?
  | [], j => by simp [backM]
  | v :: vs, j => by
    unfold backM
    split
    · rename_i s e
      have hv : v < m.length := (List.getElem?_eq_some_iff.mp e).1
      by_cases z : j = v
      · subst z
        rw [List.getElem?_set_self (by rw [backM_len, hl]; exact hv), if_pos List.mem_cons_self, e]
      · rw [List.getElem?_set_ne fun y => z y.symm, backM_get hl vs j]
        by_cases h : j ∈ vs
        · rw [if_pos h, if_pos (List.mem_cons_of_mem _ h)]
        · rw [if_neg h, if_neg fun y => by
            rcases List.mem_cons.mp y with y | y
            · exact z y
            · exact h y]
    · rename_i e
      rw [backM_get hl vs j]
      by_cases h : j ∈ vs
      · rw [if_pos h, if_pos (List.mem_cons_of_mem _ h)]
      · rw [if_neg h]
        by_cases z : j = v
        · subst z
          rw [if_pos List.mem_cons_self, e]
          exact List.getElem?_eq_none (by rw [hl]; exact List.getElem?_eq_none_iff.mp e)
        · rw [if_neg fun y => by
            rcases List.mem_cons.mp y with y | y
            · exact z y
            · exact h y]
theorem SR.wipe {G H : Hp} {σ : L2.St} {m : Mem} (vs : List Nat) (s : SR C ρ G H σ m) : SR C ρ G H (L2.wipe σ vs) (wipeM m vs) ∧ ∀ b, Own (L2.wipe σ vs) (wipeM m vs) b → Own σ m b := by
  have gt : ∀ {i : Nat} {x : Sl}, (wipeM m vs)[i]? = some x → x ≠ .un → m[i]? = some x ∧ (L2.wipe σ vs)[i]? = σ[i]? := fun {i x} h hx => by
    rw [wipeM_get] at h
    by_cases e : i ∈ vs
    · rw [if_pos e] at h
      obtain ⟨_, _, z⟩ := Option.map_eq_some_iff.mp h
      exact absurd z.symm hx
    · rw [if_neg e] at h
      exact ⟨h, by rw [wipe_get, if_neg e]⟩
  refine ⟨⟨by rw [wipe_length, wipeM_len, s.len], s.sub, fun i d h => ?_, fun i t o h => ?_, fun i j t o t' o' l h h' e e' => ?_⟩, fun b ⟨i, t, o, h1, h2⟩ => ?_⟩
  · obtain ⟨h1, h2⟩ := gt h (fun e => nomatch e)
    rw [h2]
    exact s.dat i d h1
  · obtain ⟨h1, h2⟩ := gt h (fun e => nomatch e)
    rw [h2]
    exact s.own i t o h1
  · obtain ⟨h1, h2⟩ := gt h (fun e => nomatch e)
    obtain ⟨g1, g2⟩ := gt h' (fun e => nomatch e)
    rw [h2] at e
    rw [g2] at e'
    exact s.sep i j t o t' o' l h1 g1 e e'
  · obtain ⟨h1, h3⟩ := gt h1 (fun e => nomatch e)
    exact ⟨i, t, o, h1, by rw [← h3]; exact h2⟩
theorem noOwn_at {m : Mem} {vs : List Nat} (h : noOwn m vs = true) {i : Nat} (hi : i ∈ vs) {t : Nat} {o : O} : m[i]? ≠ some (.own t o) := fun e => by
  have := List.all_eq_true.mp h i hi
  rw [e] at this
  cases this
theorem SR.unwipe {G H G' H' : Hp} {σ : L2.St} {m m' : Mem} {vs : List Nat} (s : SR C ρ G H σ m) (e : Same G G') (no : noOwn m vs = true) (s' : SR C ρ G' H' (L2.wipe σ vs) m') : SR C ρ G' H' σ (backM m m' vs) ∧ ∀ b, Own σ (backM m m' vs) b → Own (L2.wipe σ vs) m' b := by
  have hl : m'.length = m.length := by rw [← s'.len, wipe_length, s.len]
  have go : ∀ {i t : Nat} {o : O}, (backM m m' vs)[i]? = some (.own t o) → m'[i]? = some (.own t o) ∧ (L2.wipe σ vs)[i]? = σ[i]? := fun {i t o} h => by
    rw [backM_get hl] at h
    by_cases z : i ∈ vs
    · rw [if_pos z] at h
      exact absurd h (noOwn_at no z)
    · rw [if_neg z] at h
      exact ⟨h, by rw [wipe_get, if_neg z]⟩
  refine ⟨⟨by rw [backM_len, hl, s.len], s'.sub, fun i d h => ?_, fun i t o h => ?_, fun i j t o t' o' l h h' e e' => ?_⟩, fun b ⟨i, t, o, h1, h2⟩ => ?_⟩
  · rw [backM_get hl] at h
    by_cases z : i ∈ vs
    · rw [if_pos z] at h
      obtain ⟨v, h1, h2⟩ := s.dat i d h
      exact ⟨v, h1, h2.up e⟩
    · rw [if_neg z] at h
      obtain ⟨v, h1, h2⟩ := s'.dat i d h
      exact ⟨v, by rw [wipe_get, if_neg z] at h1; exact h1, h2⟩
  · obtain ⟨h1, h2⟩ := go h
    rw [← h2]
    exact s'.own i t o h1
  · obtain ⟨h1, h2⟩ := go h
    obtain ⟨g1, g2⟩ := go h'
    rw [← h2] at e
    rw [← g2] at e'
    exact s'.sep i j t o t' o' l h1 g1 e e'
  · obtain ⟨h1, h3⟩ := go h1
    exact ⟨i, t, o, h1, by rw [h3]; exact h2⟩
/-- an object that nobody knows is written -/
theorem SR.poke {G H : Hp} {σ : L2.St} {m : Mem} {p : Addr} {u : HO} (s : SR C ρ G H σ m) (hg : G p = none) (hn : ¬ Own σ m p) : SR C ρ G (upd H p u) σ m := by
  refine ⟨s.len, fun b w z => ?_, s.dat, fun i t o q => ?_, s.sep⟩
  · rw [upd_ne (ne_of_none z hg)]
    exact s.sub b w z
  · obtain ⟨l, h1, h2, h3, h4⟩ := s.own i t o q
    exact ⟨l, h1, h2, h3.up (Same.refl _) (upd_ne fun e => hn ⟨i, t, o, q, by rw [← e]; exact h1⟩), h4⟩
theorem Fr.poke {G H G1 H1 : Hp} {W W1 : Addr → Prop} {p : Addr} {u : HO} (f : Fr G H W G1 H1 W1) (hp : H p = none) : Fr G H W G1 (upd H1 p u) W1 :=
  ⟨f.g, fun b o z n => by rw [upd_ne (ne_of_none z hp)]; exact f.h b o z n, f.new, f.own, fun b z => by
    by_cases e : b = p
    · subst e; rw [upd_same]; simp
    · rw [upd_ne e]; exact f.there b z⟩
abbrev Z0 : XK := fun _ _ _ => False
abbrev tTt (C : Cn) (ρ : Nat → Addr) (t : Mem → R Bool) : TT := tXT C ρ Z0 t
/-- the new list is kept by what runs in the block -/
structure Kp (G H : Hp) (σ : L2.St) (m : Mem) (Dd : Addr) (acc : List V) : Prop where
  g : G Dd = none
  h : H Dd = some (.lst acc)
  o : ¬ Own σ m Dd
theorem Kp.fr {G H G' H' : Hp} {σ σ' : L2.St} {m m' : Mem} {Dd : Addr} {acc : List V} (k : Kp G H σ m Dd acc) (f : Fr G H (Own σ m) G' H' (Own σ' m')) : Kp G' H' σ' m' Dd acc := by
  refine ⟨?_, f.h _ _ k.h k.o, fun w => ?_⟩
  · cases e : G' Dd with
    | none => rfl
    | some u =>
      rcases f.new Dd (by rw [e]; simp) with q | q | q
      · exact absurd k.g q
      · exact absurd q k.o
      · rw [k.h] at q; cases q
  · rcases f.own _ w with q | q
    · exact k.o q
    · rw [k.h] at q; cases q
theorem lcF_eq (vs : List Nat) (tg : Tg) (ik : Ik) (es : List P) (t : Mem → R Bool) (e : Mem → R Val) (m : Mem) : lcF vs tg ik es t e m = (itF ik es m).bind fun ds m => if noOwn m vs = true then
    (lcD (asg tg) (fun m => wipeM m vs) t e 0 ds (wipeM m vs)).bind fun ys m' => .ok (.new (.lst ([] ++ ys))) (backM m m' vs) else .st := by
  unfold lcF itF
  cases evsF es m with
  | st => rfl
  | ex c x m1 => rfl
  | ok xs m1 =>
    rw [R.bind_ok, R.bind_ok]
    cases dats xs with
    | none => rfl
    | some xs =>
      show opt (itD ik xs) _ = (opt (itD ik xs) _).bind _
      cases itD ik xs <;> rfl
theorem red_lc {vs : List Nat} {tg : Tg} {ik : Ik} {es : List P} {t : Mem → R Bool} {e : Mem → R Val} (hv : ∀ i ∈ tgI tg, i ∈ vs) : ∀ σ H Q, tX C ρ Z (lcF vs tg ik es t e) σ H Q → tLc (tXI C ρ Z ik es) (gT C ρ tg) (tXT C ρ Z0 t) (tX C ρ Z0 e) vs σ H Q := by
  rintro σ H Q ⟨G, m, s, h⟩
  rw [lcF_eq] at h
  refine ⟨G, m, s, Res.step Fr.refl h fun ds m1 G1 H1 J ea f1 f1b s1 oJ h1 => ?_⟩
  obtain ⟨no, h1⟩ := ite_st h1
  intro Dd hD
  have k0 : Kp G1 (upd H1 Dd (.lst [])) (L2.wipe σ vs) (wipeM m1 vs) Dd [] := ⟨s1.gnone hD, upd_same, fun w => s1.notOwn hD ((s1.wipe vs).2 Dd w)⟩
  refine lc_by ds.length (fun i H' => ∃ G' m' acc ys, SR C ρ G' H' (L2.wipe σ vs) m' ∧ Same G1 G' ∧ Fr G H (Own σ m) G' H' (Own (L2.wipe σ vs) m') ∧ Kp G' H' (L2.wipe σ vs) m' Dd acc ∧ RpL C G' acc ys ∧
    Res C ρ Z G H (Own σ m) σ (okV C σ H) ((lcD (asg tg) (fun m => wipeM m vs) t e acc.length (ds.drop i) m').bind fun zs m'' => .ok (.new (.lst (ys ++ zs))) (backM m1 m'' vs)) Q)
    ⟨G1, wipeM m1 vs, [], [], (s1.grow hD).wipe vs |>.1, Same.refl _, (f1b.grow hD).less (s1.wipe vs).2, k0, .nil, h1⟩
    (fun i H' hi ⟨G', m', acc, ys, s', e, _⟩ => oJ.go i H' G' e s'.sub hi) (fun H' ⟨G', m', acc, ys, s', e, _⟩ => oJ.stop H' G' e s'.sub) ?_ ?_
  · rintro i x H2 Hj hi ⟨G2, m2, acc, ys, s2, e2, f2, k2, r2, h2⟩ y
    obtain ⟨d, hd⟩ : ∃ d, ds[i]? = some d := ⟨ds[i], List.getElem?_eq_getElem hi⟩
    obtain ⟨G3, e3, f3, s3, r3, j1, j2⟩ := turn_val oJ y e2 f2 s2 hd
    have hDn : H2 Dd ≠ none := by rw [k2.h]; simp
    have k3 : Kp G3 Hj (L2.wipe σ vs) m2 Dd acc := ⟨j2 Dd k2.g hDn, (j1 Dd hDn).trans k2.h, k2.o⟩
    have ed : ds.drop i = d :: ds.drop (i + 1) := by
      rw [List.drop_eq_getElem_cons hi]
      rw [List.getElem?_eq_getElem hi] at hd
      cases hd
      rfl
    rw [ed] at h2
    have h2 : Res C ρ Z G H (Own σ m) σ (okV C σ H) (R.bind (match asg tg d m2 with
      | none => .st
      | some m1 => match t m1 with
        | .ok true m2 => match e m2 with
          | .ok (.dat y) m3 => if acc.length < sizeLine then (lcD (asg tg) (fun m => wipeM m vs) t e (acc.length + 1) (ds.drop (i + 1)) (wipeM m3 vs)).bind fun ys m4 => .ok (y :: ys) m4 else .st
          | .ok (.new o) m3 => if acc.length < sizeLine then (lcD (asg tg) (fun m => wipeM m vs) t e (acc.length + 1) (ds.drop (i + 1)) (wipeM m3 vs)).bind fun ys m4 => .ok (o.d :: ys) m4 else .st
          | _ => .st
        | .ok false m2 => lcD (asg tg) (fun m => wipeM m vs) t e acc.length (ds.drop (i + 1)) (wipeM m2 vs)
        | _ => .st) fun zs m'' => .ok (.new (.lst (ys ++ zs))) (backM m1 m'' vs)) Q := h2
    cases ea : asg tg d m2 with
    | none => rw [ea] at h2; exact False.elim h2
    | some m3 =>
      rw [ea] at h2
      refine ⟨G3, m2, d, m3, s3, r3, ea, fun σ4 s4 ow wp => ?_⟩
      have w4 : L2.wipe σ4 vs = L2.wipe σ vs := (wp vs hv).trans (wipe_wipe σ vs)
      have f4 := f3.less ow
      have k4 : Kp G3 Hj σ4 m3 Dd acc := ⟨k3.g, k3.h, fun w => k3.o (ow Dd w)⟩
      refine ⟨w4, G3, m3, s4, ?_⟩
      dsimp only at h2
      revert h2
      cases t m3 with
      | st => exact fun h => h
      | ex c x m5 => exact fun h => False.elim h
      | ok q m5 =>
        intro h2 G5 H5 b f5 s5 o5
        cases (show b = q from o5)
        have f5b := f4.trans f5
        have k5 := k4.fr f5
        cases q with
        | false =>
          dsimp only at h2
          rw [if_neg Bool.false_ne_true]
          have ws := s5.wipe vs
          rw [w4] at ws
          exact ⟨G5, wipeM m5 vs, acc, ys, ws.1, (e2.trans e3).trans f5.g, f5b.less ws.2, ⟨k5.g, k5.h, fun w => k5.o (ws.2 Dd w)⟩, r2.up (e3.trans f5.g), h2⟩
        | true =>
          dsimp only at h2
          rw [if_pos rfl]
          refine ⟨G5, m5, s5, ?_⟩
          revert h2
          have fin : ∀ {m6 : Mem} {G6 H6 : Hp} {v : V} {yd : D}, Fr G5 H5 (Own σ4 m5) G6 H6 (Own σ4 m6) → SR C ρ G6 H6 σ4 m6 → Rp C G6 v yd →
              Res C ρ Z G H (Own σ m) σ (okV C σ H) (R.bind (if acc.length < sizeLine then (lcD (asg tg) (fun m => wipeM m vs) t e (acc.length + 1) (ds.drop (i + 1)) (wipeM m6 vs)).bind fun ys m4 => .ok (yd :: ys) m4 else .st) fun zs m'' => .ok (.new (.lst (ys ++ zs))) (backM m1 m'' vs)) Q →
              ∃ acc, H6 Dd = some (.lst acc) ∧ acc.length < sizeLine ∧ ∃ G' m' acc' ys, SR C ρ G' (upd H6 Dd (.lst (acc ++ [v]))) (L2.wipe σ vs) m' ∧ Same G1 G' ∧ Fr G H (Own σ m) G' (upd H6 Dd (.lst (acc ++ [v]))) (Own (L2.wipe σ vs) m') ∧ Kp G' (upd H6 Dd (.lst (acc ++ [v]))) (L2.wipe σ vs) m' Dd acc' ∧ RpL C G' acc' ys ∧
                Res C ρ Z G H (Own σ m) σ (okV C σ H) ((lcD (asg tg) (fun m => wipeM m vs) t e acc'.length (ds.drop (i + 1)) m').bind fun zs m'' => .ok (.new (.lst (ys ++ zs))) (backM m1 m'' vs)) Q := fun {m6 G6 H6 v yd} f6 s6 r6 h6 => by
            have k6 := k5.fr f6
            have f6b := f5b.trans f6
            by_cases hz : acc.length < sizeLine
            · rw [if_pos hz] at h6
              refine ⟨acc, k6.h, hz, G6, wipeM m6 vs, acc ++ [v], ys ++ [yd], ?_⟩
              have ws := (s6.poke (u := .lst (acc ++ [v])) k6.g k6.o).wipe vs
              rw [w4] at ws
              refine ⟨ws.1, ((e2.trans e3).trans f5.g).trans f6.g, (f6b.poke (f1b.back hD)).less ws.2, ⟨k6.g, upd_same, fun w => k6.o (ws.2 Dd w)⟩, (r2.up ((e3.trans f5.g).trans f6.g)).app (.cons r6 .nil), ?_⟩
              rw [List.length_append, List.length_singleton]
              revert h6
              cases lcD (asg tg) (fun m => wipeM m vs) t e (acc.length + 1) (ds.drop (i + 1)) (wipeM m6 vs) with
              | st => exact fun h => h
              | ex c x m7 => exact fun h => h
              | ok zs m7 =>
                rw [R.bind_ok, R.bind_ok, R.bind_ok, List.append_assoc]
                exact fun h => h
            · rw [if_neg hz] at h6; exact False.elim h6
          cases e m5 with
          | st => exact fun h => h
          | ex c x m6 => exact fun h => False.elim h
          | ok a m6 =>
            intro h2 G6 H6 v f6 s6 o6
            obtain ⟨G7, e7, f7, s7, v7⟩ := settle f6 s6 o6 fun p q => q
            cases a with
            | dat yd => exact fin f7 s7 v7 h2
            | new o => exact fin f7 s7 v7 h2
            | own j => exact False.elim h2
  · rintro H2 ⟨G2, m2, acc, ys, s2, e2, f2, k2, r2, h2⟩
    rw [List.drop_length] at h2
    have h2 : Res C ρ Z G H (Own σ m) σ (okV C σ H) (.ok (.new (.lst (ys ++ []))) (backM m1 m2 vs)) Q := h2
    rw [List.append_nil] at h2
    obtain ⟨a1, a2⟩ := s1.unwipe e2 no s2
    exact h2 G2 H2 _ (f2.less a2) a1 ⟨Dd, rfl, f1b.back hD, k2.g, fun w => k2.o (a2 Dd w), acc, k2.h, r2⟩
end
end G

set_option maxRecDepth 100000
set_option maxHeartbeats 4000000
/-! G14: the look is sound: expressions -/
namespace G
open PySem PySem.Spec PyProof.Rows L2

/-- what an expression asks of the module -/
inductive Need where
  | call (f : Nat) (φ : Fn)
  | bi (b : Bi)
  | free (x : Str)
  | cst (g : Nat) (d : D)
  | no
def ikN : Ik → List Need
  | .seq => []
  | .rng1 => [.free "range"]
  | .rng2 => [.free "range"]
  | .enum => [.free "enumerate"]
  | .zip => [.free "zip"]
mutual
def ndE : E → List Need
  | .nop => []
  | .var _ => []
  | .int _ => []
  | .str _ => []
  | .bool _ => []
  | .non => []
  | .cst g d => [.cst g d]
  | .bin _ a b => ndE a ++ ndE b
  | .neg a => ndE a
  | .not a => ndE a
  | .cmp _ a b => ndE a ++ ndE b
  | .chn a _ es => ndE a ++ ndEs es
  | .band es => ndEs es
  | .bor es => ndEs es
  | .ife t a b => ndE t ++ (ndE a ++ ndE b)
  | .tup es => ndEs es
  | .lst es => ndEs es
  | .ix a b => ndE a ++ ndE b
  | .slc a l h => ndE a ++ (ndE l ++ ndE h)
  | .fld a _ => ndE a
  | .call f φ es => .call f φ :: ndEs es
  | .mk _ _ _ _ => [.no]
  | .meth _ _ _ _ _ => [.no]
  | .bi b es => .bi b :: ndEs es
  | .isi a ts => .free "isinstance" :: (ts.map (fun t => .free (Str.ofString (tyN t))) ++ ndE a)
  | .bm _ o es => ndE o ++ ndEs es
  | .lc _ _ ik es t e => ikN ik ++ (ndEs es ++ (ndE t ++ ndE e))
def ndEs : List E → List Need
  | [] => []
  | e :: es => ndE e ++ ndEs es
end
def Need.ok (CX : CXT) (P : Program) (w : World) (K : PySem.W.Frag) (mg : Str → Option Value) (base : Heap) (C : Cn) (Y : Sy) (k : Nat) : Need → Prop
  | .call f φ => mg (Y.gn f) = some (.ref (C.ad f)) ∧ PySem.W.keepIn K (.ref (C.ad f)) = true ∧ FnG CX P w K mg base C k (C.ad f) φ
  | .bi b => biM mg b
  | .free x => mg x = none
  | .cst g d => ∃ u v, mg (Y.gn g) = some u ∧ RelV v u ∧ ∀ G, Rp C G v d
  | .no => False
abbrev Need.okX (CX : CXT) (X : Cx) (C : Cn) (Y : Sy) (k : Nat) (n : Need) : Prop := n.ok CX X.prog X.w X.K X.mg X.base C Y k
/-- what is held of the context besides the scope -/
structure Ev (CX : CXT) (X : Cx) (k : Nat) (Z : XK) : Prop where
  hx : Passes CX X Z
  own : PassesOwn (model X.prog X.w) X.A X.env X.xe
  room : Room k X.A
  nev : ∀ (outer : List Env) (H : Hp) (s : Shared) (e : Value) (s' : Shared), ¬ CX outer H s Z0 e s'

section
variable {CX : CXT} {X : Cx} {C : Cn} {ρ : Nat → Addr} {Z : XK} {pos : Pos} {N : List Str} {sc sc' : Scope} {Y : Sy} {k : Nat}
theorem Ev.blk (v : Ev CX X k Z) (s : Shared) (H : Hp) (scope : Scope) (cenv : Env) (fp : List Addr) : Ev CX (X.blk s H scope cenv fp) k Z0 := ⟨fun _ _ _ _ _ _ _ z => v.nev _ _ _ _ _ z, PassesOwn.never, v.room, v.nev⟩
theorem Ctx.blk (c : Ctx C X N sc) {own : List (Str × Nat)} (s : Shared) (H : Hp) (Ca : Addr) (cl : List (Str × Addr)) (fp : List Addr) (hk : sc'.kind = .function) : Ctx C (X.blk s H sc' (compEnvC sc' cl Ca X.env) fp) N sc' := by
  have e : (X.blk s H sc' (compEnvC sc' cl Ca X.env) fp).env.scope = relS sc' X.env.scope := rfl
  have kp : ∀ {x : Str} {k : NameKind}, k ≠ .free → sc'.names.lookup x = some k → (relS sc' X.env.scope).names.lookup x = some k := fun h1 h2 => lookup_relS_keep h1 h2
  have fr : ∀ {x : Str}, sc'.names.lookup x = some .free → (relS sc' X.env.scope).names.lookup x = some .cell ∨ (relS sc' X.env.scope).names.lookup x = some .free := fun {x} h => by
    cases z : (relS sc' X.env.scope).names.lookup x with
    | none =>
      exfalso
      have : ∀ {names : List (Str × NameKind)}, names.lookup x = some .free → (names.map fun (n, k) => if (k == NameKind.free && X.env.scope.kind == .function && X.env.scope.names.lookup n == some .cell) then (n, NameKind.cell) else (n, k)).lookup x ≠ none := by
        intro names
        induction names with
        | nil => intro h; simp at h
        | cons p r ih =>
          obtain ⟨n, k0⟩ := p
          intro h
          rw [List.map_cons]
          dsimp only
          cases hx : x == n with
          | true => split <;> simp [List.lookup_cons, hx]
          | false =>
            have h2 : r.lookup x = some .free := by simpa [List.lookup_cons, hx] using h
            split <;> (simp only [List.lookup_cons, hx]; exact ih h2)
      exact this h z
    | some k1 =>
      obtain ⟨k', h1, h2⟩ := lookup_relS z
      rw [h] at h1
      cases h1
      rcases h2 with rfl | ⟨_, rfl⟩
      · exact .inr rfl
      · exact .inl rfl
  refine ⟨c.K, c.N, c.nod, c.calm, hk, c.units, fun x k h hkk => ?_, fun x k h hkk => ?_, fun x h => ?_, fun x h => ?_, fun x k h hkk => ?_⟩
  · rcases hkk with rfl | rfl | rfl
    · exact .inl (kp (fun e => nomatch e) h)
    · exact .inr (.inl (kp (fun e => nomatch e) h))
    · rcases fr h with z | z
      · exact .inr (.inl z)
      · exact .inr (.inr z)
  · rcases hkk with rfl | rfl
    · exact ⟨.inl (kp (fun e => nomatch e) h), .inr (kp (fun e => nomatch e) h)⟩
    · exact ⟨.inr (kp (fun e => nomatch e) h), .inl (by show (sc'.names.lookup x == some .cell) = true; rw [h]; rfl)⟩
  · exact kp (fun e => nomatch e) h
  · exact kp (fun e => nomatch e) h
  · rcases hkk with rfl | rfl
    · exact .inl (kp (fun e => nomatch e) h)
    · exact fr h
theorem blk_ok (c : Ctx C X N sc) {vs : List Nat} {own : List (Str × Nat)} (h : scIn N sc sc' vs = some own) : BlkOk X.N X.env.scope sc' own ∧ own.map (·.2) = vs := by
  unfold scIn at h
  dsimp only at h
  split at h
  · rename_i hh
    cases h
    obtain ⟨h1, h2⟩ := hh
    have b := blkOk_by h2
    refine ⟨⟨b.kind, b.uniq, by rw [c.N]; exact b.ix, fun y hy e => ?_, by rw [c.N]; exact b.own⟩, h1⟩
    rcases b.free y hy e with z | z
    · exact c.fre _ _ z (.inl rfl)
    · exact c.fre _ _ z (.inr rfl)
  · cases h
end
end G

set_option maxRecDepth 100000
set_option maxHeartbeats 4000000
/-! G15: the look at an expression is sound -/
namespace G
open PySem PySem.Spec PyProof.Rows L2

/-- what the look at one expression gives -/
structure SE (X : Cx) (C : Cn) (ρ : Nat → Addr) (Z : XK) (a : E) (x : Expr) : Prop where
  e : PE X x (tX C ρ Z (evp a).v)
  t : PT X x (tXT C ρ Z (evp a).t)
  st : noStar x = true
  sl : noSlice x = true
  se : noSet x = true
structure SEs (X : Cx) (C : Cn) (ρ : Nat → Addr) (Z : XK) (es : List E) (xs : List Expr) : Prop where
  e : PTL X C ρ Z (evps es) xs
  st : xs.all noStar = true
  se : xs.all noSet = true
  l : es.length = xs.length
theorem and2 {a b : Bool} (h : (a && b) = true) : a = true ∧ b = true := Bool.and_eq_true_iff.mp h
section
variable {CX : CXT} {X : Cx} {C : Cn} {ρ : Nat → Addr} {Z : XK} {pos : Pos} {N : List Str} {sc sc' : Scope} {Y : Sy} {k : Nat}
theorem folded0 {e : Expr} (h : noSet e = true) (env : PySem.Env) : ∀ x, foldedSetIterable e env x = pure x := fun x => by
  cases e <;> first
    | rfl
    | exact absurd h Bool.false_ne_true
theorem PTL.all {es : List P} {rs : List Expr} (h : PTL X C ρ Z es rs) : es.length = rs.length := by
  induction h with
  | nil => rfl
  | cons _ _ _ ih => exact congrArg Nat.succ ih
/-- iteration, by the look -/
theorem ik_G (c : Ctx C X N sc) {ik : Ik} {tg : Tg} {tge it : Expr} {is : List Expr} {es : List E} (h : ikB N sc ik it = some is) (ht : ikTg ik tg = true) (htg : tgB N sc' tg tge = true) (s : SEs X C ρ Z es is) (m : ∀ n ∈ ikN ik, Need.okX CX X C Y k n) : PI X tge it (tXI C ρ Z ik (evps es)) ∧ noSet it = true := by
  have tup : ∀ {is : List Nat} {e : Expr}, tgB N sc' (.tup is) e = true → ∃ es k p, e = .Tuple es k p := fun {is e} h => by
    cases e <;> first
      | exact nomatch (show false = true from h)
      | exact ⟨_, _, _, rfl⟩
  cases ik with
  | seq =>
    cases (show some [it] = some is from h)
    exact ⟨pi_seqG c s.e.pel, by simpa using s.se⟩
  | rng1 =>
    match it, h with
    | .Call (.Name x p) [a] [] pos, h =>
      have h : (if (glB sc x && decide (x = "range")) = true then some [a] else none) = some is := h
      split at h
      · rename_i hh
        cases h
        obtain ⟨h1, h2⟩ := and2 hh
        have h2 := of_decide_eq_true h2
        subst h2
        have hs := s.st
        rw [List.all_cons] at hs
        exact ⟨pi_rng1G c (glB_ok c h1).1 (m (.free "range") List.mem_cons_self) (and2 hs).1 s.e.pel, rfl⟩
      · cases h
  | rng2 =>
    match it, h with
    | .Call (.Name x p) [a, b] [] pos, h =>
      have h : (if (glB sc x && decide (x = "range")) = true then some [a, b] else none) = some is := h
      split at h
      · rename_i hh
        cases h
        obtain ⟨h1, h2⟩ := and2 hh
        have h2 := of_decide_eq_true h2
        subst h2
        have hs := s.st
        rw [List.all_cons, List.all_cons] at hs
        exact ⟨pi_rng2G c (glB_ok c h1).1 (m (.free "range") List.mem_cons_self) (and2 hs).1 (and2 (and2 hs).2).1 s.e.pel, rfl⟩
      · cases h
  | enum =>
    match it, h with
    | .Call (.Name x p) [a] [] pos, h =>
      have h : (if (glB sc x && decide (x = "enumerate")) = true then some [a] else none) = some is := h
      split at h
      · rename_i hh
        cases h
        obtain ⟨h1, h2⟩ := and2 hh
        have h2 := of_decide_eq_true h2
        subst h2
        have hs := s.st
        rw [List.all_cons] at hs
        cases tg with
        | one i => exact nomatch (show false = true from ht)
        | tup is =>
          obtain ⟨elts, kk, tp, rfl⟩ := tup htg
          exact ⟨pi_enumG c (glB_ok c h1).1 (m (.free "enumerate") List.mem_cons_self) (and2 hs).1 s.e.pel, rfl⟩
      · cases h
  | zip =>
    match it, h with
    | .Call (.Name x p) [a, b] [] pos, h =>
      have h : (if (glB sc x && decide (x = "zip")) = true then some [a, b] else none) = some is := h
      split at h
      · rename_i hh
        cases h
        obtain ⟨h1, h2⟩ := and2 hh
        have h2 := of_decide_eq_true h2
        subst h2
        have hs := s.st
        rw [List.all_cons, List.all_cons] at hs
        cases tg with
        | one i => exact nomatch (show false = true from ht)
        | tup is =>
          obtain ⟨elts, kk, tp, rfl⟩ := tup htg
          exact ⟨pi_zipG c (glB_ok c h1).1 (m (.free "zip") List.mem_cons_self) (and2 hs).1 (and2 (and2 hs).2).1 s.e.pel, rfl⟩
      · cases h
theorem need_l {l r : List Need} (h : ∀ n ∈ l ++ r, Need.okX CX X C Y k n) : ∀ n ∈ l, Need.okX CX X C Y k n := fun n hn => h n (List.mem_append_left _ hn)
theorem need_r {l r : List Need} (h : ∀ n ∈ l ++ r, Need.okX CX X C Y k n) : ∀ n ∈ r, Need.okX CX X C Y k n := fun n hn => h n (List.mem_append_right _ hn)
theorem need_h {a : Need} {r : List Need} (h : ∀ n ∈ a :: r, Need.okX CX X C Y k n) : Need.okX CX X C Y k a ∧ ∀ n ∈ r, Need.okX CX X C Y k n := ⟨h a List.mem_cons_self, fun n hn => h n (List.mem_cons_of_mem _ hn)⟩
/-- a value's truth -/
theorem SE.of {a : E} {x : Expr} {f : Mem → R Val} (hK : X.K = C.K) (hf : evp a = P.of f) (h : PE X x (tX C ρ Z f)) (he : ∀ whole, isTrue x X.env whole = (do let v ← whole; standAt x.pos; holding [v] (truthy v))) (h1 : noStar x = true) (h2 : noSlice x = true) (h3 : noSet x = true) : SE X C ρ Z a x := by
  refine ⟨by rw [hf]; exact h, by rw [hf]; exact pt_truthG hK h he, h1, h2, h3⟩
theorem visB_ok (c : Ctx C X N sc) {i : Nat} {x : Str} (h : visB N sc i x = true) : X.N[i]? = some x ∧ Vis X.env.scope x ∧ (x == ("__debug__" : Str)) = false ∧ (x == ("__classdict__" : Str)) = false := by
  unfold visB at h
  simp only [Bool.and_eq_true, Bool.or_eq_true, decide_eq_true_eq, Bool.not_eq_true'] at h
  obtain ⟨⟨⟨h1, h2⟩, h3⟩, h4⟩ := h
  refine ⟨by rw [c.N]; exact h1, ?_, h3, h4⟩
  rcases h2 with (h2 | h2) | h2
  · exact c.vis x _ h2 (.inl rfl)
  · exact c.vis x _ h2 (.inr (.inl rfl))
  · exact c.vis x _ h2 (.inr (.inr rfl))
theorem tysB_ok (c : Ctx C X N sc) : ∀ {ts : List Ty} {es : List Expr}, tysB sc ts es = true → tysE ts es ∧ (∀ t ∈ ts, Gl X (Str.ofString (tyN t))) ∧ ts.length = es.length
  | [], [], _ => ⟨trivial, fun t h => (nomatch h), rfl⟩
  | t :: ts, .Name x p :: es, h => by
    have h : (glB sc x && decide (x = Str.ofString (tyN t)) && tysB sc ts es) = true := h
    obtain ⟨h1, h3⟩ := and2 h
    obtain ⟨h1, h2⟩ := and2 h1
    have h2 := of_decide_eq_true h2
    subst h2
    obtain ⟨a, b, l⟩ := tysB_ok c h3
    refine ⟨⟨rfl, a⟩, fun t' ht => ?_, congrArg Nat.succ l⟩
    rcases List.mem_cons.mp ht with e | ht
    · rw [e]; exact (glB_ok c h1).1
    · exact b t' ht
end
end G

set_option maxRecDepth 100000
set_option maxHeartbeats 4000000
/-! G16: the look at an expression is sound: the induction -/
namespace G
open PySem PySem.Spec PyProof.Rows L2

section
variable {CX : CXT} {C : Cn} {ρ : Nat → Addr} {N : List Str} {Y : Sy} {k : Nat}
theorem fn_inj (hY : ∀ i, C.fn i = Y.fn i) {i : Nat} {f : Str} (h : decide (Y.fn i = f) = true) : C.fn i = f := (hY i).trans (of_decide_eq_true h)
theorem bm_E {X : Cx} {Z : XK} {sc : Scope} {es : List E} {o : E} {oe : Expr} {as : List Expr} {b : Bm} {apos pos : Pos} (c : Ctx C X N sc) (so : SE X C ρ Z o oe) (sa : SEs X C ρ Z es as) (hb : notCall0 oe = true) (hl : (apos.endLine == pos.line) = true) (hn : decide (as.length < 29) = true) (hm : mutB b = true) :
    PE X (.Call (.Attribute oe (Str.ofString (bmN b)) apos) as [] pos) (tX C ρ Z (bmF b (evp o).v (evps es))) := by
  have few : ((backTo pos (starEach as X.env)).all (fun x => !x.1) && (backToKw pos (keywordEach [] X.env)).all (fun x => x.1.isSome) && decide (as.length + ([] : List Keyword).length + (if ([] : List Keyword).isEmpty then 0 else 1) < 30)) = true := by
    have h1 := starsL (env := X.env) (pos := pos) sa.st
    have h2 : (backTo pos (starEach as X.env)).all (fun x => !x.1) = true := by
      rw [List.any_eq_false] at h1
      rw [List.all_eq_true]
      intro y hy
      have := h1 y hy
      simpa using this
    rw [h2]
    have h3 := of_decide_eq_true hn
    show (true && true && decide (as.length + 0 + 0 < 30)) = true
    rw [decide_eq_true (by omega)]
    rfl
  cases as with
  | nil =>
    have e0 : es = [] := by
      have := sa.l
      cases es with
      | nil => rfl
      | cons _ _ => cases this
    subst e0
    cases b <;> first
      | exact nomatch (show false = true from hm)
      | skip
    · exact PE.of (pe_bm0 PySem.F.plainAttrs_list PySem.F.slot_list_pop PySem.F.type_list_pop mt_pop so.e (base0 hb) hl) (red_bm0 c.K)
    · exact PE.of (pe_bm0 PySem.F.plainAttrs_list PySem.F.slot_list_append PySem.F.type_list_append mt_append so.e (base0 hb) hl) (red_bm0 c.K)
    · exact PE.of (pe_bm0 PySem.F.plainAttrs_list PySem.F.slot_list_reverse PySem.F.type_list_reverse mt_reverse so.e (base0 hb) hl) (red_bm0 c.K)
  | cons a as =>
    have hs := sa.st
    rw [List.all_cons] at hs
    obtain ⟨hs1, hs2⟩ := and2 hs
    have pa := pa_G sa.e.pel sa.st
    cases b <;> first
      | exact nomatch (show false = true from hm)
      | skip
    · exact PE.of (pe_bm PySem.F.plainAttrs_list PySem.F.slot_list_pop PySem.F.type_list_pop mt_pop so.e pa (base0 hb) few hl (star0 hs1) (starsL hs2)) (red_bm c.K)
    · exact PE.of (pe_bm PySem.F.plainAttrs_list PySem.F.slot_list_append PySem.F.type_list_append mt_append so.e pa (base0 hb) few hl (star0 hs1) (starsL hs2)) (red_bm c.K)
    · exact PE.of (pe_bm PySem.F.plainAttrs_list PySem.F.slot_list_reverse PySem.F.type_list_reverse mt_reverse so.e pa (base0 hb) few hl (star0 hs1) (starsL hs2)) (red_bm c.K)
/-- the parts of a comprehension -/
structure LcP (X : Cx) (C : Cn) (ρ : Nat → Addr) (Z : XK) (vs : List Nat) (tg : Tg) (ik : Ik) (es : List E) (t e : E) (e' tg' it : Expr) (ifs : List Expr) (sc' : Scope) : Prop where
  ok : ∃ own : List (Str × Nat), own.map (·.2) = vs ∧ BlkOk X.N X.env.scope sc' own
  itr : PI X tg' it (tXI C ρ Z ik (evps es))
  hv : ∀ i ∈ tgI tg, i ∈ vs
  fo : ∀ x, foldedSetIterable it X.env x = pure x
  tg : ∀ (s : Shared) (H : Hp) (Ca : Addr) (cl : List (Str × Addr)) (fp : List Addr), PG (X.blk s H sc' (compEnvC sc' cl Ca X.env) fp) tg' (gT C ρ tg)
  t : ∀ (s : Shared) (H : Hp) (Ca : Addr) (cl : List (Str × Addr)) (fp : List Addr), PTs (X.blk s H sc' (compEnvC sc' cl Ca X.env) fp) ifs (tXT C ρ Z0 (if isNop t = true then yesT else (evp t).t))
  e : ∀ (s : Shared) (H : Hp) (Ca : Addr) (cl : List (Str × Addr)) (fp : List Addr), PE (X.blk s H sc' (compEnvC sc' cl Ca X.env) fp) e' (tX C ρ Z0 (evp e).v)
theorem PTs.of {X : Cx} {e : List Expr} {t t' : TT} (h : PTs X e t) (i : ∀ σ H Q, t' σ H Q → t σ H Q) : PTs X e t' := ⟨fun pins s σ H Q I q => h.run pins s σ H Q I (i σ H Q q)⟩
theorem lc_all {X : Cx} {Z : XK} {sc : Scope} {vs : List Nat} {tg : Tg} {ik : Ik} {es : List E} {t e : E} {e' tg' it : Expr} {ifs : List Expr} {sc' : Scope} {p : Pos} (c : Ctx C X N sc) (v : Ev CX X k Z) (nd : ∀ n ∈ ndE (.lc vs tg ik es t e), Need.okX CX X C Y k n) (h : cE Y N sc (.lc vs tg ik es t e) (.ListComp e' [⟨tg', it, ifs, 0⟩] sc' p) = true)
    (hes : ∀ {X : Cx} {Z : XK} {sc : Scope} {x : List Expr}, Ctx C X N sc → Ev CX X k Z → (∀ n ∈ ndEs es, Need.okX CX X C Y k n) → cEs Y N sc es x = true → SEs X C ρ Z es x)
    (ht : ∀ {X : Cx} {Z : XK} {sc : Scope} {x : Expr}, Ctx C X N sc → Ev CX X k Z → (∀ n ∈ ndE t, Need.okX CX X C Y k n) → cE Y N sc t x = true → SE X C ρ Z t x)
    (he : ∀ {X : Cx} {Z : XK} {sc : Scope} {x : Expr}, Ctx C X N sc → Ev CX X k Z → (∀ n ∈ ndE e, Need.okX CX X C Y k n) → cE Y N sc e x = true → SE X C ρ Z e x) : LcP X C ρ Z vs tg ik es t e e' tg' it ifs sc' := by
  have h : (match ikB N sc ik it, scIn N sc sc' vs with
    | some is, some _ => ikTg ik tg && (tgL tg).all (fun i => vs.contains i) && cEs Y N sc es is && tgB N sc' tg tg' && (match (generalizing := false) ifs with | [] => isNop t | [x] => !isNop t && cE Y N sc' t x | _ => false) && cE Y N sc' e e'
    | _, _ => false) = true := h
  split at h
  · rename_i is own h1 h2
    obtain ⟨h, a6⟩ := and2 h
    obtain ⟨h, a5⟩ := and2 h
    obtain ⟨h, a4⟩ := and2 h
    obtain ⟨h, a3⟩ := and2 h
    obtain ⟨a1, a2⟩ := and2 h
    have nd : ∀ n ∈ ikN ik ++ (ndEs es ++ (ndE t ++ ndE e)), Need.okX CX X C Y k n := nd
    have ss := hes c v (need_l (need_r nd)) a3
    obtain ⟨i1, i2⟩ := ik_G c h1 a1 a4 ss (need_l nd)
    obtain ⟨b1, b2⟩ := blk_ok c h2
    have cB : ∀ (s : Shared) (H : Hp) (Ca : Addr) (cl : List (Str × Addr)) (fp : List Addr), Ctx C (X.blk s H sc' (compEnvC sc' cl Ca X.env) fp) N sc' := fun s H Ca cl fp => c.blk (own := own) s H Ca cl fp b1.kind
    have vB := fun (s : Shared) (H : Hp) (Ca : Addr) (cl : List (Str × Addr)) (fp : List Addr) => v.blk s H sc' (compEnvC sc' cl Ca X.env) fp
    refine ⟨⟨own, b2, b1⟩, i1, fun i hi => ?_, folded0 i2 _, fun s H Ca cl fp => pg_G (cB s H Ca cl fp) a4, fun s H Ca cl fp => ?_, fun s H Ca cl fp => ?_⟩
    · have := List.all_eq_true.mp a2 i hi
      simpa using this
    · split at a5
      · rw [if_pos a5]
        exact PTs.of pts_nil fun σ H Q ⟨G, m, s, h⟩ => h G H true Fr.refl s rfl
      · obtain ⟨n, a5⟩ := and2 a5
        rw [if_neg (by intro e; rw [e] at n; cases n)]
        exact pts_one (ht (cB s H Ca cl fp) (vB s H Ca cl fp) (need_l (need_r (need_r nd))) a5).t
      · cases a5
    · exact (he (cB s H Ca cl fp) (vB s H Ca cl fp) (need_r (need_r (need_r nd))) a6).e
  · cases h
theorem lc_parts {X : Cx} {Z : XK} {sc : Scope} {vs : List Nat} {tg : Tg} {ik : Ik} {es : List E} {t e : E} {e' tg' it : Expr} {ifs : List Expr} {sc' : Scope} {p : Pos} (c : Ctx C X N sc) (v : Ev CX X k Z) (nd : ∀ n ∈ ndE (.lc vs tg ik es t e), Need.okX CX X C Y k n) (h : cE Y N sc (.lc vs tg ik es t e) (.ListComp e' [⟨tg', it, ifs, 0⟩] sc' p) = true)
    (hes : ∀ {X : Cx} {Z : XK} {sc : Scope} {x : List Expr}, Ctx C X N sc → Ev CX X k Z → (∀ n ∈ ndEs es, Need.okX CX X C Y k n) → cEs Y N sc es x = true → SEs X C ρ Z es x)
    (ht : ∀ {X : Cx} {Z : XK} {sc : Scope} {x : Expr}, Ctx C X N sc → Ev CX X k Z → (∀ n ∈ ndE t, Need.okX CX X C Y k n) → cE Y N sc t x = true → SE X C ρ Z t x)
    (he : ∀ {X : Cx} {Z : XK} {sc : Scope} {x : Expr}, Ctx C X N sc → Ev CX X k Z → (∀ n ∈ ndE e, Need.okX CX X C Y k n) → cE Y N sc e x = true → SE X C ρ Z e x) :
    PE X (.ListComp e' [⟨tg', it, ifs, 0⟩] sc' p) (tX C ρ Z (lcF vs tg ik (evps es) (if isNop t = true then yesT else (evp t).t) (evp e).v)) := by
  have L := lc_all (p := p) (ρ := ρ) c v nd h hes ht he
  obtain ⟨own, e1, b⟩ := L.ok
  have z := pe_lc (pos := p) c.calm c.nod L.itr b L.tg L.t L.e L.fo
  rw [e1] at z
  exact PE.of z (red_lc L.hv)
mutual
theorem snd_E (hY : ∀ i, C.fn i = Y.fn i) : ∀ (a : E) {X : Cx} {Z : XK} {sc : Scope} {x : Expr}, Ctx C X N sc → Ev CX X k Z → (∀ n ∈ ndE a, Need.okX CX X C Y k n) → cE Y N sc a x = true → SE X C ρ Z a x
  | .nop, X, Z, sc, x, c, v, nd, h => nomatch (show false = true from h)
  | .var i, X, Z, sc, x, c, v, nd, h => by
    match x, h with
    | .Name y p, h =>
      obtain ⟨h1, h2, h3, h4⟩ := visB_ok c (show visB N sc i y = true from h)
      exact SE.of c.K rfl (pe_varG h1 h2 h3 h4) (fun _ => rfl) rfl rfl rfl
  | .int n, X, Z, sc, x, c, v, nd, h => by
    match x, h with
    | .Constant (.int m) _ _, h =>
      cases of_decide_eq_true (show decide (n = m) = true from h)
      exact SE.of c.K rfl (pe_constG pe_int fun _ => .int _) (fun _ => rfl) rfl rfl rfl
  | .str n, X, Z, sc, x, c, v, nd, h => by
    match x, h with
    | .Constant (.str m) _ _, h =>
      cases of_decide_eq_true (show decide (n = m) = true from h)
      exact SE.of c.K rfl (pe_constG pe_str fun _ => .str _) (fun _ => rfl) rfl rfl rfl
  | .bool n, X, Z, sc, x, c, v, nd, h => by
    match x, h with
    | .Constant (.bool m) _ _, h =>
      cases of_decide_eq_true (show decide (n = m) = true from h)
      exact SE.of c.K rfl (pe_constG pe_bl fun _ => .bl _) (fun _ => rfl) rfl rfl rfl
  | .non, X, Z, sc, x, c, v, nd, h => by
    match x, h with
    | .Constant .none _ _, h => exact SE.of c.K rfl (pe_constG pe_non fun _ => .non) (fun _ => rfl) rfl rfl rfl
  | .cst g d, X, Z, sc, x, c, v, nd, h => by
    match x, h with
    | .Name y p, h =>
      obtain ⟨h1, h2⟩ := and2 (show (glB sc y && decide (Y.gn g = y)) = true from h)
      cases of_decide_eq_true h2
      obtain ⟨g1, g2, _⟩ := glB_ok c h1
      obtain ⟨u, w, e1, e2, e3⟩ := (need_h nd).1
      exact SE.of c.K rfl (pe_constG (pe_glob g1 e1 e2 g2) e3) (fun _ => rfl) rfl rfl rfl
  | .bin o a b, X, Z, sc, x, c, v, nd, h => by
    match x, h with
    | .BinOp l op r p, h =>
      obtain ⟨h1, h3⟩ := and2 (show (boE o op && cE Y N sc a l && cE Y N sc b r) = true from h)
      obtain ⟨h1, h2⟩ := and2 h1
      have sa := snd_E hY a c v (need_l nd) h2
      have sb := snd_E hY b c v (need_r nd) h3
      exact SE.of c.K rfl (pe_binG c.K h1 sa.e sb.e) (fun _ => rfl) rfl rfl rfl
  | .neg a, X, Z, sc, x, c, v, nd, h => by
    match x, h with
    | .UnaryOp .USub l p, h =>
      have sa := snd_E hY a c v nd (show cE Y N sc a l = true from h)
      exact SE.of c.K rfl (pe_negG sa.e) (fun _ => rfl) rfl rfl rfl
  | .not a, X, Z, sc, x, c, v, nd, h => by
    match x, h with
    | .UnaryOp .Not l p, h =>
      have sa := snd_E hY a c v nd (show cE Y N sc a l = true from h)
      exact ⟨pe_notG c.K sa.e, pt_notG sa.t, rfl, rfl, rfl⟩
  | .cmp o a b, X, Z, sc, x, c, v, nd, h => by
    match x, h with
    | .Compare l [op] [r] p, h =>
      obtain ⟨h1, h3⟩ := and2 (show (coE o op && cE Y N sc a l && cE Y N sc b r) = true from h)
      obtain ⟨h1, h2⟩ := and2 h1
      have sa := snd_E hY a c v (need_l nd) h2
      have sb := snd_E hY b c v (need_r nd) h3
      exact ⟨pe_cmpG c.K c.units h1 (marks0 sb.se) sa.e sb.e, pt_cmpG c.K c.units h1 (marks0 sb.se) sa.e sb.e, rfl, rfl, rfl⟩
  | .chn a os es, X, Z, sc, x, c, v, nd, h => by
    match x, h with
    | .Compare l ops rs p, h =>
      obtain ⟨h1, h4⟩ := and2 (show (decide (2 ≤ ops.length) && decide (ops.length = rs.length) && cosB os ops && cE Y N sc a l && cEs Y N sc es rs) = true from h)
      obtain ⟨h1, h3⟩ := and2 h1
      obtain ⟨h1, h2⟩ := and2 h1
      obtain ⟨h1, h0⟩ := and2 h1
      have sa := snd_E hY a c v (need_l nd) h3
      have sb := snd_Es hY es c v (need_r nd) h4
      exact ⟨pe_chnG c.K c.units (of_decide_eq_true h1) h2 (of_decide_eq_true h0) sb.se sa.e sb.e.pel, pt_chnG c.K c.units (of_decide_eq_true h1) h2 (of_decide_eq_true h0) sb.se sa.e sb.e.pel, rfl, rfl, rfl⟩
  | .band es, X, Z, sc, x, c, v, nd, h => by
    match x, h with
    | .BoolOp .And vs p, h =>
      have sb := snd_Es hY es c v nd (show cEs Y N sc es vs = true from h)
      exact ⟨pe_andG sb.e.pel, (pw_andG sb.e).pt, rfl, rfl, rfl⟩
  | .bor es, X, Z, sc, x, c, v, nd, h => by
    match x, h with
    | .BoolOp .Or vs p, h =>
      have sb := snd_Es hY es c v nd (show cEs Y N sc es vs = true from h)
      exact ⟨pe_orG sb.e.pel, (pw_orG sb.e).pt, rfl, rfl, rfl⟩
  | .ife t a b, X, Z, sc, x, c, v, nd, h => by
    match x, h with
    | .IfExp t' a' b' p, h =>
      obtain ⟨h1, h3⟩ := and2 (show (cE Y N sc t t' && cE Y N sc a a' && cE Y N sc b b') = true from h)
      obtain ⟨h1, h2⟩ := and2 h1
      have st := snd_E hY t c v (need_l nd) h1
      have sa := snd_E hY a c v (need_l (need_r nd)) h2
      have sb := snd_E hY b c v (need_r (need_r nd)) h3
      exact ⟨pe_ifeG st.t sa.e sb.e, never_T, rfl, rfl, rfl⟩
  | .tup es, X, Z, sc, x, c, v, nd, h => by
    match x, h with
    | .Tuple vs n p, h =>
      have sb := snd_Es hY es c v nd (show cEs Y N sc es vs = true from h)
      exact SE.of c.K rfl (pe_tupG sb.e.pel sb.st) (fun _ => rfl) rfl rfl rfl
  | .lst es, X, Z, sc, x, c, v, nd, h => by
    match x, h with
    | .List vs p, h =>
      have sb := snd_Es hY es c v nd (show cEs Y N sc es vs = true from h)
      exact SE.of c.K rfl (pe_lstG sb.e.pel sb.st) (fun _ => rfl) rfl rfl rfl
  | .ix a b, X, Z, sc, x, c, v, nd, h => by
    match x, h with
    | .Subscript l r p, h =>
      obtain ⟨h1, h2⟩ := and2 (show (cE Y N sc a l && cE Y N sc b r) = true from h)
      have sa := snd_E hY a c v (need_l nd) h1
      have sb := snd_E hY b c v (need_r nd) h2
      exact SE.of c.K rfl (pe_ixG c.K sb.sl sa.e sb.e) (fun _ => rfl) rfl rfl rfl
  | .slc a lo hi, X, Z, sc, x, c, v, nd, h => by
    match x, h with
    | .Subscript l (.Slice lo' hi' none p2) p, h =>
      obtain ⟨h1, h3⟩ := and2 (show (cE Y N sc a l && (match (generalizing := false) lo' with | none => isNop lo | some x => !isNop lo && cE Y N sc lo x) && (match (generalizing := false) hi' with | none => isNop hi | some x => !isNop hi && cE Y N sc hi x)) = true from h)
      obtain ⟨h1, h2⟩ := and2 h1
      have sa := snd_E hY a c v (need_l nd) h1
      have pl : PO X lo' (tXO C ρ Z (partF (if isNop lo = true then none else some (evp lo).v))) := by
        cases lo' with
        | none =>
          have h2 : isNop lo = true := h2
          rw [if_pos h2]; exact po_noneG
        | some x =>
          obtain ⟨n, h2⟩ := and2 (show (!isNop lo && cE Y N sc lo x) = true from h2)
          rw [if_neg (by intro e; rw [e] at n; cases n)]
          exact po_someG (snd_E hY lo c v (need_l (need_r nd)) h2).e
      have ph : PO X hi' (tXO C ρ Z (partF (if isNop hi = true then none else some (evp hi).v))) := by
        cases hi' with
        | none =>
          have h3 : isNop hi = true := h3
          rw [if_pos h3]; exact po_noneG
        | some x =>
          obtain ⟨n, h3⟩ := and2 (show (!isNop hi && cE Y N sc hi x) = true from h3)
          rw [if_neg (by intro e; rw [e] at n; cases n)]
          exact po_someG (snd_E hY hi c v (need_r (need_r nd)) h3).e
      exact SE.of c.K rfl (pe_slcG c.K sa.e pl ph) (fun _ => rfl) rfl rfl rfl
  | .fld a f, X, Z, sc, x, c, v, nd, h => by
    match x, h with
    | .Attribute e g p, h =>
      obtain ⟨h1, h3⟩ := and2 (show (decide (Y.fn f = g) && notCall0 e && cE Y N sc a e) = true from h)
      obtain ⟨h1, h2⟩ := and2 h1
      have sa := snd_E hY a c v nd h3
      exact SE.of c.K rfl (pe_fldG c.K (fn_inj hY h1) h2 sa.e) (fun _ => rfl) rfl rfl rfl
  | .call f φ es, X, Z, sc, x, c, v, nd, h => by
    match x, h with
    | .Call (.Name y p2) as [] p, h =>
      obtain ⟨h1, h3⟩ := and2 (show (glB sc y && decide (Y.gn f = y) && cEs Y N sc es as) = true from h)
      obtain ⟨h1, h2⟩ := and2 h1
      have sb := snd_Es hY es c v (need_h nd).2 h3
      cases of_decide_eq_true h2
      obtain ⟨g1, g2, _⟩ := glB_ok c h1
      obtain ⟨n1, n2, n3⟩ := (need_h nd).1
      exact SE.of c.K rfl (pe_callG n3 v.room g1 n1 n2 v.hx g2 sb.e.pel sb.st) (fun _ => rfl) rfl rfl rfl
  | .mk _ _ _ _, X, Z, sc, x, c, v, nd, h => False.elim (need_h nd).1
  | .meth _ _ _ _ _, X, Z, sc, x, c, v, nd, h => False.elim (need_h nd).1
  | .bi b es, X, Z, sc, x, c, v, nd, h => by
    match x, h with
    | .Call (.Name y p2) as [] p, h =>
      obtain ⟨h1, h4⟩ := and2 (show (glB sc y && decide (y = Str.ofString (biN b)) && !as.isEmpty && cEs Y N sc es as) = true from h)
      obtain ⟨h1, h3⟩ := and2 h1
      obtain ⟨h1, h2⟩ := and2 h1
      have sb := snd_Es hY es c v (need_h nd).2 h4
      have e2 := of_decide_eq_true h2
      subst e2
      exact SE.of c.K rfl (pe_biG c.K c.calm c.units (glB_ok c h1).1 (need_h nd).1 (by simpa using h3) sb.e.pel sb.st) (fun _ => rfl) rfl rfl rfl
  | .isi a ts, X, Z, sc, x, c, v, nd, h => by
    obtain ⟨n1, nd⟩ := need_h nd
    match ts, x, h with
    | [t], .Call (.Name y p2) [e, .Name z p3] [] p, h =>
      obtain ⟨h1, h5⟩ := and2 (show (glB sc y && decide (y = "isinstance") && glB sc z && decide (z = Str.ofString (tyN t)) && cE Y N sc a e) = true from h)
      obtain ⟨h1, h4⟩ := and2 h1
      obtain ⟨h1, h3⟩ := and2 h1
      obtain ⟨h1, h2⟩ := and2 h1
      have sa := snd_E hY a c v (need_r nd) h5
      have q1 := (glB_ok c h1).1
      have q3 := (glB_ok c h3).1
      have e2 := of_decide_eq_true h2
      have e4 := of_decide_eq_true h4
      clear h h1 h2 h3 h4 h5
      subst e2
      subst e4
      have n2 : X.mg (Str.ofString (tyN t)) = none := need_l nd (.free (Str.ofString (tyN t))) (List.mem_map.mpr ⟨t, List.mem_cons_self, rfl⟩)
      exact SE.of c.K rfl (pe_isi1G c.K q1 n1 q3 n2 sa.st sa.e) (fun _ => rfl) rfl rfl rfl
    | t :: t' :: ts, .Call (.Name y p2) [e, .Tuple es n p3] [] p, h =>
      obtain ⟨h1, h4⟩ := and2 (show (glB sc y && decide (y = "isinstance") && decide ((t :: t' :: ts).length ≤ sizeLine) && tysB sc (t :: t' :: ts) es && cE Y N sc a e) = true from h)
      obtain ⟨h1, h3⟩ := and2 h1
      obtain ⟨h1, h0⟩ := and2 h1
      obtain ⟨h1, h2⟩ := and2 h1
      have sa := snd_E hY a c v (need_r nd) h4
      have e2 := of_decide_eq_true h2
      subst e2
      obtain ⟨t1, t2, t3⟩ := tysB_ok c h3
      have hz : (t :: t' :: ts).length ≤ sizeLine := of_decide_eq_true h0
      have n2 : ∀ u ∈ t :: t' :: ts, X.mg (Str.ofString (tyN u)) = none := fun u hu => need_l nd (.free (Str.ofString (tyN u))) (List.mem_map.mpr ⟨u, hu, rfl⟩)
      exact SE.of c.K rfl (pe_isiNG c.K (glB_ok c h1).1 n1 t2 n2 t1 hz sa.st sa.e) (fun _ => rfl) rfl rfl rfl
  | .bm b o es, X, Z, sc, x, c, v, nd, h => by
    match x, h with
    | .Call (.Attribute e f apos) as [] p, h =>
      obtain ⟨h1, h7⟩ := and2 (show (mutB b && decide (f = Str.ofString (bmN b)) && notCall0 e && apos.endLine == p.line && decide (as.length < 29) && cE Y N sc o e && cEs Y N sc es as) = true from h)
      obtain ⟨h1, h6⟩ := and2 h1
      obtain ⟨h1, h5⟩ := and2 h1
      obtain ⟨h1, h4⟩ := and2 h1
      obtain ⟨h1, h3⟩ := and2 h1
      obtain ⟨h1, h2⟩ := and2 h1
      have so := snd_E hY o c v (need_l nd) h6
      have sa := snd_Es hY es c v (need_r nd) h7
      have e2 := of_decide_eq_true h2
      have hm : mutB b = true := h1
      subst e2
      exact SE.of c.K rfl (bm_E c so sa h3 h4 h5 hm) (fun _ => rfl) rfl rfl rfl
  | .lc vs tg ik es t e, X, Z, sc, x, c, v, nd, h => by
    match x, h with
    | .ListComp e' [⟨tg', it, ifs, 0⟩] sc' p, h =>
      have L := lc_parts (c := c) (v := v) (ρ := ρ) (nd := nd) (h := h) (fun c v nd h => snd_Es hY es c v nd h) (fun c v nd h => snd_E hY t c v nd h) (fun c v nd h => snd_E hY e c v nd h)
      exact SE.of c.K rfl L (fun _ => rfl) rfl rfl rfl
theorem snd_Es (hY : ∀ i, C.fn i = Y.fn i) : ∀ (a : List E) {X : Cx} {Z : XK} {sc : Scope} {x : List Expr}, Ctx C X N sc → Ev CX X k Z → (∀ n ∈ ndEs a, Need.okX CX X C Y k n) → cEs Y N sc a x = true → SEs X C ρ Z a x
  | [], X, Z, sc, x, c, v, nd, h => by
    match x, h with
    | [], h => exact ⟨.nil, rfl, rfl, rfl⟩
  | a :: as, X, Z, sc, x, c, v, nd, h => by
    match x, h with
    | x :: xs, h =>
      obtain ⟨h1, h2⟩ := and2 (show (cE Y N sc a x && cEs Y N sc as xs) = true from h)
      have s1 := snd_E hY a c v (need_l nd) h1
      have s2 := snd_Es hY as c v (need_r nd) h2
      exact ⟨.cons s1.e s1.t s2.e, by rw [List.all_cons, s1.st, s2.st]; rfl, by rw [List.all_cons, s1.se, s2.se]; rfl, congrArg Nat.succ s2.l⟩
end
end
end G

set_option maxRecDepth 100000
set_option maxHeartbeats 4000000
/-! G17: the look at a statement is sound -/
namespace G
open PySem PySem.Spec PyProof.Rows L2

theorem sw_none {e : Expr} {t : Option Expr} {l : Nat} {env : PySem.Env} (h : isLc e = false) : swapsWith e t l env = pure false := by
  cases e <;> first
    | rfl
    | exact nomatch (show true = false from h)
theorem sw_stores {ts vs : List Expr} {r : Option (List Str)} {env : PySem.Env} {a c : Nat} {b d : Pos} (hk : env.scope.kind = .function) (h : swN env.scope ts vs = some r) : swappedStores [.Tuple ts a b] (.Tuple vs c d) env = pure r := by
  have hb : env.blockKind = .function := by unfold Env.blockKind; rw [hk]; rfl
  have e : swappedStores [.Tuple ts a b] (.Tuple vs c d) env = if (!(ts.length == 2 || ts.length == 3) || vs.length != ts.length || env.blockKind != .function) = true then pure none else
    if vs.any starB = true then pure none else
    if ((nmS env.scope ts).length != ts.length || (nmS env.scope ts).eraseDups.length != (nmS env.scope ts).length) = true then pure none else
    if vs.all (foldedForSure 8) = true then pure none else
    if vs.all (constantsAlone 8) = true then (unsupported "assign.tuple-of-constant-expressions:order-of-the-stores" >>= fun (_ : Unit) => pure (some (nmS env.scope ts))) else pure (some (nmS env.scope ts)) := rfl
  rw [e, hb]
  unfold swN at h
  simp only [bne_self_eq_false, Bool.or_false]
  split at h
  · rename_i z; cases h; rw [if_pos z]
  · rename_i z; rw [if_neg z]
    split at h
    · rename_i z; cases h; rw [if_pos z]
    · rename_i z; rw [if_neg z]
      split at h
      · rename_i z; cases h; rw [if_pos z]
      · rename_i z; rw [if_neg z]
        split at h
        · rename_i z; cases h; rw [if_pos z]
        · rename_i z; rw [if_neg z]
          split at h
          · cases h
          · rename_i z; cases h; rw [if_neg z]
end G

set_option maxRecDepth 100000
set_option maxHeartbeats 4000000
/-! G18: the look at statements is sound -/
namespace G
open PySem PySem.Spec PyProof.Rows L2

mutual
def ndS : S → List Need
  | .set _ e => ndE e
  | .setO _ e => ndE e
  | .setT _ e => ndE e
  | .setF _ _ _ _ => [.no]
  | .setI _ x e => ndE x ++ ndE e
  | .aug _ _ e => ndE e
  | .ret e => ndE e
  | .retN => []
  | .ife t a b => ndE t ++ (ndSs a ++ ndSs b)
  | .for _ ik es b => ikN ik ++ (ndEs es ++ ndSs b)
  | .whl _ t b => ndE t ++ ndSs b
  | .exp e => ndE e
  | .brk => []
  | .cnt => []
  | .pas => []
  | .nev => []
  | .frz _ => []
def ndSs : List S → List Need
  | [] => []
  | s :: ss => ndS s ++ ndSs ss
end

section
variable {CX : CXT} {X : Cx} {C : Cn} {ρ : Nat → Addr} {Z : XK} {pos : Pos} {N : List Str} {sc sc' : Scope} {Y : Sy} {k : Nat}
theorem lc_inv {a : E} {e' : Expr} {gs : List Comprehension} {p : Pos} (h : cE Y N sc a (.ListComp e' gs sc' p) = true) : ∃ vs tg ik es t e tg' it ifs, a = .lc vs tg ik es t e ∧ gs = [⟨tg', it, ifs, 0⟩] := by
  cases a with
  | isi a ts =>
    cases ts with
    | nil => exact nomatch (show false = true from h)
    | cons t ts => cases ts <;> exact nomatch (show false = true from h)
  | lc vs tg ik es t e =>
    rcases gs with _ | ⟨⟨tg', it, ifs, as⟩, _ | ⟨g2, gs⟩⟩
    · exact nomatch (show false = true from h)
    · cases as with
      | ofNat n =>
        cases n with
        | zero => exact ⟨_, _, _, _, _, _, _, _, _, rfl, rfl⟩
        | succ n => exact nomatch (show false = true from h)
      | negSucc n => exact nomatch (show false = true from h)
    · cases as with
      | ofNat n => cases n <;> exact nomatch (show false = true from h)
      | negSucc n => exact nomatch (show false = true from h)
  | _ => exact nomatch (show false = true from h)
/-- name = e -/
theorem ps_asgG (hY : ∀ i, C.fn i = Y.fn i) (c : Ctx C X N sc) (v : Ev CX X k Z) {a : E} {i : Nat} {x : Str} {p : Pos} {e : Expr} (nd : ∀ n ∈ ndE a, Need.okX CX X C Y k n) (h1 : locB N sc i x = true) (h2 : (!isLc e || swapB sc x p e) = true) (h3 : cE Y N sc a e = true) :
    PS X (.Assign [.Name x p] e pos) (tAsg (tX C ρ Z (evp a).v) (gName i)) := by
  obtain ⟨k1, k2, k3⟩ := locB_ok c h1
  cases hl : isLc e with
  | false => exact ps_set c.nod k1 k2 (snd_E hY a c v nd h3).e (sw_none hl) k3
  | true =>
    rw [hl] at h2
    have h2 : swapB sc x p e = true := h2
    cases e <;> first
      | exact nomatch (show false = true from h2)
      | skip
    rename_i e' gs sc' pc _
    obtain ⟨vs, tg, ik, es, t, el, tg', it, ifs, rfl, rfl⟩ := lc_inv h3
    have L := lc_all (p := pc) (ρ := ρ) c v nd h3 (fun c v nd h => snd_Es hY es c v nd h) (fun c v nd h => snd_E hY t c v nd h) (fun c v nd h => snd_E hY el c v nd h)
    obtain ⟨own, e1, b⟩ := L.ok
    obtain ⟨h2, q3⟩ := and2 (show (decide (sc.names.lookup x = some .local) && p.line == pc.line && !(sc'.names.any fun (n, k) => n == x && (k == .local || k == .cell))) = true from h2)
    obtain ⟨q1, q2⟩ := and2 h2
    have z := ps_setLc (spos := pos) c.calm c.nod k1 (c.lcl x (of_decide_eq_true q1)) (sw_true c.kind (c.lcl x (of_decide_eq_true q1)) q2 (by simpa using q3)) L.itr b L.tg L.t L.e L.fo
    rw [e1] at z
    exact PS.of z fun Dn σ H h => red_lc L.hv σ H _ h
theorem red_setT {tg : Tg} {f : Mem → R Val} : ∀ Dn σ H, tS C ρ Z (setTF tg f) Dn σ H → tAsg (tX C ρ Z f) (gT C ρ tg) Dn σ H := fun Dn σ H ⟨G, m, s, h⟩ => ⟨G, m, s, ResS.step Fr.refl h fun a m1 G1 H1 x ea f1 f1b s1 o1 h1 => by
  cases a with
  | own j => exact False.elim h1
  | new o => exact False.elim h1
  | dat d =>
    obtain ⟨m2, e2, h1⟩ := optS h1
    exact ⟨G1, m1, d, m2, s1, o1, e2, fun σ' s' ow _ => h1 G1 H1 σ' (f1b.less ow) s'⟩⟩
theorem par_step {is : List Nat} {es : List P} {Dn : Ends} {σ : L2.St} {H G : Hp} {m : Mem} {Q : List V → Hp → Prop} (h : ResS C ρ Z G H (Own σ m) (setTF (.tup is) (tupF es) m) Dn) (k : ∀ xs H1, xs.length = is.length → Dn.nx (setS σ is xs) H1 → Q xs H1) :
    Res C ρ Z G H (Own σ m) σ (okL C σ) (evsF es m) Q := by
  have h : ResS C ρ Z G H (Own σ m) ((evsF es m).bind fun vs m => opt (dats vs) fun ds => if ds.length ≤ sizeLine then opt (setAll m is ds) fun m => .ok .nx m else .st) Dn := by
    revert h
    unfold setTF tupF
    cases evsF es m with
    | st => exact fun h => h
    | ex c x m1 => exact fun h => h
    | ok vs m1 =>
      show ResS C ρ Z G H (Own σ m) (R.bind (opt (dats vs) _) _) Dn → ResS C ρ Z G H (Own σ m) (opt (dats vs) _) Dn
      cases dats vs with
      | none => exact fun h => h
      | some ds =>
        show ResS C ρ Z G H (Own σ m) (R.bind (if ds.length ≤ sizeLine then _ else _) _) Dn → ResS C ρ Z G H (Own σ m) (if ds.length ≤ sizeLine then _ else _) Dn
        by_cases hz : ds.length ≤ sizeLine
        · rw [if_pos hz, if_pos hz]; exact fun h => h
        · rw [if_neg hz, if_neg hz]; exact fun h => h
  exact ResS.step Fr.refl h fun as m1 G1 H1 xs ea f1 f1b s1 o1 h1 => by
    obtain ⟨ds, ed, h1⟩ := optS h1
    obtain ⟨_, h1⟩ := iteS h1
    obtain ⟨m2, e2, h1⟩ := optS h1
    obtain ⟨l, a, b⟩ := setAll_ok e2 (o1.dats ed) s1
    exact k xs H1 l (h1 G1 H1 _ (f1b.less b) a)
theorem red_par {i j : Nat} {es : List P} : ∀ Dn σ H, tS C ρ Z (setTF (.tup [i, j]) (tupF es)) Dn σ H → tPar i j (tXA C ρ Z (evsF es)) Dn σ H := fun Dn σ H ⟨G, m, s, h⟩ => ⟨G, m, s, par_step h fun xs H1 l q => by
  match xs, l, q with
  | [v, w], l, q => exact ⟨v, w, rfl, q⟩⟩
theorem red_par3 {i j l : Nat} {es : List P} : ∀ Dn σ H, tS C ρ Z (setTF (.tup [i, j, l]) (tupF es)) Dn σ H → tPar3 i j l (tXA C ρ Z (evsF es)) Dn σ H := fun Dn σ H ⟨G, m, s, h⟩ => ⟨G, m, s, par_step h fun xs H1 l q => by
  match xs, l, q with
  | [u, v, w], l, q => exact ⟨u, v, w, rfl, q⟩⟩
theorem lclB_ok (c : Ctx C X N sc) {x : Str} {p : Pos} (h : lclB sc (.Name x p) = true) : X.env.scope.names.lookup x = some .local := c.lcl x (of_decide_eq_true h)
theorem sw_sole {t e : Expr} {l : Nat} {env : PySem.Env} (h : isLc e = false) : swapsWithSole [t] e l env = pure false := by
  show swapsWith e (some t) l env = pure false
  exact sw_none h
theorem tgs_cons {i : Nat} {is : List Nat} {e : Expr} {es : List Expr} (h : tgB.tgsB N sc (i :: is) (e :: es) = true) : ∃ x p, e = .Name x p ∧ locB N sc i x = true ∧ tgB.tgsB N sc is es = true := by
  cases e <;> first
    | exact nomatch (show false = true from h)
    | exact ⟨_, _, rfl, and2 h⟩
theorem tgs_len : ∀ {is : List Nat} {es : List Expr}, tgB.tgsB N sc is es = true → is.length = es.length
  | [], [], _ => rfl
  | i :: is, e :: es, h => by
    obtain ⟨x, p, _, _, h⟩ := tgs_cons h
    exact congrArg Nat.succ (tgs_len h)
theorem swN_len {ts vs : List Expr} {ns : List Str} (h : swN sc ts vs = some (some ns)) : vs.length = ts.length ∧ (ts.length = 2 ∨ ts.length = 3) := by
  unfold swN at h
  split at h
  · cases h
  · rename_i z
    simp only [Bool.or_eq_true, Bool.not_eq_true', not_or, Bool.not_eq_false, bne_iff_ne, ne_eq, Decidable.not_not, beq_iff_eq] at z
    exact ⟨z.2, z.1⟩
theorem len2 {α : Type} : ∀ {l : List α}, l.length = 2 → ∃ a b, l = [a, b]
  | [a, b], _ => ⟨a, b, rfl⟩
theorem len3 {α : Type} : ∀ {l : List α}, l.length = 3 → ∃ a b c, l = [a, b, c]
  | [a, b, c], _ => ⟨a, b, c, rfl⟩
def noTupE : Expr → Bool
  | .Tuple .. => false
  | _ => true
theorem notTup_stores {tg v : Expr} {env : PySem.Env} (h : noTupE v = true) : swappedStores [tg] v env = pure none := by
  cases v <;> first
    | exact nomatch (show false = true from h)
    | (cases tg <;> rfl)
theorem any_some {α : Type} {p : α → Bool} {o : Option α} (h : o.any p = true) : ∃ a, o = some a ∧ p a = true := by
  cases o with
  | none => cases h
  | some a => exact ⟨a, rfl, h⟩
theorem deT_eq {e : Expr} {r : List Expr × Nat × Pos} (h : deT e = some r) : e = .Tuple r.1 r.2.1 r.2.2 := by
  cases e <;> first
    | exact nomatch (show none = some r from h)
    | (cases h; rfl)
theorem isTupE_eq {a : E} (h : isTupE a = true) : ∃ es, a = .tup es := by
  cases a <;> first
    | exact nomatch (show false = true from h)
    | exact ⟨_, rfl⟩
/-- a, b = .. -/
theorem ps_tupG (hY : ∀ i, C.fn i = Y.fn i) (c : Ctx C X N sc) (hsc : X.env.scope = sc) (v : Ev CX X k Z) {a : E} {is : List Nat} {ts : List Expr} {n : Nat} {p pos : Pos} {e : Expr} (nd : ∀ n ∈ ndE a, Need.okX CX X C Y k n) (h3 : tgB N sc (.tup is) (.Tuple ts n p) = true)
    (h : (match deT e with
    | some (vs, _, _) => (swN sc ts vs).any fun r => (match r with
      | none => cE Y N sc a e
      | some ns => decide (ns = nmsOf ts) && nodupB is && ts.all (lclB sc) && isTupE a && cE Y N sc a e)
    | none => !isLc e && cE Y N sc a e) = true) :
    PS X (.Assign [.Tuple ts n p] e pos) (tS C ρ Z (setTF (.tup is) (evp a).v)) := by
  cases ht : deT e with
  | none =>
    rw [ht] at h
    obtain ⟨h2, h4⟩ := and2 h
    have h5 : noTupE e = true := by
      cases e <;> first
        | rfl
        | exact nomatch (show some _ = none from ht)
    exact PS.of (ps_asg (snd_E hY a c v nd h4).e (pg_G c h3) (sw_sole (by simpa using h2)) (notTup_stores h5)) red_setT
  | some q =>
    obtain ⟨vs, k', p'⟩ := q
    rw [ht] at h
    obtain ⟨r, e1, h⟩ := any_some h
    have e0 := deT_eq ht
    dsimp only at e0
    subst e0
    cases r with
    | none => exact PS.of (ps_asg (snd_E hY a c v nd h).e (pg_G c h3) rfl (sw_stores c.kind (by rw [hsc]; exact e1))) red_setT
    | some ns =>
      obtain ⟨h, h6⟩ := and2 h
      obtain ⟨h, h5⟩ := and2 h
      obtain ⟨h, h4⟩ := and2 h
      obtain ⟨h1, h2⟩ := and2 h
      have e2 := of_decide_eq_true h1
      have sws := sw_stores (a := n) (b := p) (c := k') (d := p') c.kind (by rw [hsc]; exact e1)
      obtain ⟨es, ee⟩ := isTupE_eq h5
      subst ee
      have ss := snd_Es (ρ := ρ) hY es c v nd (show cEs Y N sc es vs = true from h6)
      have pa := pa_G ss.e.pel ss.st
      have h3' : tgB.tgsB N sc is ts = true := h3
      have l1 := tgs_len h3'
      obtain ⟨l2, l3⟩ := swN_len e1
      rcases l3 with l3 | l3
      · obtain ⟨t1, t2, rfl⟩ := len2 l3
        obtain ⟨u, w, rfl⟩ := len2 (l2.trans l3)
        obtain ⟨i, j, rfl⟩ := len2 (l1.trans l3)
        obtain ⟨x, px, rfl, g1, h3'⟩ := tgs_cons h3'
        obtain ⟨y, py, rfl, g2, h3'⟩ := tgs_cons h3'
        rw [List.all_cons, List.all_cons] at h4
        obtain ⟨l1, l2⟩ := and2 h4
        obtain ⟨l2, _⟩ := and2 l2
        subst e2
        have ne : i ≠ j := fun e => (nodup_cons h2).1 (by rw [e]; exact List.mem_cons_self)
        exact PS.of (ps_par c.calm c.nod (locB_ok c g1).1 (locB_ok c g2).1 ne (lclB_ok c l1) (lclB_ok c l2) pa sws rfl) red_par
      · obtain ⟨t1, t2, t3, rfl⟩ := len3 l3
        obtain ⟨u, w, q, rfl⟩ := len3 (l2.trans l3)
        obtain ⟨i, j, l, rfl⟩ := len3 (l1.trans l3)
        obtain ⟨x, px, rfl, g1, h3'⟩ := tgs_cons h3'
        obtain ⟨y, py, rfl, g2, h3'⟩ := tgs_cons h3'
        obtain ⟨z, pz, rfl, g3, h3'⟩ := tgs_cons h3'
        rw [List.all_cons, List.all_cons, List.all_cons] at h4
        obtain ⟨l1, l2⟩ := and2 h4
        obtain ⟨l2, l3⟩ := and2 l2
        obtain ⟨l3, _⟩ := and2 l3
        subst e2
        obtain ⟨n1, n2⟩ := nodup_cons h2
        have ij : i ≠ j := fun e => n1 (by rw [e]; exact List.mem_cons_self)
        have il : i ≠ l := fun e => n1 (by rw [e]; exact List.mem_cons_of_mem _ List.mem_cons_self)
        have jl : j ≠ l := fun e => (nodup_cons n2).1 (by rw [e]; exact List.mem_cons_self)
        exact PS.of (ps_par3 c.calm c.nod (locB_ok c g1).1 (locB_ok c g2).1 (locB_ok c g3).1 ij il jl (lclB_ok c l1) (lclB_ok c l2) (lclB_ok c l3) pa sws rfl) red_par3
/-- xs[i] = e -/
theorem red_setI {i : Nat} {fx f : Mem → R Val} : ∀ Dn σ H, tS C ρ Z (setIF i fx f) Dn σ H → tAsg (tX C ρ Z f) (gSub (tVar i) (tX C ρ Z fx) rSetL) Dn σ H := fun Dn σ H ⟨G, m, s, h⟩ => ⟨G, m, s, ResS.step Fr.refl h fun a m1 G1 H1 x ea f1 f1b s1 o1 h1 => by
  obtain ⟨G1', e1, f1', s1', v1⟩ := settle f1b s1 o1 fun p q => q
  obtain ⟨ds0, ed, h1⟩ := optS h1
  split at h1
  · rename_i t o q
    obtain ⟨l, k1, _⟩ := s1'.own i t o q
    refine ⟨_, k1, G1', m1, s1', ResS.step f1' h1 fun b m2 G2 H2 y eb f2 f2b s2 o2 h2 => ?_⟩
    have v2 := v1.up f2.g
    split at h2
    · rename_i _ _ _ kk t2 ds d q2
      obtain ⟨j, ej, h2⟩ := optS h2
      cases (show Rp C G2 y (.int kk) from o2)
      obtain ⟨l', k1', k2', ⟨xs, k3, k4⟩, _⟩ := s2.own i t2 _ q2
      rw [k1] at k1'
      cases k1'
      have rv : RpL C G2 [x] [d] := (VSL.cons v2 .nil).dats ed
      cases rv with
      | cons rv _ => exact ⟨l, xs, kk, j, rfl, rfl, k3, by rw [k4.len]; exact ej, h2 G2 _ σ (f2b.put q2 k1) (s2.put q2 k1 ⟨_, upd_same, k4.set rv j⟩)⟩
    · exact False.elim h2
  · exact False.elim h1⟩
theorem red_aug {i : Nat} {o : Bo} {f : Mem → R Val} {g : Int → Int → Int} (hg : ∀ a b d, augB o a b = some d → ∃ x y, a = .int x ∧ b = .int y ∧ d = .int (g x y)) : ∀ Dn σ H, tS C ρ Z (augF i o f) Dn σ H → tAug i (tX C ρ Z f) (ipI g) Dn σ H := fun Dn σ H ⟨G, m, s, h⟩ => by
  unfold augF at h
  split at h
  · rename_i a q
    obtain ⟨w, k1, k2⟩ := s.dat i a q
    refine ⟨w, k1, G, m, s, ResS.step Fr.refl h fun b m1 G1 H1 x ea f1 f1b s1 o1 h1 => ?_⟩
    obtain ⟨G1', e1, f1', s1', v1⟩ := settle f1b s1 o1 fun p q => q
    obtain ⟨d2, ed, h1⟩ := optS h1
    obtain ⟨d, e2, h1⟩ := optS h1
    obtain ⟨y, z, rfl, rfl, rfl⟩ := hg _ _ _ e2
    cases k2
    have hi : i < m1.length := by
      rw [← s1.len, s.len]
      exact (List.getElem?_eq_some_iff.mp q).1
    exact ⟨y, z, rfl, (v1.read s1' ed).int, h1 G1' H1 _ (f1'.less fun b w => own_set hi w) (s1'.set hi (.int _))⟩
  · exact False.elim h
end
end G

set_option maxRecDepth 100000
set_option maxHeartbeats 4000000
/-! G19: statements: the induction; defs -/
namespace G
open PySem PySem.Spec PyProof.Rows L2

section
variable {CX : CXT} {X : Cx} {C : Cn} {ρ : Nat → Addr} {Z : XK} {N : List Str} {sc : Scope} {Y : Sy} {k : Nat}
theorem augB_add : ∀ a b d, augB .add a b = some d → ∃ x y, a = .int x ∧ b = .int y ∧ d = .int (x + y) := fun a b d h => by
  match a, b, h with
  | .int x, .int y, h => cases h; exact ⟨x, y, rfl, rfl, rfl⟩
theorem augB_sub : ∀ a b d, augB .sub a b = some d → ∃ x y, a = .int x ∧ b = .int y ∧ d = .int (x - y) := fun a b d h => by
  match a, b, h with
  | .int x, .int y, h => cases h; exact ⟨x, y, rfl, rfl, rfl⟩
section
variable {x : Stmt}
theorem deA_eq {r : Expr × Expr × Pos} (h : deA x = some r) : x = .Assign [r.1] r.2.1 r.2.2 := by
  unfold deA at h
  split at h
  · cases h; rfl
  · cases h
theorem deG_eq {r : Expr × Operator × Expr × Pos} (h : deG x = some r) : x = .AugAssign r.1 r.2.1 r.2.2.1 r.2.2.2 := by
  unfold deG at h
  split at h
  · cases h; rfl
  · cases h
theorem deR_eq {r : Option Expr × Pos} (h : deR x = some r) : x = .Return r.1 r.2 := by
  unfold deR at h
  split at h
  · cases h; rfl
  · cases h
theorem deI_eq {r : Expr × List Stmt × List Stmt × Pos} (h : deI x = some r) : x = .If r.1 r.2.1 r.2.2.1 r.2.2.2 := by
  unfold deI at h
  split at h
  · cases h; rfl
  · cases h
theorem deF_eq {r : Expr × Expr × List Stmt × Pos} (h : deF x = some r) : x = .For r.1 r.2.1 r.2.2.1 [] r.2.2.2 := by
  unfold deF at h
  split at h
  · cases h; rfl
  · cases h
theorem deW_eq {r : Expr × List Stmt × Pos} (h : deW x = some r) : x = .While r.1 r.2.1 [] r.2.2 := by
  unfold deW at h
  split at h
  · cases h; rfl
  · cases h
theorem deX_eq {r : Expr × Pos} (h : deX x = some r) : x = .Expr r.1 r.2 := by
  unfold deX at h
  split at h
  · cases h; rfl
  · cases h
theorem deK_eq {r : Nat × Pos} (h : deK x = some r) : (r.1 = 0 ∧ x = .Break r.2) ∨ (r.1 = 1 ∧ x = .Continue r.2) ∨ (r.1 = 2 ∧ x = .Pass r.2) := by
  unfold deK at h
  split at h
  · cases h; exact .inl ⟨rfl, rfl⟩
  · cases h; exact .inr (.inl ⟨rfl, rfl⟩)
  · cases h; exact .inr (.inr ⟨rfl, rfl⟩)
  · cases h
theorem deN_eq {e : Expr} {r : Str × Pos} (h : deN e = some r) : e = .Name r.1 r.2 := by
  unfold deN at h
  split at h
  · cases h; rfl
  · cases h
theorem deS_eq {e : Expr} {r : Expr × Expr × Pos} (h : deS e = some r) : e = .Subscript r.1 r.2.1 r.2.2 := by
  unfold deS at h
  split at h
  · cases h; rfl
  · cases h
end
theorem s_set (hY : ∀ i, C.fn i = Y.fn i) (c : Ctx C X N sc) (v : Ev CX X k Z) {i : Nat} {e : E} {x : Stmt} (nd : ∀ n ∈ ndE e, Need.okX CX X C Y k n) (h : ((deA x).any fun (t, v, _) => (deN t).any fun (y, p) => locB N sc i y && (!isLc v || swapB sc y p v) && cE Y N sc e v) = true) :
    ∃ y p e' pos, x = .Assign [.Name y p] e' pos ∧ PS X (.Assign [.Name y p] e' pos) (tAsg (tX C ρ Z (evp e).v) (gName i)) := by
  obtain ⟨r, e1, h⟩ := any_some h
  obtain ⟨q, e2, h⟩ := any_some h
  obtain ⟨h, h3⟩ := and2 h
  obtain ⟨h1, h2⟩ := and2 h
  have e1 := deA_eq e1
  rw [deN_eq e2] at e1
  exact ⟨_, _, _, _, e1, ps_asgG hY c v nd h1 h2 h3⟩
mutual
theorem snd_S (hY : ∀ i, C.fn i = Y.fn i) (c : Ctx C X N sc) (hsc : X.env.scope = sc) (v : Ev CX X k Z) : ∀ (a : S) {x : Stmt}, (∀ n ∈ ndS a, Need.okX CX X C Y k n) → cS Y N sc a x = true → PS X x (tS C ρ Z (exec a))
  | .set i e, x, nd, h => by
    obtain ⟨y, p, e', pos, rfl, z⟩ := s_set (ρ := ρ) hY c v nd h
    exact PS.of z red_set
  | .setO i e, x, nd, h => by
    obtain ⟨y, p, e', pos, rfl, z⟩ := s_set (ρ := ρ) hY c v nd h
    exact PS.of z red_setO
  | .setT tg e, x, nd, h => by
    obtain ⟨r, e1, h⟩ := any_some h
    obtain ⟨q, e2, h⟩ := any_some h
    obtain ⟨h1, h2⟩ := and2 h
    have e1 := deA_eq e1
    have e2 := deT_eq e2
    rw [e1, e2]
    rw [e2] at h1
    cases tg with
    | one i => exact nomatch (show false = true from h1)
    | tup is => exact ps_tupG hY c hsc v nd h1 h2
  | .setF _ _ _ _, x, nd, h => False.elim (need_h nd).1
  | .setI i fx e, x, nd, h => by
    obtain ⟨r, e1, h⟩ := any_some h
    obtain ⟨q, e2, h⟩ := any_some h
    obtain ⟨q2, e3, h⟩ := any_some h
    obtain ⟨h, h4⟩ := and2 h
    obtain ⟨h, h3⟩ := and2 h
    obtain ⟨h1, h2⟩ := and2 h
    have e1 := deA_eq e1
    rw [deS_eq e2, deN_eq e3] at e1
    rw [e1]
    obtain ⟨v1, v2, v3, v4⟩ := visB_ok c h1
    have sx := snd_E (ρ := ρ) hY fx c v (need_l nd) h3
    have se := snd_E (ρ := ρ) hY e c v (need_r nd) h4
    have sl := sx.sl
    refine PS.of (ps_asg se.e (pg_sub (pe_var v1 v2 v3 v4) sx.e set_list ?_) (sw_sole (by simpa using h2)) rfl) red_setI
    intro w
    revert sl
    generalize q.2.1 = j
    intro sl
    cases j <;> first
      | rfl
      | exact nomatch (show false = true from sl)
  | .aug i o e, x, nd, h => by
    obtain ⟨r, e1, h⟩ := any_some h
    obtain ⟨q, e2, h⟩ := any_some h
    obtain ⟨h, h4⟩ := and2 h
    obtain ⟨h, h3⟩ := and2 h
    obtain ⟨h1, h2⟩ := and2 h
    have e1 := deG_eq e1
    rw [deN_eq e2] at e1
    rw [e1]
    obtain ⟨k1, k2, k3⟩ := locB_ok c h2
    have se := snd_E (ρ := ρ) hY e c v nd h4
    revert h3
    generalize r.2.1 = op
    intro h3
    cases o <;> first
      | exact nomatch (show false = true from h1)
      | skip
    · cases op <;> first
        | exact nomatch (show false = true from h3)
        | exact PS.of (ps_aug c.nod k1 k2 se.e ip_add k3) (red_aug augB_add)
    · cases op <;> first
        | exact nomatch (show false = true from h3)
        | exact PS.of (ps_aug c.nod k1 k2 se.e ip_sub k3) (red_aug augB_sub)
  | .ret e, x, nd, h => by
    obtain ⟨r, e1, h⟩ := any_some h
    obtain ⟨e', e2, h⟩ := any_some h
    rw [deR_eq e1, e2]
    exact ps_retG (snd_E hY e c v nd h).e
  | .retN, x, nd, h => by
    obtain ⟨r, e1, h⟩ := any_some h
    rw [deR_eq e1, Option.isNone_iff_eq_none.mp h]
    exact ps_retNG
  | .ife t a b, x, nd, h => by
    obtain ⟨r, e1, h⟩ := any_some h
    obtain ⟨h, h3⟩ := and2 h
    obtain ⟨h1, h2⟩ := and2 h
    rw [deI_eq e1]
    exact ps_ifG (snd_E hY t c v (need_l nd) h1).t (snd_Ss hY c hsc v a (need_l (need_r nd)) h2) (snd_Ss hY c hsc v b (need_r (need_r nd)) h3)
  | .for tg ik es b, x, nd, h => by
    obtain ⟨r, e1, h⟩ := any_some h
    obtain ⟨is, e2, h⟩ := any_some h
    obtain ⟨h, h4⟩ := and2 h
    obtain ⟨h, h3⟩ := and2 h
    obtain ⟨h1, h2⟩ := and2 h
    rw [deF_eq e1]
    have ss := snd_Es (ρ := ρ) hY es c v (need_l (need_r nd)) h2
    obtain ⟨i1, i2⟩ := ik_G c e2 h1 h3 ss (need_l nd)
    exact ps_forG v.own c.calm i1 (pg_G c h3) (snd_Ss hY c hsc v b (need_r (need_r nd)) h4) (folded0 i2 _)
  | .whl n t b, x, nd, h => by
    obtain ⟨r, e1, h⟩ := any_some h
    obtain ⟨h1, h2⟩ := and2 h
    rw [deW_eq e1]
    exact ps_whlG v.own (snd_E hY t c v (need_l nd) h1).t (snd_Ss hY c hsc v b (need_r nd) h2)
  | .exp e, x, nd, h => by
    obtain ⟨r, e1, h⟩ := any_some h
    obtain ⟨h1, h2⟩ := and2 h
    rw [deX_eq e1]
    exact ps_expG (snd_E hY e c v nd h2).e (sw_none (by simpa using h1))
  | .brk, x, nd, h => by
    obtain ⟨r, e1, h⟩ := any_some h
    have h : r.1 = 0 := by simpa using h
    rcases deK_eq e1 with ⟨_, e⟩ | ⟨e, _⟩ | ⟨e, _⟩
    · rw [e]; exact ps_brkG
    · omega
    · omega
  | .cnt, x, nd, h => by
    obtain ⟨r, e1, h⟩ := any_some h
    have h : r.1 = 1 := by simpa using h
    rcases deK_eq e1 with ⟨e, _⟩ | ⟨_, e⟩ | ⟨e, _⟩
    · omega
    · rw [e]; exact ps_cntG
    · omega
  | .pas, x, nd, h => by
    obtain ⟨r, e1, h⟩ := any_some h
    have h : r.1 = 2 := by simpa using h
    rcases deK_eq e1 with ⟨e, _⟩ | ⟨e, _⟩ | ⟨_, e⟩
    · omega
    · omega
    · rw [e]; exact ps_passG
  | .nev, x, nd, h => ps_nevG
  | .frz _, x, nd, h => nomatch (show false = true from h)
theorem snd_Ss (hY : ∀ i, C.fn i = Y.fn i) (c : Ctx C X N sc) (hsc : X.env.scope = sc) (v : Ev CX X k Z) : ∀ (a : List S) {x : List Stmt}, (∀ n ∈ ndSs a, Need.okX CX X C Y k n) → cSs Y N sc a x = true → PSs X x (tS C ρ Z (execs a))
  | [], x, nd, h => by
    cases x with
    | nil => exact pss_nilG
    | cons _ _ => cases h
  | s :: ss, x, nd, h => by
    cases x with
    | nil =>
      cases s <;> first
        | exact nomatch (show false = true from h)
        | exact pss_frzG (snd_Ss hY c hsc v ss nd h)
    | cons x xs =>
      have key : (∀ i, s ≠ .frz i) → PSs X (x :: xs) (tS C ρ Z (execs (s :: ss))) := fun hn => by
        have h : (cS Y N sc s x && cSs Y N sc ss xs) = true := by
          cases s <;> first
            | exact h
            | exact absurd rfl (hn _)
        obtain ⟨h1, h2⟩ := and2 h
        exact pss_consG (snd_S hY c hsc v s (need_l nd) h1) (snd_Ss hY c hsc v ss (need_r nd) h2)
      cases s <;> first
        | exact pss_frzG (snd_Ss hY c hsc v ss nd h)
        | exact key fun i e => nomatch e
end
end
end G

set_option maxRecDepth 100000
set_option maxHeartbeats 4000000
/-! G20: a def keeps its promise -/
namespace G
open PySem PySem.Spec PyProof.Rows L2

theorem ios_get : ∀ {as : List Arg} {j : Nat} {m : Mem} {os : List O}, iosOf j as m = some os → (∀ (k : Nat) (d : D), (putA as os)[k]? = some (.d d) → as[k]? = some (.d d)) ∧ (∀ (k : Nat) (o' : O), (putA as os)[k]? = some (.io o') → ∃ o, as[k]? = some (.io o) ∧ m[j + k]? = some (.own (j + k + 1) o')) ∧ (putA as os).length = as.length
  | [], j, m, os, h => ⟨fun k d h => by simp [putA] at h, fun k o h => by simp [putA] at h, rfl⟩
  | .d d :: r, j, m, os, h => by
    obtain ⟨a, b, l⟩ := ios_get (as := r) (j := j + 1) (m := m) h
    refine ⟨fun k d' h => ?_, fun k o' h => ?_, congrArg Nat.succ l⟩
    · cases k with
      | zero => exact h
      | succ k => exact a k d' h
    · cases k with
      | zero => cases h
      | succ k =>
        obtain ⟨o, h1, h2⟩ := b k o' h
        refine ⟨o, h1, ?_⟩
        rw [show j + (k + 1) = j + 1 + k by omega]
        exact h2
  | .io o0 :: r, j, m, os, h => by
    have h : (match m[j]? with
      | some (.own t o) => if t = j + 1 then (iosOf (j + 1) r m).map (o :: ·) else none
      | _ => none) = some os := h
    split at h
    · rename_i t o q
      split at h
      · rename_i et
        obtain ⟨os', e1, e2⟩ := Option.map_eq_some_iff.mp h
        subst e2
        obtain ⟨a, b, l⟩ := ios_get (as := r) (j := j + 1) (m := m) e1
        refine ⟨fun k d' h => ?_, fun k o' h => ?_, congrArg Nat.succ l⟩
        · cases k with
          | zero => cases h
          | succ k => exact a k d' h
        · cases k with
          | zero =>
            cases h
            exact ⟨o0, rfl, by rw [← et]; exact q⟩
          | succ k =>
            obtain ⟨o2, h1, h2⟩ := b k o' h
            refine ⟨o2, h1, ?_⟩
            rw [show j + (k + 1) = j + 1 + k by omega]
            exact h2
      · cases h
    · cases h
section
variable {CX : CXT} {C : Cn} {Z : XK} {G H G' H' : Hp} {σ' : L2.St} {m' : Mem}
theorem adr_own {vs : List V} {as : List Arg} (s : SR C (adr vs) G H (vs.map some) (slots 0 as)) {k : Nat} {o : O} (h : as[k]? = some (.io o)) : vs[k]? = some (.ref (adr vs k)) := by
  obtain ⟨l, k1, _, _, k4⟩ := s.own k _ o (slots_io h)
  have := k4 k rfl
  rw [this]
  exact get_map k1
/-- from the callee's end to the caller's -/
theorem out_state {vs : List V} {as : List Arg} {os : List O} {W : Addr → Prop} (s : SR C (adr vs) G H (vs.map some) (slots 0 as)) (e : iosOf 0 as m' = some os) (f : Fr G H W G' H' (Own σ' m')) (s' : SR C (adr vs) G' H' σ' m') :
    SR C (adr vs) G' H' (vs.map some) (slots 0 (putA as os)) ∧ Fr G H W G' H' (Own (vs.map some) (slots 0 (putA as os))) ∧ ∀ b, Own (vs.map some) (slots 0 (putA as os)) b → Own σ' m' b := by
  obtain ⟨a, b, l⟩ := ios_get e
  have ow : ∀ (k : Nat) (o' : O), (putA as os)[k]? = some (.io o') → ∃ l : Addr, vs[k]? = some (.ref l) ∧ σ'[k]? = some (some (.ref l)) ∧ m'[k]? = some (.own (k + 1) o') ∧ G' l = none ∧ OwnAt C G' H' l o' := fun k o' h => by
    obtain ⟨o, h1, h2⟩ := b k o' h
    rw [Nat.zero_add] at h2
    obtain ⟨l, k1, k2, k3, k4⟩ := s'.own k _ o' h2
    have e2 := k4 k rfl
    subst e2
    exact ⟨_, adr_own s h1, k1, h2, k2, k3⟩
  have sub : ∀ b, Own (vs.map some) (slots 0 (putA as os)) b → Own σ' m' b := fun c ⟨k, t, o, h1, h2⟩ => by
    obtain ⟨q, _⟩ := slots_own h1
    obtain ⟨l, k1, k2, k3, _⟩ := ow k o q
    have e2 := get_map h2
    rw [k1] at e2
    cases e2
    exact ⟨k, _, _, k3, k2⟩
  refine ⟨⟨?_, s'.sub, fun k d h => ?_, fun k t o h => ?_, fun k k' t o t' o' l h h' e e' => ?_⟩, f.less sub, sub⟩
  · have := s.len
    rw [slots_len] at this ⊢
    rw [l]
    exact this
  · obtain ⟨v, h1, h2⟩ := s.dat k d (by rw [slots_get, a k d (slots_dat h)]; rfl)
    exact ⟨v, h1, h2.up f.g⟩
  · obtain ⟨q, rfl⟩ := slots_own h
    obtain ⟨l, k1, k2, k3, k4, k5⟩ := ow k o q
    refine ⟨l, map_get k1, k4, k5, fun j ej => ?_⟩
    have : j = k := by omega
    subst this
    exact adr_at k1
  · obtain ⟨q, rfl⟩ := slots_own h
    obtain ⟨q', rfl⟩ := slots_own h'
    obtain ⟨o1, z1, _⟩ := b k o q
    obtain ⟨o2, z2, _⟩ := b k' o' q'
    exact s.sep k k' _ _ _ _ l (slots_io z1) (slots_io z2) e e'
theorem rep_get {n i : Nat} {α : Type} {a x : α} (h : (List.replicate n a)[i]? = some x) : x = a := by
  obtain ⟨_, h⟩ := List.getElem?_eq_some_iff.mp h
  rw [List.getElem_replicate] at h
  exact h.symm
theorem start_sr {vs : List V} {as : List Arg} {n : Nat} {ρ : Nat → Addr} (s : SR C ρ G H (vs.map some) (slots 0 as)) : SR C ρ G H (vs.map some ++ List.replicate n none) (slots 0 as ++ List.replicate n .un) ∧ ∀ b, Own (vs.map some ++ List.replicate n none) (slots 0 as ++ List.replicate n .un) b ↔ Own (vs.map some) (slots 0 as) b := by
  have hl := s.len
  have gt : ∀ {i : Nat} {x : Sl}, (slots 0 as ++ List.replicate n Sl.un)[i]? = some x → x ≠ .un → (slots 0 as)[i]? = some x ∧ (vs.map some ++ List.replicate n none)[i]? = (vs.map some)[i]? := fun {i x} h hx => by
    by_cases hi : i < (slots 0 as).length
    · rw [List.getElem?_append_left hi] at h
      exact ⟨h, by rw [List.getElem?_append_left (by rw [hl]; exact hi)]⟩
    · rw [List.getElem?_append_right (by omega)] at h
      exact absurd (rep_get h) hx
  have bk : ∀ {i : Nat} {x : Sl}, (slots 0 as)[i]? = some x → (slots 0 as ++ List.replicate n Sl.un)[i]? = some x ∧ (vs.map some ++ List.replicate n none)[i]? = (vs.map some)[i]? := fun {i x} h => by
    have hi := (List.getElem?_eq_some_iff.mp h).1
    exact ⟨by rw [List.getElem?_append_left hi]; exact h, by rw [List.getElem?_append_left (by rw [hl]; exact hi)]⟩
  refine ⟨⟨by rw [List.length_append, List.length_append, hl, List.length_replicate, List.length_replicate], s.sub, fun i d h => ?_, fun i t o h => ?_, fun i j t o t' o' l h h' e e' => ?_⟩, fun b => ⟨fun ⟨i, t, o, h1, h2⟩ => ?_, fun ⟨i, t, o, h1, h2⟩ => ?_⟩⟩
  · obtain ⟨h1, h2⟩ := gt h (fun e => nomatch e)
    rw [h2]
    exact s.dat i d h1
  · obtain ⟨h1, h2⟩ := gt h (fun e => nomatch e)
    rw [h2]
    exact s.own i t o h1
  · obtain ⟨h1, h2⟩ := gt h (fun e => nomatch e)
    obtain ⟨g1, g2⟩ := gt h' (fun e => nomatch e)
    rw [h2] at e
    rw [g2] at e'
    exact s.sep i j t o t' o' l h1 g1 e e'
  · obtain ⟨g1, g2⟩ := gt h1 (fun e => nomatch e)
    exact ⟨i, t, o, g1, by rw [← g2]; exact h2⟩
  · obtain ⟨g1, g2⟩ := bk h1
    exact ⟨i, t, o, g1, by rw [g2]; exact h2⟩
/-- the body's wish from the promise -/
theorem body_res {vs : List V} {as : List Arg} {b : List S} {np nl : Nat} {Q : VK} (hn : vs.length = np) (s : SR C (adr vs) G H (vs.map some) (slots 0 as)) (h : FRes C Z G H vs as (run np nl b as) Q) :
    tS C (adr vs) Z (execs b) { nx := fun _ H' => Q .non H', rt := Q } (vs.map some ++ List.replicate (nl - np) none) H := by
  obtain ⟨s0, w0⟩ := start_sr (n := nl - np) s
  refine ⟨G, _, s0, ?_⟩
  have fr0 : ∀ {G' H' : Hp} {W' : Addr → Prop}, Fr G H (Own (vs.map some ++ List.replicate (nl - np) none) (slots 0 as ++ List.replicate (nl - np) .un)) G' H' W' → Fr G H (Own (vs.map some) (slots 0 as)) G' H' W' := fun f =>
    ⟨f.g, fun b o q n => f.h b o q fun w => n ((w0 b).mp w), fun b q => (f.new b q).imp id (Or.imp (w0 b).mp id), fun b q => (f.own b q).imp (w0 b).mp id, f.there⟩
  have hl : as.length = np := by
    have := s.len
    rw [slots_len, List.length_map] at this
    omega
  unfold run at h
  rw [if_pos hl] at h
  revert h
  cases execs b (slots 0 as ++ List.replicate (nl - np) .un) with
  | st => exact fun h => h
  | ex c x m1 =>
    dsimp only
    intro h G' H' σ' cls d f s' o
    cases e : iosOf 0 as m1 with
    | none => rw [e] at h; exact False.elim h
    | some os =>
      rw [e] at h
      obtain ⟨a1, a2, a3⟩ := out_state s e (fr0 f) s'
      exact h G' H' cls d a2 a1 o
  | ok fl m1 =>
    have fin : ∀ {v : Val} {G' H' : Hp} {σ' : L2.St} {u : V}, FRes C Z G H vs as (fin as v m1) Q → Fr G H (Own (vs.map some ++ List.replicate (nl - np) none) (slots 0 as ++ List.replicate (nl - np) .un)) G' H' (Own σ' m1) → SR C (adr vs) G' H' σ' m1 → VOk C G' H' σ' m1 H u v → Q u H' := fun {v G' H' σ' u} h f s' o => by
      unfold _root_.G.fin at h
      cases e : iosOf 0 as m1 with
      | none => rw [e] at h; exact False.elim h
      | some os =>
        rw [e] at h
        obtain ⟨a1, a2, a3⟩ := out_state s e (fr0 f) s'
        cases v with
        | dat d => exact h G' H' u a2 a1 o
        | new d =>
          obtain ⟨p, e1, e2, e3, e4, e5⟩ := o
          exact h G' H' u a2 a1 ⟨p, e1, e2, e3, fun w => e4 (a3 p w), e5⟩
        | own i =>
          dsimp only at h
          split at h
          · rename_i o0 q
            obtain ⟨t, o1, q1, q2⟩ := o
            rw [q] at q1
            cases q1
            obtain ⟨l, k1, k2, k3, _⟩ := s'.own i 0 o0 q
            rw [q2] at k1
            cases k1
            have nw : ¬ Own (vs.map some) (slots 0 (putA as os)) l := fun ⟨k, t, o2, h1, h2⟩ => by
              obtain ⟨z1, rfl⟩ := slots_own h1
              obtain ⟨o3, z2, z3⟩ := (ios_get e).2.1 k o2 z1
              rw [Nat.zero_add] at z3
              obtain ⟨l2, y1, _, _, y4⟩ := s'.own k _ o2 z3
              have e2 := y4 k rfl
              have e3 := adr_own s z2
              have e4 := get_map h2
              rw [e3] at e4
              cases e4
              rw [e2] at q2
              have := s'.sep i k _ _ _ _ _ q z3 q2 y1
              subst this
              rw [q] at z3
              cases z3
            refine h G' H' _ a2 a1 ⟨l, rfl, ?_, k2, nw, k3⟩
            rcases f.own l ⟨i, 0, o0, q, q2⟩ with w | w
            · exfalso
              obtain ⟨k, o2, z1, z2⟩ := own_at ((w0 l).mp w)
              -- an argument: it is still one
              have hk : k < as.length := (List.getElem?_eq_some_iff.mp z1).1
              obtain ⟨b1, b2, b3⟩ := ios_get e
              have hk2 : k < (putA as os).length := by rw [b3]; exact hk
              cases zz : (putA as os)[k]? with
              | none => rw [List.getElem?_eq_none_iff] at zz; omega
              | some y =>
                cases y with
                | d dd => rw [b1 k dd zz] at z1; cases z1
                | io oo => exact nw ⟨k, _, oo, slots_io zz, map_get z2⟩
            · exact w
          · exact False.elim h
    cases fl with
    | nx => exact fun h G' H' σ' f s' => fin h f s' (.non : VOk C G' H' σ' m1 H .non (.dat .non))
    | rt v => exact fun h G' H' σ' f s' u o => fin h f s' o
    | bk => exact fun h => False.elim h
    | ct => exact fun h => False.elim h
end
section
variable {CX : CXT} {P : Program} {w : World} {K : PySem.W.Frag} {mg : Str → Option Value} {base : Heap} {x qual : Str} {params : Arguments} {body : List Stmt} {scope : Scope} {dvs : List V} {kws : List (Str × V)} {f : Addr} {fd : FuncData} {C : Cn} {Y : Sy}
/-- a def whose text the look has tied to ir -/
theorem def_ok {N ps : List Str} {k : Nat} {ir : List S} (hK : K = C.K) (hY : ∀ i, C.fn i = Y.fn i) (hn : ∀ (outer : List Env) (H : Hp) (s : Shared) (e : Value) (s' : Shared), ¬ CX outer H s Z0 e s') (hx : ∀ (N : List Str) (qual : Str) (scope : Scope) (f : Addr) (cd : Value) (A : Around) (outer : List Env) (s : Shared) (H : Hp) (E : XK), Passes CX (cxOf CX P w K mg base N qual scope f cd A outer s H E) E)
    (F : FunD K x qual params body scope dvs kws f fd) (hs : C8.scC N ps scope = true) (hc : cSs Y N scope ir body = true) (nd : ∀ n ∈ ndSs ir, Need.ok CX P w K mg base C Y k n) : FnOk P w K mg base CX (k + 1) f fd ps (spOf C (run ps.length N.length ir)) := by
  have S := C8.fnScope_by hs
  have len : ∀ vs H Q E, spOf C (run ps.length N.length ir) vs H Q E → vs.length = ps.length := fun vs H Q E ⟨G, as, s, h⟩ => by
    have := s.len
    rw [slots_len, List.length_map] at this
    by_cases hl : as.length = ps.length
    · omega
    · unfold run at h
      rw [if_neg hl] at h
      exact False.elim h
  refine F.ok S len fun cdv A outer s H vs Q E hr hsp => ?_
  have hl := len vs H Q E hsp
  obtain ⟨G, as, s0, h⟩ := hsp
  have c : Ctx C (cxOf CX P w K mg base N qual scope f cdv A outer s H E) N scope := by
    refine ⟨hK, rfl, S.nd, rfl, S.kind, hr.units, fun x kk h hk => ?_, fun x kk h hk => ⟨?_, .inl rfl⟩, fun x h => h, fun x h => h, fun x kk h hk => ?_⟩
    · rcases hk with rfl | rfl | rfl
      · exact .inl h
      · exact .inr (.inl h)
      · exact .inr (.inr h)
    · rcases hk with rfl | rfl
      · exact .inl h
      · exact .inr h
    · rcases hk with rfl | rfl
      · exact .inl h
      · exact .inr h

  have v : Ev CX (cxOf CX P w K mg base N qual scope f cdv A outer s H E) k E := ⟨hx N qual scope f cdv A outer s H E, passes_of rfl, hr, hn⟩
  refine ⟨tS C (adr vs) E (execs ir), snd_Ss hY c rfl v ir nd hc, ?_⟩
  unfold L2.start
  rw [hl]
  exact body_res hl s0 h
end
end G

set_option maxRecDepth 100000
set_option maxHeartbeats 4000000
/-! G21: the end -/
namespace G
open PySem PySem.Spec PyProof.Rows L2

/-- names by numbers, all different -/
def nameOf (l : List Str) (i : Nat) : Str := match l[i]? with
  | some x => x
  | none => ⟨Array.replicate (i + 1) 0⟩
def okNames (l : List Str) : Bool := decide l.Nodup && l.all fun x => x.cps.toList.all fun c => !(c == 0) && !x.cps.toList.isEmpty
theorem nameOf_inj {l : List Str} (h : (decide l.Nodup && l.all fun x => x.cps.toList.any fun c => !(c == 0)) = true) : ∀ a b, nameOf l a = nameOf l b → a = b := by
  obtain ⟨h1, h2⟩ := Bool.and_eq_true_iff.mp h
  have nd := of_decide_eq_true h1
  have ne : ∀ {i : Nat} {x : Str} {n : Nat}, l[i]? = some x → x ≠ ⟨Array.replicate n 0⟩ := fun {i x n} e z => by
    have := List.all_eq_true.mp h2 x (List.mem_of_getElem? e)
    obtain ⟨c, hc, hn⟩ := List.any_eq_true.mp this
    rw [z] at hc
    rw [Array.toList_replicate] at hc
    rw [List.eq_of_mem_replicate hc] at hn
    exact absurd hn (by decide)
  intro a b e
  unfold nameOf at e
  cases ea : l[a]? with
  | none =>
    cases eb : l[b]? with
    | none =>
      rw [ea, eb] at e
      have := congrArg (fun x : Str => x.cps.size) e
      simpa using this
    | some y =>
      rw [ea, eb] at e
      exact absurd e.symm (ne eb)
  | some x =>
    cases eb : l[b]? with
    | none =>
      rw [ea, eb] at e
      exact absurd e (ne ea)
    | some y =>
      rw [ea, eb] at e
      dsimp only at e
      subst e
      exact (List.getElem?_inj (List.getElem?_eq_some_iff.mp ea).1 nd).mp (ea.trans eb.symm)
/-- the addresses of the globals, the fields' names -/
def cnOf (K : PySem.W.Frag) (gs fs : List Str) (h : (decide fs.Nodup && fs.all fun x => x.cps.toList.any fun c => !(c == 0)) = true) : Cn := ⟨K, fun i => He.ga K (nameOf gs i), nameOf fs, nameOf_inj h⟩
def syOf (gs fs : List Str) : Sy := ⟨nameOf gs, nameOf fs⟩
theorem walk_G {l : PySem.W.OpenLaw} {n k : Nat} {q : Program} {loose : List Str} {XP : (Str → Option Value) → Heap → Prop} {YP : World → Heap → Prop} {d : DefRec} {CX : CXT} {x : Str}
    (hn : l.most = some n) (hn2 : n ≤ sizeLine) (hdf : d.params.defaults = []) (hr : Room k callerA)
    (F : ∀ (w : World) (mg : Str → Option Value) (fa : Addr) (h : Heap), YP w h → h.Ns mainGlobals mg → mg d.name = some (.ref fa) →
      ∃ (C : Cn) (fd : FuncData) (φ : Fn), C.K.In h ∧ (∀ (s : Shared) (u : Value), BindsTo s fd ⟨[u], []⟩ [(x, u)]) ∧
        (∀ ns : List Int, ns.length ≤ n → (∀ z ∈ ns, Builtin.Int.intBits z ≤ 1048576) → φ [.d (.lst (ns.map D.int))] = .ok (.dat (.bl true)) []) ∧
        ∀ base : Heap, C.K.In base → base.Ns mainGlobals mg → FnOk l.prog w C.K mg base CX k fa fd [x] (spOf C φ))
    (hCX : ∀ (H : Hp) (s : Shared) (e : Value) (s' : Shared), CX [] H s (fun _ _ _ => False) e s' → False) :
    PySem.W.WalkO q loose XP YP l.row.toRowW d [] (fun f vs => PySem.call f vs) := by
  refine Att.attach_callB hn hdf fun w s₀ s₁ mg mb fa o pm cd doc a vs ns G Y ho hd hcd hmg hobj hints hlen hbits hg => ?_
  obtain ⟨C, fd, φ, KX, hb, hφ, hF⟩ := F w mg fa _ Y G.T.g hmg
  refine law_call KX G.T.g G.T.b G.T.builtins G.T.nolimit hg hobj hints (Nat.le_trans hlen hn2) hr hF hb (fun H hO hS => ?_) fun H e s' => hCX H s₁ e s'
  have hq : SqX C.K H a (ns.map V.int) := by
    rcases hS with h | ⟨ob, its, m, h1, h2, h3, h4, h5, h6⟩
    · exact .inl h
    · have e := KX a ob h1
      rw [hobj] at e
      cases e
      cases h4
      exact .inr ⟨vs, 0, h1, by simpa using h5, by simpa using h6⟩
  refine ⟨H, [.d (.lst (ns.map D.int))], ⟨rfl, Same.refl _, fun i d h => ?_, fun i t o h => ?_, fun i j t o t' o' l h => ?_⟩, ?_⟩
  · match i, h with
    | 0, h => cases h; exact ⟨_, rfl, .lst hq .ofInts⟩
    | i + 1, h => exact absurd h (by simp [slots])
  · match i, h with
    | 0, h => cases h
    | i + 1, h => exact absurd h (by simp [slots])
  · match i, h with
    | 0, h => cases h
    | i + 1, h => exact absurd h (by simp [slots])
  · rw [hφ ns hlen hbits]
    intro G' H' u f s' o
    cases (show Rp C G' u (.bl true) from o)
    rfl
/-! ### for the laws' texts -/
theorem fnG_of {P : Program} {w : World} {K : PySem.W.Frag} {mg : Str → Option Value} {base : Heap} {x qual : Str} {params : Arguments} {body : List Stmt} {scope : Scope} {kws : List (Str × V)} {f : Addr} {fd : FuncData} {C : Cn} {Y : Sy} {N ps : List Str} {k : Nat} {ir : List S} (hK : K = C.K) (hY : ∀ i, C.fn i = Y.fn i)
    (F : FunD K x qual params body scope [] kws f fd) (hs : C8.scC N ps scope = true) (hc : cSs Y N scope ir body = true) (nd : ∀ n ∈ ndSs ir, Need.ok CX0 P w K mg base C Y k n)
    (hb : ∀ (kV doc pm : Value) (an : Option Addr) (cdv ct : Value) (us : List Value), us.length = ps.length → bindArgs (PySem.W.fnOf x qual params body scope .none kV doc pm an cdv ct) ⟨us, []⟩ = pure (ps.zip us)) : FnG CX0 P w K mg base C (k + 1) f (run ps.length N.length ir) :=
  ⟨fd, ps, [], [], [], _, def_ok hK hY (fun _ _ _ _ _ h => h) (fun _ _ _ _ _ _ _ _ _ _ _ _ _ _ _ _ _ h => False.elim h) F hs hc nd, F.bindsN hb, .nil, ⟨rfl, fun d h => nomatch h⟩, by
    funext as
    rw [List.map_nil, List.append_nil]⟩
/-- a def that is never run to its end -/
theorem fnG_0 {P : Program} {w : World} {K : PySem.W.Frag} {mg : Str → Option Value} {base : Heap} {x qual : Str} {params : Arguments} {body : List Stmt} {scope : Scope} {kws : List (Str × V)} {f : Addr} {fd : FuncData} {C : Cn} {ps : List Str} {k : Nat}
    (F : FunD K x qual params body scope [] kws f fd)
    (hb : ∀ (kV doc pm : Value) (an : Option Addr) (cdv ct : Value) (us : List Value), us.length = ps.length → bindArgs (PySem.W.fnOf x qual params body scope .none kV doc pm an cdv ct) ⟨us, []⟩ = pure (ps.zip us)) : FnG CX0 P w K mg base C k f (fun _ => .st) :=
  ⟨fd, ps, [], [], [], fun _ => .st, ⟨fun vs H Q E ⟨G, as, s, h⟩ => False.elim h, fun A outer s H args us vs Q E hr he hb hv ⟨G, as, sr, h⟩ => False.elim h⟩, F.bindsN hb, .nil, ⟨rfl, fun d h => nomatch h⟩, rfl⟩
/-- needs, one behind the other -/
inductive AllN (p : Need → Prop) : List Need → Prop where
  | nil : AllN p []
  | cons {n : Need} {r : List Need} : p n → AllN p r → AllN p (n :: r)
theorem AllN.all {p : Need → Prop} : ∀ {l : List Need}, AllN p l → ∀ n ∈ l, p n
  | _, .cons h t, n, hn => by
    rcases List.mem_cons.mp hn with e | hn
    · rw [e]; exact h
    · exact t.all n hn
end G

set_option maxRecDepth 100000
set_option maxHeartbeats 4000000
/-! G22: running the small language by rewriting -/
namespace G
open PySem L2

section
variable {m : Mem} {i k : Nat} {e a b t : E} {es : List E} {ss : List S} {s : S}
@[simp] theorem x_nil : execs [] m = .ok .nx m := rfl
@[simp] theorem x_cons : execs (s :: ss) m = (exec s m).bind fun f m => match f with
  | .nx => execs ss m
  | f => .ok f m := rfl
@[simp] theorem x_set : exec (.set i e) m = (ev e m).bind fun v m => match v with
  | .dat d => if i < m.length then .ok .nx (m.set i (.dat d)) else .st
  | .new o => if i < m.length then .ok .nx (m.set i (.dat o.d)) else .st
  | .own _ => .st := rfl
@[simp] theorem x_setO : exec (.setO i e) m = (ev e m).bind fun v m => match v with
  | .new o => if i < m.length then .ok .nx (m.set i (.own 0 o)) else .st
  | _ => .st := rfl
@[simp] theorem x_setT {tg : Tg} : exec (.setT tg e) m = (ev e m).bind fun v m => match v with
  | .dat d => opt (asg tg d m) fun m => .ok .nx m
  | _ => .st := rfl
@[simp] theorem x_ret : exec (.ret e) m = (ev e m).bind fun v m => .ok (.rt v) m := rfl
@[simp] theorem x_retN : exec .retN m = .ok (.rt (.dat .non)) m := rfl
@[simp] theorem x_ife {p q : List S} : exec (.ife t p q) m = (tst t m).bind fun c m => if c = true then execs p m else execs q m := rfl
@[simp] theorem x_for {tg : Tg} {ik : Ik} {p : List S} : exec (.for tg ik es p) m = (evsF (evps es) m).bind fun xs m => opt (dats xs) fun xs => opt (itD ik xs) fun ds => forD (asg tg) (execs p) ds m := rfl
@[simp] theorem x_whl {n : Nat} {p : List S} : exec (.whl n t p) m = whlD (tst t) (execs p) n m := rfl
@[simp] theorem x_exp : exec (.exp e) m = (ev e m).bind fun _ m => .ok .nx m := rfl
@[simp] theorem x_frz : exec (.frz i) m = match m[i]? with
  | some (.own 0 o) => .ok .nx (m.set i (.dat o.d))
  | _ => .ok .nx m := rfl
@[simp] theorem x_aug {o : Bo} : exec (.aug i o e) m = match m[i]? with
  | some (.dat a) => (ev e m).bind fun v m => opt (rd v m) fun b => opt (augB o a b) fun d => .ok .nx (m.set i (.dat d))
  | _ => .st := rfl
@[simp] theorem x_brk : exec .brk m = .ok .bk m := rfl
@[simp] theorem x_cnt : exec .cnt m = .ok .ct m := rfl
@[simp] theorem x_pas : exec .pas m = .ok .nx m := rfl
@[simp] theorem v_var : ev (.var i) m = match m[i]? with
  | some (.dat d) => .ok (.dat d) m
  | some (.own _ _) => .ok (.own i) m
  | _ => .st := rfl
@[simp] theorem v_int {n : Int} : ev (.int n) m = .ok (.dat (.int n)) m := rfl
@[simp] theorem v_str {n : Str} : ev (.str n) m = .ok (.dat (.str n)) m := rfl
@[simp] theorem v_bool {n : Bool} : ev (.bool n) m = .ok (.dat (.bl n)) m := rfl
@[simp] theorem v_non : ev .non m = .ok (.dat .non) m := rfl
@[simp] theorem v_cst {g : Nat} {d : D} : ev (.cst g d) m = .ok (.dat d) m := rfl
@[simp] theorem v_bin {o : Bo} : ev (.bin o a b) m = (ev a m).bind fun x m => (ev b m).bind fun y m => opt (rd x m) fun x => opt (rd y m) fun y => opt (binD o x y) fun v => .ok v m := rfl
@[simp] theorem v_neg : ev (.neg a) m = (ev a m).bind fun x m => match x with
  | .dat (.int i) => .ok (.dat (.int (-i))) m
  | _ => .st := rfl
@[simp] theorem v_not : ev (.not a) m = (ev a m).bind fun v m => opt (rd v m) fun d => opt (truD d) fun b => .ok (.dat (.bl !b)) m := rfl
@[simp] theorem v_cmp {o : Co} : ev (.cmp o a b) m = (ev a m).bind fun x m => (ev b m).bind fun y m => opt (rd x m) fun x => opt (rd y m) fun y => opt (cmpD o x y) fun c => .ok (.dat (.bl c)) m := rfl
@[simp] theorem v_chn {os : List Co} : ev (.chn a os es) m = (ev a m).bind fun x m => chnG os (evps es) x m := rfl
@[simp] theorem v_band : ev (.band es) m = andF (evps es) m := rfl
@[simp] theorem v_bor : ev (.bor es) m = orF (evps es) m := rfl
@[simp] theorem v_ife : ev (.ife t a b) m = (tst t m).bind fun c m => if c = true then ev a m else ev b m := rfl
@[simp] theorem v_tup : ev (.tup es) m = (evsF (evps es) m).bind fun vs m => opt (dats vs) fun ds => if ds.length ≤ sizeLine then .ok (.dat (.tup ds)) m else .st := rfl
@[simp] theorem v_lst : ev (.lst es) m = (evsF (evps es) m).bind fun vs m => opt (dats vs) fun ds => if ds.length ≤ sizeLine then .ok (.new (.lst ds)) m else .st := rfl
@[simp] theorem v_ix : ev (.ix a b) m = (ev a m).bind fun x m => (ev b m).bind fun y m => opt (rd x m) fun x => opt (rd y m) fun y => opt (ixD x y) fun d => .ok (.dat d) m := rfl
@[simp] theorem v_slc {l h : E} : ev (.slc a l h) m = slcF (ev a) (if isNop l = true then none else some (ev l)) (if isNop h = true then none else some (ev h)) m := rfl
@[simp] theorem v_fld : ev (.fld a k) m = (ev a m).bind fun x m => opt (rd x m) fun x => match x with
  | .ins _ ns ds => opt (fget ns ds k) fun d => .ok (.dat d) m
  | _ => .st := rfl
@[simp] theorem v_call {f : Nat} {φ : Fn} : ev (.call f φ es) m = (evsF (evps es) m).bind fun vs m => callR φ vs m := rfl
@[simp] theorem v_bi {o : Bi} : ev (.bi o es) m = (evsF (evps es) m).bind fun vs m => opt (rds m vs) fun ds => opt (biD o ds) fun v => .ok v m := rfl
@[simp] theorem v_isi {ts : List Ty} : ev (.isi a ts) m = (ev a m).bind fun x m => opt (rd x m) fun x => opt (isiD x ts) fun b => .ok (.dat (.bl b)) m := rfl
@[simp] theorem v_bm {o : Bm} : ev (.bm o a es) m = (ev a m).bind fun x m => opt (rd x m) fun d => if isTy (bmT o) d = true then (evsF (evps es) m).bind fun vs m => opt (dats vs) fun ds => bmD o x ds m else .st := rfl
@[simp] theorem v_lc {vs : List Nat} {tg : Tg} {ik : Ik} : ev (.lc vs tg ik es t e) m = lcF vs tg ik (evps es) (if isNop t = true then yesT else tst t) (ev e) m := rfl
@[simp] theorem es_nil : evsF (evps []) m = .ok [] m := rfl
@[simp] theorem es_cons : evsF (evps (e :: es)) m = (ev e m).bind fun v m => (evsF (evps es) m).bind fun vs m => .ok (v :: vs) m := rfl
@[simp] theorem an1 : andF (evps [e]) m = ev e m := rfl
@[simp] theorem an2 : andF (evps (e :: a :: es)) m = (ev e m).bind fun v m => match v with
  | .dat (.bl b) => if b = true then andF (evps (a :: es)) m else .ok (.dat (.bl false)) m
  | _ => .st := rfl
@[simp] theorem or1 : orF (evps [e]) m = ev e m := rfl
@[simp] theorem or2 : orF (evps (e :: a :: es)) m = (ev e m).bind fun v m => match v with
  | .dat (.bl b) => if b = true then .ok (.dat (.bl true)) m else orF (evps (a :: es)) m
  | _ => .st := rfl
@[simp] theorem at1 : andT (evps [e]) m = tst e m := rfl
@[simp] theorem at2 : andT (evps (e :: a :: es)) m = (tst e m).bind fun b m => if b = true then andT (evps (a :: es)) m else .ok false m := rfl
@[simp] theorem ot1 : orT (evps [e]) m = tst e m := rfl
@[simp] theorem ot2 : orT (evps (e :: a :: es)) m = (tst e m).bind fun b m => if b = true then .ok true m else orT (evps (a :: es)) m := rfl
@[simp] theorem cg0 {o : Co} {os : List Co} {x : Val} : chnG (o :: os) (evps (e :: es)) x m = (ev e m).bind fun y m => opt (rd x m) fun x => opt (rd y m) fun y' => opt (cmpD o x y') fun c => if (c && !os.isEmpty) = true then chnG os (evps es) y m else .ok (.dat (.bl c)) m := rfl
/-! tests -/
@[simp] theorem t_var : tst (.var i) m = (ev (.var i) m).bind okD := rfl
@[simp] theorem t_int {n : Int} : tst (.int n) m = (ev (.int n) m).bind okD := rfl
@[simp] theorem t_bool {n : Bool} : tst (.bool n) m = (ev (.bool n) m).bind okD := rfl
@[simp] theorem t_cmp {o : Co} : tst (.cmp o a b) m = (ev (.cmp o a b) m).bind okD := rfl
@[simp] theorem t_chn {os : List Co} : tst (.chn a os es) m = (ev (.chn a os es) m).bind okD := rfl
@[simp] theorem t_not : tst (.not a) m = (tst a m).bind fun b m => .ok (!b) m := rfl
@[simp] theorem t_band : tst (.band es) m = andT (evps es) m := rfl
@[simp] theorem t_bor : tst (.bor es) m = orT (evps es) m := rfl
@[simp] theorem t_ix : tst (.ix a b) m = (ev (.ix a b) m).bind okD := rfl
@[simp] theorem t_fld : tst (.fld a k) m = (ev (.fld a k) m).bind okD := rfl
@[simp] theorem t_call {f : Nat} {φ : Fn} : tst (.call f φ es) m = (ev (.call f φ es) m).bind okD := rfl
@[simp] theorem t_bi {o : Bi} : tst (.bi o es) m = (ev (.bi o es) m).bind okD := rfl
@[simp] theorem t_isi {ts : List Ty} : tst (.isi a ts) m = (ev (.isi a ts) m).bind okD := rfl
@[simp] theorem okD_def {v : Val} : okD v m = opt (rd v m) fun d => opt (truD d) fun b => .ok b m := rfl
/-! the rest -/
@[simp] theorem bok {α β : Type} {x : α} {f : α → Mem → R β} : (R.ok x m).bind f = f x m := rfl
@[simp] theorem bst {α β : Type} {f : α → Mem → R β} : (R.st : R α).bind f = .st := rfl
@[simp] theorem osome {α β : Type} {x : α} {f : α → R β} : opt (some x) f = f x := rfl
@[simp] theorem onone {α β : Type} {f : α → R β} : opt none f = .st := rfl
@[simp] theorem rd_dat {d : D} : rd (.dat d) m = some d := rfl
@[simp] theorem rd_new {o : O} : rd (.new o) m = some o.d := rfl
@[simp] theorem rd_own : rd (.own i) m = match m[i]? with
  | some (.own _ o) => some o.d
  | _ => none := rfl
@[simp] theorem Od_lst {ds : List D} : O.d (.lst ds) = .lst ds := rfl
@[simp] theorem ds0 : dats [] = some [] := rfl
@[simp] theorem ds1 {d : D} {r : List Val} : dats (.dat d :: r) = (dats r).map (d :: ·) := rfl
@[simp] theorem ds2 {o : O} {r : List Val} : dats (.new o :: r) = (dats r).map (o.d :: ·) := rfl
@[simp] theorem rs0 : rds m [] = some [] := rfl
@[simp] theorem rs1 {v : Val} {r : List Val} : rds m (v :: r) = match rd v m, rds m r with
  | some d, some ds => some (d :: ds)
  | _, _ => none := rfl
@[simp] theorem b_add {x y : Int} : binD .add (.int x) (.int y) = some (.dat (.int (x + y))) := rfl
@[simp] theorem b_sub {x y : Int} : binD .sub (.int x) (.int y) = some (.dat (.int (x - y))) := rfl
@[simp] theorem b_mul {x y : Int} : binD .mul (.int x) (.int y) = if mulOk x y = true then some (.dat (.int (x * y))) else none := rfl
@[simp] theorem b_fdiv {x y : Int} : binD .fdiv (.int x) (.int y) = if 0 < y ∧ y.natAbs.log2 < 9000 then some (.dat (.int (x / y))) else none := rfl
@[simp] theorem b_mod {x y : Int} : binD .mod (.int x) (.int y) = if 0 < y then some (.dat (.int (x % y))) else none := rfl
@[simp] theorem b_pow {x y : Int} : binD .pow (.int x) (.int y) = if 0 ≤ y ∧ y ≤ 1000000 ∧ x.natAbs < 2 ^ 64 then some (.dat (.int (x ^ y.toNat))) else none := rfl
@[simp] theorem b_cat {x y : List D} : binD .add (.lst x) (.lst y) = if x.length + y.length ≤ sizeLine then some (.new (.lst (x ++ y))) else none := rfl
@[simp] theorem b_rep {x : List D} {k : Int} : binD .mul (.lst x) (.int k) = if -(2 ^ 63) ≤ k ∧ k < 2 ^ 63 ∧ x.length * k.toNat ≤ sizeLine then some (.new (.lst (List.replicate k.toNat x).flatten)) else none := rfl
@[simp] theorem c_eqI {x y : Int} : cmpD .eq (.int x) (.int y) = some (decide (x = y)) := rfl
@[simp] theorem c_neI {x y : Int} : cmpD .ne (.int x) (.int y) = some (!decide (x = y)) := rfl
@[simp] theorem c_eqS {x y : Str} : cmpD .eq (.str x) (.str y) = some (decide (x = y)) := rfl
@[simp] theorem c_neS {x y : Str} : cmpD .ne (.str x) (.str y) = some (!decide (x = y)) := rfl
@[simp] theorem c_ltI {x y : Int} : cmpD .lt (.int x) (.int y) = some (decide (x < y)) := rfl
@[simp] theorem c_leI {x y : Int} : cmpD .le (.int x) (.int y) = some (decide (x ≤ y)) := rfl
@[simp] theorem c_gtI {x y : Int} : cmpD .gt (.int x) (.int y) = some (decide (y < x)) := rfl
@[simp] theorem c_geI {x y : Int} : cmpD .ge (.int x) (.int y) = some (decide (y ≤ x)) := rfl
@[simp] theorem tr_bl {x : Bool} : truD (.bl x) = some x := rfl
@[simp] theorem tr_int {x : Int} : truD (.int x) = some (x != 0) := rfl
@[simp] theorem tr_non : truD .non = some false := rfl
@[simp] theorem tr_lst {x : List D} : truD (.lst x) = some (!x.isEmpty) := rfl
@[simp] theorem bi_lenL {x : List D} : biD .len [.lst x] = some (.dat (.int x.length)) := rfl
@[simp] theorem bi_lenT {x : List D} : biD .len [.tup x] = some (.dat (.int x.length)) := rfl
@[simp] theorem bi_intI {x : Int} : biD .int [.int x] = some (.dat (.int x)) := rfl
@[simp] theorem bi_intB {x : Bool} : biD .int [.bl x] = some (.dat (.int (if x then 1 else 0))) := rfl
@[simp] theorem bi_abs {x : Int} : biD .abs [.int x] = some (.dat (.int (if x < 0 then -x else x))) := rfl
@[simp] theorem bi_min2 {x y : Int} : biD .min [.int x, .int y] = some (.dat (.int (min x y))) := by
  have e : (if y < x then y else x) = min x y := by split <;> omega
  rw [← e]
  rfl
@[simp] theorem bi_max2 {x y : Int} : biD .max [.int x, .int y] = some (.dat (.int (max x y))) := by
  have e : (if y > x then y else x) = max x y := by split <;> omega
  rw [← e]
  rfl
@[simp] theorem bi_listL {x : List D} : biD .list [.lst x] = some (.new (.lst x)) := rfl
@[simp] theorem bi_listT {x : List D} : biD .list [.tup x] = some (.new (.lst x)) := rfl
@[simp] theorem bi_tupL {x : List D} : biD .tuple [.lst x] = some (.dat (.tup x)) := rfl
@[simp] theorem bi_tupT {x : List D} : biD .tuple [.tup x] = some (.dat (.tup x)) := rfl
@[simp] theorem ix_l {x : List D} {j : Int} : ixD (.lst x) (.int j) = atI x j := rfl
@[simp] theorem ix_t {x : List D} {j : Int} : ixD (.tup x) (.int j) = atI x j := rfl
@[simp] theorem it_s {x : List D} : itD .seq [.lst x] = some x := rfl
@[simp] theorem it_t {x : List D} : itD .seq [.tup x] = some x := rfl
@[simp] theorem it_1 {j : Int} : itD .rng1 [.int j] = if -(2 ^ 62) ≤ j ∧ j < 2 ^ 62 then some ((List.range j.toNat).map fun (k : Nat) => .int (0 + (k : Int))) else none := rfl
@[simp] theorem it_2 {j l : Int} : itD .rng2 [.int j, .int l] = if -(2 ^ 62) ≤ j ∧ j < 2 ^ 62 ∧ -(2 ^ 62) ≤ l ∧ l < 2 ^ 62 then some ((List.range (l - j).toNat).map fun (k : Nat) => .int (j + (k : Int))) else none := rfl
@[simp] theorem ty_l {x : List D} : isTy .list (.lst x) = true := rfl
@[simp] theorem bt_pop : bmT .pop = .list := rfl
@[simp] theorem bt_app : bmT .append = .list := rfl
@[simp] theorem bt_rev : bmT .reverse = .list := rfl
@[simp] theorem bm_pop : bmD .pop (.own i) [] m = match m[i]? with
  | some (.own t (.lst ds)) => (match (ds[ds.length - 1]?).map (fun d => (d, ds.dropLast)) with
    | some (d, ds') => R.ok (.dat d) (m.set i (.own t (.lst ds')))
    | none => .st)
  | _ => .st := rfl
@[simp] theorem bm_app {d : D} : bmD .append (.own i) [d] m = match m[i]? with
  | some (.own t (.lst ds)) => (match (if ds.length < sizeLine then some (D.non, ds ++ [d]) else none) with
    | some (d, ds') => R.ok (.dat d) (m.set i (.own t (.lst ds')))
    | none => .st)
  | _ => .st := rfl
@[simp] theorem bm_rev : bmD .reverse (.own i) [] m = match m[i]? with
  | some (.own t (.lst ds)) => .ok (.dat .non) (m.set i (.own t (.lst ds.reverse)))
  | _ => .st := by
  show (match m[i]? with
    | some (.own t (.lst ds)) => (match bmM .reverse ds [] with
      | some (d, ds') => R.ok (Val.dat d) (m.set i (.own t (.lst ds')))
      | none => .st)
    | _ => .st) = _
  split <;> rfl
@[simp] theorem asg1 {d : D} : asg (.one i) d m = if i < m.length then some (m.set i (.dat d)) else none := rfl
@[simp] theorem asgT {is : List Nat} {ds : List D} : asg (.tup is) (.tup ds) m = setAll m is ds := rfl
@[simp] theorem sa0 : setAll m [] [] = some m := rfl
@[simp] theorem sa1 {is : List Nat} {d : D} {ds : List D} : setAll m (i :: is) (d :: ds) = if i < m.length then setAll (m.set i (.dat d)) is ds else none := rfl
end
/-- a loop by an invariant -/
theorem forD_inv {a : D → Mem → Option Mem} {b : Mem → R Fl} (P : Nat → Mem → Prop) : ∀ (ds : List D) (k : Nat) (m0 : Mem), P k m0 → (∀ i d m, ds[i]? = some d → P (k + i) m → ∃ m1 m2, a d m = some m1 ∧ b m1 = .ok .nx m2 ∧ P (k + i + 1) m2) → ∃ m', forD a b ds m0 = .ok .nx m' ∧ P (k + ds.length) m'
  | [], k, m0, h0, _ => ⟨m0, rfl, h0⟩
  | d :: ds, k, m0, h0, hs => by
    obtain ⟨m1, m2, e1, e2, h2⟩ := hs 0 d m0 rfl h0
    obtain ⟨m', e3, h3⟩ := forD_inv P ds (k + 1) m2 h2 fun i d m e h => by
      have := hs (i + 1) d m e (by rw [show k + (i + 1) = k + 1 + i by omega]; exact h)
      rw [show k + (i + 1) + 1 = k + 1 + i + 1 by omega] at this
      exact this
    refine ⟨m', ?_, by rw [List.length_cons, show k + (ds.length + 1) = k + 1 + ds.length by omega]; exact h3⟩
    show (match a d m0 with
      | none => R.st
      | some m1 => match b m1 with
        | .ok .nx m2 => forD a b ds m2
        | .ok .ct m2 => forD a b ds m2
        | .ok .bk m2 => .ok .nx m2
        | .ok (.rt v) m2 => .ok (.rt v) m2
        | .ex c x m2 => .ex c x m2
        | .st => R.st) = _
    rw [e1]
    dsimp only
    rw [e2]
    exact e3
theorem for_ok {a : D → Mem → Option Mem} {b : Mem → R Fl} (P : Nat → Mem → Prop) (ds : List D) (m0 : Mem) (h0 : P 0 m0) (hs : ∀ i d m, ds[i]? = some d → P i m → ∃ m1 m2, a d m = some m1 ∧ b m1 = .ok .nx m2 ∧ P (i + 1) m2) : ∃ m', forD a b ds m0 = .ok .nx m' ∧ P ds.length m' := by
  obtain ⟨m', e, h⟩ := forD_inv P ds 0 m0 h0 fun i d m e h => by
    rw [Nat.zero_add] at h ⊢
    exact hs i d m e h
  exact ⟨m', e, by rw [Nat.zero_add] at h; exact h⟩
/-! weakest preconditions -/
def R.wp {α : Type} (r : R α) (Q : α → Mem → Prop) : Prop := match r with
  | .ok a m => Q a m
  | _ => False
def FR.wp (r : FR) (Q : Val → List O → Prop) : Prop := match r with
  | .ok v os => Q v os
  | _ => False
@[simp] theorem wp_ok {α : Type} {a : α} {m : Mem} {Q : α → Mem → Prop} : (R.ok a m).wp Q = Q a m := rfl
@[simp] theorem wp_fok {v : Val} {os : List O} {Q : Val → List O → Prop} : (FR.ok v os).wp Q = Q v os := rfl
@[simp] theorem wp_bind {α β : Type} {r : R α} {f : α → Mem → R β} {Q : β → Mem → Prop} : (r.bind f).wp Q = r.wp fun a m => (f a m).wp Q := by
  cases r <;> rfl
theorem R.wp_ex {α : Type} {r : R α} {Q : α → Mem → Prop} (h : r.wp Q) : ∃ a m, r = .ok a m ∧ Q a m := by
  cases r with
  | ok a m => exact ⟨a, m, rfl, h⟩
  | ex c x m => exact False.elim h
  | st => exact False.elim h
theorem FR.wp_ex {r : FR} {Q : Val → List O → Prop} (h : r.wp Q) : ∃ v os, r = .ok v os ∧ Q v os := by
  cases r with
  | ok v os => exact ⟨v, os, rfl, h⟩
  | ex c x os => exact False.elim h
  | st => exact False.elim h
theorem R.wp_imp {α : Type} {r : R α} {Q Q' : α → Mem → Prop} (h : r.wp Q) (i : ∀ a m, Q a m → Q' a m) : r.wp Q' := by
  cases r with
  | ok a m => exact i a m h
  | ex c x m => exact False.elim h
  | st => exact False.elim h
theorem run_wp {np nl : Nat} {b : List S} {as : List Arg} {Q : Val → List O → Prop} (hl : as.length = np) (h : (execs b (slots 0 as ++ List.replicate (nl - np) .un)).wp fun f m => match f with
    | .nx => (fin as (.dat .non) m).wp Q
    | .rt v => (fin as v m).wp Q
    | _ => False) : (run np nl b as).wp Q := by
  obtain ⟨f, m, e, h⟩ := R.wp_ex h
  unfold run
  rw [if_pos hl, e]
  cases f with
  | nx => exact h
  | rt v => exact h
  | bk => exact False.elim h
  | ct => exact False.elim h
theorem for_wp {a : D → Mem → Option Mem} {b : Mem → R Fl} {ds : List D} {m0 : Mem} {Q : Fl → Mem → Prop} (P : Nat → Mem → Prop) (h0 : P 0 m0) (hs : ∀ i d m, ds[i]? = some d → P i m → ∃ m1, a d m = some m1 ∧ (b m1).wp fun f m2 => f = .nx ∧ P (i + 1) m2) (hq : ∀ m', P ds.length m' → Q .nx m') : (forD a b ds m0).wp Q := by
  obtain ⟨m', e, h⟩ := for_ok P ds m0 h0 fun i d m hd h => by
    obtain ⟨m1, e1, w⟩ := hs i d m hd h
    obtain ⟨f, m2, e2, rfl, h2⟩ := R.wp_ex w
    exact ⟨m1, m2, e1, e2, h2⟩
  rw [e]
  exact hq m' h
theorem call_wp {φ : Fn} {vs : List Val} {m : Mem} {as : List Arg} {Q : Val → Mem → Prop} {Q0 : Val → List O → Prop} (ha : argsOf m vs = some as) (hn : nodupB (owns vs) = true) (h : (φ as).wp Q0) (hq : ∀ v os, Q0 v os → (∀ i, v ≠ .own i) ∧ os.length = (owns vs).length ∧ Q v (putIos m (owns vs) os)) : (callR φ vs m).wp Q := by
  obtain ⟨v, os, e, h⟩ := FR.wp_ex h
  obtain ⟨q1, q2, q3⟩ := hq v os h
  unfold callR
  rw [ha]
  dsimp only
  rw [if_pos hn, e]
  cases v with
  | own i => exact absurd rfl (q1 i)
  | dat d => dsimp only; rw [if_pos q2]; exact q3
  | new d => dsimp only; rw [if_pos q2]; exact q3
theorem mulOk_of {i j : Int} (h1 : i.natAbs < 2 ^ 2000000) (h2 : j.natAbs < 2 ^ 2000000) : mulOk i j = true := by
  have l : ∀ {n : Nat}, n < 2 ^ 2000000 → n.log2 < 2000000 := fun {n} h => by
    by_cases z : n = 0
    · subst z; decide
    · exact (Nat.log2_lt z).mpr h
  unfold mulOk
  have := l h1
  have := l h2
  exact decide_eq_true (by omega)
end G

set_option maxRecDepth 100000
set_option maxHeartbeats 0
namespace Lw
open PySem PySem.Spec PyProof.Rows L2 G
def top (i : Nat) : Stmt := PySem.Challenge.pw_orrery_k46_whole_charges_one_span_behind.main.body.getD i (.Pass ⟨0, 0, 0, 0⟩)
def gs : List Str := ["after_ticks", "charge_after", "_law_deck", "_law_take", "_law_pick", "_law_plain", "_law_same", "_law_charges", "law"]
def fs : List Str := []
theorem fsok : (decide fs.Nodup && fs.all fun x => x.cps.toList.any fun c => !(c == 0)) = true := by decide +kernel
abbrev Y : Sy := syOf gs fs
/-! after_ticks -/
def N_after_ticks : List Str := ["battery", "charge", "ticks", "lit", "change", "most", "use", "gain"]
def ir_after_ticks : List S := [.setT (.tup [5, 6, 7]) (.var 0), .set 4 (.neg (.var 6)), .ife (.var 3) [.set 4 (.bin .sub (.var 7) (.var 6))] [], .ret (.bi .min [.var 5, .bi .max [.int 0, .bin .add (.var 1) (.bin .mul (.var 4) (.var 2))]])]
def f_after_ticks : Fn := run (["battery", "charge", "ticks", "lit"] : List Str).length N_after_ticks.length ir_after_ticks
theorem c_after_ticks : cSs Y N_after_ticks (defScope (top 1)) ir_after_ticks (defBody (top 1)) = true := by kernel_rfl
theorem s_after_ticks : C8.scC N_after_ticks ["battery", "charge", "ticks", "lit"] (defScope (top 1)) = true := by kernel_rfl
def d_after_ticks : He.DefD := ⟨("after_ticks", none), "after_ticks", "after_ticks", defArgs (top 1), defBody (top 1), defScope (top 1), [], []⟩
/-! charge_after -/
def N_charge_after : List Str := ["battery", "charge", "spans", "least", "greatest", "lowest", "begin", "end", "word", "ticks"]
def ir_charge_after : List S := [.set 3 (.var 1), .set 4 (.var 1), .set 5 (.var 1), .for (.tup [6, 7, 8]) .seq [.var 2] [.set 9 (.bin .add (.bin .sub (.var 7) (.var 6)) (.int 1)), .set 3 (.call 0 f_after_ticks [.var 0, .var 3, .var 9, .cmp .eq (.var 8) (.str "lit")]), .set 4 (.call 0 f_after_ticks [.var 0, .var 4, .var 9, .cmp .ne (.var 8) (.str "dark")]), .set 5 (.bi .min [.var 5, .var 3])], .ret (.tup [.var 3, .var 4, .var 5])]
def f_charge_after : Fn := run (["battery", "charge", "spans"] : List Str).length N_charge_after.length ir_charge_after
theorem c_charge_after : cSs Y N_charge_after (defScope (top 2)) ir_charge_after (defBody (top 2)) = true := by kernel_rfl
theorem s_charge_after : C8.scC N_charge_after ["battery", "charge", "spans"] (defScope (top 2)) = true := by kernel_rfl
def d_charge_after : He.DefD := ⟨("charge_after", none), "charge_after", "charge_after", defArgs (top 2), defBody (top 2), defScope (top 2), [], []⟩
/-! _law_deck -/
def N__law_deck : List Str := ["script", "cells", "each", "deck", "seed", "k", "cell", "rest", "turn"]
def ir__law_deck : List S := [.setO 3 (.lst []), .set 4 (.bin .add (.int 29) (.bi .len [.var 0])), .for (.one 5) .rng1 [.var 1] [.set 6 (.ife (.cmp .lt (.var 5) (.bi .len [.var 0])) (.bi .int [.ix (.var 0) (.var 5)]) (.int 0)), .set 7 (.bin .mul (.bi .abs [.var 6]) (.bi .int [.cmp .ge (.bi .abs [.var 6]) (.bin .pow (.int 10) (.int 18))])), .set 4 (.bin .mod (.bi .int [.bin .add (.bin .add (.bin .add (.bin .mul (.var 4) (.int 48271)) (.bin .mul (.int 3) (.bin .mod (.bi .int [.bi .abs [.var 6]]) (.int 2147483587)))) (.bi .int [.cmp .lt (.var 6) (.int 0)])) (.var 5)]) (.int 2147483647)), .for (.one 8) .rng1 [.var 2] [.set 4 (.bin .mod (.bi .int [.bin .add (.bin .add (.bin .mul (.var 4) (.int 69621)) (.var 8)) (.int 1)]) (.int 2147483629)), .exp (.bm .append (.var 3) [.bin .mod (.bi .int [.ix (.lst [.bin .fdiv (.var 4) (.int 7), .var 7]) (.bi .int [.cmp .gt (.var 7) (.int 0)])]) (.int 1000003)]), .set 7 (.bin .fdiv (.var 7) (.int 1000003))]], .exp (.bm .reverse (.var 3) []), .ret (.var 3)]
def f__law_deck : Fn := run (["script", "cells", "each"] : List Str).length N__law_deck.length ir__law_deck
theorem c__law_deck : cSs Y N__law_deck (defScope (top 4)) ir__law_deck (defBody (top 4)) = true := by kernel_rfl
theorem s__law_deck : C8.scC N__law_deck ["script", "cells", "each"] (defScope (top 4)) = true := by kernel_rfl
def d__law_deck : He.DefD := ⟨("_law_deck", none), "_law_deck", "_law_deck", defArgs (top 4), defBody (top 4), defScope (top 4), [], []⟩
/-! _law_take -/
def N__law_take : List Str := ["deck", "many"]
def ir__law_take : List S := [.ret (.ife (.cmp .gt (.bi .len [.var 0]) (.int 0)) (.bin .mod (.bi .int [.bm .pop (.var 0) []]) (.var 1)) (.int 0))]
def f__law_take : Fn := run (["deck", "many"] : List Str).length N__law_take.length ir__law_take
theorem c__law_take : cSs Y N__law_take (defScope (top 5)) ir__law_take (defBody (top 5)) = true := by kernel_rfl
theorem s__law_take : C8.scC N__law_take ["deck", "many"] (defScope (top 5)) = true := by kernel_rfl
def d__law_take : He.DefD := ⟨("_law_take", none), "_law_take", "_law_take", defArgs (top 5), defBody (top 5), defScope (top 5), [], []⟩
/-! _law_pick -/
def N__law_pick : List Str := ["deck", "items"]
def ir__law_pick : List S := [.ret (.ix (.var 1) (.call 3 f__law_take [.var 0, .bi .len [.var 1]]))]
def f__law_pick : Fn := run (["deck", "items"] : List Str).length N__law_pick.length ir__law_pick
theorem c__law_pick : cSs Y N__law_pick (defScope (top 6)) ir__law_pick (defBody (top 6)) = true := by kernel_rfl
theorem s__law_pick : C8.scC N__law_pick ["deck", "items"] (defScope (top 6)) = true := by kernel_rfl
def d__law_pick : He.DefD := ⟨("_law_pick", none), "_law_pick", "_law_pick", defArgs (top 6), defBody (top 6), defScope (top 6), [], []⟩
/-! _law_plain -/
def N__law_plain : List Str := ["value", "item"]
def ir__law_plain (φ : Fn) : List S := [.ife (.isi (.var 0) [.tuple, .list]) [.ret (.bin .add (.lst [.isi (.var 0) [.list]]) (.lc [1] (.one 1) .seq [.var 0] (.nop) (.call 5 φ [.var 1])))] [], .ife (.bor [.cmp .is (.var 0) (.non), .isi (.var 0) [.bool]]) [.ret (.ix (.lst [.str "None", .str "False", .str "True"]) (.bin .add (.bi .int [.cmp .isn (.var 0) (.non)]) (.bi .int [.cmp .is (.var 0) (.bool true)])))] [], .ret (.ife (.isi (.var 0) [.int, .str]) (.lst [.isi (.var 0) [.str], .var 0]) (.str "another"))]
def f__law_plain : Nat → Fn
  | 0 => fun _ => .st
  | n + 1 => run (["value"] : List Str).length N__law_plain.length (ir__law_plain (f__law_plain n))
theorem c__law_plain (φ : Fn) : cSs Y N__law_plain (defScope (top 7)) (ir__law_plain φ) (defBody (top 7)) = true := by kernel_rfl
theorem s__law_plain : C8.scC N__law_plain ["value"] (defScope (top 7)) = true := by kernel_rfl
def d__law_plain : He.DefD := ⟨("_law_plain", none), "_law_plain", "_law_plain", defArgs (top 7), defBody (top 7), defScope (top 7), [], []⟩
/-! _law_same -/
def N__law_same : List Str := ["told", "due"]
def ir__law_same : List S := [.ret (.cmp .eq (.call 5 (f__law_plain 40) [.var 0]) (.call 5 (f__law_plain 40) [.var 1]))]
def f__law_same : Fn := run (["told", "due"] : List Str).length N__law_same.length ir__law_same
theorem c__law_same : cSs Y N__law_same (defScope (top 8)) ir__law_same (defBody (top 8)) = true := by kernel_rfl
theorem s__law_same : C8.scC N__law_same ["told", "due"] (defScope (top 8)) = true := by kernel_rfl
def d__law_same : He.DefD := ⟨("_law_same", none), "_law_same", "_law_same", defArgs (top 8), defBody (top 8), defScope (top 8), [], []⟩
/-! _law_charges -/
def N__law_charges : List Str := ["battery", "before", "spans", "lowest", "most", "use", "gain", "least", "greatest", "begin", "end", "word", "at"]
def ir__law_charges : List S := [.setT (.tup [4, 5, 6]) (.var 0), .setT (.tup [7, 8]) (.var 1), .set 3 (.var 7), .for (.tup [9, 10, 11]) .seq [.var 2] [.for (.one 12) .rng2 [.var 9, .bin .add (.var 10) (.int 1)] [.set 7 (.bi .max [.int 0, .bi .min [.var 4, .bin .add (.bin .sub (.var 7) (.var 5)) (.bin .mul (.var 6) (.bi .int [.cmp .eq (.var 11) (.str "lit")]))]]), .set 8 (.bi .max [.int 0, .bi .min [.var 4, .bin .add (.bin .sub (.var 8) (.var 5)) (.bin .mul (.var 6) (.bi .int [.cmp .ne (.var 11) (.str "dark")]))]])], .set 3 (.bi .min [.var 3, .var 7])], .ret (.tup [.var 7, .var 8, .var 3])]
def f__law_charges : Fn := run (["battery", "before", "spans"] : List Str).length N__law_charges.length ir__law_charges
theorem c__law_charges : cSs Y N__law_charges (defScope (top 9)) ir__law_charges (defBody (top 9)) = true := by kernel_rfl
theorem s__law_charges : C8.scC N__law_charges ["battery", "before", "spans"] (defScope (top 9)) = true := by kernel_rfl
def d__law_charges : He.DefD := ⟨("_law_charges", none), "_law_charges", "_law_charges", defArgs (top 9), defBody (top 9), defScope (top 9), [], []⟩
/-! law -/
def N_law : List Str := ["script", "deck", "turn", "most", "battery", "before", "spans", "at", "k", "due", "fine", "cut", "half", "rest", "last", "begin", "end", "word", "middle"]
def ir_law : List S := [.setO 1 (.call 2 f__law_deck [.var 0, .int 50, .int 14]), .for (.one 2) .rng1 [.int 4] [.set 3 (.call 4 f__law_pick [.var 1, .lst [.int 0, .int 10, .int 1000, .bin .pow (.int 10) (.int 18)]]), .set 4 (.tup [.var 3, .call 4 f__law_pick [.var 1, .lst [.int 0, .int 3, .bin .pow (.int 10) (.int 12), .call 3 f__law_take [.var 1, .int 50]]], .call 4 f__law_pick [.var 1, .lst [.int 0, .int 5, .bin .pow (.int 10) (.int 12), .call 3 f__law_take [.var 1, .int 50]]]]), .set 5 (.bi .min [.var 3, .call 3 f__law_take [.var 1, .int 2000]]), .setO 6 (.lst []), .set 7 (.call 3 f__law_take [.var 1, .int 9]), .for (.one 8) .rng1 [.call 3 f__law_take [.var 1, .int 9]] [.set 14 (.bin .add (.var 7) (.call 4 f__law_pick [.var 1, .lst [.int 0, .int 1, .call 3 f__law_take [.var 1, .int 30], .call 3 f__law_take [.var 1, .int 300]]])), .exp (.bm .append (.var 6) [.tup [.var 7, .var 14, .call 4 f__law_pick [.var 1, .lst [.str "dark", .str "lit", .str "either"]]]]), .set 7 (.bin .add (.var 14) (.int 1))], .frz 6, .set 9 (.call 7 f__law_charges [.var 4, .tup [.var 5, .var 5], .var 6]), .ife (.not (.call 6 f__law_same [.call 1 f_charge_after [.var 4, .var 5, .bi .list [.var 6]], .var 9])) [.ret (.bool false)] [], .set 10 (.lst []), .for (.tup [15, 16, 17]) .seq [.var 6] [.set 18 (.bin .add (.var 15) (.call 3 f__law_take [.var 1, .bin .add (.bin .sub (.var 16) (.var 15)) (.int 1)])), .set 10 (.bin .add (.bin .add (.var 10) (.lst [.tup [.var 15, .var 18, .var 17]])) (.bin .mul (.lst [.tup [.bin .add (.var 18) (.int 1), .var 16, .var 17]]) (.bi .int [.cmp .lt (.var 18) (.var 16)])))], .ife (.not (.call 6 f__law_same [.call 1 f_charge_after [.var 4, .var 5, .var 10], .var 9])) [.ret (.bool false)] [], .set 11 (.call 3 f__law_take [.var 1, .bin .add (.bi .len [.var 6]) (.int 1)]), .set 12 (.call 7 f__law_charges [.var 4, .tup [.var 5, .var 5], .slc (.var 6) (.nop) (.var 11)]), .set 13 (.call 1 f_charge_after [.var 4, .ix (.var 12) (.int 0), .slc (.var 6) (.var 11) (.nop)]), .ife (.bor [.cmp .ne (.ix (.var 13) (.int 0)) (.ix (.var 9) (.int 0)), .cmp .ne (.bi .min [.ix (.var 12) (.int 2), .ix (.var 13) (.int 2)]) (.ix (.var 9) (.int 2))]) [.ret (.bool false)] [], .ife (.cmp .ne (.ix (.call 1 f_charge_after [.var 4, .ix (.var 12) (.int 1), .slc (.var 6) (.var 11) (.nop)]) (.int 1)) (.ix (.var 9) (.int 1))) [.ret (.bool false)] []], .ret (.bool true)]
def f_law : Fn := run (["script"] : List Str).length N_law.length ir_law
theorem c_law : cSs Y N_law (defScope (top 10)) ir_law (defBody (top 10)) = true := by kernel_rfl
theorem s_law : C8.scC N_law ["script"] (defScope (top 10)) = true := by kernel_rfl
def d_law : He.DefD := ⟨("law", none), "law", "law", defArgs (top 10), defBody (top 10), defScope (top 10), [], []⟩
def fn : List He.DefD := [d_after_ticks, d_charge_after, d__law_deck, d__law_take, d__law_pick, d__law_plain, d__law_same, d__law_charges, d_law]
def fa : List He.Fa := [.glo "after_ticks", .glo "charge_after", .glo "_law_deck", .glo "_law_take", .glo "_law_pick", .glo "_law_plain", .glo "_law_same", .glo "_law_charges", .glo "law", .free "abs", .free "bool", .free "int", .free "isinstance", .free "len", .free "list", .free "max", .free "min", .free "range", .free "str", .free "tuple"]
abbrev R : PySem.W.OpenRow := PySem.W.OpenLaw.row PySem.Challenge.rw_orrery_k46_whole_charges_one_span_behind
abbrev hk : PySem.W.Hook := He.hookD 5 fa fn
def ob (s : PySem.W.SharedT) : He.AlD := He.obsDG 5 fa fn (HandSHeadRun.getT s)
theorem ob_eq (s : PySem.W.SharedT) : ob s = hk.obs s.abs := He.obsDG_eq (HandSHeadRun.getT_eq s)
theorem run_ok (w : World) : HandSHeadRun.RunEq R (PySem.W.view R.prog [10]) hk ob 2000 ["after_ticks", "charge_after", "_law_deck", "_law_take", "_law_pick", "_law_plain", "_law_same", "_law_charges"] w := by
  intro os
  kernel_rfl
def Cf (K : PySem.W.Frag) : Cn := cnOf K gs fs fsok
theorem facts {w : World} {K : PySem.W.Frag} {h : Heap} {mg : Str → Option Value} {f : Addr} (X : K.In h) (G : h.Ns mainGlobals mg) (hfa : mg ("law" : Str) = some (.ref f)) (c : He.SaysD fa fn K) :
    ∃ fd : FuncData, (∀ (s : Shared) (u : Value), BindsTo s fd ⟨[u], []⟩ [("script", u)]) ∧ ∀ base : Heap, FnOk PySem.Challenge.rw_orrery_k46_whole_charges_one_span_behind.prog w K mg base CX0 44 f fd ["script"] (spOf (Cf K) f_law) := by
  obtain ⟨fd_after_ticks, F_after_ticks⟩ := c.def_ 0 (d := d_after_ticks) rfl
  obtain ⟨fd_charge_after, F_charge_after⟩ := c.def_ 1 (d := d_charge_after) rfl
  obtain ⟨fd__law_deck, F__law_deck⟩ := c.def_ 2 (d := d__law_deck) rfl
  obtain ⟨fd__law_take, F__law_take⟩ := c.def_ 3 (d := d__law_take) rfl
  obtain ⟨fd__law_pick, F__law_pick⟩ := c.def_ 4 (d := d__law_pick) rfl
  obtain ⟨fd__law_plain, F__law_plain⟩ := c.def_ 5 (d := d__law_plain) rfl
  obtain ⟨fd__law_same, F__law_same⟩ := c.def_ 6 (d := d__law_same) rfl
  obtain ⟨fd__law_charges, F__law_charges⟩ := c.def_ 7 (d := d__law_charges) rfl
  obtain ⟨fd_law, F_law⟩ := c.def_ 8 (d := d_law) rfl
  have e := hfa.symm.trans (He.glo_ok X G (c.fact 8 (f := .glo "law") rfl))
  cases e
  have b := FunD.bindsA (ps := ["script"]) F_law fun _ _ _ _ _ _ us hl => match us, hl with | [_], _ => rfl
  refine ⟨fd_law, fun s v => b s [v] rfl, fun base => ?_⟩
  have g_after_ticks : FnG CX0 PySem.Challenge.rw_orrery_k46_whole_charges_one_span_behind.prog w K mg base (Cf K) 1 ((Cf K).ad 0) f_after_ticks := fnG_of (Y := Y) (N := N_after_ticks) (ps := ["battery", "charge", "ticks", "lit"]) rfl (fun _ => rfl) F_after_ticks s_after_ticks c_after_ticks (AllN.all (.cons (He.free_ok X G (c.fact 16 (f := .free "min") rfl)) (.cons (He.free_ok X G (c.fact 15 (f := .free "max") rfl)) .nil))) (fun _ _ _ _ _ _ us hl => match us, hl with | [_, _, _, _], _ => rfl)
  have g_charge_after : FnG CX0 PySem.Challenge.rw_orrery_k46_whole_charges_one_span_behind.prog w K mg base (Cf K) 2 ((Cf K).ad 1) f_charge_after := fnG_of (Y := Y) (N := N_charge_after) (ps := ["battery", "charge", "spans"]) rfl (fun _ => rfl) F_charge_after s_charge_after c_charge_after (AllN.all (.cons (⟨He.glo_ok X G (c.fact 0 (f := .glo "after_ticks") rfl), F_after_ticks.kp, g_after_ticks.up (by decide)⟩) (.cons (⟨He.glo_ok X G (c.fact 0 (f := .glo "after_ticks") rfl), F_after_ticks.kp, g_after_ticks.up (by decide)⟩) (.cons (He.free_ok X G (c.fact 16 (f := .free "min") rfl)) .nil)))) (fun _ _ _ _ _ _ us hl => match us, hl with | [_, _, _], _ => rfl)
  have g__law_deck : FnG CX0 PySem.Challenge.rw_orrery_k46_whole_charges_one_span_behind.prog w K mg base (Cf K) 1 ((Cf K).ad 2) f__law_deck := fnG_of (Y := Y) (N := N__law_deck) (ps := ["script", "cells", "each"]) rfl (fun _ => rfl) F__law_deck s__law_deck c__law_deck (AllN.all (.cons (He.free_ok X G (c.fact 13 (f := .free "len") rfl)) (.cons (He.free_ok X G (c.fact 17 (f := .free "range") rfl)) (.cons (He.free_ok X G (c.fact 13 (f := .free "len") rfl)) (.cons (He.free_ok X G (c.fact 11 (f := .free "int") rfl)) (.cons (He.free_ok X G (c.fact 9 (f := .free "abs") rfl)) (.cons (He.free_ok X G (c.fact 11 (f := .free "int") rfl)) (.cons (He.free_ok X G (c.fact 9 (f := .free "abs") rfl)) (.cons (He.free_ok X G (c.fact 11 (f := .free "int") rfl)) (.cons (He.free_ok X G (c.fact 11 (f := .free "int") rfl)) (.cons (He.free_ok X G (c.fact 9 (f := .free "abs") rfl)) (.cons (He.free_ok X G (c.fact 11 (f := .free "int") rfl)) (.cons (He.free_ok X G (c.fact 17 (f := .free "range") rfl)) (.cons (He.free_ok X G (c.fact 11 (f := .free "int") rfl)) (.cons (He.free_ok X G (c.fact 11 (f := .free "int") rfl)) (.cons (He.free_ok X G (c.fact 11 (f := .free "int") rfl)) .nil)))))))))))))))) (fun _ _ _ _ _ _ us hl => match us, hl with | [_, _, _], _ => rfl)
  have g__law_take : FnG CX0 PySem.Challenge.rw_orrery_k46_whole_charges_one_span_behind.prog w K mg base (Cf K) 1 ((Cf K).ad 3) f__law_take := fnG_of (Y := Y) (N := N__law_take) (ps := ["deck", "many"]) rfl (fun _ => rfl) F__law_take s__law_take c__law_take (AllN.all (.cons (He.free_ok X G (c.fact 13 (f := .free "len") rfl)) (.cons (He.free_ok X G (c.fact 11 (f := .free "int") rfl)) .nil))) (fun _ _ _ _ _ _ us hl => match us, hl with | [_, _], _ => rfl)
  have g__law_pick : FnG CX0 PySem.Challenge.rw_orrery_k46_whole_charges_one_span_behind.prog w K mg base (Cf K) 2 ((Cf K).ad 4) f__law_pick := fnG_of (Y := Y) (N := N__law_pick) (ps := ["deck", "items"]) rfl (fun _ => rfl) F__law_pick s__law_pick c__law_pick (AllN.all (.cons (⟨He.glo_ok X G (c.fact 3 (f := .glo "_law_take") rfl), F__law_take.kp, g__law_take.up (by decide)⟩) (.cons (He.free_ok X G (c.fact 13 (f := .free "len") rfl)) .nil))) (fun _ _ _ _ _ _ us hl => match us, hl with | [_, _], _ => rfl)
  have g__law_plain : ∀ n, FnG CX0 PySem.Challenge.rw_orrery_k46_whole_charges_one_span_behind.prog w K mg base (Cf K) (1 + n) ((Cf K).ad 5) (f__law_plain n) := fun n => by
    induction n with
    | zero => exact fnG_0 (ps := ["value"]) F__law_plain (fun _ _ _ _ _ _ us hl => match us, hl with | [_], _ => rfl)
    | succ n ih => exact fnG_of (Y := Y) (N := N__law_plain) (ps := ["value"]) rfl (fun _ => rfl) F__law_plain s__law_plain (c__law_plain _) (AllN.all (.cons (He.free_ok X G (c.fact 12 (f := .free "isinstance") rfl)) (.cons (He.free_ok X G (c.fact 19 (f := .free "tuple") rfl)) (.cons (He.free_ok X G (c.fact 14 (f := .free "list") rfl)) (.cons (He.free_ok X G (c.fact 12 (f := .free "isinstance") rfl)) (.cons (He.free_ok X G (c.fact 14 (f := .free "list") rfl)) (.cons (⟨He.glo_ok X G (c.fact 5 (f := .glo "_law_plain") rfl), F__law_plain.kp, ih⟩) (.cons (He.free_ok X G (c.fact 12 (f := .free "isinstance") rfl)) (.cons (He.free_ok X G (c.fact 10 (f := .free "bool") rfl)) (.cons (He.free_ok X G (c.fact 11 (f := .free "int") rfl)) (.cons (He.free_ok X G (c.fact 11 (f := .free "int") rfl)) (.cons (He.free_ok X G (c.fact 12 (f := .free "isinstance") rfl)) (.cons (He.free_ok X G (c.fact 11 (f := .free "int") rfl)) (.cons (He.free_ok X G (c.fact 18 (f := .free "str") rfl)) (.cons (He.free_ok X G (c.fact 12 (f := .free "isinstance") rfl)) (.cons (He.free_ok X G (c.fact 18 (f := .free "str") rfl)) .nil)))))))))))))))) (fun _ _ _ _ _ _ us hl => match us, hl with | [_], _ => rfl)
  have g__law_same : FnG CX0 PySem.Challenge.rw_orrery_k46_whole_charges_one_span_behind.prog w K mg base (Cf K) 43 ((Cf K).ad 6) f__law_same := fnG_of (Y := Y) (N := N__law_same) (ps := ["told", "due"]) rfl (fun _ => rfl) F__law_same s__law_same c__law_same (AllN.all (.cons (⟨He.glo_ok X G (c.fact 5 (f := .glo "_law_plain") rfl), F__law_plain.kp, (g__law_plain 40).up (by decide)⟩) (.cons (⟨He.glo_ok X G (c.fact 5 (f := .glo "_law_plain") rfl), F__law_plain.kp, (g__law_plain 40).up (by decide)⟩) .nil))) (fun _ _ _ _ _ _ us hl => match us, hl with | [_, _], _ => rfl)
  have g__law_charges : FnG CX0 PySem.Challenge.rw_orrery_k46_whole_charges_one_span_behind.prog w K mg base (Cf K) 1 ((Cf K).ad 7) f__law_charges := fnG_of (Y := Y) (N := N__law_charges) (ps := ["battery", "before", "spans"]) rfl (fun _ => rfl) F__law_charges s__law_charges c__law_charges (AllN.all (.cons (He.free_ok X G (c.fact 17 (f := .free "range") rfl)) (.cons (He.free_ok X G (c.fact 15 (f := .free "max") rfl)) (.cons (He.free_ok X G (c.fact 16 (f := .free "min") rfl)) (.cons (He.free_ok X G (c.fact 11 (f := .free "int") rfl)) (.cons (He.free_ok X G (c.fact 15 (f := .free "max") rfl)) (.cons (He.free_ok X G (c.fact 16 (f := .free "min") rfl)) (.cons (He.free_ok X G (c.fact 11 (f := .free "int") rfl)) (.cons (He.free_ok X G (c.fact 16 (f := .free "min") rfl)) .nil))))))))) (fun _ _ _ _ _ _ us hl => match us, hl with | [_, _, _], _ => rfl)
  exact def_ok (Y := Y) (k := 43) rfl (fun _ => rfl) (fun _ _ _ _ _ h => h) (fun _ _ _ _ _ _ _ _ _ _ _ _ _ _ _ _ _ h => False.elim h) F_law s_law c_law (AllN.all (.cons (⟨He.glo_ok X G (c.fact 2 (f := .glo "_law_deck") rfl), F__law_deck.kp, g__law_deck.up (by decide)⟩) (.cons (He.free_ok X G (c.fact 17 (f := .free "range") rfl)) (.cons (⟨He.glo_ok X G (c.fact 4 (f := .glo "_law_pick") rfl), F__law_pick.kp, g__law_pick.up (by decide)⟩) (.cons (⟨He.glo_ok X G (c.fact 4 (f := .glo "_law_pick") rfl), F__law_pick.kp, g__law_pick.up (by decide)⟩) (.cons (⟨He.glo_ok X G (c.fact 3 (f := .glo "_law_take") rfl), F__law_take.kp, g__law_take.up (by decide)⟩) (.cons (⟨He.glo_ok X G (c.fact 4 (f := .glo "_law_pick") rfl), F__law_pick.kp, g__law_pick.up (by decide)⟩) (.cons (⟨He.glo_ok X G (c.fact 3 (f := .glo "_law_take") rfl), F__law_take.kp, g__law_take.up (by decide)⟩) (.cons (He.free_ok X G (c.fact 16 (f := .free "min") rfl)) (.cons (⟨He.glo_ok X G (c.fact 3 (f := .glo "_law_take") rfl), F__law_take.kp, g__law_take.up (by decide)⟩) (.cons (⟨He.glo_ok X G (c.fact 3 (f := .glo "_law_take") rfl), F__law_take.kp, g__law_take.up (by decide)⟩) (.cons (He.free_ok X G (c.fact 17 (f := .free "range") rfl)) (.cons (⟨He.glo_ok X G (c.fact 3 (f := .glo "_law_take") rfl), F__law_take.kp, g__law_take.up (by decide)⟩) (.cons (⟨He.glo_ok X G (c.fact 4 (f := .glo "_law_pick") rfl), F__law_pick.kp, g__law_pick.up (by decide)⟩) (.cons (⟨He.glo_ok X G (c.fact 3 (f := .glo "_law_take") rfl), F__law_take.kp, g__law_take.up (by decide)⟩) (.cons (⟨He.glo_ok X G (c.fact 3 (f := .glo "_law_take") rfl), F__law_take.kp, g__law_take.up (by decide)⟩) (.cons (⟨He.glo_ok X G (c.fact 4 (f := .glo "_law_pick") rfl), F__law_pick.kp, g__law_pick.up (by decide)⟩) (.cons (⟨He.glo_ok X G (c.fact 7 (f := .glo "_law_charges") rfl), F__law_charges.kp, g__law_charges.up (by decide)⟩) (.cons (⟨He.glo_ok X G (c.fact 6 (f := .glo "_law_same") rfl), F__law_same.kp, g__law_same.up (by decide)⟩) (.cons (⟨He.glo_ok X G (c.fact 1 (f := .glo "charge_after") rfl), F_charge_after.kp, g_charge_after.up (by decide)⟩) (.cons (He.free_ok X G (c.fact 14 (f := .free "list") rfl)) (.cons (⟨He.glo_ok X G (c.fact 3 (f := .glo "_law_take") rfl), F__law_take.kp, g__law_take.up (by decide)⟩) (.cons (He.free_ok X G (c.fact 11 (f := .free "int") rfl)) (.cons (⟨He.glo_ok X G (c.fact 6 (f := .glo "_law_same") rfl), F__law_same.kp, g__law_same.up (by decide)⟩) (.cons (⟨He.glo_ok X G (c.fact 1 (f := .glo "charge_after") rfl), F_charge_after.kp, g_charge_after.up (by decide)⟩) (.cons (⟨He.glo_ok X G (c.fact 3 (f := .glo "_law_take") rfl), F__law_take.kp, g__law_take.up (by decide)⟩) (.cons (He.free_ok X G (c.fact 13 (f := .free "len") rfl)) (.cons (⟨He.glo_ok X G (c.fact 7 (f := .glo "_law_charges") rfl), F__law_charges.kp, g__law_charges.up (by decide)⟩) (.cons (⟨He.glo_ok X G (c.fact 1 (f := .glo "charge_after") rfl), F_charge_after.kp, g_charge_after.up (by decide)⟩) (.cons (He.free_ok X G (c.fact 16 (f := .free "min") rfl)) (.cons (⟨He.glo_ok X G (c.fact 1 (f := .glo "charge_after") rfl), F_charge_after.kp, g_charge_after.up (by decide)⟩) .nil)))))))))))))))))))))))))))))))
end Lw

set_option maxRecDepth 100000
set_option maxHeartbeats 4000000
namespace Lw
open PySem L2 G
/-- a list of ints as data -/
abbrev dI (xs : List Int) : D := .lst (xs.map D.int)
def tkV (xs : List Int) (many : Int) : Int := match xs[xs.length - 1]? with
  | some x => x % many
  | none => 0
theorem take_ok (xs : List Int) (many : Int) (h : 0 < many) : f__law_take [.io (.lst (xs.map D.int)), .d (.int many)] = .ok (.dat (.int (tkV xs many))) [.lst (xs.dropLast.map D.int)] := by
  unfold f__law_take G.run ir__law_take N__law_take
  cases e : xs[xs.length - 1]? with
  | none =>
    have : xs = [] := by
      cases xs with
      | nil => rfl
      | cons x xs => simp at e
    subst this
    rfl
  | some x =>
    have hl : 0 < xs.length := by
      have := (List.getElem?_eq_some_iff.mp e).1
      omega
    simp [slots, hl, e, h, tkV, fin, iosOf, List.map_dropLast]
theorem tk_lt (xs : List Int) {many : Int} (h : 0 < many) : 0 ≤ tkV xs many ∧ tkV xs many < many := by
  unfold tkV
  split
  · exact ⟨Int.emod_nonneg _ (by omega), Int.emod_lt_of_pos _ h⟩
  · exact ⟨Int.le_refl _, h⟩
theorem atI_nat {α : Type} {ds : List α} {k : Int} (h0 : 0 ≤ k) (h : k < ds.length) : atI ds k = ds[k.toNat]? := by
  unfold atI ixN
  rw [if_pos h0, if_pos h]
  rfl
theorem atI_ok {ds : List D} {k : Int} (h0 : 0 ≤ k) (h : k < ds.length) : ∃ d ∈ ds, atI ds k = some d := by
  have hk : k.toNat < ds.length := by omega
  exact ⟨ds[k.toNat], List.getElem_mem _, by rw [atI_nat h0 h, List.getElem?_eq_getElem hk]⟩
def BIG : Nat := 2 ^ 1100000
theorem BIG_64 : 2 ^ 64 ≤ BIG := Nat.pow_le_pow_right (by decide) (by decide)
theorem BIG_b {n : Nat} (h : n < 2 ^ 1048576) : n < BIG := Nat.lt_of_lt_of_le h (Nat.pow_le_pow_right (by decide) (by decide))
theorem small_mul {x y : Int} (hx : x.natAbs < BIG) (hy : y.natAbs < BIG) : mulOk x y = true :=
  mulOk_of (Nat.lt_of_lt_of_le hx (Nat.pow_le_pow_right (by decide) (by decide))) (Nat.lt_of_lt_of_le hy (Nat.pow_le_pow_right (by decide) (by decide)))
theorem range_at {n i w : Nat} (h : (List.range n)[i]? = some w) : w = i ∧ i < n := by
  obtain ⟨h1, h2⟩ := List.getElem?_eq_some_iff.mp h
  rw [List.getElem_range] at h2
  rw [List.length_range] at h1
  exact ⟨h2.symm, h1⟩
theorem atI_int {xs : List Int} {k : Nat} (h : k < xs.length) : atI (xs.map D.int) (k : Int) = some (.int xs[k]) := by
  rw [atI_nat (by omega) (by rw [List.length_map]; omega)]
  simp [h]
theorem deck_wp (ns : List Int) {ci ei : Int} (c e : Nat) (eci : ci.toNat = c) (eei : ei.toNat = e) (ci0 : 0 ≤ ci) (ei0 : 0 ≤ ei) (hce : e * c ≤ 1000000) (hce1 : c ≤ 1000000) (hce2 : e ≤ 1000000) (hn : ns.length ≤ 63) (hb : ∀ z ∈ ns, z.natAbs < BIG) : (f__law_deck [.d (dI ns), .d (.int ci), .d (.int ei)]).wp fun v os => os = [] ∧ ∃ xs : List Int, v = .new (.lst (xs.map D.int)) := by
  have B := BIG_64
  have sm : ∀ {x y : Int}, x.natAbs < BIG → y.natAbs < BIG → mulOk x y = true := small_mul
  generalize BIG = Bg at *
  refine run_wp rfl ?_
  unfold ir__law_deck N__law_deck
  simp [slots]
  rw [if_pos ⟨by omega, by omega⟩]
  simp [eci]
  refine for_wp (fun k m => ∃ (seed : Int) (xs : List Int) (s5 s6 s7 s8 : Sl), m = [.dat (dI ns), .dat (.int ci), .dat (.int ei), .own 0 (.lst (xs.map D.int)), .dat (.int seed), s5, s6, s7, s8] ∧ 0 ≤ seed ∧ seed < 2147483648 ∧ xs.length = e * k ∧ k ≤ c)
    ⟨29 + ns.length, [], _, _, _, _, rfl, by omega, by omega, rfl, by omega⟩ ?_ ?_
  · rintro k d m hd ⟨seed, xs, s5, s6, s7, s8, rfl, b1, b2, b3, b4⟩
    simp at hd
    obtain ⟨w, hd, rfl⟩ := hd
    obtain ⟨rfl, hk⟩ := range_at hd
    have hz : e * w + e ≤ 1000000 := Nat.le_trans (by rw [← Nat.mul_succ]; exact Nat.mul_le_mul_left e hk) hce
    simp
    refine R.wp_imp (Q := fun v m => ∃ cell : Int, cell.natAbs < Bg ∧ v = .dat (.int cell) ∧ m = [.dat (dI ns), .dat (.int ci), .dat (.int ei), .own 0 (.lst (xs.map D.int)), .dat (.int seed), .dat (.int w), s6, s7, s8]) ?_ ?_
    · split
      · rename_i h
        simp [atI_int h]
        exact hb _ (List.getElem_mem _)
      · simp
        omega
    · rintro v m ⟨cell, hc, rfl, rfl⟩
      simp
      rw [if_pos (sm (by split <;> omega) (by split <;> omega))]
      simp
      generalize ((if cell < 0 then -cell else cell) * if 1000000000000000000 ≤ if cell < 0 then -cell else cell then 1 else 0) = rest
      rw [if_pos (sm (by omega) (by omega))]
      simp
      rw [if_pos (sm (by omega) (by omega))]
      simp
      rw [if_pos ⟨by omega, by omega⟩]
      simp [eei]
      generalize hew : e * w = ew at *
      refine for_wp (fun j m => ∃ (seed rest : Int) (ys : List Int) (s8 : Sl), m = [.dat (dI ns), .dat (.int ci), .dat (.int ei), .own 0 (.lst (ys.map D.int)), .dat (.int seed), .dat (.int w), .dat (.int cell), .dat (.int rest), s8] ∧ 0 ≤ seed ∧ seed < 2147483648 ∧ ys.length = ew + j ∧ j ≤ e)
        ⟨_, rest, xs, s8, rfl, by omega, by omega, b3, by omega⟩ ?_ ?_
      · rintro j d m hd ⟨seed, rest, ys, s8, rfl, c1, c2, c3, c4⟩
        simp at hd
        obtain ⟨v, hd, rfl⟩ := hd
        obtain ⟨rfl, hj⟩ := range_at hd
        simp
        rw [if_pos (sm (by omega) (by omega))]
        simp
        rw [if_pos (by decide)]
        simp [sizeLine]
        refine R.wp_imp (Q := fun v2 m => ∃ x : Int, v2 = .dat (.int x) ∧ m = [.dat (dI ns), .dat (.int ci), .dat (.int ei), .own 0 (.lst (ys.map D.int)), .dat (.int ((seed * 69621 + v + 1) % 2147483629)), .dat (.int w), .dat (.int cell), .dat (.int rest), .dat (.int v)]) ?_ ?_
        · by_cases hr : 0 < rest
          · simp [hr, atI, ixN]
          · simp [hr, atI, ixN]
        · rintro v2 m ⟨x, rfl, rfl⟩
          simp
          rw [if_pos (by unfold sizeLine; omega)]
          simp
          rw [if_pos (by decide)]
          simp
          exact ⟨_, _, ys ++ [x % 1000003], ⟨by simp, rfl, rfl⟩, by omega, by omega, by rw [List.length_append, c3]; rfl, by omega⟩
      · rintro m ⟨seed, rest, ys, s8, rfl, c1, c2, c3, c4⟩
        simp at c3
        simp
        exact ⟨seed, ys, ⟨rfl, rfl⟩, c1, c2, by rw [Nat.mul_succ]; omega, by omega⟩
  · rintro m ⟨seed, xs, s5, s6, s7, s8, rfl, b1, b2, b3, b4⟩
    simp [fin, iosOf]
    exact ⟨xs.reverse, by simp⟩
theorem take_wp (xs : List Int) {many : Int} (h : 0 < many) : (f__law_take [.io (.lst (xs.map D.int)), .d (.int many)]).wp fun v os => ∃ (k : Int) (ys : List Int), 0 ≤ k ∧ k < many ∧ v = .dat (.int k) ∧ os = [.lst (ys.map D.int)] := by
  rw [take_ok xs many h]
  exact ⟨_, _, (tk_lt xs h).1, (tk_lt xs h).2, rfl, rfl⟩
theorem pick_wp (xs : List Int) (ds : List D) (h : 0 < ds.length) : (f__law_pick [.io (.lst (xs.map D.int)), .d (.lst ds)]).wp fun v os => ∃ d ∈ ds, ∃ ys : List Int, v = .dat d ∧ os = [.lst (ys.map D.int)] := by
  refine run_wp rfl ?_
  unfold ir__law_pick N__law_pick
  simp [slots]
  refine call_wp rfl rfl (take_wp xs (many := ds.length) (by omega)) ?_
  rintro v os ⟨k, ys, k0, k1, rfl, rfl⟩
  refine ⟨fun _ e => (nomatch e), rfl, ?_⟩
  obtain ⟨d, hd, e⟩ := atI_ok k0 k1
  simp [owns, putIos, e, fin, iosOf]
  exact ⟨d, hd, rfl, ys, rfl⟩
end Lw

set_option maxRecDepth 100000
set_option maxHeartbeats 4000000
namespace Lw
open PySem L2 G
mutual
def plT : D → D
  | .non => .str "None"
  | .bl b => .str (if b = true then "True" else "False")
  | .int i => .lst [.bl false, .int i]
  | .str s => .lst [.bl true, .str s]
  | .tup xs => .lst (.bl false :: plTs xs)
  | .lst xs => .lst (.bl true :: plTs xs)
  | .ins _ _ _ => .non
  | .fn _ => .non
def plTs : List D → List D
  | [] => []
  | x :: xs => plT x :: plTs xs
end
mutual
/-- data of at most this depth, its lists not too long -/
def okP : Nat → D → Bool
  | 0, _ => false
  | _ + 1, .non => true
  | _ + 1, .bl _ => true
  | _ + 1, .int _ => true
  | _ + 1, .str s => PyData.strOk s
  | n + 1, .tup xs => decide (xs.length < 1000000) && okPs n xs
  | n + 1, .lst xs => decide (xs.length < 1000000) && okPs n xs
  | _ + 1, .ins _ _ _ => false
  | _ + 1, .fn _ => false
def okPs : Nat → List D → Bool
  | _, [] => true
  | n, x :: xs => okP n x && okPs n xs
end
def PlOk (φ : Fn) (d : D) : Prop := ∃ v, φ [.d d] = .ok v [] ∧ (v = .dat (plT d) ∨ ∃ o, v = .new o ∧ o.d = plT d)
theorem plTs_len : ∀ xs : List D, (plTs xs).length = xs.length
  | [] => rfl
  | _ :: xs => congrArg Nat.succ (plTs_len xs)
/-- a comprehension that maps -/
theorem lc_map {a : D → Mem → Option Mem} {w : Mem → Mem} {t : Mem → G.R Bool} {e : Mem → G.R Val} {m0 : Mem} (g : D → D) : ∀ (ds : List D) (k : Nat), k + ds.length ≤ sizeLine → (∀ d ∈ ds, ∃ (m1 m3 : Mem) (v : Val), a d m0 = some m1 ∧ t m1 = .ok true m1 ∧ e m1 = .ok v m3 ∧ (v = .dat (g d) ∨ ∃ o : O, v = .new o ∧ o.d = g d) ∧ w m3 = m0) →
    lcD a w t e k ds m0 = .ok (ds.map g) m0
  | [], k, _, _ => rfl
  | d :: ds, k, hk, h => by
    obtain ⟨m1, m3, v, e1, e2, e3, hv, e4⟩ := h d List.mem_cons_self
    have ih := lc_map g ds (k + 1) (by rw [List.length_cons] at hk; omega) fun d hd => h d (List.mem_cons_of_mem _ hd)
    have hz : k < sizeLine := by rw [List.length_cons] at hk; omega
    unfold lcD
    rw [e1]
    dsimp only
    rw [e2]
    dsimp only
    rw [e3]
    rcases hv with rfl | ⟨o, rfl, ho⟩
    · dsimp only
      rw [if_pos hz, e4, ih]
      rfl
    · dsimp only
      rw [if_pos hz, e4, ih, ho]
      rfl
theorem plTs_map : ∀ xs : List D, plTs xs = xs.map plT
  | [] => rfl
  | x :: xs => congrArg (plT x :: ·) (plTs_map xs)
theorem okPs_mem {n : Nat} : ∀ {xs : List D}, okPs n xs = true → ∀ d ∈ xs, okP n d = true
  | x :: xs, h, d, hd => by
    obtain ⟨h1, h2⟩ := Bool.and_eq_true_iff.mp (show (okP n x && okPs n xs) = true from h)
    rcases List.mem_cons.mp hd with e | hd
    · rw [e]; exact h1
    · exact okPs_mem h2 d hd
theorem call1 {φ : Fn} {x d : D} {v : Val} (e : φ [.d d] = .ok v []) (hv : v = .dat (plT d) ∨ ∃ o, v = .new o ∧ o.d = plT d) : ev (.call 5 φ [.var 1]) [.dat x, .dat d] = .ok v [.dat x, .dat d] := by
  have e1 : ev (.call 5 φ [.var 1]) [.dat x, .dat d] = callR φ [.dat d] [.dat x, .dat d] := by simp
  rw [e1]
  unfold callR
  have e2 : argsOf [.dat x, .dat d] [.dat d] = some [.d d] := rfl
  rw [e2]
  dsimp only
  rw [if_pos (show nodupB (owns [Val.dat d]) = true from rfl), e]
  rcases hv with rfl | ⟨o, rfl, _⟩ <;> rfl
theorem sz1 : 1 ≤ sizeLine := by decide
theorem plain_lc {φ : Fn} {x : D} {ds : List D} (hl : ds.length < 1000000) (h : ∀ d ∈ ds, PlOk φ d) : lcD (asg (.one 1)) (fun m => List.set m 1 Sl.un) yesT (ev (.call 5 φ [.var 1])) 0 ds [.dat x, .un] = .ok (plTs ds) [.dat x, .un] := by
  rw [plTs_map]
  refine lc_map plT ds 0 (by unfold sizeLine; omega) fun d hd => ?_
  obtain ⟨v, e, hv⟩ := h d hd
  exact ⟨_, _, v, rfl, rfl, call1 e hv, hv, rfl⟩
theorem plain_ok : ∀ (n : Nat) (d : D), okP n d = true → PlOk (f__law_plain n) d
  | 0, d, h => by cases d <;> exact nomatch (show false = true from h)
  | n + 1, d, h => by
    unfold f__law_plain G.run ir__law_plain N__law_plain
    cases d with
    | non => exact ⟨_, rfl, .inl rfl⟩
    | bl b => cases b <;> exact ⟨_, rfl, .inl rfl⟩
    | int i => exact ⟨_, rfl, .inr ⟨_, rfl, rfl⟩⟩
    | str s => exact ⟨_, rfl, .inr ⟨_, rfl, rfl⟩⟩
    | fn f => exact nomatch (show false = true from h)
    | ins c ns ds => exact nomatch (show false = true from h)
    | tup xs =>
      obtain ⟨h1, h2⟩ := Bool.and_eq_true_iff.mp (show (decide (xs.length < 1000000) && okPs n xs) = true from h)
      have hl := of_decide_eq_true h1
      have L := plain_lc (x := .tup xs) hl fun d hd => plain_ok n d (okPs_mem h2 d hd)
      refine ⟨.new (.lst (.bl false :: plTs xs)), ?_, .inr ⟨_, rfl, rfl⟩⟩
      simp [slots, isiD, tyOf, subTy, lcF, isNop, noOwn, wipeM, backM, L, plTs_len, sz1]
      rw [if_pos (by unfold sizeLine; omega)]
      simp [fin, iosOf]
    | lst xs =>
      obtain ⟨h1, h2⟩ := Bool.and_eq_true_iff.mp (show (decide (xs.length < 1000000) && okPs n xs) = true from h)
      have hl := of_decide_eq_true h1
      have L := plain_lc (x := .lst xs) hl fun d hd => plain_ok n d (okPs_mem h2 d hd)
      refine ⟨.new (.lst (.bl true :: plTs xs)), ?_, .inr ⟨_, rfl, rfl⟩⟩
      simp [slots, isiD, tyOf, subTy, lcF, isNop, noOwn, wipeM, backM, L, plTs_len, sz1]
      rw [if_pos (by unfold sizeLine; omega)]
      simp [fin, iosOf]
mutual
theorem plT_lay : ∀ (n : Nat) (d : D), okP n d = true → (plT d).py.canLay0 = true ∧ (plT d).py.depth ≤ n + 1
  | 0, d, h => by cases d <;> exact nomatch (show false = true from h)
  | n + 1, .non, _ => ⟨by decide +kernel, by simp [plT, D.py, PyData.depth]⟩
  | n + 1, .bl b, _ => by cases b <;> exact ⟨by decide +kernel, by simp [plT, D.py, PyData.depth]⟩
  | n + 1, .int i, _ => ⟨by simp [plT, D.py, pyL, PyData.canLay0, PyData.canLayAll0], by simp [plT, D.py, pyL, PyData.depth, PyData.depthAll]⟩
  | n + 1, .str s, h => ⟨by have h : PyData.strOk s = true := h; simp [plT, D.py, pyL, PyData.canLay0, PyData.canLayAll0, h], by simp [plT, D.py, pyL, PyData.depth, PyData.depthAll]⟩
  | n + 1, .tup xs, h => by
    obtain ⟨h1, h2⟩ := Bool.and_eq_true_iff.mp (show (decide (xs.length < 1000000) && okPs n xs) = true from h)
    obtain ⟨a, b⟩ := plTs_lay n xs h2
    exact ⟨by simp [plT, D.py, pyL, PyData.canLay0, PyData.canLayAll0, a], by simp [plT, D.py, pyL, PyData.depth, PyData.depthAll]; omega⟩
  | n + 1, .lst xs, h => by
    obtain ⟨h1, h2⟩ := Bool.and_eq_true_iff.mp (show (decide (xs.length < 1000000) && okPs n xs) = true from h)
    obtain ⟨a, b⟩ := plTs_lay n xs h2
    exact ⟨by simp [plT, D.py, pyL, PyData.canLay0, PyData.canLayAll0, a], by simp [plT, D.py, pyL, PyData.depth, PyData.depthAll]; omega⟩
  | n + 1, .ins _ _ _, h => nomatch (show false = true from h)
  | n + 1, .fn _, h => nomatch (show false = true from h)
theorem plTs_lay : ∀ (n : Nat) (xs : List D), okPs n xs = true → PyData.canLayAll0 (pyL (plTs xs)) = true ∧ PyData.depthAll (pyL (plTs xs)) ≤ n + 1
  | n, [], _ => ⟨by simp [plTs, pyL, PyData.canLayAll0], by simp [plTs, pyL, PyData.depthAll]⟩
  | n, x :: xs, h => by
    obtain ⟨h1, h2⟩ := Bool.and_eq_true_iff.mp (show (okP n x && okPs n xs) = true from h)
    obtain ⟨a, b⟩ := plT_lay n x h1
    obtain ⟨a2, b2⟩ := plTs_lay n xs h2
    exact ⟨by simp [plTs, pyL, PyData.canLayAll0, a, a2], by simp [plTs, pyL, PyData.depthAll]; omega⟩
end
theorem call_pl {φ : Fn} {m : Mem} {v : Val} {d : D} (e : φ [.d d] = .ok v []) (hv : v = .dat (plT d) ∨ ∃ o, v = .new o ∧ o.d = plT d) : callR φ [.dat d] m = .ok v m := by
  unfold callR
  have e2 : argsOf m [.dat d] = some [.d d] := rfl
  rw [e2]
  dsimp only
  rw [if_pos (show nodupB (owns [Val.dat d]) = true from rfl), e]
  rcases hv with rfl | ⟨o, rfl, _⟩ <;> rfl
theorem rd_pl {m : Mem} {v : Val} {d : D} (hv : v = .dat (plT d) ∨ ∃ o, v = .new o ∧ o.d = plT d) : rd v m = some (plT d) := by
  rcases hv with rfl | ⟨o, rfl, h⟩
  · rfl
  · rw [← h]; rfl
theorem eqD_pl {d : D} (h : okP 40 d = true) : eqD (plT d) (plT d) = some true := by
  obtain ⟨a, b⟩ := plT_lay 40 d h
  have sh : SeqAt.shaped (plT d).py = true := by unfold SeqAt.shaped; rw [a, decide_eq_true (by omega)]; rfl
  have key : (if SeqAt.shaped (plT d).py = true ∧ SeqAt.shaped (plT d).py = true then some (PyData.eqv (plT d).py (plT d).py) else none) = some true := by
    rw [if_pos ⟨sh, sh⟩, SeqAt.eqv_refl _ a]
  cases d with
  | non => exact (by decide +kernel : eqD (plT .non) (plT .non) = some true)
  | bl bb =>
    cases bb
    · exact (by decide +kernel : eqD (plT (.bl false)) (plT (.bl false)) = some true)
    · exact (by decide +kernel : eqD (plT (.bl true)) (plT (.bl true)) = some true)
  | int i => exact key
  | str s => exact key
  | tup xs => exact key
  | lst xs => exact key
  | ins _ _ _ => exact nomatch (show false = true from h)
  | fn _ => exact nomatch (show false = true from h)
theorem same_ok {d : D} (h : okP 40 d = true) : f__law_same [.d d, .d d] = .ok (.dat (.bl true)) [] := by
  obtain ⟨v, e, hv⟩ := plain_ok 40 d h
  unfold f__law_same G.run ir__law_same N__law_same
  simp [slots, call_pl e hv, rd_pl hv]
  rw [show cmpD .eq (plT d) (plT d) = some true from eqD_pl h]
  simp [fin, iosOf]
end Lw

set_option maxRecDepth 100000
set_option maxHeartbeats 4000000
namespace Lw
open PySem L2 G
abbrev batD (m u g : Int) : D := .tup [.int m, .int u, .int g]
abbrev spD (s : Int × Int × Str) : D := .tup [.int s.1, .int s.2.1, .str s.2.2]
def chg (u g : Int) (lit : Bool) : Int := if lit = true then g - u else -u
def aft (m u g : Int) (c t : Int) (lit : Bool) : Int := min m (max 0 (c + chg u g lit * t))
theorem after_ok {m u g c t : Int} {lit : Bool} (h1 : (chg u g lit).natAbs < BIG) (h2 : t.natAbs < BIG) : f_after_ticks [.d (batD m u g), .d (.int c), .d (.int t), .d (.bl lit)] = .ok (.dat (.int (aft m u g c t lit))) [] := by
  have k := small_mul h1 h2
  unfold f_after_ticks G.run ir_after_ticks N_after_ticks
  cases lit with
  | true =>
    have k : mulOk (g - u) t = true := k
    simp [slots, k, fin, iosOf, aft, chg]
  | false =>
    have k : mulOk (-u) t = true := k
    simp [slots, k, fin, iosOf, aft, chg]
abbrev Sp3 := Int × Int × Int
def ca1 (m u g : Int) (st : Sp3) (s : Int × Int × Str) : Sp3 :=
  (aft m u g st.1 (s.2.1 - s.1 + 1) (decide (s.2.2 = "lit")), aft m u g st.2.1 (s.2.1 - s.1 + 1) (!decide (s.2.2 = "dark")), min st.2.2 (aft m u g st.1 (s.2.1 - s.1 + 1) (decide (s.2.2 = "lit"))))
abbrev triD (r : Sp3) : D := .tup [.int r.1, .int r.2.1, .int r.2.2]
theorem map_at {α : Type} {f : α → D} {l : List α} {i : Nat} {d : D} (h : (l.map f)[i]? = some d) : ∃ (hi : i < l.length), d = f l[i] := by
  rw [List.getElem?_map] at h
  obtain ⟨a, h1, h2⟩ := Option.map_eq_some_iff.mp h
  obtain ⟨hi, h3⟩ := List.getElem?_eq_some_iff.mp h1
  exact ⟨hi, by rw [← h2, h3]⟩
theorem take_fold {α β : Type} (f : β → α → β) (b : β) (l : List α) {i : Nat} (h : i < l.length) : (l.take (i + 1)).foldl f b = f ((l.take i).foldl f b) l[i] := by
  rw [List.take_succ_eq_append_getElem h, List.foldl_append]
  rfl
theorem charge_wp {m u g c : Int} (sps : List (Int × Int × Str)) (hc : ∀ b, (chg u g b).natAbs < BIG) (hs : ∀ s ∈ sps, (s.2.1 - s.1 + 1).natAbs < BIG) (hz : sps.length < 1000000) :
    (f_charge_after [.d (batD m u g), .d (.int c), .d (.lst (sps.map spD))]).wp fun v os => os = [] ∧ v = .dat (triD (sps.foldl (ca1 m u g) (c, c, c))) := by
  refine run_wp rfl ?_
  unfold ir_charge_after N_charge_after
  simp [slots]
  refine for_wp (fun i mm => ∃ (s6 s7 s8 s9 : Sl) (st : Sp3), mm = [.dat (batD m u g), .dat (.int c), .dat (.lst (sps.map spD)), .dat (.int st.1), .dat (.int st.2.1), .dat (.int st.2.2), s6, s7, s8, s9] ∧ st = (sps.take i).foldl (ca1 m u g) (c, c, c))
    ⟨_, _, _, _, (c, c, c), rfl, by simp⟩ ?_ ?_
  · rintro i d mm hd ⟨s6, s7, s8, s9, st, rfl, hst⟩
    obtain ⟨hi, rfl⟩ := map_at hd
    have hb := hs _ (List.getElem_mem hi)
    have nx := take_fold (ca1 m u g) (c, c, c) sps hi
    rw [← hst] at nx
    generalize sps[i] = s at *
    obtain ⟨b, e, w⟩ := s
    simp at hb
    simp [callR, argsOf, owns, nodupB, putIos, after_ok (hc _) hb]
    rw [nx]
    exact ⟨rfl, rfl, rfl⟩
  · rintro mm ⟨s6, s7, s8, s9, st, rfl, hst⟩
    simp at hst
    simp [fin, iosOf, sizeLine, hst]
/-! tick by tick -/
def tk1 (m d x : Int) : Int := max 0 (min m (x + d))
def tkN (m d : Int) : Nat → Int → Int
  | 0, x => x
  | n + 1, x => tk1 m d (tkN m d n x)
theorem tkN_ok {m d x : Int} (h0 : 0 ≤ x) (h1 : x ≤ m) : ∀ n : Nat, tkN m d n x = min m (max 0 (x + d * n))
  | 0 => by show x = _; simp; omega
  | n + 1 => by
    show tk1 m d (tkN m d n x) = _
    rw [tkN_ok h0 h1 n]
    have e : d * ((n + 1 : Nat) : Int) = d * n + d := by rw [Int.natCast_add, Int.mul_add]; simp
    rw [e]
    unfold tk1
    have hp : 0 ≤ d → 0 ≤ d * n := fun h => Int.mul_nonneg h (by omega)
    have hn : d ≤ 0 → d * n ≤ 0 := fun h => Int.mul_nonpos_of_nonpos_of_nonneg h (by omega)
    generalize d * (n : Int) = p at *
    omega
def ch1 (m u g : Int) (st : Sp3) (s : Int × Int × Str) : Sp3 :=
  let l := tkN m (chg u g (decide (s.2.2 = "lit"))) (s.2.1 + 1 - s.1).toNat st.1
  (l, tkN m (chg u g (!decide (s.2.2 = "dark"))) (s.2.1 + 1 - s.1).toNat st.2.1, min st.2.2 l)
/-- both ways of counting agree -/
theorem ch_ca {m u g : Int} {st : Sp3} {s : Int × Int × Str} (h : s.1 ≤ s.2.1) (a0 : 0 ≤ st.1) (a1 : st.1 ≤ m) (b0 : 0 ≤ st.2.1) (b1 : st.2.1 ≤ m) : ch1 m u g st s = ca1 m u g st s := by
  have e : (((s.2.1 + 1 - s.1).toNat : Nat) : Int) = s.2.1 - s.1 + 1 := by omega
  unfold ch1 ca1
  dsimp only
  rw [tkN_ok a0 a1, tkN_ok b0 b1, e]
  rfl
theorem ca_in {m u g : Int} (hm : 0 ≤ m) {st : Sp3} {s : Int × Int × Str} : 0 ≤ (ca1 m u g st s).1 ∧ (ca1 m u g st s).1 ≤ m ∧ 0 ≤ (ca1 m u g st s).2.1 ∧ (ca1 m u g st s).2.1 ≤ m := by
  unfold ca1 aft
  dsimp only
  omega
theorem fold_ch_ca {m u g : Int} (hm : 0 ≤ m) : ∀ (sps : List (Int × Int × Str)) (st : Sp3), (∀ s ∈ sps, s.1 ≤ s.2.1) → 0 ≤ st.1 → st.1 ≤ m → 0 ≤ st.2.1 → st.2.1 ≤ m → sps.foldl (ch1 m u g) st = sps.foldl (ca1 m u g) st
  | [], st, _, _, _, _, _ => rfl
  | s :: sps, st, h, a0, a1, b0, b1 => by
    rw [List.foldl_cons, List.foldl_cons, ch_ca (h s List.mem_cons_self) a0 a1 b0 b1]
    obtain ⟨c1, c2, c3, c4⟩ := ca_in hm (u := u) (g := g) (st := st) (s := s)
    exact fold_ch_ca hm sps _ (fun s hs => h s (List.mem_cons_of_mem _ hs)) c1 c2 c3 c4
end Lw

set_option maxRecDepth 100000
set_option maxHeartbeats 4000000
namespace Lw
open PySem L2 G
theorem chg_if (u g : Int) (p : Bool) : ∀ x : Int, x - u + g * (if p = true then 1 else 0) = x + chg u g p := fun x => by
  cases p
  · simp [chg]; omega
  · simp [chg]; omega
theorem charges_wp {m u g l gr : Int} (sps : List (Int × Int × Str)) (hg : g.natAbs < BIG) (hs : ∀ s ∈ sps, s.1.natAbs < 2 ^ 61 ∧ s.2.1.natAbs < 2 ^ 61) :
    (f__law_charges [.d (batD m u g), .d (.tup [.int l, .int gr]), .d (.lst (sps.map spD))]).wp fun v os => os = [] ∧ v = .dat (triD (sps.foldl (ch1 m u g) (l, gr, l))) := by
  have B := BIG_64
  have sm : ∀ {x y : Int}, x.natAbs < BIG → y.natAbs < BIG → mulOk x y = true := small_mul
  generalize BIG = Bg at *
  refine run_wp rfl ?_
  unfold ir__law_charges N__law_charges
  simp [slots]
  refine for_wp (fun i mm => ∃ (s9 s10 s11 s12 : Sl) (st : Sp3), mm = [.dat (batD m u g), .dat (.tup [.int l, .int gr]), .dat (.lst (sps.map spD)), .dat (.int st.2.2), .dat (.int m), .dat (.int u), .dat (.int g), .dat (.int st.1), .dat (.int st.2.1), s9, s10, s11, s12] ∧ st = (sps.take i).foldl (ch1 m u g) (l, gr, l))
    ⟨_, _, _, _, (l, gr, l), rfl, by simp⟩ ?_ ?_
  · rintro i d mm hd ⟨s9, s10, s11, s12, st, rfl, hst⟩
    obtain ⟨hi, rfl⟩ := map_at hd
    obtain ⟨hb1, hb2⟩ := hs _ (List.getElem_mem hi)
    have nx := take_fold (ch1 m u g) (l, gr, l) sps hi
    rw [← hst] at nx
    generalize sps[i] = s at *
    obtain ⟨b, e, w⟩ := s
    dsimp only at hb1 hb2
    simp
    rw [if_pos ⟨by omega, by omega, by omega, by omega⟩]
    simp
    refine for_wp (fun j mm => ∃ s12 : Sl, mm = [.dat (batD m u g), .dat (.tup [.int l, .int gr]), .dat (.lst (sps.map spD)), .dat (.int st.2.2), .dat (.int m), .dat (.int u), .dat (.int g), .dat (.int (tkN m (chg u g (decide (w = "lit"))) j st.1)), .dat (.int (tkN m (chg u g (!decide (w = "dark"))) j st.2.1)), .dat (.int b), .dat (.int e), .dat (.str w), s12])
      ⟨_, rfl⟩ ?_ ?_
    · rintro j d mm hd ⟨s12, rfl⟩
      simp at hd
      obtain ⟨v, hd, rfl⟩ := hd
      simp
      rw [if_pos (sm hg (by split <;> omega))]
      simp
      rw [if_pos (sm hg (by split <;> omega))]
      simp
      refine ⟨?_, ?_⟩
      · show _ = tk1 m _ _
        unfold tk1
        rw [← chg_if]
        simp
      · show _ = tk1 m _ _
        unfold tk1
        rw [← chg_if]
        by_cases h : w = "dark" <;> simp [h]
    · rintro mm ⟨s12, rfl⟩
      simp
      rw [nx]
      exact ⟨rfl, rfl, rfl⟩
  · rintro mm ⟨s9, s10, s11, s12, st, rfl, hst⟩
    simp at hst
    simp [fin, iosOf, sizeLine, hst]
end Lw

set_option maxRecDepth 100000
set_option maxHeartbeats 4000000
namespace Lw
open PySem L2 G
/-- splitting a span does not change the three -/
theorem aft_split {m u g x a b : Int} {p : Bool} (h0 : 0 ≤ x) (h1 : x ≤ m) (ha : 0 ≤ a) (hb : 0 ≤ b) : aft m u g (aft m u g x a p) b p = aft m u g x (a + b) p := by
  unfold aft
  have e : chg u g p * (a + b) = chg u g p * a + chg u g p * b := Int.mul_add _ _ _
  rw [e]
  have p1 : 0 ≤ chg u g p → 0 ≤ chg u g p * a ∧ 0 ≤ chg u g p * b := fun h => ⟨Int.mul_nonneg h ha, Int.mul_nonneg h hb⟩
  have p2 : chg u g p ≤ 0 → chg u g p * a ≤ 0 ∧ chg u g p * b ≤ 0 := fun h => ⟨Int.mul_nonpos_of_nonpos_of_nonneg h ha, Int.mul_nonpos_of_nonpos_of_nonneg h hb⟩
  generalize chg u g p * a = y at *
  generalize chg u g p * b = z at *
  omega
theorem aft_mid {m u g x a b : Int} {p : Bool} (h0 : 0 ≤ x) (h1 : x ≤ m) (ha : 0 ≤ a) (hb : 0 ≤ b) : min x (aft m u g x (a + b) p) ≤ aft m u g x a p := by
  unfold aft
  have e : chg u g p * (a + b) = chg u g p * a + chg u g p * b := Int.mul_add _ _ _
  rw [e]
  have p1 : 0 ≤ chg u g p → 0 ≤ chg u g p * a ∧ 0 ≤ chg u g p * b := fun h => ⟨Int.mul_nonneg h ha, Int.mul_nonneg h hb⟩
  have p2 : chg u g p ≤ 0 → chg u g p * a ≤ 0 ∧ chg u g p * b ≤ 0 := fun h => ⟨Int.mul_nonpos_of_nonpos_of_nonneg h ha, Int.mul_nonpos_of_nonpos_of_nonneg h hb⟩
  generalize chg u g p * a = y at *
  generalize chg u g p * b = z at *
  omega
def InB (m : Int) (st : Sp3) : Prop := 0 ≤ st.1 ∧ st.1 ≤ m ∧ 0 ≤ st.2.1 ∧ st.2.1 ≤ m ∧ st.2.2 ≤ st.1
theorem ca_InB {m u g : Int} (hm : 0 ≤ m) {st : Sp3} {s : Int × Int × Str} : InB m (ca1 m u g st s) := by
  obtain ⟨a, b, c, d⟩ := ca_in hm (u := u) (g := g) (st := st) (s := s)
  refine ⟨a, b, c, d, ?_⟩
  unfold ca1
  dsimp only
  omega
theorem ca_split {m u g b e mid : Int} {w : Str} {st : Sp3} (h : InB m st) (h1 : b ≤ mid) (h2 : mid < e) : ca1 m u g (ca1 m u g st (b, mid, w)) (mid + 1, e, w) = ca1 m u g st (b, e, w) := by
  obtain ⟨a0, a1, b0, b1, c⟩ := h
  have k1 : ∀ p, aft m u g (aft m u g st.1 (mid - b + 1) p) (e - (mid + 1) + 1) p = aft m u g st.1 (e - b + 1) p := fun p => by
    rw [aft_split a0 a1 (by omega) (by omega)]
    congr 1
    omega
  have k2 : ∀ p, aft m u g (aft m u g st.2.1 (mid - b + 1) p) (e - (mid + 1) + 1) p = aft m u g st.2.1 (e - b + 1) p := fun p => by
    rw [aft_split b0 b1 (by omega) (by omega)]
    congr 1
    omega
  have k3 : ∀ p, min st.1 (aft m u g st.1 (e - b + 1) p) ≤ aft m u g st.1 (mid - b + 1) p := fun p => by
    have := aft_mid (u := u) (g := g) (p := p) a0 a1 (a := mid - b + 1) (b := e - (mid + 1) + 1) (by omega) (by omega)
    rw [show mid - b + 1 + (e - (mid + 1) + 1) = e - b + 1 by omega] at this
    exact this
  unfold ca1
  dsimp only
  rw [k1, k2]
  have := k3 (decide (w = "lit"))
  generalize aft m u g st.1 (e - b + 1) (decide (w = "lit")) = x at *
  generalize aft m u g st.1 (mid - b + 1) (decide (w = "lit")) = y at *
  refine Prod.ext rfl (Prod.ext rfl ?_)
  show min (min st.2.2 y) x = min st.2.2 x
  omega
theorem fold_InB {m u g : Int} (hm : 0 ≤ m) : ∀ (sps : List (Int × Int × Str)) (st : Sp3), InB m st → InB m (sps.foldl (ca1 m u g) st)
  | [], _, h => h
  | s :: sps, st, _ => fold_InB hm sps _ (ca_InB hm)
/-- the least counts by itself, the greatest too -/
theorem fold_fst {m u g : Int} : ∀ (sps : List (Int × Int × Str)) (st st' : Sp3), st.1 = st'.1 → (sps.foldl (ca1 m u g) st).1 = (sps.foldl (ca1 m u g) st').1
  | [], _, _, h => h
  | s :: sps, st, st', h => fold_fst sps _ _ (by unfold ca1; dsimp only; rw [h])
theorem fold_snd {m u g : Int} : ∀ (sps : List (Int × Int × Str)) (st st' : Sp3), st.2.1 = st'.2.1 → (sps.foldl (ca1 m u g) st).2.1 = (sps.foldl (ca1 m u g) st').2.1
  | [], _, _, h => h
  | s :: sps, st, st', h => fold_snd sps _ _ (by unfold ca1; dsimp only; rw [h])
theorem fold_low {m u g : Int} : ∀ (sps : List (Int × Int × Str)) (st st' : Sp3) (k : Int), st.1 = st'.1 → st.2.2 = min k st'.2.2 → (sps.foldl (ca1 m u g) st).2.2 = min k (sps.foldl (ca1 m u g) st').2.2
  | [], _, _, _, _, h => h
  | s :: sps, st, st', k, h, h2 => fold_low sps _ _ k (by unfold ca1; dsimp only; rw [h]) (by unfold ca1; dsimp only; rw [h, h2]; omega)
end Lw

set_option maxRecDepth 100000
set_option maxHeartbeats 4000000
namespace Lw
open PySem L2 G
theorem takeC {m : Mem} {i t : Nat} {xs : List Int} {many : Int} {Q : Val → Mem → Prop} (hm : m[i]? = some (.own t (.lst (xs.map D.int)))) (h : 0 < many) (k : ∀ (v : Int) (ys : List Int), 0 ≤ v → v < many → Q (.dat (.int v)) (m.set i (.own t (.lst (ys.map D.int))))) : (callR f__law_take [.own i, .dat (.int many)] m).wp Q := by
  refine call_wp (as := [.io (.lst (xs.map D.int)), .d (.int many)]) (by simp [argsOf, hm]) rfl (take_wp xs h) ?_
  rintro v os ⟨x, ys, h0, h1, rfl, rfl⟩
  refine ⟨fun _ e => (nomatch e), rfl, ?_⟩
  simp [owns, putIos, hm]
  exact k x ys h0 h1
theorem pickC {m : Mem} {i t : Nat} {xs : List Int} {ds : List D} {Q : Val → Mem → Prop} (hm : m[i]? = some (.own t (.lst (xs.map D.int)))) (h : 0 < ds.length) (k : ∀ d ∈ ds, ∀ ys : List Int, Q (.dat d) (m.set i (.own t (.lst (ys.map D.int))))) : (callR f__law_pick [.own i, .new (.lst ds)] m).wp Q := by
  refine call_wp (as := [.io (.lst (xs.map D.int)), .d (.lst ds)]) (by simp [argsOf, hm]) rfl (pick_wp xs ds h) ?_
  rintro v os ⟨d, hd, ys, rfl, rfl⟩
  refine ⟨fun _ e => (nomatch e), rfl, ?_⟩
  simp [owns, putIos, hm]
  exact k d hd ys
theorem chargesC {m u g l gr : Int} {sps : List (Int × Int × Str)} {mm : Mem} {Q : Val → Mem → Prop} (hg : g.natAbs < BIG) (hs : ∀ s ∈ sps, s.1.natAbs < 2 ^ 61 ∧ s.2.1.natAbs < 2 ^ 61) (k : Q (.dat (triD (sps.foldl (ch1 m u g) (l, gr, l)))) mm) :
    (callR f__law_charges [.dat (batD m u g), .dat (.tup [.int l, .int gr]), .dat (.lst (sps.map spD))] mm).wp Q := by
  refine call_wp rfl rfl (charges_wp sps hg hs) ?_
  rintro v os ⟨rfl, rfl⟩
  exact ⟨fun _ e => (nomatch e), rfl, k⟩
theorem chargesC' {m u g l gr : Int} {sps : List (Int × Int × Str)} {mm : Mem} {Q : Val → Mem → Prop} (hg : g.natAbs < BIG) (hs : ∀ s ∈ sps, s.1.natAbs < 2 ^ 61 ∧ s.2.1.natAbs < 2 ^ 61) (k : Q (.dat (triD (sps.foldl (ch1 m u g) (l, gr, l)))) mm) :
    (callR f__law_charges [.dat (batD m u g), .dat (.tup [.int l, .int gr]), .new (.lst (sps.map spD))] mm).wp Q := by
  refine call_wp rfl rfl (charges_wp sps hg hs) ?_
  rintro v os ⟨rfl, rfl⟩
  exact ⟨fun _ e => (nomatch e), rfl, k⟩
theorem chargeC {m u g c : Int} {sps : List (Int × Int × Str)} {mm : Mem} {Q : Val → Mem → Prop} (hc : ∀ b, (chg u g b).natAbs < BIG) (hs : ∀ s ∈ sps, (s.2.1 - s.1 + 1).natAbs < BIG) (hz : sps.length < 1000000) (k : Q (.dat (triD (sps.foldl (ca1 m u g) (c, c, c)))) mm) :
    (callR f_charge_after [.dat (batD m u g), .dat (.int c), .dat (.lst (sps.map spD))] mm).wp Q := by
  refine call_wp rfl rfl (charge_wp sps hc hs hz) ?_
  rintro v os ⟨rfl, rfl⟩
  exact ⟨fun _ e => (nomatch e), rfl, k⟩
theorem chargeC' {m u g c : Int} {sps : List (Int × Int × Str)} {mm : Mem} {Q : Val → Mem → Prop} (hc : ∀ b, (chg u g b).natAbs < BIG) (hs : ∀ s ∈ sps, (s.2.1 - s.1 + 1).natAbs < BIG) (hz : sps.length < 1000000) (k : Q (.dat (triD (sps.foldl (ca1 m u g) (c, c, c)))) mm) :
    (callR f_charge_after [.dat (batD m u g), .dat (.int c), .new (.lst (sps.map spD))] mm).wp Q := by
  refine call_wp rfl rfl (charge_wp sps hc hs hz) ?_
  rintro v os ⟨rfl, rfl⟩
  exact ⟨fun _ e => (nomatch e), rfl, k⟩
theorem sameC {d : D} {mm : Mem} {Q : Val → Mem → Prop} (h : okP 40 d = true) (k : Q (.dat (.bl true)) mm) : (callR f__law_same [.dat d, .dat d] mm).wp Q := by
  refine call_wp (Q0 := fun v os => os = [] ∧ v = .dat (.bl true)) rfl rfl (by rw [same_ok h]; exact ⟨rfl, rfl⟩) ?_
  rintro v os ⟨rfl, rfl⟩
  exact ⟨fun _ e => (nomatch e), rfl, k⟩
theorem law_wp (ns : List Int) (hn : ns.length ≤ 63) (hb : ∀ z ∈ ns, z.natAbs < BIG) : (f_law [.d (dI ns)]).wp fun v os => os = [] ∧ v = .dat (.bl true) := by
  have B := BIG_64
  refine run_wp rfl ?_
  unfold ir_law N_law
  simp [slots]
  refine call_wp rfl rfl (deck_wp ns (ci := 50) (ei := 14) 50 14 rfl rfl (by decide) (by decide) (by decide) (by decide) (by decide) hn hb) ?_
  rintro v os ⟨rfl, xs, rfl⟩
  refine ⟨fun _ e => (nomatch e), rfl, ?_⟩
  simp [owns, putIos]
  refine for_wp (fun i mm => ∃ (xs : List Int) (s2 s3 s4 s5 s6 s7 s8 s9 s10 s11 s12 s13 s14 s15 s16 s17 s18 : Sl), mm = [.dat (dI ns), .own 0 (.lst (xs.map D.int)), s2, s3, s4, s5, s6, s7, s8, s9, s10, s11, s12, s13, s14, s15, s16, s17, s18])
    ⟨xs, _, _, _, _, _, _, _, _, _, _, _, _, _, _, _, _, _, rfl⟩ ?_ ?_
  · rintro i d mm hd ⟨xs, s2, s3, s4, s5, s6, s7, s8, s9, s10, s11, s12, s13, s14, s15, s16, s17, s18, rfl⟩
    simp [sizeLine]
    -- most
    refine pickC rfl (Nat.succ_pos _) fun d1 hd1 ys => ?_
    obtain ⟨most, rfl, m0, m1⟩ : ∃ most : Int, d1 = .int most ∧ 0 ≤ most ∧ most ≤ 1000000000000000000 := by
      simp at hd1
      rcases hd1 with rfl | rfl | rfl | rfl <;> exact ⟨_, rfl, by decide, by decide⟩
    simp [sizeLine]
    -- battery
    refine takeC rfl (by decide) fun t1 ys a0 a1 => ?_
    simp [sizeLine]
    refine pickC rfl (Nat.succ_pos _) fun d1 hd1 ys => ?_
    obtain ⟨use, rfl, u0, u1⟩ : ∃ most : Int, d1 = .int most ∧ 0 ≤ most ∧ most ≤ 1000000000000 := by
      simp at hd1
      rcases hd1 with rfl | rfl | rfl | rfl
      · exact ⟨_, rfl, by decide, by decide⟩
      · exact ⟨_, rfl, by decide, by decide⟩
      · exact ⟨_, rfl, by decide, by decide⟩
      · exact ⟨_, rfl, a0, by omega⟩
    simp [sizeLine]
    refine takeC rfl (by decide) fun t1 ys a0 a1 => ?_
    simp [sizeLine]
    refine pickC rfl (Nat.succ_pos _) fun d1 hd1 ys => ?_
    obtain ⟨gain, rfl, g0, g1⟩ : ∃ most : Int, d1 = .int most ∧ 0 ≤ most ∧ most ≤ 1000000000000 := by
      simp at hd1
      rcases hd1 with rfl | rfl | rfl | rfl
      · exact ⟨_, rfl, by decide, by decide⟩
      · exact ⟨_, rfl, by decide, by decide⟩
      · exact ⟨_, rfl, by decide, by decide⟩
      · exact ⟨_, rfl, a0, by omega⟩
    simp [sizeLine]
    -- before
    refine takeC rfl (by decide) fun t1 ys b0 b1 => ?_
    simp [sizeLine]
    obtain ⟨bef, eb, bb0, bb1⟩ : ∃ bef : Int, min most t1 = bef ∧ 0 ≤ bef ∧ bef ≤ most := ⟨_, rfl, by omega, by omega⟩
    rw [eb]
    -- at
    refine takeC rfl (by decide) fun at0 ys c0 c1 => ?_
    simp
    refine takeC rfl (by decide) fun cnt ys e0 e1 => ?_
    simp
    rw [if_pos ⟨by omega, by omega⟩]
    simp
    refine for_wp (fun j mm => ∃ (xs : List Int) (sps : List (Int × Int × Str)) (at1 : Int) (s8 s9 s10 s11 s12 s13 s14 s15 s16 s17 s18 : Sl), mm = [.dat (dI ns), .own 0 (.lst (xs.map D.int)), .dat d, .dat (.int most), .dat (batD most use gain), .dat (.int bef), .own 0 (.lst (sps.map spD)), .dat (.int at1), s8, s9, s10, s11, s12, s13, s14, s15, s16, s17, s18] ∧
        (∀ s ∈ sps, 0 ≤ s.1 ∧ s.1 ≤ s.2.1 ∧ s.2.1 ≤ 10000) ∧ sps.length = j ∧ 0 ≤ at1 ∧ at1 ≤ 10 + 301 * (j : Int))
      ⟨_, [], at0, _, _, _, _, _, _, _, _, _, _, _, rfl, by simp, rfl, c0, by omega⟩ ?_ ?_
    · rintro j dj mm hj ⟨xs, sps, at1, s8, s9, s10, s11, s12, s13, s14, s15, s16, s17, s18, rfl, hs, hl, q0, q1⟩
      simp at hj
      obtain ⟨jv, hj, rfl⟩ := hj
      obtain ⟨rfl, hj⟩ := range_at hj
      simp [sizeLine]
      refine takeC rfl (by decide) fun w1 ys w10 w11 => ?_
      simp [sizeLine]
      refine takeC rfl (by decide) fun w2 ys w20 w21 => ?_
      simp [sizeLine]
      refine pickC rfl (Nat.succ_pos _) fun d1 hd1 ys => ?_
      obtain ⟨len, rfl, l0, l1⟩ : ∃ len : Int, d1 = .int len ∧ 0 ≤ len ∧ len ≤ 299 := by
        simp at hd1
        rcases hd1 with rfl | rfl | rfl | rfl
        · exact ⟨_, rfl, by decide, by decide⟩
        · exact ⟨_, rfl, by decide, by decide⟩
        · exact ⟨_, rfl, w10, by omega⟩
        · exact ⟨_, rfl, w20, by omega⟩
      simp [sizeLine]
      refine pickC rfl (Nat.succ_pos _) fun d1 hd1 ys => ?_
      obtain ⟨word, rfl⟩ : ∃ word : Str, d1 = .str word := by
        simp at hd1
        rcases hd1 with rfl | rfl | rfl <;> exact ⟨_, rfl⟩
      simp [sizeLine]
      rw [if_pos (by omega)]
      simp
      refine ⟨ys, sps ++ [(at1, at1 + len, word)], _, ⟨rfl, by simp, rfl⟩, ?_, by rw [List.length_append, hl]; rfl, by omega, by omega⟩
      intro a a1 b hm
      rcases List.mem_append.mp hm with hm | hm
      · exact hs _ hm
      · simp at hm
        obtain ⟨rfl, rfl, rfl⟩ := hm
        omega
    · rintro mm ⟨xs, sps, at1, s8, s9, s10, s11, s12, s13, s14, s15, s16, s17, s18, rfl, hs, hl, q0, q1⟩
      simp at hl q1
      have hlen : sps.length < 9 := by omega
      have hsb : ∀ s ∈ sps, s.1.natAbs < 2 ^ 61 ∧ s.2.1.natAbs < 2 ^ 61 := fun s h => by have := hs s h; omega
      have hB : gain.natAbs < BIG := by omega
      have hcg : ∀ b, (chg use gain b).natAbs < BIG := fun b => by unfold chg; split <;> omega
      have hst : ∀ s ∈ sps, (s.2.1 - s.1 + 1).natAbs < BIG := fun s h => by have := hs s h; omega
      simp [sizeLine]
      refine chargesC hB hsb ?_
      simp
      rw [fold_ch_ca m0 sps _ (fun s h => (hs s h).2.1) bb0 bb1 bb0 bb1]
      generalize hdue : sps.foldl (ca1 most use gain) (bef, bef, bef) = due
      refine chargeC' hcg hst (by omega) ?_
      simp
      rw [hdue]
      refine sameC (by rfl) ?_
      simp
      have i0 : InB most (bef, bef, bef) := ⟨bb0, bb1, bb0, bb1, Int.le_refl _⟩
      refine for_wp (fun j mm => ∃ (xs : List Int) (fl : List (Int × Int × Str)) (s11 s12 s13 s14 s15 s16 s17 s18 : Sl), mm = [.dat (dI ns), .own 0 (.lst (xs.map D.int)), .dat d, .dat (.int most), .dat (batD most use gain), .dat (.int bef), .dat (.lst (sps.map spD)), .dat (.int at1), s8, .dat (triD due), .dat (.lst (fl.map spD)), s11, s12, s13, s14, s15, s16, s17, s18] ∧
          fl.foldl (ca1 most use gain) (bef, bef, bef) = (sps.take j).foldl (ca1 most use gain) (bef, bef, bef) ∧ (∀ s ∈ fl, 0 ≤ s.1 ∧ s.1 ≤ s.2.1 ∧ s.2.1 ≤ 10000) ∧ fl.length ≤ 2 * j)
        ⟨_, [], _, _, _, _, _, _, _, _, rfl, by simp, by simp, by simp⟩ ?_ ?_
      · rintro j dj mm hj ⟨xs, fl, s11, s12, s13, s14, s15, s16, s17, s18, rfl, hf, hfl, hll⟩
        obtain ⟨hi, rfl⟩ := map_at hj
        have hsj := hs _ (List.getElem_mem hi)
        have nx := take_fold (ca1 most use gain) (bef, bef, bef) sps hi
        rw [← hf] at nx
        generalize sps[j] = s at *
        obtain ⟨b, e, w⟩ := s
        dsimp only at hsj
        obtain ⟨p0, p1, p2⟩ := hsj
        have iB := fold_InB (u := use) (g := gain) m0 fl _ i0
        simp
        refine takeC rfl (by omega) fun t ys t0 t1 => ?_
        obtain ⟨mid, em, q2, q3⟩ : ∃ mid : Int, b + t = mid ∧ b ≤ mid ∧ mid ≤ e := ⟨_, rfl, by omega, by omega⟩
        have hj9 : j < 9 := by omega
        simp [em, sizeLine]
        rw [if_pos (by omega)]
        simp [sizeLine]
        by_cases hme : mid < e
        · have nx2 := ca_split (u := use) (g := gain) (w := w) iB q2 hme
          simp [hme]
          rw [if_pos (by unfold sizeLine; omega)]
          simp
          refine ⟨ys, fl ++ [(b, mid, w), (mid + 1, e, w)], ⟨rfl, by simp⟩, ?_, fun a a1 b' hm => ?_, by rw [List.length_append]; simp; omega⟩
          · rw [List.foldl_append]
            show ca1 most use gain (ca1 most use gain _ (b, mid, w)) (mid + 1, e, w) = _
            rw [nx2, nx]
          · rcases List.mem_append.mp hm with hm | hm
            · exact hfl _ hm
            · simp at hm
              rcases hm with ⟨rfl, rfl, rfl⟩ | ⟨rfl, rfl, rfl⟩ <;> omega
        · have : mid = e := by omega
          subst this
          simp
          rw [if_pos (by unfold sizeLine; omega)]
          simp
          refine ⟨ys, fl ++ [(b, mid, w)], ⟨rfl, by simp⟩, ?_, fun a a1 b' hm => ?_, by rw [List.length_append]; simp; omega⟩
          · rw [List.foldl_append]
            show ca1 most use gain _ (b, mid, w) = _
            rw [nx]
          · rcases List.mem_append.mp hm with hm | hm
            · exact hfl _ hm
            · simp at hm
              obtain ⟨rfl, rfl, rfl⟩ := hm
              omega
      · rintro mm ⟨xs, fl, s11, s12, s13, s14, s15, s16, s17, s18, rfl, hf, hfl, hll⟩
        simp at hf hll
        have hflB : ∀ s ∈ fl, (s.2.1 - s.1 + 1).natAbs < BIG := fun s h => by have := hfl s h; omega
        simp
        refine chargeC hcg hflB (by omega) ?_
        simp
        rw [hf, hdue]
        refine sameC (by rfl) ?_
        simp
        refine takeC rfl (by omega) fun cut ys k0 k1 => ?_
        simp [slcF, partF, isNop, slcD]
        have ct : cutD (sps.map spD) none (some cut) = (sps.take cut.toNat).map spD := by
          unfold cutD HT.sIx
          dsimp only
          rw [if_neg (by omega), List.drop_zero, List.map_take, List.length_map, Nat.sub_zero, Nat.min_eq_left (by omega)]
        have cd : cutD (sps.map spD) (some cut) none = (sps.drop cut.toNat).map spD := by
          unfold cutD HT.sIx
          dsimp only
          rw [if_neg (by omega), List.map_drop, List.length_map, Nat.min_eq_left (by omega)]
          exact List.take_of_length_le (by simp)
        have htk : ∀ s ∈ sps.take cut.toNat, 0 ≤ s.1 ∧ s.1 ≤ s.2.1 ∧ s.2.1 ≤ 10000 := fun s h => hs s (List.mem_of_mem_take h)
        have hdr : ∀ s ∈ sps.drop cut.toNat, (s.2.1 - s.1 + 1).natAbs < BIG := fun s h => hst s (List.mem_of_mem_drop h)
        rw [ct]
        refine chargesC' hB (fun s h => hsb s (List.mem_of_mem_take h)) ?_
        rw [fold_ch_ca m0 _ _ (fun s h => (htk s h).2.1) bb0 bb1 bb0 bb1]
        generalize hhalf : (sps.take cut.toNat).foldl (ca1 most use gain) (bef, bef, bef) = half
        have ihalf : InB most half := by rw [← hhalf]; exact fold_InB m0 _ _ i0
        have hdue2 : (sps.drop cut.toNat).foldl (ca1 most use gain) half = due := by
          rw [← hhalf, ← List.foldl_append, List.take_append_drop]
          exact hdue
        simp [slcF, partF, isNop, slcD, atI, ixN]
        rw [cd]
        refine chargeC' hcg hdr (by rw [List.length_drop]; omega) ?_
        generalize hrest : (sps.drop cut.toNat).foldl (ca1 most use gain) (half.1, half.1, half.1) = rest
        have r1 : rest.1 = due.1 := by rw [← hrest, ← hdue2]; exact fold_fst _ _ _ rfl
        have r2 : due.2.2 = min half.2.2 rest.2.2 := by
          rw [← hrest, ← hdue2]
          exact fold_low _ _ _ _ rfl (by have := ihalf.2.2.2.2; show half.2.2 = min half.2.2 half.1; omega)
        simp [slcF, partF, isNop, slcD, atI, ixN, r1, r2]
        rw [cd]
        refine chargeC' hcg hdr (by rw [List.length_drop]; omega) ?_
        generalize hrest3 : (sps.drop cut.toNat).foldl (ca1 most use gain) (half.2.1, half.2.1, half.2.1) = rest3
        have r3 : rest3.2.1 = due.2.1 := by rw [← hrest3, ← hdue2]; exact fold_snd _ _ _ rfl
        simp [atI, ixN, r3]
        exact ⟨ys, rfl⟩
  · rintro mm ⟨xs, s2, s3, s4, s5, s6, s7, s8, s9, s10, s11, s12, s13, s14, s15, s16, s17, s18, rfl⟩
    simp [fin, iosOf]
end Lw

set_option maxRecDepth 100000
set_option maxHeartbeats 0
namespace Lw
open PySem L2 G
theorem bits_lt {z : Int} (h : Builtin.Int.intBits z ≤ 1048576) : z.natAbs < BIG := by
  by_cases e : z = 0
  · subst e
    exact Nat.lt_of_lt_of_le (by decide) BIG_64
  · unfold Builtin.Int.intBits at h
    rw [if_neg (by simpa using e)] at h
    exact BIG_b ((Nat.log2_lt (by omega)).mp (by omega))
theorem law_true (ns : List Int) (hn : ns.length ≤ 63) (hb : ∀ z ∈ ns, Builtin.Int.intBits z ≤ 1048576) : f_law [.d (.lst (ns.map D.int))] = .ok (.dat (.bl true)) [] := by
  obtain ⟨v, os, e, rfl, rfl⟩ := FR.wp_ex (law_wp ns hn fun z hz => bits_lt (hb z hz))
  exact e
end Lw
open PySem PySem.W PySem.Calls PyProof.Rows
theorem PySem.Challenge.cw_orrery_k46_whole_charges_one_span_behind_holds : PySem.Challenge.rw_orrery_k46_whole_charges_one_span_behind.Holds := by
  w_on; o_law
  refine HandSHeadRun.head_any (r := OpenLaw.row PySem.Challenge.rw_orrery_k46_whole_charges_one_span_behind) (q := view (OpenLaw.row PySem.Challenge.rw_orrery_k46_whole_charges_one_span_behind).prog [10]) (H := Lw.hk) (ob := Lw.ob) (M := 2000)
    (loose := ["after_ticks", "charge_after", "_law_deck", "_law_take", "_law_pick", "_law_plain", "_law_same", "_law_charges"]) (d := HandSHeadRun.topDef (OpenLaw.row PySem.Challenge.rw_orrery_k46_whole_charges_one_span_behind).prog 10) (kwd := []) Lw.ob_eq
    (by kernel_rfl) (fun s => by kernel_rfl) Lw.run_ok (by kernel_rfl) (by kernel_rfl) (by kernel_rfl) (by rfl) (by first | assumption | decide +kernel) (by decide +kernel) ⟨rfl, rfl, rfl, rfl, rfl, by decide +kernel⟩ ?hw ?hc
  case hw => w_witness2
  case hc =>
    refine G.walk_G (l := PySem.Challenge.rw_orrery_k46_whole_charges_one_span_behind) (n := 63) (k := 44) (x := "script") (CX := L2.CX0) rfl (by decide) (by kernel_rfl) ⟨rfl, by decide, by decide⟩ ?F (fun _ _ _ _ z => z)
    intro w mg fa h Y G hmg0
    obtain ⟨K, KX, c⟩ := Y
    have hmg : mg ("law" : PySem.Str) = some (.ref fa) := by
      have e : (HandSHeadRun.topDef (OpenLaw.row PySem.Challenge.rw_orrery_k46_whole_charges_one_span_behind).prog 10).name = ("law" : PySem.Str) := by kernel_rfl
      rw [← e]
      exact hmg0
    obtain ⟨fd, hb, hF⟩ := Lw.facts (w := w) KX G hmg c
    exact ⟨Lw.Cf K, fd, Lw.f_law, KX, hb, fun ns hl hbits => Lw.law_true ns hl hbits, fun base _ _ => hF base⟩

