import PyProof.Rows.All
import Wide.All
import OpenK.AllK
import Wide.FinOn
import HandS.ForMost
import HandS.IsInst
import HandS.TupLe
import HandS.TupAny
import HandS.Flow
import HandS.Deep
import HandS.Wide
import KE.SortData
import PySem.Challenge.RW_stratakv_k00_three_intervals_by_their_ke
import KE.DataMinMax
import HandS.Conv
set_option Elab.async false
set_option linter.all false
set_option maxRecDepth 100000
set_option maxHeartbeats 4000000
/-! DL1: data, ownership, the relations -/
namespace DL
open PySem PySem.Spec PyProof.Rows L2

abbrev D := PyData
inductive SV where
  | val (d : D)
  | own (t : Option Nat) (c : D)
abbrev DSt := List (Option SV)
def SV.frz : SV → D
  | .val d => d
  | .own _ c => c
@[simp] theorem frz_val (d : D) : (SV.val d).frz = d := rfl
@[simp] theorem frz_own (t : Option Nat) (c : D) : (SV.own t c).frz = c := rfl

abbrev Fg := PySem.W.Frag

theorem SqT.mono {K : Fg} {F H : Hp} {a : Addr} {xs : List V} (e : Same F H) (h : SqT K F a xs) : SqT K H a xs := by
  rcases h with (h | ⟨o, h⟩) | h
  · exact .inl (.inl (e _ _ h))
  · exact .inl (.inr ⟨o, e _ _ h⟩)
  · exact .inr h
theorem Rd.mono {F H : Hp} {a : Addr} {o : HO} (e : Same F H) (h : Rd F a o) : Rd H a o := by
  rcases h with h | ⟨ob, h⟩
  · exact .inl (e _ _ h)
  · exact .inr ⟨ob, e _ _ h⟩
/-- a text of signs, not too long -/
def okS (x : Str) : Prop := PyData.strOk x = true ∧ x.length ≤ 16777216
def okK : Key → Prop
  | .inl _ => True
  | .inr x => okS x
/-- a key as data -/
def keyD : Key → D
  | .inl i => .int i
  | .inr x => .str x
mutual
/-- the value v reads as the data d, over frozen objects -/
inductive Rp (K : Fg) (F : Hp) : V → D → Prop
  | non : Rp K F .non .none
  | bl (b : Bool) : Rp K F (.bl b) (.bool b)
  | int (i : Int) : Rp K F (.int i) (.int i)
  | str {x : Str} (h : okS x) : Rp K F (.str x) (.str x)
  | tup {a : Addr} {xs : List V} {ds : List D} : SqT K F a xs → RpAll K F xs ds → Rp K F (.ref a) (.tuple ds)
  | obj {a : Addr} {o : HO} {d : D} : Rd F a o → ORp K F o d → Rp K F (.ref a) d
  | kl {a : Addr} {xs : List V} {ds : List D} : SqL K F a xs → RpAll K F xs ds → Rp K F (.ref a) (.list ds)
/-- the object o holds the data d: a list, a dict -/
inductive ORp (K : Fg) (F : Hp) : HO → D → Prop
  | lst {xs : List V} {ds : List D} : RpAll K F xs ds → ORp K F (.lst xs) (.list ds)
  | dK {kvs : List (Key × V)} {es : List (D × D)} : RpKv K F kvs es → ORp K F (.dK kvs) (.dict es)
  | dT {kvs : List (List Key × V)} {es : List (D × D)} : RpKt K F kvs es → ORp K F (.dT kvs) (.dict es)
inductive RpAll (K : Fg) (F : Hp) : List V → List D → Prop
  | nil : RpAll K F [] []
  | cons {v : V} {vs : List V} {d : D} {ds : List D} : Rp K F v d → RpAll K F vs ds → RpAll K F (v :: vs) (d :: ds)
inductive RpKv (K : Fg) (F : Hp) : List (Key × V) → List (D × D) → Prop
  | nil : RpKv K F [] []
  | cons {k : Key} {v : V} {kvs : List (Key × V)} {d : D} {es : List (D × D)} : okK k → Rp K F v d → RpKv K F kvs es → RpKv K F ((k, v) :: kvs) ((keyD k, d) :: es)
inductive RpKt (K : Fg) (F : Hp) : List (List Key × V) → List (D × D) → Prop
  | nil : RpKt K F [] []
  | cons {k : List Key} {v : V} {kvs : List (List Key × V)} {d : D} {es : List (D × D)} : (∀ x ∈ k, okK x) → Rp K F v d → RpKt K F kvs es → RpKt K F ((k, v) :: kvs) ((.tuple (k.map keyD), d) :: es)
end
mutual
theorem Rp.mono {K : Fg} {F H : Hp} (m : Same F H) : ∀ {v : V} {d : D}, Rp K F v d → Rp K H v d
  | _, _, .non => .non
  | _, _, .bl b => .bl b
  | _, _, .int b => .int b
  | _, _, .str b => .str b
  | _, _, .tup h q => .tup (SqT.mono m h) (RpAll.mono m q)
  | _, _, .obj h q => .obj (Rd.mono m h) (ORp.mono m q)
  | _, _, .kl h q => .kl (m.seq h) (RpAll.mono m q)
theorem ORp.mono {K : Fg} {F H : Hp} (m : Same F H) : ∀ {o : HO} {d : D}, ORp K F o d → ORp K H o d
  | _, _, .lst q => .lst (RpAll.mono m q)
  | _, _, .dK q => .dK (RpKv.mono m q)
  | _, _, .dT q => .dT (RpKt.mono m q)
theorem RpAll.mono {K : Fg} {F H : Hp} (m : Same F H) : ∀ {vs : List V} {ds : List D}, RpAll K F vs ds → RpAll K H vs ds
  | _, _, .nil => .nil
  | _, _, .cons h q => .cons (Rp.mono m h) (RpAll.mono m q)
theorem RpKv.mono {K : Fg} {F H : Hp} (m : Same F H) : ∀ {vs : List (Key × V)} {ds : List (D × D)}, RpKv K F vs ds → RpKv K H vs ds
  | _, _, .nil => .nil
  | _, _, .cons z h q => .cons z (Rp.mono m h) (RpKv.mono m q)
theorem RpKt.mono {K : Fg} {F H : Hp} (m : Same F H) : ∀ {vs : List (List Key × V)} {ds : List (D × D)}, RpKt K F vs ds → RpKt K H vs ds
  | _, _, .nil => .nil
  | _, _, .cons z h q => .cons z (Rp.mono m h) (RpKt.mono m q)
end
theorem RpAll.length {K : Fg} {H : Hp} : ∀ {vs : List V} {ds : List D}, RpAll K H vs ds → vs.length = ds.length
  | _, _, .nil => rfl
  | _, _, .cons h1 h2 => by simp [RpAll.length h2]
theorem RpAll.get {K : Fg} {H : Hp} : ∀ {ds : List D} {vs : List V} {i : Nat} {d : D}, RpAll K H vs ds → ds[i]? = some d → ∃ v, vs[i]? = some v ∧ Rp K H v d
  | _, _, _, _, .nil, e => by simp at e
  | _, _, 0, _, .cons h1 h2, e => by simp at e; subst e; exact ⟨_, rfl, h1⟩
  | _, _, i + 1, _, .cons h1 h2, e => by
    obtain ⟨v, a, b⟩ := RpAll.get (i := i) h2 (by simpa using e)
    exact ⟨v, by simpa using a, b⟩
theorem RpAll.getV {K : Fg} {H : Hp} : ∀ {ds : List D} {vs : List V} {i : Nat} {v : V}, RpAll K H vs ds → vs[i]? = some v → ∃ d, ds[i]? = some d ∧ Rp K H v d
  | _, _, _, _, .nil, e => by simp at e
  | _, _, 0, _, .cons h1 h2, e => by simp at e; subst e; exact ⟨_, rfl, h1⟩
  | _, _, i + 1, _, .cons h1 h2, e => by
    obtain ⟨v, a, b⟩ := RpAll.getV (i := i) h2 (by simpa using e)
    exact ⟨v, by simpa using a, b⟩
theorem RpAll.append {K : Fg} {H : Hp} : ∀ {ds es : List D} {vs ws : List V}, RpAll K H vs ds → RpAll K H ws es → RpAll K H (vs ++ ws) (ds ++ es)
  | _, _, _, _, .nil, g => g
  | _, _, _, _, .cons h1 h2, g => .cons h1 (RpAll.append h2 g)
theorem RpAll.take {K : Fg} {H : Hp} : ∀ {ds : List D} {vs : List V} (n : Nat), RpAll K H vs ds → RpAll K H (vs.take n) (ds.take n)
  | _, _, 0, _ => .nil
  | _, _, _ + 1, .nil => .nil
  | _, _, n + 1, .cons h1 h2 => .cons h1 (RpAll.take n h2)
theorem RpAll.drop {K : Fg} {H : Hp} : ∀ {ds : List D} {vs : List V} (n : Nat), RpAll K H vs ds → RpAll K H (vs.drop n) (ds.drop n)
  | _, _, 0, h => h
  | _, _, _ + 1, .nil => .nil
  | _, _, n + 1, .cons h1 h2 => RpAll.drop n h2
theorem RpAll.set {K : Fg} {H : Hp} {v : V} {d : D} (hv : Rp K H v d) : ∀ {ds : List D} {vs : List V} (n : Nat), RpAll K H vs ds → RpAll K H (vs.set n v) (ds.set n d)
  | _, _, _, .nil => .nil
  | _, _, 0, .cons h1 h2 => .cons hv h2
  | _, _, n + 1, .cons h1 h2 => .cons h1 (RpAll.set hv n h2)
theorem RpAll.one {K : Fg} {H : Hp} {v : V} {d : D} (h : Rp K H v d) : RpAll K H [v] [d] := .cons h .nil

/-- what a slot or a result holds: frozen data, or a list that no one else holds -/
def SvOk (K : Fg) (F H : Hp) (β : Nat → Option Addr) (v : V) : SV → Prop
  | .val d => Rp K F v d
  | .own t c => ∃ a o, v = .ref a ∧ F a = none ∧ H a = some o ∧ ORp K F o c ∧ ∀ j, t = some j → β j = some a
def Own (st : DSt) (σ : L2.St) (a : Addr) : Prop := ∃ (i : Nat) (t : Option Nat) (c : D), st[i]? = some (some (.own t c)) ∧ σ[i]? = some (some (.ref a))
structure StRel (K : Fg) (F H : Hp) (β : Nat → Option Addr) (st : DSt) (σ : L2.St) : Prop where
  le : Same F H
  len : st.length = σ.length
  slot : ∀ (i : Nat) (s : SV), st[i]? = some (some s) → ∃ v, σ[i]? = some (some v) ∧ SvOk K F H β v s
  ne : ∀ (i j : Nat) t xs u ys a, st[i]? = some (some (.own t xs)) → st[j]? = some (some (.own u ys)) → σ[i]? = some (some (.ref a)) → σ[j]? = some (some (.ref a)) → i = j
/-- from one heap to a later one; P: what may have been written -/
structure Stp (F H : Hp) (P : Addr → Prop) (F' H' : Hp) : Prop where
  mono : Same F F'
  keep : ∀ a o, H a = some o → F a = none → ¬ P a → H' a = some o ∧ F' a = none
/-- new objects alone -/
structure Grow (F H F' H' : Hp) : Prop where
  mono : Same F F'
  le : Same F' H'
  keep : Same H H'
  new : ∀ a, F' a ≠ none → F a ≠ none ∨ H a = none
theorem Grow.refl {F H : Hp} (l : Same F H) : Grow F H F H := ⟨Same.refl _, l, Same.refl _, fun a h => .inl h⟩
theorem Grow.stp {F H F' H' : Hp} (g : Grow F H F' H') (P : Addr → Prop) : Stp F H P F' H' :=
  ⟨g.mono, fun a o h f _ => ⟨g.keep a o h, by
    cases q : F' a with
    | none => rfl
    | some u =>
      rcases g.new a (by rw [q]; simp) with z | z
      · exact absurd f z
      · rw [h] at z; cases z⟩⟩
theorem Grow.fnone {F H F' H' : Hp} (g : Grow F H F' H') {a : Addr} {o : HO} (h : H a = some o) (f : F a = none) : F' a = none := ((g.stp fun _ => False).keep a o h f id).2
theorem Grow.trans {F H F1 H1 F2 H2 : Hp} (a : Grow F H F1 H1) (b : Grow F1 H1 F2 H2) : Grow F H F2 H2 :=
  ⟨a.mono.trans b.mono, b.le, a.keep.trans b.keep, fun p h => by
    rcases b.new p h with z | z
    · exact a.new p z
    · exact .inr (a.keep.free z)⟩
/-- a new frozen object -/
theorem Grow.laid {F H : Hp} (l : Same F H) {p : Addr} {o : HO} (hp : H p = none) : Grow F H (upd F p o) (upd H p o) := by
  have fp : F p = none := l.free hp
  refine ⟨fun b u e => ?_, fun b u e => ?_, fun b u e => ?_, fun b e => ?_⟩
  · rw [upd_ne (ne_of_none e fp)]; exact e
  · by_cases hb : b = p
    · subst hb; rw [upd_same] at e ⊢; exact e
    · rw [upd_ne hb] at e ⊢; exact l _ _ e
  · rw [upd_ne (ne_of_none e hp)]; exact e
  · by_cases hb : b = p
    · subst hb; exact .inr hp
    · rw [upd_ne hb] at e; exact .inl e

section
variable {K : Fg} {F H F' H' F1 H1 F2 H2 : Hp} {β : Nat → Option Addr} {st st1 st2 : DSt} {σ σ' : L2.St} {v : V} {a : Addr}
theorem SvOk.grow {s : SV} (h : SvOk K F H β v s) (g : Grow F H F' H') : SvOk K F' H' β v s := by
  cases s with
  | val d => exact Rp.mono g.mono h
  | own t xs =>
    obtain ⟨a, vs, e, f, hh, q, b⟩ := h
    exact ⟨a, vs, e, g.fnone hh f, g.keep _ _ hh, ORp.mono g.mono q, b⟩
theorem StRel.grow (r : StRel K F H β st σ) (g : Grow F H F' H') : StRel K F' H' β st σ :=
  ⟨g.le, r.len, fun i s e => let ⟨v, e1, q⟩ := r.slot i s e; ⟨v, e1, q.grow g⟩, r.ne⟩
theorem StRel.ownH (r : StRel K F H β st σ) (h : Own st σ a) : ∃ o, H a = some o ∧ F a = none := by
  obtain ⟨i, t, xs, e, e1⟩ := h
  obtain ⟨v, e2, b, vs, rfl, f, hh, _⟩ := r.slot i _ e
  rw [e1] at e2
  cases e2
  exact ⟨vs, hh, f⟩
theorem Stp.refl (P : Addr → Prop) : Stp F H P F H := ⟨Same.refl _, fun _ _ h f _ => ⟨h, f⟩⟩
theorem Stp.trans {P P1 : Addr → Prop} (a : Stp F H P F1 H1) (b : Stp F1 H1 P1 F2 H2) (l : ∀ a, P1 a → P a ∨ H a = none) : Stp F H P F2 H2 :=
  ⟨a.mono.trans b.mono, fun p o h f n => by
    obtain ⟨h1, f1⟩ := a.keep p o h f n
    refine b.keep p o h1 f1 fun z => ?_
    rcases l p z with q | q
    · exact n q
    · rw [h] at q; cases q⟩
theorem Stp.weak {P P1 : Addr → Prop} (a : Stp F H P F1 H1) (l : ∀ a, P a → P1 a) : Stp F H P1 F1 H1 := ⟨a.mono, fun p o h f n => a.keep p o h f fun z => n (l p z)⟩
theorem Stp.fresh {P : Addr → Prop} (a : Stp F H P F1 H1) (l : Same F1 H1) {p : Addr} (h : H1 p = none) : P p ∨ H p = none := by
  cases q : H p with
  | none => exact .inr rfl
  | some o =>
    cases q2 : F p with
    | some u =>
      have := l _ _ (a.mono _ _ q2)
      rw [h] at this; cases this
    | none =>
      by_cases hp : P p
      · exact .inl hp
      · have := (a.keep p o q q2 hp).1
        rw [h] at this; cases this
end

/-- a D result -/
structure DOk (K : Fg) (F H : Hp) (β : Nat → Option Addr) (st : DSt) (σ : L2.St) (F' H' : Hp) (st' : DSt) (v : V) (d : D) : Prop where
  rel : StRel K F' H' β st' σ
  stp : Stp F H (Own st σ) F' H'
  sub : ∀ a, Own st' σ a → Own st σ a
  res : Rp K F' v d
/-- an SV result -/
structure EOk (K : Fg) (F H : Hp) (β : Nat → Option Addr) (st : DSt) (σ : L2.St) (F' H' : Hp) (st' : DSt) (v : V) (r : SV) : Prop where
  rel : StRel K F' H' β st' σ
  stp : Stp F H (Own st σ) F' H'
  sub : ∀ a, Own st' σ a → Own st σ a
  res : SvOk K F' H' β v r
  fre : ∀ t xs a, r = .own t xs → v = .ref a → t = none ∧ ¬ Own st' σ a ∧ (Own st σ a ∨ H a = none)
/-- a list of D results -/
structure AOk (K : Fg) (F H : Hp) (β : Nat → Option Addr) (st : DSt) (σ : L2.St) (F' H' : Hp) (st' : DSt) (vs : List V) (ds : List D) : Prop where
  rel : StRel K F' H' β st' σ
  stp : Stp F H (Own st σ) F' H'
  sub : ∀ a, Own st' σ a → Own st σ a
  res : RpAll K F' vs ds
/-- a truth -/
structure BOk (K : Fg) (F H : Hp) (β : Nat → Option Addr) (st : DSt) (σ : L2.St) (F' H' : Hp) (st' : DSt) : Prop where
  rel : StRel K F' H' β st' σ
  stp : Stp F H (Own st σ) F' H'
  sub : ∀ a, Own st' σ a → Own st σ a

abbrev DF := DSt → Option (D × DSt)
abbrev DE := DSt → Option (SV × DSt)
abbrev DB := DSt → Option (Bool × DSt)
abbrev DA := DSt → Option (List D × DSt)
def tF (K : Fg) (f : DF) : TE := fun σ H Q => ∃ F β st d st', StRel K F H β st σ ∧ f st = some (d, st') ∧ ∀ F' H' v, DOk K F H β st σ F' H' st' v d → Q v H'
def tD (K : Fg) (f : DE) : TE := fun σ H Q => ∃ F β st r st', StRel K F H β st σ ∧ f st = some (r, st') ∧ ∀ F' H' v, EOk K F H β st σ F' H' st' v r → Q v H'
def tT (K : Fg) (f : DB) : TT := fun σ H Q => ∃ F β st b st', StRel K F H β st σ ∧ f st = some (b, st') ∧ ∀ F' H', BOk K F H β st σ F' H' st' → Q b H'
def tA (K : Fg) (f : DA) : TA := fun σ H Q => ∃ F β st ds st', StRel K F H β st σ ∧ f st = some (ds, st') ∧ ∀ F' H' vs, AOk K F H β st σ F' H' st' vs ds → Q vs H'

theorem PE.imp {X : Cx} {e : Expr} {t t' : TE} (h : PE X e t) (w : ∀ σ H Q, t' σ H Q → t σ H Q) : PE X e t' := ⟨fun pins s σ H Q I q => h.run pins s σ H Q I (w σ H Q q)⟩
theorem PT.imp {X : Cx} {e : Expr} {t t' : TT} (h : PT X e t) (w : ∀ σ H Q, t' σ H Q → t σ H Q) : PT X e t' := ⟨fun pins s σ H Q I q => h.run pins s σ H Q I (w σ H Q q)⟩
theorem PW.imp {X : Cx} {e : Expr} {t t' : TT} (h : PW X e t) (w : ∀ σ H Q, t' σ H Q → t σ H Q) : PW X e t' := ⟨fun wh pins s σ H Q I q => h.run wh pins s σ H Q I (w σ H Q q)⟩
theorem PA.imp {X : Cx} {e : List Expr} {t t' : TA} (h : PA X e t) (w : ∀ σ H Q, t' σ H Q → t σ H Q) : PA X e t' := ⟨fun pos pins s σ H Q I q => h.run pos pins s σ H Q I (w σ H Q q)⟩
theorem PS.imp {X : Cx} {e : Stmt} {t t' : TS} (h : PS X e t) (w : ∀ D σ H, t' D σ H → t D σ H) : PS X e t' := ⟨fun pins s σ H D I q => h.run pins s σ H D I (w D σ H q)⟩
theorem PSs.imp {X : Cx} {e : List Stmt} {t t' : TS} (h : PSs X e t) (w : ∀ D σ H, t' D σ H → t D σ H) : PSs X e t' := ⟨fun pins s σ H D I q => h.run pins s σ H D I (w D σ H q)⟩
theorem PG.imp {X : Cx} {e : Expr} {t t' : TG} (h : PG X e t) (w : ∀ v σ H Q, t' v σ H Q → t v σ H Q) : PG X e t' := ⟨fun pins s σ H v u Q I r q => h.run pins s σ H v u Q I r (w v σ H Q q)⟩
theorem PI.imp {X : Cx} {tg e : Expr} {t t' : TI} (h : PI X tg e t) (w : ∀ σ H R, t' σ H R → t σ H R) : PI X tg e t' := ⟨fun pins s σ H R I q => h.run pins s σ H R I (w σ H R q)⟩
theorem PI.or {X : Cx} {tg e : Expr} {t t' : TI} (h : PI X tg e t) (h' : PI X tg e t') : PI X tg e (fun σ H R => t σ H R ∨ t' σ H R) := ⟨fun pins s σ H R I q => q.elim (h.run pins s σ H R I) (h'.run pins s σ H R I)⟩

section
variable {K : Fg} {F H F' H' F1 H1 F2 H2 : Hp} {β : Nat → Option Addr} {st st' st1 st2 : DSt} {σ σ' : L2.St} {v w : V} {a : Addr} {d : D} {r : SV}
/-- a temporary of ours becomes frozen -/
theorem EOk.frz (e : EOk K F H β st σ F' H' st' v r) : ∃ F2, DOk K F H β st σ F2 H' st' v r.frz := by
  cases r with
  | val d => exact ⟨F', e.rel, e.stp, e.sub, e.res⟩
  | own t xs =>
    obtain ⟨a, vs, rfl, f, hh, q, b⟩ := e.res
    obtain ⟨rfl, n, w⟩ := e.fre t xs a rfl rfl
    have m : Same F' (upd F' a vs) := fun b u z => by rw [upd_ne (ne_of_none z f)]; exact z
    refine ⟨upd F' a vs, ⟨fun b u z => ?_, e.rel.len, fun i s z => ?_, e.rel.ne⟩, ⟨e.stp.mono.trans m, fun b o z1 z2 z3 => ?_⟩, e.sub, ?_⟩
    · by_cases hb : b = a
      · subst hb; rw [upd_same] at z; cases z; exact hh
      · rw [upd_ne hb] at z; exact e.rel.le _ _ z
    · obtain ⟨v, e1, q1⟩ := e.rel.slot i s z
      refine ⟨v, e1, ?_⟩
      cases s with
      | val d => exact Rp.mono m q1
      | own t2 ys =>
        obtain ⟨a2, ws, rfl, f2, h2, q2, b2⟩ := q1
        have hne : a2 ≠ a := by
          rintro rfl
          exact n ⟨i, t2, ys, z, e1⟩
        exact ⟨a2, ws, rfl, by rw [upd_ne hne]; exact f2, h2, ORp.mono m q2, b2⟩
    · obtain ⟨k1, k2⟩ := e.stp.keep b o z1 z2 z3
      refine ⟨k1, ?_⟩
      have hne : b ≠ a := by
        rintro rfl
        rcases w with w | w
        · exact z3 w
        · rw [z1] at w; cases w
      rw [upd_ne hne]; exact k2
    · exact .obj (.inl upd_same) (ORp.mono m q)
theorem DOk.toE (e : DOk K F H β st σ F' H' st' v d) : EOk K F H β st σ F' H' st' v (.val d) := ⟨e.rel, e.stp, e.sub, e.res, fun _ _ _ z => nomatch z⟩
theorem DOk.refl (r : StRel K F H β st σ) (q : Rp K F v d) : DOk K F H β st σ F H st v d := ⟨r, Stp.refl _, fun _ h => h, q⟩
theorem BOk.refl (r : StRel K F H β st σ) : BOk K F H β st σ F H st := ⟨r, Stp.refl _, fun _ h => h⟩
theorem AOk.refl (r : StRel K F H β st σ) : AOk K F H β st σ F H st [] [] := ⟨r, Stp.refl _, fun _ h => h, .nil⟩
theorem DOk.b (e : DOk K F H β st σ F' H' st' v d) : BOk K F H β st σ F' H' st' := ⟨e.rel, e.stp, e.sub⟩
theorem AOk.b {vs : List V} {ds : List D} (e : AOk K F H β st σ F' H' st' vs ds) : BOk K F H β st σ F' H' st' := ⟨e.rel, e.stp, e.sub⟩
theorem EOk.b (e : EOk K F H β st σ F' H' st' v r) : BOk K F H β st σ F' H' st' := ⟨e.rel, e.stp, e.sub⟩
theorem BOk.trans (e : BOk K F H β st σ F1 H1 st1) (e2 : BOk K F1 H1 β st1 σ F2 H2 st2) : BOk K F H β st σ F2 H2 st2 :=
  ⟨e2.rel, e.stp.trans e2.stp fun a h => .inl (e.sub a h), fun a h => e.sub a (e2.sub a h)⟩
theorem BOk.thenD (e : BOk K F H β st σ F1 H1 st1) (e2 : DOk K F1 H1 β st1 σ F2 H2 st2 v d) : DOk K F H β st σ F2 H2 st2 v d :=
  let b := e.trans e2.b; ⟨b.rel, b.stp, b.sub, e2.res⟩
theorem BOk.thenA {vs : List V} {ds : List D} (e : BOk K F H β st σ F1 H1 st1) (e2 : AOk K F1 H1 β st1 σ F2 H2 st2 vs ds) : AOk K F H β st σ F2 H2 st2 vs ds :=
  let b := e.trans e2.b; ⟨b.rel, b.stp, b.sub, e2.res⟩
theorem BOk.thenE (e : BOk K F H β st σ F1 H1 st1) (e2 : EOk K F1 H1 β st1 σ F2 H2 st2 v r) : EOk K F H β st σ F2 H2 st2 v r :=
  let b := e.trans e2.b; ⟨b.rel, b.stp, b.sub, e2.res, fun t xs a h1 h2 => by
    obtain ⟨z1, z2, z3⟩ := e2.fre t xs a h1 h2
    refine ⟨z1, z2, ?_⟩
    rcases z3 with z3 | z3
    · exact .inl (e.sub a z3)
    · exact e.stp.fresh e.rel.le z3⟩
theorem BOk.grow (e : BOk K F H β st σ F1 H1 st1) (g : Grow F1 H1 F2 H2) : BOk K F H β st σ F2 H2 st1 :=
  e.trans ⟨e.rel.grow g, g.stp _, fun _ h => h⟩
theorem BOk.toD (e : BOk K F H β st σ F1 H1 st1) (q : Rp K F1 v d) : DOk K F H β st σ F1 H1 st1 v d := ⟨e.rel, e.stp, e.sub, q⟩
theorem StRel.b (r : StRel K F H β st σ) (g : Grow F H F' H') : BOk K F H β st σ F' H' st := (BOk.refl r).grow g
end

/-! ### conversions -/
def dF (f : DE) : DF := fun st => match f st with
  | some (r, st') => some (r.frz, st')
  | none => none
def dV (f : DF) : DE := fun st => match f st with
  | some (d, st') => some (.val d, st')
  | none => none
theorem frz_pe {X : Cx} {e : Expr} {f : DE} (h : PE X e (tD X.K f)) : PE X e (tF X.K (dF f)) := PE.imp h fun σ H Q ⟨F, β, st, d, st', r, e1, q⟩ => by
  unfold dF at e1
  split at e1
  · rename_i r' st'' e2
    cases e1
    exact ⟨F, β, st, r', _, r, e2, fun F' H' v ok => let ⟨F2, z⟩ := ok.frz; q _ _ _ z⟩
  · cases e1
theorem val_pe {X : Cx} {e : Expr} {f : DF} (h : PE X e (tF X.K f)) : PE X e (tD X.K (dV f)) := PE.imp h fun σ H Q ⟨F, β, st, d, st', r, e1, q⟩ => by
  unfold dV at e1
  split at e1
  · rename_i d' st'' e2
    cases e1
    exact ⟨F, β, st, d', _, r, e2, fun F' H' v ok => q _ _ _ ok.toE⟩
  · cases e1
end DL

/-! DL2: expressions -/
namespace DL
open PySem PySem.Spec PyProof.Rows L2

theorem bind_some {α β : Type} {o : Option α} {k : α → Option β} {r : β} (h : o.bind k = some r) : ∃ p, o = some p ∧ k p = some r := by
  cases o with
  | none => cases h
  | some p => exact ⟨p, rfl, h⟩
theorem big_eq : (16777216 : Nat) = sizeLine := sizeLine_eq.symm
theorem ite_some {α : Type} {c : Prop} {_ : Decidable c} {x r : α} (h : (if c then some x else none) = some r) : c ∧ x = r := by
  by_cases hc : c
  · rw [if_pos hc] at h; exact ⟨hc, Option.some.inj h⟩
  · rw [if_neg hc] at h; cases h

section
variable {K : Fg} {F H F' H' F1 H1 F2 H2 : Hp} {β : Nat → Option Addr} {st st' st1 st2 : DSt} {σ σ' : L2.St} {v w : V} {a : Addr} {d : D} {r : SV}
/-- a slot's own list becomes frozen -/
theorem StRel.freeze {i : Nat} {c : D} (r : StRel K F H β st σ) (e : st[i]? = some (some (.own none c))) : ∃ v F2, σ[i]? = some (some v) ∧ DOk K F H β st σ F2 H (st.set i (some (.val c))) v c := by
  obtain ⟨v, e1, a, o, rfl, f, hh, q, _⟩ := r.slot i _ e
  have m : Same F (upd F a o) := fun b u z => by rw [upd_ne (ne_of_none z f)]; exact z
  have hi : i < st.length := (List.getElem?_eq_some_iff.mp e).1
  have get : ∀ (j : Nat) t c', (st.set i (some (SV.val c)))[j]? = some (some (.own t c')) → j ≠ i ∧ st[j]? = some (some (.own t c')) := fun j t c' z => by
    by_cases hj : i = j
    · subst hj; rw [List.getElem?_set_self hi] at z; cases z
    · rw [List.getElem?_set_ne hj] at z; exact ⟨Ne.symm hj, z⟩
  refine ⟨.ref a, upd F a o, e1, ⟨fun b u z => ?_, by simpa using r.len, fun j s z => ?_, fun j k t c1 u c2 b z1 z2 z3 z4 => ?_⟩, ⟨m, fun b u z1 z2 z3 => ⟨z1, ?_⟩⟩, fun b ⟨j, t, c', z, z'⟩ => ⟨j, t, c', (get j t c' z).2, z'⟩, .obj (.inl upd_same) (ORp.mono m q)⟩
  · by_cases hb : b = a
    · subst hb; rw [upd_same] at z; cases z; exact hh
    · rw [upd_ne hb] at z; exact r.le _ _ z
  · by_cases hj : i = j
    · subst hj
      rw [List.getElem?_set_self hi] at z
      cases z
      exact ⟨_, e1, .obj (.inl upd_same) (ORp.mono m q)⟩
    · rw [List.getElem?_set_ne hj] at z
      obtain ⟨v2, e2, q2⟩ := r.slot j s z
      refine ⟨v2, e2, ?_⟩
      cases s with
      | val d => exact Rp.mono m q2
      | own t2 c2 =>
        obtain ⟨a2, o2, rfl, f2, h2, q2, b2⟩ := q2
        have hne : a2 ≠ a := by
          rintro rfl
          exact hj (r.ne _ _ _ _ _ _ _ e z e1 e2)
        exact ⟨a2, o2, rfl, by rw [upd_ne hne]; exact f2, h2, ORp.mono m q2, b2⟩
  · exact r.ne _ _ _ _ _ _ _ (get j t c1 z1).2 (get k u c2 z2).2 z3 z4
  · have hne : b ≠ a := by
      rintro rfl
      exact z3 ⟨i, none, c, e, e1⟩
    rw [upd_ne hne]; exact z2
end

/-! ### names, constants -/
def dVar (i : Nat) : DF := fun st => match st[i]? with
  | some (some (.val d)) => some (d, st)
  | some (some (.own none c)) => some (c, st.set i (some (.val c)))
  | _ => none
def dC (d : D) : DF := fun st => some (d, st)
/-- a local's own thing moves out of its slot -/
def dMov (i : Nat) : DE := fun st => match st[i]? with
  | some (some (.val d)) => some (.val d, st)
  | some (some (.own none c)) => some (.own none c, st.set i none)
  | _ => none
section
variable {X : Cx} {e a b : Expr} {es : List Expr} {f g : DF} {ga : DA} {pos : Pos}
theorem pf_var (i : Nat) {x : Str} {pos : Pos} (hN : X.N[i]? = some x := by rfl) (hv : Vis X.env.scope x := by first | exact Or.inl rfl | exact Or.inr (Or.inl rfl) | exact Or.inr (Or.inr rfl)) (hd : (x == ("__debug__" : Str)) = false := by decide)
    (hcd : (x == ("__classdict__" : Str)) = false := by decide) : PE X (.Name x pos) (tF X.K (dVar i)) := PE.imp (pe_var hN hv hd hcd) fun σ H Q ⟨F, β, st, d, st', r, e1, q⟩ => by
  unfold dVar at e1
  split at e1
  · rename_i d' z
    cases e1
    obtain ⟨v, e2, q2⟩ := r.slot i _ z
    exact ⟨v, e2, q _ _ _ (DOk.refl r q2)⟩
  · rename_i c z
    cases e1
    obtain ⟨v, F2, e2, q2⟩ := r.freeze z
    exact ⟨v, e2, q _ _ _ q2⟩
  · cases e1
theorem pd_mov (i : Nat) {x : Str} {pos : Pos} (hN : X.N[i]? = some x := by rfl) (hv : Vis X.env.scope x := by first | exact Or.inl rfl | exact Or.inr (Or.inl rfl) | exact Or.inr (Or.inr rfl)) (hd : (x == ("__debug__" : Str)) = false := by decide)
    (hcd : (x == ("__classdict__" : Str)) = false := by decide) : PE X (.Name x pos) (tD X.K (dMov i)) := PE.imp (pe_var hN hv hd hcd) fun σ H Q ⟨F, β, st, d, st', r, e1, q⟩ => by
  unfold dMov at e1
  split at e1
  · rename_i d' z
    cases e1
    obtain ⟨v, e2, q2⟩ := r.slot i _ z
    exact ⟨v, e2, q _ _ _ (DOk.refl r q2).toE⟩
  · rename_i c z
    cases e1
    obtain ⟨v, e2, q2⟩ := r.slot i _ z
    have hi : i < st.length := (List.getElem?_eq_some_iff.mp z).1
    have get : ∀ (j : Nat) s, (st.set i none)[j]? = some (some s) → j ≠ i ∧ st[j]? = some (some s) := fun j s z' => by
      by_cases hj : i = j
      · subst hj; rw [List.getElem?_set_self hi] at z'; cases z'
      · rw [List.getElem?_set_ne hj] at z'; exact ⟨Ne.symm hj, z'⟩
    refine ⟨v, e2, q F H v ⟨⟨r.le, by simpa using r.len, fun j s z' => r.slot j s (get j s z').2, fun j k t c1 u c2 b z1 z2 z3 z4 => r.ne _ _ _ _ _ _ _ (get j _ z1).2 (get k _ z2).2 z3 z4⟩, Stp.refl _, fun b ⟨j, t, c', z', z2⟩ => ⟨j, t, c', (get j _ z').2, z2⟩, q2, fun t c' a h1 h2 => ?_⟩⟩
    cases h1
    subst h2
    refine ⟨rfl, fun ⟨j, t, c', z', z2⟩ => ?_, .inl ⟨i, none, c, z, e2⟩⟩
    exact (get j _ z').1 (r.ne _ _ _ _ _ _ _ (get j _ z').2 z z2 e2)
  · cases e1
theorem c_pf {v : V} {d : D} (h : PE X e (tC v)) (hd : ∀ K F, Rp K F v d) : PE X e (tF X.K (dC d)) := PE.imp h fun σ H Q ⟨F, β, st, d, st', r, e1, q⟩ => by
  cases e1
  exact q _ _ _ (DOk.refl r (hd _ _))
theorem pf_int {i j pos} : PE X (.Constant (.int i) j pos) (tF X.K (dC (.int i))) := c_pf pe_int fun _ _ => .int _
theorem pf_bl {i j pos} : PE X (.Constant (.bool i) j pos) (tF X.K (dC (.bool i))) := c_pf pe_bl fun _ _ => .bl _
theorem pf_non {j pos} : PE X (.Constant .none j pos) (tF X.K (dC .none)) := c_pf pe_non fun _ _ => .non
theorem pf_str {x j pos} (h : (PyData.strOk x && decide (x.length ≤ 16777216)) = true := by decide +kernel) : PE X (.Constant (.str x) j pos) (tF X.K (dC (.str x))) := c_pf pe_str fun _ _ => .str (by simpa [okS] using h)

/-! ### lists of expressions -/
def dNil : DA := fun st => some ([], st)
def dCons (f : DF) (g : DA) : DA := fun st => (f st).bind fun p => (g p.2).bind fun q => some (p.1 :: q.1, q.2)
theorem paf_nil : PA X [] (tA X.K dNil) := PA.imp pa_nil fun σ H Q ⟨F, β, st, d, st', r, e1, q⟩ => by
  cases e1
  exact q _ _ _ (AOk.refl r)
theorem paf_cons (ha : PE X e (tF X.K f)) (hr : PA X es (tA X.K ga)) (hs : starEach (e :: es) X.env = (false, eval e X.env) :: starEach es X.env := by rfl) : PA X (e :: es) (tA X.K (dCons f ga)) :=
  PA.imp (pa_cons ha hr hs) fun σ H Q ⟨F, β, st, d, st', r, e1, q⟩ => by
    obtain ⟨p, h1, e2⟩ := bind_some e1
    obtain ⟨p2, h2, e3⟩ := bind_some e2
    cases e3
    refine ⟨F, β, st, p.1, p.2, r, h1, fun F1 H1 v1 k1 => ⟨F1, β, p.2, p2.1, p2.2, k1.rel, h2, fun F2 H2 vs k2 => q F2 H2 _ ?_⟩⟩
    have := k1.b.trans k2.b
    exact ⟨this.rel, this.stp, this.sub, .cons (Rp.mono k2.stp.mono k1.res) k2.res⟩
def dTup (g : DA) : DF := fun st => (g st).bind fun p => if p.1.length ≤ 16777216 then some (.tuple p.1, p.2) else none
def dLst (g : DA) : DE := fun st => (g st).bind fun p => if p.1.length ≤ 16777216 then some (.own none (.list p.1), p.2) else none
theorem pf_tup {k} (h : PA X es (tA X.K ga)) : PE X (.Tuple es k pos) (tF X.K (dTup ga)) := PE.imp (pe_tup h) fun σ H Q ⟨F, β, st, d, st', r, e1, q⟩ => by
  obtain ⟨p, h1, e2⟩ := bind_some e1
  obtain ⟨hz, e3⟩ := ite_some e2
  cases e3
  refine ⟨F, β, st, p.1, p.2, r, h1, fun F1 H1 vs k1 => ⟨by rw [k1.res.length, ← big_eq]; exact hz, fun x hx => ?_⟩⟩
  have g := Grow.laid (o := .tup vs) k1.rel.le hx
  exact q _ _ _ ((k1.b.grow g).toD (.tup (.inl (.inl upd_same)) (RpAll.mono g.mono k1.res)))
/-- a new object that is the result's own -/
theorem own_new {K : Fg} {F H F1 H1 : Hp} {β : Nat → Option Addr} {st st1 : DSt} {σ : L2.St} {x : Addr} {o : HO} {c : D} (k1 : BOk K F H β st σ F1 H1 st1) (hx : H1 x = none) (hc : ORp K F1 o c) : EOk K F H β st σ F1 (upd H1 x o) st1 (.ref x) (.own none c) := by
  have nF : F1 x = none := k1.rel.le.free hx
  have sm : Same H1 (upd H1 x o) := fun b u z => by rw [upd_ne (ne_of_none z hx)]; exact z
  refine ⟨⟨k1.rel.le.trans sm, k1.rel.len, fun i s z => ?_, k1.rel.ne⟩, ⟨k1.stp.mono, fun b u z1 z2 z3 => ?_⟩, k1.sub, ⟨x, o, rfl, nF, upd_same, hc, fun j z => nomatch z⟩, fun t c' b z1 z2 => ?_⟩
  · obtain ⟨v, e1, q1⟩ := k1.rel.slot i s z
    refine ⟨v, e1, ?_⟩
    cases s with
    | val d => exact q1
    | own t c =>
      obtain ⟨a2, o2, rfl, f2, h2, q2, b2⟩ := q1
      exact ⟨a2, o2, rfl, f2, sm _ _ h2, q2, b2⟩
  · obtain ⟨h, f⟩ := k1.stp.keep b u z1 z2 z3
    exact ⟨sm _ _ h, f⟩
  · cases z1; cases z2
    refine ⟨rfl, fun z => ?_, ?_⟩
    · obtain ⟨o2, h2, _⟩ := k1.rel.ownH z
      rw [hx] at h2; cases h2
    · exact k1.stp.fresh k1.rel.le hx
theorem pd_lst (h : PA X es (tA X.K ga)) : PE X (.List es pos) (tD X.K (dLst ga)) := PE.imp (pe_lst h) fun σ H Q ⟨F, β, st, d, st', r, e1, q⟩ => by
  obtain ⟨p, h1, e2⟩ := bind_some e1
  obtain ⟨hz, e3⟩ := ite_some e2
  cases e3
  refine ⟨F, β, st, p.1, p.2, r, h1, fun F1 H1 vs k1 => ⟨by rw [k1.res.length, ← big_eq]; exact hz, fun x hx => ?_⟩⟩
  exact q _ _ _ (own_new k1.b hx (.lst k1.res))

/-! ### operators by values -/
def rD (K : Fg) (op : D → D → Option D) : R2 := fun x y H Q => ∃ F a b c, Same F H ∧ Rp K F x a ∧ Rp K F y b ∧ op a b = some c ∧ ∀ F' H' v, Grow F H F' H' → Rp K F' v c → Q v H'
def OpD (X : Cx) (f : Value → Value → Sem Value) (op : D → D → Option D) : Prop := OpR X f (rD X.K op)
def dBin (op : D → D → Option D) (f g : DF) : DF := fun st => (f st).bind fun p => (g p.2).bind fun q => (op p.1 q.1).bind fun c => some (c, q.2)
theorem bin_to {K : Fg} {op : D → D → Option D} {f g : DF} {σ : L2.St} {H : Hp} {Q : VK} (h : tF K (dBin op f g) σ H Q) : tOp (rD K op) (tF K f) (tF K g) σ H Q := by
  obtain ⟨F, β, st, d, st', r, e1, q⟩ := h
  obtain ⟨p, h1, e2⟩ := bind_some e1
  obtain ⟨p2, h2, e3⟩ := bind_some e2
  obtain ⟨c, h3, e4⟩ := bind_some e3
  cases e4
  refine ⟨F, β, st, p.1, p.2, r, h1, fun F1 H1 v1 k1 => ⟨F1, β, p.2, p2.1, p2.2, k1.rel, h2, fun F2 H2 v2 k2 => ?_⟩⟩
  exact ⟨F2, p.1, p2.1, d, k2.rel.le, Rp.mono k2.stp.mono k1.res, k2.res, h3, fun F3 H3 v3 g3 q3 => q _ _ _ (((k1.b.trans k2.b).grow g3).toD q3)⟩
theorem pf_bin {o : Operator} {op : D → D → Option D} (ho : OpD X (binaryOp o) op) (ha : PE X a (tF X.K f)) (hb : PE X b (tF X.K g)) : PE X (.BinOp a o b pos) (tF X.K (dBin op f g)) :=
  PE.imp (pe_op ho ha hb) fun σ H Q h => bin_to h

/-! ### comparisons -/
def liftB (op : D → D → Option Bool) : D → D → Option D := fun a b => (op a b).bind fun k => some (.bool k)
def dCmp (op : D → D → Option Bool) (f g : DF) : DF := dBin (liftB op) f g
def dCmpT (op : D → D → Option Bool) (f g : DF) : DB := fun st => (f st).bind fun p => (g p.2).bind fun q => (op p.1 q.1).bind fun c => some (c, q.2)
theorem pf_cmp {o : CmpOp} {op : D → D → Option Bool} (ho : OpD X (compareOp o) (liftB op)) (ha : PE X a (tF X.K f)) (hb : PE X b (tF X.K g)) (hm : behindInMarks o b = false := by first | exact nomark _ | rfl) : PE X (.Compare a [o] [b] pos) (tF X.K (dCmp op f g)) :=
  PE.imp (pe_cmpR ho ha hb hm) fun σ H Q h => bin_to h
theorem Rp.bool {K : Fg} {F : Hp} {v : V} {k : Bool} (h : Rp K F v (.bool k)) : v = .bl k := by
  cases h with
  | bl b => rfl
  | obj h q => cases q
theorem Rp.int_eq {K : Fg} {F : Hp} {v : V} {k : Int} (h : Rp K F v (.int k)) : v = .int k := by
  cases h with
  | int b => rfl
  | obj h q => cases q
theorem Rp.str_eq {K : Fg} {F : Hp} {v : V} {k : Str} (h : Rp K F v (.str k)) : v = .str k ∧ okS k := by
  cases h with
  | str b => exact ⟨rfl, b⟩
  | obj h q => cases q
theorem Rp.none_eq {K : Fg} {F : Hp} {v : V} (h : Rp K F v .none) : v = .non := by
  cases h with
  | non => rfl
  | obj h q => cases q
theorem Rp.list_inv {K : Fg} {F : Hp} {v : V} {xs : List D} (h : Rp K F v (.list xs)) : ∃ a vs, v = .ref a ∧ SqL K F a vs ∧ RpAll K F vs xs := by
  cases h with
  | obj h q => cases q with | lst q => exact ⟨_, _, rfl, .inl h, q⟩
  | kl h q => exact ⟨_, _, rfl, h, q⟩
theorem Rp.tup_inv {K : Fg} {F : Hp} {v : V} {xs : List D} (h : Rp K F v (.tuple xs)) : ∃ a vs, v = .ref a ∧ SqT K F a vs ∧ RpAll K F vs xs := by
  cases h with
  | tup h q => exact ⟨_, _, rfl, h, q⟩
  | obj h q => cases q
theorem pt_cmp' {o : CmpOp} {op : D → D → Option Bool} (ho : OpD X (compareOp o) (liftB op)) (ha : PE X a (tF X.K f)) (hb : PE X b (tF X.K g)) (hm : behindInMarks o b = false := by first | exact nomark _ | rfl) : PT X (.Compare a [o] [b] pos) (tT X.K (dCmpT op f g)) :=
  PT.imp (pt_cmpR ho ha hb hm) fun σ H Q h => by
    obtain ⟨F, β, st, d, st', r, e1, q⟩ := h
    obtain ⟨p, h1, e2⟩ := bind_some e1
    obtain ⟨p2, h2, e3⟩ := bind_some e2
    obtain ⟨c, h3, e4⟩ := bind_some e3
    cases e4
    refine ⟨F, β, st, p.1, p.2, r, h1, fun F1 H1 v1 k1 => ⟨F1, β, p.2, p2.1, p2.2, k1.rel, h2, fun F2 H2 v2 k2 => ?_⟩⟩
    refine ⟨F2, p.1, p2.1, .bool d, k2.rel.le, Rp.mono k2.stp.mono k1.res, k2.res, by unfold liftB; rw [h3]; rfl, fun F3 H3 v3 g3 q3 => ⟨d, q3.bool, q _ _ ((k1.b.trans k2.b).grow g3)⟩⟩

/-! ### truth -/
def dTru : D → Option Bool
  | .none => some false
  | .bool b => some b
  | .int i => some (i != 0)
  | .str x => some (x.length != 0)
  | .list xs => some (!xs.isEmpty)
  | .tuple xs => some (!xs.isEmpty)
  | .dict _ => none
theorem isEmpty_rp {K : Fg} {F : Hp} {vs : List V} {ds : List D} (h : RpAll K F vs ds) : vs.isEmpty = ds.isEmpty := by
  cases h <;> rfl
theorem truV_of {K : Fg} {F H : Hp} {v : V} {d : D} {k : Bool} (l : Same F H) (h : Rp K F v d) (e : dTru d = some k) : TruV K v H k := by
  cases d with
  | none => rw [h.none_eq]; cases e; rfl
  | bool b => rw [h.bool]; cases e; rfl
  | int i => rw [h.int_eq]; cases e; rfl
  | str x =>
    obtain ⟨rfl, hz⟩ := h.str_eq
    cases e
    refine ⟨by rw [← big_eq]; exact hz.2, ?_⟩
    rw [Bool.eq_iff_iff]
    simp
  | list xs =>
    obtain ⟨a, vs, rfl, h1, h2⟩ := h.list_inv
    cases e
    exact .inl ⟨vs, l.seq h1, by rw [isEmpty_rp h2]⟩
  | tuple xs =>
    obtain ⟨a, vs, rfl, h1, h2⟩ := h.tup_inv
    cases e
    exact .inr (.inl ⟨vs, SqT.mono l h1, by rw [isEmpty_rp h2]⟩)
  | dict es => cases e
def dTest (f : DF) : DB := fun st => (f st).bind fun p => (dTru p.1).bind fun k => some (k, p.2)
theorem pt_tru (ha : PE X a (tF X.K f)) (he : ∀ whole, isTrue a X.env whole = (do let v ← whole; standAt a.pos; holding [v] (truthy v)) := by intro _; rfl) : PT X a (tT X.K (dTest f)) :=
  PT.imp (pt_truth ha he) fun σ H Q h => by
    obtain ⟨F, β, st, d, st', r, e1, q⟩ := h
    obtain ⟨p, h1, e2⟩ := bind_some e1
    obtain ⟨k, h2, e3⟩ := bind_some e2
    cases e3
    exact ⟨F, β, st, p.1, p.2, r, h1, fun F1 H1 v1 k1 => ⟨d, truV_of k1.rel.le k1.res h2, q _ _ k1.b⟩⟩

/-! ### and, or, not; conditional expressions -/
variable {c : Expr} {rest : List Expr} {t u : DB}
def dAnd (t u : DB) : DB := fun st => (t st).bind fun p => if p.1 = true then u p.2 else some (false, p.2)
def dOr (t u : DB) : DB := fun st => (t st).bind fun p => if p.1 = true then some (true, p.2) else u p.2
def dNot (t : DB) : DB := fun st => (t st).bind fun p => some (!p.1, p.2)
theorem wand1 (ha : PT X a (tT X.K t)) : PW X (.BoolOp .And [a] pos) (tT X.K t) := pw_and1 ha
theorem wor1 (ha : PT X a (tT X.K t)) : PW X (.BoolOp .Or [a] pos) (tT X.K t) := pw_or1 ha
theorem wand (ha : PT X a (tT X.K t)) (hb : PW X (.BoolOp .And (b :: rest) pos) (tT X.K u)) : PW X (.BoolOp .And (a :: b :: rest) pos) (tT X.K (dAnd t u)) :=
  PW.imp (pw_and ha hb) fun σ H Q h => by
    obtain ⟨F, β, st, d, st', r, e1, q⟩ := h
    obtain ⟨p, h1, e2⟩ := bind_some e1
    refine ⟨F, β, st, p.1, p.2, r, h1, fun F1 H1 k1 => ?_⟩
    show ite _ _ _
    split
    · rename_i hp
      rw [if_pos hp] at e2
      exact ⟨F1, β, p.2, d, st', k1.rel, e2, fun F2 H2 k2 => q _ _ (k1.trans k2)⟩
    · rename_i hp
      rw [if_neg hp] at e2
      cases e2
      exact q _ _ k1
theorem wor (ha : PT X a (tT X.K t)) (hb : PW X (.BoolOp .Or (b :: rest) pos) (tT X.K u)) : PW X (.BoolOp .Or (a :: b :: rest) pos) (tT X.K (dOr t u)) :=
  PW.imp (pw_or ha hb) fun σ H Q h => by
    obtain ⟨F, β, st, d, st', r, e1, q⟩ := h
    obtain ⟨p, h1, e2⟩ := bind_some e1
    refine ⟨F, β, st, p.1, p.2, r, h1, fun F1 H1 k1 => ?_⟩
    show ite _ _ _
    split
    · rename_i hp
      rw [if_pos hp] at e2
      cases e2
      exact q _ _ k1
    · rename_i hp
      rw [if_neg hp] at e2
      exact ⟨F1, β, p.2, d, st', k1.rel, e2, fun F2 H2 k2 => q _ _ (k1.trans k2)⟩
theorem pt_not' (ha : PT X a (tT X.K t)) : PT X (.UnaryOp .Not a pos) (tT X.K (dNot t)) := PT.imp (pt_not ha) fun σ H Q h => by
  obtain ⟨F, β, st, d, st', r, e1, q⟩ := h
  obtain ⟨p, h1, e2⟩ := bind_some e1
  cases e2
  exact ⟨F, β, st, p.1, p.2, r, h1, fun F1 H1 k1 => q _ _ k1⟩
/-- as values -/
def dAndV (f g : DF) : DF := fun st => (f st).bind fun p => (dTru p.1).bind fun k => if k = true then g p.2 else some (p.1, p.2)
def dOrV (f g : DF) : DF := fun st => (f st).bind fun p => (dTru p.1).bind fun k => if k = true then some (p.1, p.2) else g p.2
def dNotV (f : DF) : DF := fun st => (f st).bind fun p => (dTru p.1).bind fun k => some (.bool (!k), p.2)
theorem pf_one {op} {pos : Pos} (h : PE X a (tF X.K f)) : PE X (.BoolOp op [a] pos) (tF X.K f) := pe_one h
theorem pf_and (ha : PE X a (tF X.K f)) (hb : PE X (.BoolOp .And (b :: rest) pos) (tF X.K g)) : PE X (.BoolOp .And (a :: b :: rest) pos) (tF X.K (dAndV f g)) :=
  PE.imp (pe_andT ha hb) fun σ H Q h => by
    obtain ⟨F, β, st, d, st', r, e1, q⟩ := h
    obtain ⟨p, h1, e2⟩ := bind_some e1
    obtain ⟨k, h2, e3⟩ := bind_some e2
    refine ⟨F, β, st, p.1, p.2, r, h1, fun F1 H1 v1 k1 => ⟨k, truV_of k1.rel.le k1.res h2, ?_⟩⟩
    split
    · rename_i hp
      rw [if_pos hp] at e3
      exact ⟨F1, β, p.2, d, st', k1.rel, e3, fun F2 H2 v2 k2 => q _ _ _ (k1.b.thenD k2)⟩
    · rename_i hp
      rw [if_neg hp] at e3
      cases e3
      exact q _ _ _ k1
theorem pf_or (ha : PE X a (tF X.K f)) (hb : PE X (.BoolOp .Or (b :: rest) pos) (tF X.K g)) : PE X (.BoolOp .Or (a :: b :: rest) pos) (tF X.K (dOrV f g)) :=
  PE.imp (pe_orT ha hb) fun σ H Q h => by
    obtain ⟨F, β, st, d, st', r, e1, q⟩ := h
    obtain ⟨p, h1, e2⟩ := bind_some e1
    obtain ⟨k, h2, e3⟩ := bind_some e2
    refine ⟨F, β, st, p.1, p.2, r, h1, fun F1 H1 v1 k1 => ⟨k, truV_of k1.rel.le k1.res h2, ?_⟩⟩
    split
    · rename_i hp
      rw [if_pos hp] at e3
      cases e3
      exact q _ _ _ k1
    · rename_i hp
      rw [if_neg hp] at e3
      exact ⟨F1, β, p.2, d, st', k1.rel, e3, fun F2 H2 v2 k2 => q _ _ _ (k1.b.thenD k2)⟩
theorem pf_not (ha : PE X a (tF X.K f)) : PE X (.UnaryOp .Not a pos) (tF X.K (dNotV f)) := PE.imp (pe_notT ha) fun σ H Q h => by
  obtain ⟨F, β, st, d, st', r, e1, q⟩ := h
  obtain ⟨p, h1, e2⟩ := bind_some e1
  obtain ⟨k, h2, e3⟩ := bind_some e2
  cases e3
  exact ⟨F, β, st, p.1, p.2, r, h1, fun F1 H1 v1 k1 => ⟨k, truV_of k1.rel.le k1.res h2, q _ _ _ (k1.b.toD (.bl _))⟩⟩
def dIfE (t : DB) (f g : DF) : DF := fun st => (t st).bind fun p => if p.1 = true then f p.2 else g p.2
theorem pf_if {c : Expr} (hc : PT X c (tT X.K t)) (ha : PE X a (tF X.K f)) (hb : PE X b (tF X.K g)) : PE X (.IfExp c a b pos) (tF X.K (dIfE t f g)) := PE.imp (pe_ifExp hc ha hb) fun σ H Q h => by
  obtain ⟨F, β, st, d, st', r, e1, q⟩ := h
  obtain ⟨p, h1, e2⟩ := bind_some e1
  refine ⟨F, β, st, p.1, p.2, r, h1, fun F1 H1 k1 => ?_⟩
  show ite _ _ _
  split
  · rename_i hp
    rw [if_pos hp] at e2
    exact ⟨F1, β, p.2, d, st', k1.rel, e2, fun F2 H2 v2 k2 => q _ _ _ (k1.thenD k2)⟩
  · rename_i hp
    rw [if_neg hp] at e2
    exact ⟨F1, β, p.2, d, st', k1.rel, e2, fun F2 H2 v2 k2 => q _ _ _ (k1.thenD k2)⟩
end
end DL

/-! DL3: operators on data -/
namespace DL
open PySem PySem.Spec PyProof.Rows L2

mutual
/-- no dict in it -/
def plain : D → Bool
  | .none => true
  | .bool _ => true
  | .int _ => true
  | .str _ => true
  | .list xs => plainAll xs
  | .tuple xs => plainAll xs
  | .dict _ => false
def plainAll : List D → Bool
  | [] => true
  | x :: xs => plain x && plainAll xs
end
mutual
theorem Rp.dp {K : Fg} {F : Hp} : ∀ (d : D) (v : V), plain d = true → Rp K F v d → Dp K F v d ∧ d.canLay0 = true
  | .none, _, _, h => by rw [h.none_eq]; exact ⟨.non, rfl⟩
  | .bool b, _, _, h => by rw [h.bool]; exact ⟨.bl b, rfl⟩
  | .int i, _, _, h => by rw [h.int_eq]; exact ⟨.int i, rfl⟩
  | .str x, _, _, h => by
    obtain ⟨rfl, z⟩ := h.str_eq
    exact ⟨.str x, by rw [PyData.canLay0]; exact z.1⟩
  | .list ds, _, p, h => by
    obtain ⟨a, vs, rfl, h1, h2⟩ := h.list_inv
    rw [plain] at p
    obtain ⟨q1, q2⟩ := RpAll.dp ds vs p h2
    exact ⟨.lst h1 q1, by rw [PyData.canLay0]; exact q2⟩
  | .tuple ds, _, p, h => by
    obtain ⟨a, vs, rfl, h1, h2⟩ := h.tup_inv
    rw [plain] at p
    obtain ⟨q1, q2⟩ := RpAll.dp ds vs p h2
    exact ⟨.tup h1 q1, by rw [PyData.canLay0]; exact q2⟩
  | .dict _, _, p, _ => by rw [plain] at p; cases p
theorem RpAll.dp {K : Fg} {F : Hp} : ∀ (ds : List D) (vs : List V), plainAll ds = true → RpAll K F vs ds → DpAll K F vs ds ∧ PyData.canLayAll0 ds = true
  | [], _, _, h => by cases h; exact ⟨.nil, rfl⟩
  | d :: ds, _, p, h => by
    cases h with
    | cons h1 h2 =>
      rw [plainAll, Bool.and_eq_true] at p
      obtain ⟨a1, a2⟩ := Rp.dp d _ p.1 h1
      obtain ⟨b1, b2⟩ := RpAll.dp ds _ p.2 h2
      exact ⟨.cons a1 b1, by rw [PyData.canLayAll0, a2, b2]; rfl⟩
end
mutual
theorem dp_mono {K : Fg} {F H : Hp} (m : Same F H) : ∀ {v : V} {d : D}, Dp K F v d → Dp K H v d
  | _, _, .non => .non
  | _, _, .bl b => .bl b
  | _, _, .int b => .int b
  | _, _, .str b => .str b
  | _, _, .tup h q => .tup (SqT.mono m h) (dpAll_mono m q)
  | _, _, .lst h q => .lst (m.seq h) (dpAll_mono m q)
theorem dpAll_mono {K : Fg} {F H : Hp} (m : Same F H) : ∀ {vs : List V} {ds : List D}, DpAll K F vs ds → DpAll K H vs ds
  | _, _, .nil => .nil
  | _, _, .cons h q => .cons (dp_mono m h) (dpAll_mono m q)
end
/-- ready to be compared -/
def cmpOk (a : D) : Bool := plain a && decide (a.depth ≤ 60)
theorem rd_reads {X : Cx} {pins : List (Addr × Obj)} {s : Shared} {σ : L2.St} {F H : Hp} {v : V} {u : Value} {d : D} (I : Inv X pins σ H s) (l : Same F H) (h : Rp X.K F v d) (r : RelV v u) (c : cmpOk d = true) : ∃ as, Reads s.heap u d as ∧ d.canLay0 = true ∧ d.depth ≤ 60 := by
  unfold cmpOk at c
  rw [Bool.and_eq_true] at c
  obtain ⟨q1, q2⟩ := Rp.dp d v c.1 h
  obtain ⟨as, q3⟩ := Dp.reads I d v u (dp_mono l q1) r
  exact ⟨as, q3, q2, of_decide_eq_true c.2⟩

section
variable {X : Cx}
theorem OpD.imp {f : Value → Value → Sem Value} {r : R2} {op : D → D → Option D} (h : OpR X f r) (w : ∀ x y H Q, rD X.K op x y H Q → r x y H Q) : OpD X f op := fun pins s σ H x y v u Q I rx ry q => h pins s σ H x y v u Q I rx ry (w x y H Q q)
theorem OpR.case {f : Value → Value → Sem Value} {r : R2} (h : ∀ x y H Q, r x y H Q → ∃ r', OpR X f r' ∧ r' x y H Q) : OpR X f r := fun pins s σ H x y v u Q I rx ry q => let ⟨_, a, b⟩ := h x y H Q q; a pins s σ H x y v u Q I rx ry b

/-! ### + -/
def dAdd : D → D → Option D
  | .int a, .int b => some (.int (a + b))
  | .str a, .str b => if a.length + b.length ≤ 16777216 then some (.str (a ++ b)) else none
  | .list a, .list b => if a.length + b.length ≤ 16777216 then some (.list (a ++ b)) else none
  | .tuple a, .tuple b => if a.length + b.length ≤ 16777216 then some (.tuple (a ++ b)) else none
  | .int a, .bool b => some (.int (a + b2i b))
  | _, _ => none
theorem okS_append {a b : Str} (h : okS a) (h' : okS b) (hl : a.length + b.length ≤ 16777216) : okS (a ++ b) := by
  refine ⟨?_, ?_⟩
  · have h1 := h.1
    have h2 := h'.1
    unfold PyData.strOk at *
    have e : (a ++ b).cps = a.cps ++ b.cps := rfl
    rw [e, Array.all_append, h1, h2]
    rfl
  · have e : (a ++ b).length = a.length + b.length := by
      show (a.cps ++ b.cps).size = _
      rw [Array.size_append]
      rfl
    rw [e]; exact hl
/-- lists by what may be read -/
def rCatR (K : Fg) : R2 := fun x y H Q => ∃ l b xs zs, x = .ref l ∧ y = .ref b ∧ SqL K H l xs ∧ SqL K H b zs ∧ xs.length + zs.length ≤ sizeLine ∧ ∀ p, H p = none → Q (.ref p) (upd H p (.lst (xs ++ zs)))
theorem op_catR : OpR X (binaryOp .Add) (rCatR X.K) := fun pins s σ H x y v u Q I rx ry h => by
  obtain ⟨l, b, xs, zs, e1, e2, h1, h2, hz, q⟩ := h
  subst e1 e2
  cases rx
  cases ry
  obtain ⟨i1, r1, p1, k1⟩ := I.list h1
  obtain ⟨i2, r2, p2, k2⟩ := I.list h2
  have c1 := r1.length
  have c2 := r2.length
  obtain ⟨⟨t1, d1, b1, l1⟩, m1, y1, y2, y3, y4⟩ := p1
  obtain ⟨⟨t2, d2, b2, l2⟩, m2, x1, x2, x3, x4⟩ := p2
  simp only at y2 y3 y4 x2 x3 x4
  subst y2 y3 y4 x2 x3 x4
  refine concat_meets ⟨_, y1, rfl⟩ ⟨_, x1, rfl⟩ noFill_list_add seq_list_add PySem.F.slot_list_add PySem.F.entry_list_add (PySem.F.args_list_add_2 _ _) (PyProof.Rows.list_addW l b i1.toArray i2.toArray m1 m2 none none l1 l2 (by simp only [List.size_toArray]; omega)) ⟨y1, x1, ?_⟩
  rw [show i1.toArray ++ i2.toArray = (i1 ++ i2).toArray by simp]
  exact ⟨.ref _, _, I.lnew (t' := s.toks) (r1.append r2) (by simp only [List.length_append]; omega), rfl, q _ I.fresh⟩
theorem oAdd : OpD X (binaryOp .Add) dAdd := OpR.case fun x y H Q ⟨F, a, b, c, l, ha, hb, e, q⟩ => by
  unfold dAdd at e
  split at e
  · cases e
    exact ⟨_, op_add, _, _, ha.int_eq, hb.int_eq, q _ _ _ (Grow.refl l) (.int _)⟩
  · obtain ⟨hz, rfl⟩ := ite_some e
    obtain ⟨e1, o1⟩ := ha.str_eq
    obtain ⟨e2, o2⟩ := hb.str_eq
    exact ⟨_, op_add_str, _, _, e1, e2, by rw [← big_eq]; exact hz, q _ _ _ (Grow.refl l) (.str (okS_append o1 o2 hz))⟩
  · obtain ⟨hz, rfl⟩ := ite_some e
    obtain ⟨a1, vs, rfl, h1, h2⟩ := ha.list_inv
    obtain ⟨a2, ws, rfl, h3, h4⟩ := hb.list_inv
    refine ⟨_, op_catR, _, _, vs, ws, rfl, rfl, l.seq h1, l.seq h3, by rw [← big_eq, h2.length, h4.length]; exact hz, fun p hp => ?_⟩
    have g := Grow.laid (o := .lst (vs ++ ws)) l hp
    exact q _ _ _ g (.obj (.inl upd_same) (.lst ((RpAll.mono g.mono h2).append (RpAll.mono g.mono h4))))
  · obtain ⟨hz, rfl⟩ := ite_some e
    obtain ⟨a1, vs, rfl, h1, h2⟩ := ha.tup_inv
    obtain ⟨a2, ws, rfl, h3, h4⟩ := hb.tup_inv
    refine ⟨_, op_catA, _, _, vs, ws, rfl, rfl, SqT.mono l h1, SqT.mono l h3, by rw [← big_eq, h2.length, h4.length]; exact hz, fun z => ?_, fun _ z => ?_, fun _ _ p hp => ?_⟩
    · subst z
      cases h2
      exact q _ _ _ (Grow.refl l) hb
    · subst z
      cases h4
      rw [List.append_nil] at q
      exact q _ _ _ (Grow.refl l) ha
    · have g := Grow.laid (o := .tup (vs ++ ws)) l hp
      exact q _ _ _ g (.tup (.inl (.inl upd_same)) ((RpAll.mono g.mono h2).append (RpAll.mono g.mono h4)))
  · cases e
    exact ⟨_, op_add_ib, _, _, ha.int_eq, hb.bool, q _ _ _ (Grow.refl l) (.int _)⟩
  · cases e

/-! ### -, *, //, %, ** -/
def dSub : D → D → Option D
  | .int a, .int b => some (.int (a - b))
  | _, _ => none
theorem oSub : OpD X (binaryOp .Sub) dSub := OpR.case fun x y H Q ⟨F, a, b, c, l, ha, hb, e, q⟩ => by
  unfold dSub at e
  split at e
  · cases e
    exact ⟨_, op_sub, _, _, ha.int_eq, hb.int_eq, q _ _ _ (Grow.refl l) (.int _)⟩
  · cases e
def repS (x : Str) (n : Nat) : Str := ⟨(List.replicate n x.cps.toList).flatten.toArray⟩
def mulOk (a b : Int) : Prop := (-(2 ^ 64) < a ∧ a < 2 ^ 64) ∨ (-(2 ^ 64) < b ∧ b < 2 ^ 64) ∨ (a.natAbs.log2 + b.natAbs.log2 < 1000000)
noncomputable instance (a b : Int) : Decidable (mulOk a b) := Classical.propDecidable _
noncomputable def dMul : D → D → Option D
  | .int a, .int b => if mulOk a b then some (.int (a * b)) else none
  | .str x, .int n => if 0 ≤ n ∧ n < 1000 ∧ x.length < 10000 then some (.str (repS x n.toNat)) else none
  | _, _ => none
theorem foldl_cps (x : Array Nat) : ∀ (n : Nat) (acc : Array Nat), ((List.replicate n x).foldl (· ++ ·) acc) = acc ++ (List.replicate n x.toList).flatten.toArray
  | 0, acc => by simp
  | n + 1, acc => by
    rw [List.replicate_succ, List.foldl_cons, foldl_cps x n, List.replicate_succ, List.flatten_cons]
    apply Array.toList_inj.mp
    simp
theorem repS_len {x : Str} {n : Nat} (hn : n < 1000) (hl : x.length < 10000) : (repS x n).length ≤ 16777216 := by
  show (List.replicate n x.cps.toList).flatten.toArray.size ≤ _
  have e : (List.replicate n x.cps.toList).flatten.length = n * x.cps.toList.length := by simp
  have e2 : x.cps.toList.length = x.length := rfl
  rw [List.size_toArray, e, e2]
  have := Nat.mul_le_mul (Nat.le_of_lt hn) (Nat.le_of_lt hl)
  omega
theorem okS_rep {x : Str} (h : okS x) {n : Nat} (hn : n < 1000) (hl : x.length < 10000) : okS (repS x n) := by
  refine ⟨?_, ?_⟩
  · have h1 := h.1
    unfold PyData.strOk repS at *
    rw [← Array.all_toList, List.all_eq_true] at *
    intro c hc
    simp only [List.mem_flatten, List.mem_replicate] at hc
    obtain ⟨l, ⟨_, rfl⟩, hc⟩ := hc
    exact h1 c hc
  · exact repS_len hn hl
def rMulS : R2 := fun x y H Q => ∃ a n, x = .str a ∧ y = .int n ∧ (0 ≤ n ∧ n < 1000 ∧ a.length < 10000) ∧ Q (.str (repS a n.toNat)) H
theorem op_mulS : OpR X (binaryOp .Mult) rMulS := fun pins s σ H x y v u Q I rx ry h => by
  obtain ⟨a, n, rfl, rfl, ⟨h0, h1, h2⟩, q⟩ := h
  obtain ⟨t, rfl⟩ := rx
  obtain ⟨t', rfl⟩ := ry
  have eqr : (⟨(List.replicate n.toNat a.cps).foldl (· ++ ·) #[]⟩ : Str) = repS a n.toNat := by
    unfold repS
    rw [foldl_cps]
    simp
  refine PySem.P.mul_str (by rw [decide_eq_false (by omega), decide_eq_false (by omega)]; rfl) (fun z _ z2 => ?_) (fun z _ => ?_) ?_
  · have : (2 ^ 63 - 1 : Int) / n ≥ 10000 := by
      apply Int.le_ediv_of_mul_le (by omega)
      omega
    omega
  · have e1 : a.length * n.toNat ≤ 10000 * 1000 := Nat.mul_le_mul (by omega) (by omega)
    unfold Builtin.Str.tooLong
    simp
    rw [sizeLine_eq]
    omega
  · by_cases c1 : n < 1
    · rw [if_pos c1]
      have z : n.toNat = 0 := by omega
      have q0 : Q (.str Str.empty) H := by rw [z] at q; exact q
      exact ⟨by decide, .str Str.empty, H, I.tok _, ⟨_, rfl⟩, q0⟩
    · rw [if_neg c1]
      by_cases c2 : (n == 1 || a.length == 0) = true
      · rw [if_pos c2]
        have z : repS a n.toNat = a := by
          unfold repS
          rw [Bool.or_eq_true, beq_iff_eq, beq_iff_eq] at c2
          rcases c2 with c2 | c2
          · subst c2
            simp
          · have c3 : a.cps = #[] := Array.eq_empty_of_size_eq_zero c2
            cases a
            simp only at c3
            subst c3
            simp
        exact ⟨.str _, H, I, ⟨t, by rw [z]⟩, q⟩
      · rw [if_neg c2, eqr]
        exact ⟨by rw [← big_eq]; exact repS_len (by omega) h2, .str (repS a n.toNat), H, I.tok _, ⟨_, rfl⟩, q⟩
theorem oMul : OpD X (binaryOp .Mult) dMul := OpR.case fun x y H Q ⟨F, a, b, c, l, ha, hb, e, q⟩ => by
  unfold dMul at e
  split at e
  · rename_i i j
    obtain ⟨hz, rfl⟩ := ite_some e
    by_cases h1 : CMul i j
    · exact ⟨_, op_mul, _, _, ha.int_eq, hb.int_eq, h1, q _ _ _ (Grow.refl l) (.int _)⟩
    · refine ⟨_, op_mulW, _, _, ha.int_eq, hb.int_eq, ?_, q _ _ _ (Grow.refl l) (.int _)⟩
      rcases hz with hz | hz | hz
      · exact absurd (.inl hz) h1
      · exact absurd (.inr hz) h1
      · exact hz
  · obtain ⟨hz, rfl⟩ := ite_some e
    obtain ⟨e1, o1⟩ := ha.str_eq
    exact ⟨_, op_mulS, _, _, e1, hb.int_eq, hz, q _ _ _ (Grow.refl l) (.str (okS_rep o1 (by omega) hz.2.2))⟩
  · cases e
end
end DL

/-! DL4: more operators, comparisons, subscripts -/
namespace DL
open PySem PySem.Spec PyProof.Rows L2
section
variable {X : Cx}
noncomputable def dDiv : D → D → Option D
  | .int a, .int b => @ite _ (0 < b ∧ b < 1073741824) (Classical.propDecidable _) (some (.int (a / b))) none
  | _, _ => none
noncomputable def dMod : D → D → Option D
  | .int a, .int b => @ite _ (0 < b) (Classical.propDecidable _) (some (.int (a % b))) none
  | _, _ => none
noncomputable def dPow : D → D → Option D
  | .int a, .int b => @ite _ (0 ≤ b ∧ b ≤ 1000000 ∧ a.natAbs < 2 ^ 64) (Classical.propDecidable _) (some (.int (a ^ b.toNat))) none
  | _, _ => none
theorem oDiv : OpD X (binaryOp .FloorDiv) dDiv := OpR.case fun x y H Q ⟨F, a, b, c, l, ha, hb, e, q⟩ => by
  unfold dDiv at e
  split at e
  · obtain ⟨hz, rfl⟩ := ite_some e
    exact ⟨_, op_fdiv, _, _, ha.int_eq, hb.int_eq, hz, q _ _ _ (Grow.refl l) (.int _)⟩
  · cases e
theorem oMod : OpD X (binaryOp .Mod) dMod := OpR.case fun x y H Q ⟨F, a, b, c, l, ha, hb, e, q⟩ => by
  unfold dMod at e
  split at e
  · obtain ⟨hz, rfl⟩ := ite_some e
    exact ⟨_, op_mod, _, _, ha.int_eq, hb.int_eq, hz, q _ _ _ (Grow.refl l) (.int _)⟩
  · cases e
theorem oPow : OpD X (binaryOp .Pow) dPow := OpR.case fun x y H Q ⟨F, a, b, c, l, ha, hb, e, q⟩ => by
  unfold dPow at e
  split at e
  · obtain ⟨hz, rfl⟩ := ite_some e
    exact ⟨_, op_pow, _, _, ha.int_eq, hb.int_eq, hz, q _ _ _ (Grow.refl l) (.int _)⟩
  · cases e
def dNeg : D → Option D
  | .int a => some (.int (-a))
  | _ => none
def dUn (op : D → Option D) (f : DF) : DF := fun st => (f st).bind fun p => (op p.1).bind fun c => some (c, p.2)
theorem pf_neg {a : Expr} {f : DF} {pos : Pos} (ha : PE X a (tF X.K f)) : PE X (.UnaryOp .USub a pos) (tF X.K (dUn dNeg f)) := PE.imp (pe_un un_neg ha) fun σ H Q ⟨F, β, st, d, st', r, e1, q⟩ => by
  obtain ⟨p, h1, e2⟩ := bind_some e1
  obtain ⟨c, h2, e3⟩ := bind_some e2
  cases e3
  refine ⟨F, β, st, p.1, p.2, r, h1, fun F1 H1 v1 k1 => ?_⟩
  have k2 := k1.res
  revert h2 k2
  generalize p.1 = d'
  intro h2 k2
  unfold dNeg at h2
  split at h2
  · cases h2
    exact ⟨_, k2.int_eq, q _ _ _ (k1.b.toD (.int _))⟩
  · cases h2

/-! ### == and != -/
def eqD (a b : D) : Option Bool := if cmpOk a = true ∧ cmpOk b = true then some (PyData.eqv a b) else none
def neD (a b : D) : Option Bool := if cmpOk a = true ∧ cmpOk b = true then some (!PyData.eqv a b) else none
theorem liftB_inv {op : D → D → Option Bool} {a b c : D} (h : liftB op a b = some c) : ∃ k, op a b = some k ∧ c = .bool k := by
  unfold liftB at h
  obtain ⟨k, h1, h2⟩ := bind_some h
  cases h2
  exact ⟨k, h1, rfl⟩
theorem oEq (hu : X.A.units + 64 < cLine) : OpD X (compareOp .Eq) (liftB eqD) := fun pins s σ H x y v u Q I rx ry ⟨F, a, b, c, l, ha, hb, e, q⟩ => by
  obtain ⟨k, h1, rfl⟩ := liftB_inv e
  unfold eqD at h1
  obtain ⟨hz, rfl⟩ := ite_some h1
  obtain ⟨as, r1, y1, d1⟩ := rd_reads I l ha rx hz.1
  obtain ⟨bs, r2, y2, d2⟩ := rd_reads I l hb ry hz.2
  have s1 : SeqAt.shaped a = true := by unfold SeqAt.shaped; rw [y1, decide_eq_true (by omega)]; rfl
  have s2 : SeqAt.shaped b = true := by unfold SeqAt.shaped; rw [y2, decide_eq_true (by omega)]; rfl
  exact SeqAt.compareEq_shaped r1 r2 s1 s2 hu ⟨.bl _, H, I, rfl, q _ _ _ (Grow.refl l) (.bl _)⟩
theorem oNe (hu : X.A.units + 64 < cLine) : OpD X (compareOp .NotEq) (liftB neD) := fun pins s σ H x y v u Q I rx ry ⟨F, a, b, c, l, ha, hb, e, q⟩ => by
  obtain ⟨k, h1, rfl⟩ := liftB_inv e
  unfold neD at h1
  obtain ⟨hz, rfl⟩ := ite_some h1
  obtain ⟨as, r1, y1, d1⟩ := rd_reads I l ha rx hz.1
  obtain ⟨bs, r2, y2, d2⟩ := rd_reads I l hb ry hz.2
  have s1 : SeqAt.shaped a = true := by unfold SeqAt.shaped; rw [y1, decide_eq_true (by omega)]; rfl
  have s2 : SeqAt.shaped b = true := by unfold SeqAt.shaped; rw [y2, decide_eq_true (by omega)]; rfl
  exact SeqAt.compareNe_shaped r1 r2 s1 s2 hu ⟨.bl _, H, I, rfl, q _ _ _ (Grow.refl l) (.bl _)⟩

/-! ### is None -/
def isNoneD : D → Bool
  | .none => true
  | _ => false
def isN : D → D → Option Bool
  | a, .none => some (isNoneD a)
  | _, _ => none
def isNN : D → D → Option Bool
  | a, .none => some (!isNoneD a)
  | _, _ => none
theorem isN_val {K : Fg} {F : Hp} {v : V} {a : D} (h : Rp K F v a) : decide (v = .non) = isNoneD a := by
  cases h with
  | obj h q => cases q <;> rfl
  | kl h q => rfl
  | _ => rfl
theorem oIs : OpD X (compareOp .Is) (liftB isN) := OpR.case fun x y H Q ⟨F, a, b, c, l, ha, hb, e, q⟩ => by
  obtain ⟨k, h1, rfl⟩ := liftB_inv e
  unfold isN at h1
  split at h1
  · cases h1
    refine ⟨_, op_isN, hb.none_eq, ?_⟩
    rw [isN_val ha]
    exact q _ _ _ (Grow.refl l) (.bl _)
  · cases h1
theorem oIsNot : OpD X (compareOp .IsNot) (liftB isNN) := OpR.case fun x y H Q ⟨F, a, b, c, l, ha, hb, e, q⟩ => by
  obtain ⟨k, h1, rfl⟩ := liftB_inv e
  unfold isNN at h1
  split at h1
  · cases h1
    refine ⟨_, op_notN, hb.none_eq, ?_⟩
    rw [isN_val ha]
    exact q _ _ _ (Grow.refl l) (.bl _)
  · cases h1

/-! ### <, <=, >, >= -/
open PySem.W in
/-- o says: Lt, LtE, Gt, GtE -/
theorem dec_cl' {c : Prop} [i : Decidable c] : @decide c (Classical.propDecidable c) = decide c := by
  have : Classical.propDecidable c = i := Subsingleton.elim _ _
  rw [this]
noncomputable def ordI (o : CmpOp) (i j : Int) : Bool := match o with
  | .Lt => @decide (i < j) (Classical.propDecidable _) | .LtE => @decide (i ≤ j) (Classical.propDecidable _) | .Gt => @decide (j < i) (Classical.propDecidable _) | .GtE => @decide (j ≤ i) (Classical.propDecidable _) | _ => false
def ordS (o : CmpOp) (x y : List Nat) : Bool := match o with
  | .Lt => decide (x < y) | .LtE => !decide (y < x) | .Gt => decide (y < x) | .GtE => !decide (x < y) | _ => false
def ordN (o : CmpOp) (i j : Nat) : Bool := match o with
  | .Lt => decide (i < j) | .LtE => decide (i ≤ j) | .Gt => decide (j < i) | .GtE => decide (j ≤ i) | _ => false
mutual
noncomputable def ordV (o : CmpOp) : D → D → Bool
  | .int i, .int j => ordI o i j
  | .str x, .str y => ordS o x.cps.toList y.cps.toList
  | .tuple xs, .tuple ys => ordAllV o xs ys
  | _, _ => false
noncomputable def ordAllV (o : CmpOp) : List D → List D → Bool
  | [], [] => ordN o 0 0
  | [], _ :: _ => ordN o 0 1
  | _ :: _, [] => ordN o 1 0
  | x :: xs, y :: ys => if PyData.eqv x y = true then ordAllV o xs ys else ordV o x y
end
mutual
/-- can be compared by < and its like: ints, texts, tuples of such place by place -/
def ordOk : D → D → Bool
  | .int _, .int _ => true
  | .str _, .str _ => true
  | .tuple xs, .tuple ys => ordOkAll xs ys
  | _, _ => false
def ordOkAll : List D → List D → Bool
  | x :: xs, y :: ys => ordOk x y && ordOkAll xs ys
  | _, _ => true
end
noncomputable def ordD (o : CmpOp) (a b : D) : Option Bool := if cmpOk a = true ∧ cmpOk b = true ∧ ordOk a b = true then some (ordV o a b) else none
abbrev isOrd (o : CmpOp) : Prop := o = .Lt ∨ o = .LtE ∨ o = .Gt ∨ o = .GtE
theorem lexAt_ord {o : CmpOp} : ∀ (xs ys : List D) (e r : Nat → Bool) (i : Nat), (∀ j, j < min xs.length ys.length → e (i + j) = PyData.eqv (xs.getD j .none) (ys.getD j .none)) → (∀ j, j < min xs.length ys.length → r (i + j) = ordV o (xs.getD j .none) (ys.getD j .none)) → isOrd o →
    Ob.lexAt e r (ordN o xs.length ys.length) i (min xs.length ys.length) = ordAllV o xs ys
  | [], [], e, r, i, h1, h2, _ => by simp [Ob.lexAt, ordAllV]
  | [], y :: ys, e, r, i, h1, h2, ho => by
    simp only [List.length_nil, Nat.zero_min, Ob.lexAt, ordAllV]
    rcases ho with rfl | rfl | rfl | rfl <;> simp [ordN]
  | x :: xs, [], e, r, i, h1, h2, ho => by
    simp only [List.length_nil, Nat.min_zero, Ob.lexAt, ordAllV]
    rcases ho with rfl | rfl | rfl | rfl <;> simp [ordN]
  | x :: xs, y :: ys, e, r, i, h1, h2, ho => by
    have em : min (x :: xs).length (y :: ys).length = min xs.length ys.length + 1 := by simp only [List.length_cons]; omega
    have en : ordN o (x :: xs).length (y :: ys).length = ordN o xs.length ys.length := by
      rcases ho with rfl | rfl | rfl | rfl <;> simp [ordN]
    rw [em, en, Ob.lexAt_succ]
    have z1 := h1 0 (by omega)
    have z2 := h2 0 (by omega)
    simp only [Nat.add_zero, List.getD_cons_zero] at z1 z2
    rw [z1, z2, ordAllV]
    have ih := lexAt_ord xs ys e r (i + 1) (fun j hj => by
      have := h1 (j + 1) (by omega)
      rw [List.getD_cons_succ, List.getD_cons_succ] at this
      rw [← this]; congr 1; omega) (fun j hj => by
      have := h2 (j + 1) (by omega)
      rw [List.getD_cons_succ, List.getD_cons_succ] at this
      rw [← this]; congr 1; omega) ho
    rw [ih]
theorem ordOkAll_at : ∀ (xs ys : List D) (j : Nat), ordOkAll xs ys = true → j < min xs.length ys.length → ordOk (xs.getD j .none) (ys.getD j .none) = true
  | [], _, j, _, h => by simp at h
  | _ :: _, [], j, _, h => by simp at h
  | x :: xs, y :: ys, 0, h, _ => by
    rw [ordOkAll, Bool.and_eq_true] at h
    exact h.1
  | x :: xs, y :: ys, j + 1, h, hj => by
    rw [ordOkAll, Bool.and_eq_true] at h
    rw [List.getD_cons_succ, List.getD_cons_succ]
    exact ordOkAll_at xs ys j h.2 (by simp only [List.length_cons] at hj; omega)
theorem readsAll_at {h : Heap} : ∀ (xs : List D) (vs : List Value) (as : List Addr) (j : Nat), ReadsAll h vs xs as → j < xs.length → ∃ v as', vs[j]? = some v ∧ Reads h v (xs.getD j .none) as'
  | [], _, _, j, _, h => by simp at h
  | x :: xs, _, _, 0, r, _ => by
    cases r with
    | cons r1 r2 => exact ⟨_, _, rfl, r1⟩
  | x :: xs, _, _, j + 1, r, hj => by
    cases r with
    | cons r1 r2 =>
      obtain ⟨v, as', e1, e2⟩ := readsAll_at xs _ _ j r2 (by simpa using hj)
      exact ⟨v, as', by simpa using e1, by rw [List.getD_cons_succ]; exact e2⟩
theorem depthAll_at : ∀ (xs : List D) (j : Nat), (xs.getD j .none).depth ≤ PyData.depthAll xs
  | [], j => by simp [PyData.depth]
  | x :: xs, 0 => by rw [List.getD_cons_zero, PyData.depthAll]; exact Nat.le_max_left _ _
  | x :: xs, j + 1 => by
    rw [List.getD_cons_succ, PyData.depthAll]
    exact Nat.le_trans (depthAll_at xs j) (Nat.le_max_right _ _)
theorem layAll_at : ∀ (xs : List D) (j : Nat), PyData.canLayAll0 xs = true → (xs.getD j .none).canLay0 = true
  | [], j, _ => by simp [PyData.canLay0]
  | x :: xs, 0, h => by
    rw [PyData.canLayAll0, Bool.and_eq_true] at h
    exact h.1
  | x :: xs, j + 1, h => by
    rw [PyData.canLayAll0, Bool.and_eq_true] at h
    rw [List.getD_cons_succ]
    exact layAll_at xs j h.2
theorem rcOp_tuples {o : CmpOp} (ho : isOrd o) {A : Around} {s : Shared} {l b : Addr} {items items2 : Array Value} {e r : Nat → Bool} (hl : s.heap.IsTuple l items) (hb : s.heap.IsTuple b items2) (hu : A.units < cLine)
    (he : ∀ j (h1 : j < items.size) (h2 : j < items2.size), SeqAt.EqAt A.in1 s items[j] items2[j] (e j)) (hr : ∀ j (h1 : j < items.size) (h2 : j < items2.size), e j = false → Ob.RcOp o A.in1 s items[j] items2[j] (r j)) :
    Ob.RcOp o A s (.ref l) (.ref b) (Ob.lexAt e r (ordN o items.size items2.size) 0 (min items.size items2.size)) := by
  rcases ho with rfl | rfl | rfl | rfl
  · exact Ob.RcOp.tuples_lt hl hb hu he hr
  · exact Ob.RcOp.tuples_le hl hb hu he hr
  · exact Ob.RcOp.tuples_gt hl hb hu he hr
  · exact Ob.RcOp.tuples_ge hl hb hu he hr
theorem rcOp_ord {o : CmpOp} (ho : isOrd o) : ∀ (n : Nat) (a b : D) (A : Around) (s : Shared) (v u : Value) (as bs : List Addr), a.depth ≤ n → Reads s.heap v a as → Reads s.heap u b bs → a.canLay0 = true → b.canLay0 = true → ordOk a b = true → A.units + n < cLine → Ob.RcOp o A s v u (ordV o a b) := by
  intro n
  induction n with
  | zero =>
    intro a b A s v u as bs hd ra rb la lb k hu
    cases a with
    | int i =>
      cases b with
      | int j =>
        cases ra; cases rb
        rcases ho with rfl | rfl | rfl | rfl
        · rw [show ordV .Lt (.int i) (.int j) = _ from dec_cl']
          exact Ob.RcOp.lt_int _ _ _ _
        · rw [show ordV .LtE (.int i) (.int j) = _ from dec_cl']
          exact Ob.RcOp.le_int _ _ _ _
        · rw [show ordV .Gt (.int i) (.int j) = _ from dec_cl']
          exact Ob.RcOp.gt_int _ _ _ _
        · rw [show ordV .GtE (.int i) (.int j) = _ from dec_cl']
          exact Ob.RcOp.ge_int _ _ _ _
      | _ => simp [ordOk] at k
    | str x =>
      cases b with
      | str y =>
        cases ra; cases rb
        intro prog w E Q h
        rcases ho with rfl | rfl | rfl | rfl
        · exact lt_str h
        · exact PySem.P.le_str h
        · exact PySem.P.gt_str h
        · exact PySem.P.ge_str h
      | _ => simp [ordOk] at k
    | tuple xs => simp [PyData.depth] at hd
    | _ => simp [ordOk] at k
  | succ n ih =>
    intro a b A s v u as bs hd ra rb la lb k hu
    cases a with
    | int i =>
      cases b with
      | int j =>
        cases ra; cases rb
        rcases ho with rfl | rfl | rfl | rfl
        · rw [show ordV .Lt (.int i) (.int j) = _ from dec_cl']
          exact Ob.RcOp.lt_int _ _ _ _
        · rw [show ordV .LtE (.int i) (.int j) = _ from dec_cl']
          exact Ob.RcOp.le_int _ _ _ _
        · rw [show ordV .Gt (.int i) (.int j) = _ from dec_cl']
          exact Ob.RcOp.gt_int _ _ _ _
        · rw [show ordV .GtE (.int i) (.int j) = _ from dec_cl']
          exact Ob.RcOp.ge_int _ _ _ _
      | _ => simp [ordOk] at k
    | str x =>
      cases b with
      | str y =>
        cases ra; cases rb
        intro prog w E Q h
        rcases ho with rfl | rfl | rfl | rfl
        · exact lt_str h
        · exact PySem.P.le_str h
        · exact PySem.P.gt_str h
        · exact PySem.P.ge_str h
      | _ => simp [ordOk] at k
    | tuple xs =>
      cases b with
      | tuple ys =>
        rw [ordOk] at k
        rw [PyData.canLay0] at la lb
        rw [PyData.depth] at hd
        cases ra with
        | @tuple l o1 vs m1 _ as1 h1 h2 h3 h4 =>
          cases rb with
          | @tuple l' o2 ws m2 _ bs1 g1 g2 g3 g4 =>
            have n1 : vs.size = xs.length := by simpa using SeqAt.ReadsAll.length _ _ _ h4
            have n2 : ws.size = ys.length := by simpa using SeqAt.ReadsAll.length _ _ _ g4
            have key := rcOp_tuples (o := o) ho (A := A) (s := s) (l := l) (b := l') (items := vs) (items2 := ws) (e := fun j => PyData.eqv (xs.getD j .none) (ys.getD j .none)) (r := fun j => ordV o (xs.getD j .none) (ys.getD j .none))
              ⟨_, h1, h2, _, h3⟩ ⟨_, g1, g2, _, g3⟩ (by omega) (fun j j1 j2 => by
                obtain ⟨v1, c1, e1, r1⟩ := readsAll_at xs _ _ j h4 (by omega)
                obtain ⟨v2, c2, e2, r2⟩ := readsAll_at ys _ _ j g4 (by omega)
                have e1' : vs[j] = v1 := by simpa [j1] using e1
                have e2' : ws[j] = v2 := by simpa [j2] using e2
                rw [e1', e2']
                have hde := depthAll_at xs j
                refine SeqAt.eqAt_reads _ _ A.in1 s _ _ _ _ r1 r2 (layAll_at xs j la) (layAll_at ys j lb) ?_
                have := Nat.min_le_left (xs.getD j .none).depth (ys.getD j .none).depth
                show A.units + 1 + _ < cLine
                omega) (fun j j1 j2 _ => by
                obtain ⟨v1, c1, e1, r1⟩ := readsAll_at xs _ _ j h4 (by omega)
                obtain ⟨v2, c2, e2, r2⟩ := readsAll_at ys _ _ j g4 (by omega)
                have e1' : vs[j] = v1 := by simpa [j1] using e1
                have e2' : ws[j] = v2 := by simpa [j2] using e2
                rw [e1', e2']
                have hde := depthAll_at xs j
                exact ih _ _ A.in1 s _ _ _ _ (by omega) r1 r2 (layAll_at xs j la) (layAll_at ys j lb) (ordOkAll_at xs ys j k (by omega)) (by show A.units + 1 + n < cLine; omega))
            rw [n1, n2, lexAt_ord xs ys _ _ 0 (fun j _ => by simp) (fun j _ => by simp) ho] at key
            rw [ordV]
            exact key
      | _ => simp [ordOk] at k
    | _ => simp [ordOk] at k
theorem oOrd {o : CmpOp} (ho : isOrd o) (hu : X.A.units + 64 < cLine) : OpD X (compareOp o) (liftB (ordD o)) := fun pins s σ H x y v u Q I rx ry ⟨F, a, b, c, l, ha, hb, e, q⟩ => by
  obtain ⟨k, h1, rfl⟩ := liftB_inv e
  unfold ordD at h1
  obtain ⟨hz, rfl⟩ := ite_some h1
  obtain ⟨as, r1, y1, d1⟩ := rd_reads I l ha rx hz.1
  obtain ⟨bs, r2, y2, d2⟩ := rd_reads I l hb ry hz.2.1
  have := rcOp_ord ho 60 a b X.A s v u as bs d1 r1 r2 y1 y2 hz.2.2 (by omega) X.prog X.w X.xe (EP X pins σ Q) ⟨.bl _, H, I, rfl, q _ _ _ (Grow.refl l) (.bl _)⟩
  rcases ho with rfl | rfl | rfl | rfl <;> exact this

/-! ### in, not in -/
def inD : D → D → Option Bool
  | a, .list xs => if cmpOk a = true ∧ cmpOk (.list xs) = true then some (xs.any fun y => PyData.eqv y a) else none
  | a, .tuple xs => if cmpOk a = true ∧ cmpOk (.tuple xs) = true then some (xs.any fun y => PyData.eqv y a) else none
  | .str x, .str y => some (!(Builtin.Str.occurrences y x 0 y.length 1).isEmpty)
  | _, _ => none
def ninD (a b : D) : Option Bool := (inD a b).map not
theorem cmp_room {a b : D} {n : Nat} (h : a.depth ≤ 60) (hu : n + 65 < cLine) : n + 1 + min b.depth a.depth < cLine := by
  have := Nat.min_le_right b.depth a.depth
  omega
theorem cmp_roomA {a : D} {b n m : Nat} (h : a.depth ≤ 60) (hu : n + 66 < cLine) : n + 1 + min b a.depth < cLine := by
  have := Nat.min_le_right b a.depth
  omega
theorem oIn (hu : X.A.units + 66 < cLine) : OpD X (compareOp .In) (liftB inD) := fun pins s σ H x y v u Q I rx ry ⟨F, a, b, c, l, ha, hb, e, q⟩ => by
  obtain ⟨k, h1, rfl⟩ := liftB_inv e
  unfold inD at h1
  split at h1
  · obtain ⟨hz, rfl⟩ := ite_some h1
    obtain ⟨as, r1, y1, d1⟩ := rd_reads I l ha rx hz.1
    obtain ⟨bs, r2, y2, d2⟩ := rd_reads I l hb ry hz.2
    exact SeqAt.in_list_reads r2 r1 y2 y1 (cmp_roomA (m := 0) d1 hu) ⟨.bl _, H, I, rfl, q _ _ _ (Grow.refl l) (.bl _)⟩
  · obtain ⟨hz, rfl⟩ := ite_some h1
    obtain ⟨as, r1, y1, d1⟩ := rd_reads I l ha rx hz.1
    obtain ⟨bs, r2, y2, d2⟩ := rd_reads I l hb ry hz.2
    exact SeqAt.in_tuple_reads r2 r1 y2 y1 (cmp_roomA (m := 0) d1 hu) ⟨.bl _, H, I, rfl, q _ _ _ (Grow.refl l) (.bl _)⟩
  · cases h1
    exact op_in_str pins s σ H _ _ v u Q I rx ry ⟨_, _, ha.str_eq.1, hb.str_eq.1, q _ _ _ (Grow.refl l) (.bl _)⟩
  · cases h1
theorem oNotIn (hu : X.A.units + 66 < cLine) : OpD X (compareOp .NotIn) (liftB ninD) := fun pins s σ H x y v u Q I rx ry ⟨F, a, b, c, l, ha, hb, e, q⟩ => by
  obtain ⟨k, h1, rfl⟩ := liftB_inv e
  unfold ninD inD at h1
  split at h1
  · by_cases hz : cmpOk a = true ∧ cmpOk (.list ‹_›) = true
    · rw [if_pos hz] at h1
      cases h1
      obtain ⟨as, r1, y1, d1⟩ := rd_reads I l ha rx hz.1
      obtain ⟨bs, r2, y2, d2⟩ := rd_reads I l hb ry hz.2
      exact SeqAt.notIn_list_reads r2 r1 y2 y1 (cmp_roomA (m := 0) d1 hu) ⟨.bl _, H, I, rfl, q _ _ _ (Grow.refl l) (.bl _)⟩
    · rw [if_neg hz] at h1; cases h1
  · by_cases hz : cmpOk a = true ∧ cmpOk (.tuple ‹_›) = true
    · rw [if_pos hz] at h1
      cases h1
      obtain ⟨as, r1, y1, d1⟩ := rd_reads I l ha rx hz.1
      obtain ⟨bs, r2, y2, d2⟩ := rd_reads I l hb ry hz.2
      exact SeqAt.notIn_tuple_reads r2 r1 y2 y1 (cmp_roomA (m := 0) d1 hu) ⟨.bl _, H, I, rfl, q _ _ _ (Grow.refl l) (.bl _)⟩
    · rw [if_neg hz] at h1; cases h1
  · cases h1
    exact op_notin_str pins s σ H _ _ v u Q I rx ry ⟨_, _, ha.str_eq.1, hb.str_eq.1, q _ _ _ (Grow.refl l) (.bl _)⟩
  · cases h1
end
end DL

/-! DL5: subscripts, slices, calls of built-ins -/
namespace DL
open PySem PySem.Spec PyProof.Rows L2
section
variable {K : Fg} {F H F' H' : Hp} {β : Nat → Option Addr} {st st' : DSt} {σ σ' : L2.St} {v w : V} {a : Addr} {d : D}
theorem tF_mono {f : DF} {Q Q' : VK} (h : tF K f σ H Q) (w : ∀ v H', Q v H' → Q' v H') : tF K f σ H Q' :=
  let ⟨F, β, st, d, st', r, e, q⟩ := h; ⟨F, β, st, d, st', r, e, fun F' H' v k => w _ _ (q F' H' v k)⟩
theorem tOp_mono {r r' : R2} {f g : DF} {Q : VK} (h : tOp r (tF K f) (tF K g) σ H Q) (w : ∀ x y H Q, r x y H Q → r' x y H Q) : tOp r' (tF K f) (tF K g) σ H Q :=
  tF_mono h fun _ _ h2 => tF_mono h2 fun _ _ h3 => w _ _ _ _ h3
/-- what stands in a slot, not taken -/
def peek (st : DSt) (i : Nat) : Option D := match st[i]? with
  | some (some s) => some s.frz
  | _ => none
/-- an item of what the slot holds -/
theorem StRel.peek_at {i : Nat} {c : D} (r : StRel K F H β st σ) (e : peek st i = some c) : ∃ v, σ[i]? = some (some v) ∧ Rp K H v c ∧ (Rp K F v c ∨ ∃ a o, v = .ref a ∧ H a = some o ∧ ORp K F o c) := by
  unfold peek at e
  split at e
  · rename_i s z
    cases e
    obtain ⟨v, e1, q⟩ := r.slot i s z
    refine ⟨v, e1, ?_⟩
    cases s with
    | val d => exact ⟨Rp.mono r.le q, .inl q⟩
    | own t c =>
      obtain ⟨a, o, rfl, f, hh, q, _⟩ := q
      exact ⟨.obj (.inl hh) (ORp.mono r.le q), .inr ⟨a, o, rfl, hh, q⟩⟩
  · cases e
end
theorem atI_rp {K : Fg} {F : Hp} {vs : List V} {xs : List D} {i : Int} {d : D} (h : RpAll K F vs xs) (e : atI xs i = some d) : ∃ v, atI vs i = some v ∧ Rp K F v d := by
  unfold atI at *
  rw [h.length]
  cases q : ixN xs.length i with
  | none => rw [q] at e; cases e
  | some j =>
    rw [q] at e
    obtain ⟨v, e1, e2⟩ := h.get (i := j) e
    exact ⟨v, e1, e2⟩
theorem okS_one {x : Str} {c : Nat} (h : okS x) (hc : c ∈ x.cps.toList) : okS ⟨#[c]⟩ := by
  have h1 := h.1
  unfold PyData.strOk at h1
  rw [← Array.all_toList, List.all_eq_true] at h1
  refine ⟨?_, by show (#[c] : Array Nat).size ≤ _; simp⟩
  unfold PyData.strOk
  simp only [List.all_toArray, List.all_cons, List.all_nil, Bool.and_true]
  exact h1 c hc
theorem atI_mem {α : Type} {xs : List α} {i : Int} {c : α} (e : atI xs i = some c) : c ∈ xs := by
  unfold atI at e
  cases q : ixN xs.length i with
  | none => rw [q] at e; cases e
  | some j => rw [q] at e; exact List.mem_of_getElem? e
def ixD : D → D → Option D
  | .list xs, .int i => atI xs i
  | .tuple xs, .int i => atI xs i
  | .str x, .int i => (atI x.cps.toList i).bind fun c => some (.str ⟨#[c]⟩)
  | _, _ => none
def cutD {α : Type} (xs : List α) (lo hi : Option Int) : List α := (xs.drop (HT.sIx xs.length 0 lo)).take (HT.sIx xs.length xs.length hi - HT.sIx xs.length 0 lo)
def slD : D → Option Int → Option Int → Option D
  | .list xs, lo, hi => some (.list (cutD xs lo hi))
  | .tuple xs, lo, hi => some (.tuple (cutD xs lo hi))
  | .str x, lo, hi => some (.str (cutS x lo hi))
  | _, _, _ => none
theorem cut_rp {K : Fg} {F : Hp} {vs : List V} {xs : List D} {lo hi : Option Int} (h : RpAll K F vs xs) : RpAll K F (cutV vs lo hi) (cutD xs lo hi) := by
  unfold cutV cutD
  rw [h.length]
  exact (h.drop _).take _
theorem okS_cut {x : Str} {lo hi : Option Int} (h : okS x) : okS (cutS x lo hi) := by
  refine ⟨?_, Nat.le_trans (cutS_length x lo hi) h.2⟩
  have h1 := h.1
  unfold PyData.strOk at *
  unfold cutS
  rw [← Array.all_toList, List.all_eq_true] at *
  intro c hc
  refine h1 c ?_
  have : c ∈ ((x.cps.toList.drop (HT.sIx x.length 0 lo)).take (HT.sIx x.length x.length hi - HT.sIx x.length 0 lo)) := by simpa using hc
  exact List.mem_of_mem_drop (List.mem_of_mem_take this)

section
variable {X : Cx} {e a b o : Expr} {es : List Expr} {f g : DF} {ga : DA} {pos p2 : Pos}
theorem ix_rule {K : Fg} {x y : V} {H : Hp} {Q : VK} (h : rD K ixD x y H Q) : rIx K x y H Q := by
  obtain ⟨F, a, b, c, l, ha, hb, e, q⟩ := h
  unfold ixD at e
  split at e
  · obtain ⟨p, vs, rfl, h1, h2⟩ := ha.list_inv
    obtain ⟨v, e1, e2⟩ := atI_rp h2 e
    exact .inl ⟨p, vs, _, v, rfl, hb.int_eq, l.seq h1, e1, q _ _ _ (Grow.refl l) e2⟩
  · obtain ⟨p, vs, rfl, h1, h2⟩ := ha.tup_inv
    obtain ⟨v, e1, e2⟩ := atI_rp h2 e
    exact .inr (.inl ⟨p, vs, _, v, rfl, hb.int_eq, SqT.mono l h1, e1, q _ _ _ (Grow.refl l) e2⟩)
  · obtain ⟨z, e1, e2⟩ := bind_some e
    cases e2
    obtain ⟨h1, h2⟩ := ha.str_eq
    exact .inr (.inr ⟨_, _, z, h1, hb.int_eq, by rw [← big_eq]; exact h2.2, e1, q _ _ _ (Grow.refl l) (.str (okS_one h2 (atI_mem e1)))⟩)
  · cases e
def dIx (f g : DF) : DF := dBin ixD f g
theorem pf_ix (ha : PE X a (tF X.K f)) (hb : PE X b (tF X.K g)) (hs : PlainIx b := by exact fun _ _ => rfl) : PE X (.Subscript a b pos) (tF X.K (dIx f g)) :=
  PE.imp (pe_ix ix_seq ha hb hs) fun σ H Q h => tOp_mono (bin_to h) fun _ _ _ _ => ix_rule
/-- x[e], x a name: what the slot holds is looked at, not taken -/
def dIxV (i : Nat) (g : DF) : DF := fun st => (peek st i).bind fun _ => (g st).bind fun q => (peek q.2 i).bind fun c => (ixD c q.1).bind fun r => some (r, q.2)
theorem pf_ixV (i : Nat) {x : Str} {p : Pos} (hb : PE X b (tF X.K g)) (hs : PlainIx b := by exact fun _ _ => rfl) (hN : X.N[i]? = some x := by rfl) (hv : Vis X.env.scope x := by first | exact Or.inl rfl | exact Or.inr (Or.inl rfl) | exact Or.inr (Or.inr rfl))
    (hd : (x == ("__debug__" : Str)) = false := by decide) (hcd : (x == ("__classdict__" : Str)) = false := by decide) : PE X (.Subscript (.Name x p) b pos) (tF X.K (dIxV i g)) :=
  PE.imp (pe_ix ix_seq (pe_var hN hv hd hcd) hb hs) fun σ H Q ⟨F, β, st, d, st', r, e1, q⟩ => by
    obtain ⟨c0, h0, e1⟩ := bind_some e1
    obtain ⟨k, h1, e2⟩ := bind_some e1
    obtain ⟨c, h2, e3⟩ := bind_some e2
    obtain ⟨w, h3, e4⟩ := bind_some e3
    cases e4
    unfold peek at h2
    obtain ⟨s, z, rfl⟩ : ∃ s, k.2[i]? = some (some s) ∧ s.frz = c := by
      split at h2
      · cases h2; exact ⟨_, by assumption, rfl⟩
      · cases h2
    -- the name's value is the same ahead and behind
    have key : ∀ v, σ[i]? = some (some v) → tF X.K g σ H (fun y H2 => rIx X.K v y H2 Q) := fun v hv => ⟨F, β, st, k.1, k.2, r, h1, fun F1 H1 y k1 => by
      obtain ⟨v2, e5, q5⟩ := k1.rel.slot i s z
      rw [hv] at e5
      cases e5
      cases s with
      | val d0 => exact ix_rule ⟨F1, _, _, _, k1.rel.le, q5, k1.res, h3, fun F3 H3 v3 g3 q3 => q _ _ _ ((k1.b.grow g3).toD q3)⟩
      | own t c =>
        obtain ⟨p, o, rfl, f0, hh, q6, _⟩ := q5
        have h3' : ixD c k.1 = some d := h3
        cases q6 with
        | @lst vs ds q7 =>
          have z3 := h3'
          unfold ixD at z3
          split at z3
          · rename_i xs j hx hk
            cases hx
            obtain ⟨v5, e5, e6⟩ := atI_rp q7 z3
            have h5 := k1.res
            rw [hk] at h5
            exact .inl ⟨p, vs, j, v5, rfl, h5.int_eq, .inl (.inl hh), e5, q _ _ _ (k1.b.toD e6)⟩
          · rename_i hx _; cases hx
          · rename_i hx _; cases hx
          · cases z3
        | dK q7 => unfold ixD at h3'; cases h3'
        | dT q7 => unfold ixD at h3'; cases h3'⟩
    obtain ⟨v0, hv0, _⟩ := r.peek_at h0
    exact ⟨v0, hv0, key v0 hv0⟩
/-! ### slices -/
abbrev DO := DSt → Option (Option Int × DSt)
def tO (K : Fg) (f : DO) : TO := fun σ H Q => ∃ F β st i st', StRel K F H β st σ ∧ f st = some (i, st') ∧ ∀ F' H', BOk K F H β st σ F' H' st' → Q i H'
def dNoP : DO := fun st => some (none, st)
def intOf : D → Option Int
  | .int i => some i
  | _ => none
def dPt (f : DF) : DO := fun st => (f st).bind fun p => (intOf p.1).bind fun i => some (some i, p.2)
theorem PO.imp {e : Option Expr} {t t' : TO} (h : PO X e t) (w : ∀ σ H Q, t' σ H Q → t σ H Q) : PO X e t' := ⟨fun pins s σ H Q I q => h.run pins s σ H Q I (w σ H Q q)⟩
theorem po_no : PO X none (tO X.K dNoP) := PO.imp po_none fun σ H Q ⟨F, β, st, d, st', r, e1, q⟩ => by
  cases e1
  exact q _ _ (BOk.refl r)
theorem intOf_eq {d : D} {i : Int} (h : intOf d = some i) : d = .int i := by
  cases d <;> first | (cases h; rfl) | cases h
theorem po_pt (ha : PE X a (tF X.K f)) : PO X (some a) (tO X.K (dPt f)) := PO.imp (po_some ha) fun σ H Q ⟨F, β, st, d, st', r, e1, q⟩ => by
  obtain ⟨p, h1, e2⟩ := bind_some e1
  obtain ⟨i, h2, e3⟩ := bind_some e2
  cases e3
  refine ⟨F, β, st, p.1, p.2, r, h1, fun F1 H1 v1 k1 => ?_⟩
  have k2 := k1.res
  rw [intOf_eq h2] at k2
  exact ⟨i, k2.int_eq, q _ _ k1.b⟩
theorem SlR.case {r : V → Option Int → Option Int → Hp → VK → Prop} (h : ∀ x lo hi H Q, r x lo hi H Q → ∃ r', SlR X r' ∧ r' x lo hi H Q) : SlR X r := fun pins s σ H x v vl vu lo hi sl Q I rx hs pl pu q => let ⟨_, a, b⟩ := h x lo hi H Q q; a pins s σ H x v vl vu lo hi sl Q I rx hs pl pu b
def rSl (K : Fg) : V → Option Int → Option Int → Hp → VK → Prop := fun x lo hi H Q => ∃ F a c, Same F H ∧ Rp K F x a ∧ slD a lo hi = some c ∧ ∀ F' H' v, Grow F H F' H' → Rp K F' v c → Q v H'
theorem cut_whole {α : Type} {xs : List α} {lo hi : Option Int} (h : HT.sIx xs.length 0 lo = 0 ∧ HT.sIx xs.length xs.length hi = xs.length) : cutD xs lo hi = xs := by
  unfold cutD
  rw [h.1, h.2]
  simp
theorem oSl : SlR X (rSl X.K) := SlR.case fun x lo hi H Q ⟨F, a, c, l, ha, e, q⟩ => by
  unfold slD at e
  split at e
  · cases e
    obtain ⟨p, vs, rfl, h1, h2⟩ := ha.list_inv
    refine ⟨_, sl_list, p, vs, rfl, l.seq h1, fun u hu => ?_⟩
    have g := Grow.laid (o := .lst (cutV vs lo hi)) l hu
    exact q _ _ _ g (.obj (.inl upd_same) (.lst (RpAll.mono g.mono (cut_rp h2))))
  · cases e
    obtain ⟨p, vs, rfl, h1, h2⟩ := ha.tup_inv
    refine ⟨_, sl_tupA, p, vs, rfl, SqT.mono l h1, fun z => ?_, fun _ u hu => ?_⟩
    · rw [h2.length] at z
      rw [cut_whole z] at q
      exact q _ _ _ (Grow.refl l) ha
    · have g := Grow.laid (o := .tup (cutV vs lo hi)) l hu
      exact q _ _ _ g (.tup (.inl (.inl upd_same)) (RpAll.mono g.mono (cut_rp h2)))
  · cases e
    obtain ⟨h1, h2⟩ := ha.str_eq
    exact ⟨_, sl_str, _, h1, by rw [← big_eq]; exact h2.2, q _ _ _ (Grow.refl l) (.str (okS_cut h2))⟩
  · cases e
def dSl (f : DF) (lo hi : DO) : DF := fun st => (f st).bind fun p => (lo p.2).bind fun a => (hi a.2).bind fun b => (slD p.1 a.1 b.1).bind fun c => some (c, b.2)
variable {lo hi : Option Expr} {dl dh : DO}
theorem pf_sl (he : PE X e (tF X.K f)) (hl : PO X lo (tO X.K dl)) (hh : PO X hi (tO X.K dh)) : PE X (.Subscript e (.Slice lo hi none p2) pos) (tF X.K (dSl f dl dh)) :=
  PE.imp (pe_slice oSl he hl hh) fun σ H Q ⟨F, β, st, d, st', r, e1, q⟩ => by
    obtain ⟨p, h1, e2⟩ := bind_some e1
    obtain ⟨p2, h2, e3⟩ := bind_some e2
    obtain ⟨p3, h3, e4⟩ := bind_some e3
    obtain ⟨c, h4, e5⟩ := bind_some e4
    cases e5
    refine ⟨F, β, st, p.1, p.2, r, h1, fun F1 H1 v1 k1 => ⟨F1, β, p.2, p2.1, p2.2, k1.rel, h2, fun F2 H2 k2 => ⟨F2, β, p2.2, p3.1, p3.2, k2.rel, h3, fun F3 H3 k3 => ?_⟩⟩⟩
    exact ⟨F3, p.1, d, k3.rel.le, Rp.mono k3.stp.mono (Rp.mono k2.stp.mono k1.res), h4, fun F4 H4 v4 g4 q4 => q _ _ _ ((((k1.b.trans k2).trans k3).grow g4).toD q4)⟩
/-- x[lo:hi], x a name -/
def dSlV (i : Nat) (lo hi : DO) : DF := fun st => (peek st i).bind fun _ => (lo st).bind fun a => (hi a.2).bind fun b => (peek b.2 i).bind fun x => (slD x a.1 b.1).bind fun c => some (c, b.2)
theorem pf_slV (i : Nat) {x : Str} {p : Pos} (hl : PO X lo (tO X.K dl)) (hh : PO X hi (tO X.K dh)) (hN : X.N[i]? = some x := by rfl) (hv : Vis X.env.scope x := by first | exact Or.inl rfl | exact Or.inr (Or.inl rfl) | exact Or.inr (Or.inr rfl))
    (hd : (x == ("__debug__" : Str)) = false := by decide) (hcd : (x == ("__classdict__" : Str)) = false := by decide) : PE X (.Subscript (.Name x p) (.Slice lo hi none p2) pos) (tF X.K (dSlV i dl dh)) :=
  PE.imp (pe_slice (r := fun x lo hi H Q => rSl X.K x lo hi H Q ∨ rSlL X.K x lo hi H Q) (SlR.or oSl sl_list) (pe_var hN hv hd hcd) hl hh) fun σ H Q ⟨F, β, st, d, st', r, e1, q⟩ => by
    obtain ⟨c0, h0, e1⟩ := bind_some e1
    obtain ⟨p2, h2, e3⟩ := bind_some e1
    obtain ⟨p3, h3, e4⟩ := bind_some e3
    obtain ⟨y, h5, e4⟩ := bind_some e4
    obtain ⟨c, h4, e5⟩ := bind_some e4
    cases e5
    obtain ⟨v0, hv0, _⟩ := r.peek_at h0
    refine ⟨v0, hv0, ⟨F, β, st, p2.1, p2.2, r, h2, fun F2 H2 k2 => ⟨F2, β, p2.2, p3.1, p3.2, k2.rel, h3, fun F3 H3 k3 => ?_⟩⟩⟩
    obtain ⟨v, e6, _, h7⟩ := k3.rel.peek_at h5
    rw [hv0] at e6
    cases e6
    rcases h7 with h7 | ⟨a, o, rfl, hh, h7⟩
    · exact .inl ⟨F3, y, d, k3.rel.le, h7, h4, fun F4 H4 v4 g4 q4 => q _ _ _ (((k2.trans k3).grow g4).toD q4)⟩
    · cases h7 with
      | @lst vs ds q7 =>
        cases h4
        refine .inr ⟨a, vs, rfl, .inl (.inl hh), fun u hu => ?_⟩
        have g := Grow.laid (o := .lst (cutV vs p2.1 p3.1)) k3.rel.le hu
        exact q _ _ _ (((k2.trans k3).grow g).toD (.obj (.inl upd_same) (.lst (RpAll.mono g.mono (cut_rp q7)))))
      | dK q7 => cases h4
      | dT q7 => cases h4
end
end DL

/-! DL6: calls of built-ins -/
namespace DL
open PySem PySem.Spec PyProof.Rows L2
/-- what a built-in asks and gives, by data -/
def rC (K : Fg) (op : List D → Option D) : List V → Hp → VK → Prop := fun xs H Q => ∃ F ds c, Same F H ∧ RpAll K F xs ds ∧ op ds = some c ∧ ∀ F' H' v, Grow F H F' H' → Rp K F' v c → Q v H'
/-- one that gives a new list, dict -/
def rCO (K : Fg) (op : List D → Option D) : List V → Hp → VK → Prop := fun xs H Q => ∃ F ds c, Same F H ∧ RpAll K F xs ds ∧ op ds = some c ∧ ∀ p o, H p = none → ORp K F o c → Q (.ref p) (upd H p o)
def dCallB (op : List D → Option D) (g : DA) : DF := fun st => (g st).bind fun p => (op p.1).bind fun c => some (c, p.2)
def dCallO (op : List D → Option D) (g : DA) : DE := fun st => (g st).bind fun p => (op p.1).bind fun c => some (.own none c, p.2)
section
variable {X : Cx} {e a b o : Expr} {es : List Expr} {f g : DF} {ga : DA} {pos p : Pos} {x : Str}
theorem cb_to {K : Fg} {op : List D → Option D} {σ : L2.St} {H : Hp} {Q : VK} (h : tF K (dCallB op ga) σ H Q) : tCB (rC K op) (tA K ga) σ H Q := by
  obtain ⟨F, β, st, d, st', r, e1, q⟩ := h
  obtain ⟨k, h1, e2⟩ := bind_some e1
  obtain ⟨c, h2, e3⟩ := bind_some e2
  cases e3
  exact ⟨F, β, st, k.1, k.2, r, h1, fun F1 H1 vs k1 => ⟨F1, k.1, d, k1.rel.le, k1.res, h2, fun F3 H3 v3 g3 q3 => q _ _ _ ((k1.b.grow g3).toD q3)⟩⟩
theorem co_to {K : Fg} {op : List D → Option D} {σ : L2.St} {H : Hp} {Q : VK} (h : tD K (dCallO op ga) σ H Q) : tCB (rCO K op) (tA K ga) σ H Q := by
  obtain ⟨F, β, st, d, st', r, e1, q⟩ := h
  obtain ⟨k, h1, e2⟩ := bind_some e1
  obtain ⟨c, h2, e3⟩ := bind_some e2
  cases e3
  exact ⟨F, β, st, k.1, k.2, r, h1, fun F1 H1 vs k1 => ⟨F1, k.1, c, k1.rel.le, k1.res, h2, fun p o hp ho => q _ _ _ (own_new k1.b hp ho)⟩⟩
section
variable {op : List D → Option D} {id T : String} (hg : Gl X x) (hm : X.mg x = none) (ha : PA X (e :: es) (tA X.K ga))
include hg hm ha
theorem pf_callB (hc : CallR X (.builtin id) (rC X.K op)) (hv : bootBuiltins x = some (.builtin id)) (hn : x ≠ "__name__" := by decide) (hdb : (x == ("__debug__" : Str)) = false := by decide) (he : starEach (e :: es) X.env = (false, eval e X.env) :: starEach es X.env := by rfl) (hpl : (backTo pos (starEach es X.env)).any (·.1) = false := by rfl) :
    PE X (.Call (.Name x p) (e :: es) [] pos) (tF X.K (dCallB op ga)) := PE.imp (pe_callB hc hg hm hv ha hn hdb he hpl) fun _ _ _ h => cb_to h
theorem pf_callTy (hc : CallR X (.type T) (rC X.K op)) (hv : bootBuiltins x = some (.type T)) (hn : x ≠ "__name__" := by decide) (hdb : (x == ("__debug__" : Str)) = false := by decide) (he : starEach (e :: es) X.env = (false, eval e X.env) :: starEach es X.env := by rfl) (hpl : (backTo pos (starEach es X.env)).any (·.1) = false := by rfl) :
    PE X (.Call (.Name x p) (e :: es) [] pos) (tF X.K (dCallB op ga)) := PE.imp (pe_callTy hc hg hm hv ha hn hdb he hpl) fun _ _ _ h => cb_to h
theorem pd_callB (hc : CallR X (.builtin id) (rCO X.K op)) (hv : bootBuiltins x = some (.builtin id)) (hn : x ≠ "__name__" := by decide) (hdb : (x == ("__debug__" : Str)) = false := by decide) (he : starEach (e :: es) X.env = (false, eval e X.env) :: starEach es X.env := by rfl) (hpl : (backTo pos (starEach es X.env)).any (·.1) = false := by rfl) :
    PE X (.Call (.Name x p) (e :: es) [] pos) (tD X.K (dCallO op ga)) := PE.imp (pe_callB hc hg hm hv ha hn hdb he hpl) fun _ _ _ h => co_to h
theorem pd_callTy (hc : CallR X (.type T) (rCO X.K op)) (hv : bootBuiltins x = some (.type T)) (hn : x ≠ "__name__" := by decide) (hdb : (x == ("__debug__" : Str)) = false := by decide) (he : starEach (e :: es) X.env = (false, eval e X.env) :: starEach es X.env := by rfl) (hpl : (backTo pos (starEach es X.env)).any (·.1) = false := by rfl) :
    PE X (.Call (.Name x p) (e :: es) [] pos) (tD X.K (dCallO op ga)) := PE.imp (pe_callTy hc hg hm hv ha hn hdb he hpl) fun _ _ _ h => co_to h
end
theorem CallR.case {f : Value} {r : List V → Hp → VK → Prop} (h : ∀ xs H Q, r xs H Q → ∃ r', CallR X f r' ∧ r' xs H Q) : CallR X f r := fun pins s σ H xs us Q I rr q => let ⟨_, a, b⟩ := h xs H Q q; a pins s σ H xs us Q I rr b
theorem RpAll.one_inv {K : Fg} {F : Hp} {xs : List V} {d : D} (h : RpAll K F xs [d]) : ∃ v, xs = [v] ∧ Rp K F v d := by
  cases h with
  | cons h1 h2 => cases h2; exact ⟨_, rfl, h1⟩
theorem RpAll.two_inv {K : Fg} {F : Hp} {xs : List V} {d d2 : D} (h : RpAll K F xs [d, d2]) : ∃ v w, xs = [v, w] ∧ Rp K F v d ∧ Rp K F w d2 := by
  cases h with
  | cons h1 h2 =>
    obtain ⟨w, rfl, h3⟩ := h2.one_inv
    exact ⟨_, _, rfl, h1, h3⟩

/-! len -/
def lenD : List D → Option D
  | [.list xs] => some (.int xs.length)
  | [.tuple xs] => some (.int xs.length)
  | [.str x] => some (.int x.length)
  | _ => none
theorem len_rule {K : Fg} {v : V} {H : Hp} {d c : D} (h : Rp K H v d) (e : lenD [d] = some c) : ∃ n, LenV K v H n ∧ c = .int n := by
  unfold lenD at e
  split at e
  · rename_i xs z
    cases z
    cases e
    obtain ⟨p, vs, rfl, h1, h2⟩ := h.list_inv
    exact ⟨_, .inl ⟨vs, h1, h2.length.symm⟩, rfl⟩
  · rename_i xs z
    cases z
    cases e
    obtain ⟨p, vs, rfl, h1, h2⟩ := h.tup_inv
    exact ⟨_, .inr ⟨vs, h1, h2.length.symm⟩, rfl⟩
  · rename_i xs z
    cases z
    cases e
    obtain ⟨rfl, h2⟩ := h.str_eq
    exact ⟨_, ⟨by rw [← big_eq]; exact h2.2, rfl⟩, rfl⟩
  · cases e
theorem one_arg {op : List D → Option D} (h : ∀ ds c, op ds = some c → ∃ d, ds = [d]) {ds : List D} {c : D} (e : op ds = some c) : ∃ d, ds = [d] := h ds c e
theorem cLen : CallR X (.builtin "len") (rC X.K lenD) := CallR.case fun xs H Q ⟨F, ds, c, l, ha, e, q⟩ => by
  obtain ⟨d, rfl⟩ : ∃ d, ds = [d] := by
    unfold lenD at e
    split at e <;> first | exact ⟨_, rfl⟩ | cases e
  obtain ⟨v, rfl, h1⟩ := ha.one_inv
  obtain ⟨n, h2, rfl⟩ := len_rule (Rp.mono l h1) e
  exact ⟨_, call_len, v, n, rfl, h2, q _ _ _ (Grow.refl l) (.int _)⟩
/-- len(x), x a name -/
def dLenV (i : Nat) : DF := fun st => (peek st i).bind fun c => (lenD [c]).bind fun n => some (n, st)
theorem pf_lenV (i : Nat) {y : Str} {p2 : Pos} (hg : Gl X x) (hm : X.mg x = none) (hv : bootBuiltins x = some (.builtin "len")) (hN : X.N[i]? = some y := by rfl) (hy : Vis X.env.scope y := by first | exact Or.inl rfl | exact Or.inr (Or.inl rfl) | exact Or.inr (Or.inr rfl))
    (hd : (y == ("__debug__" : Str)) = false := by decide) (hcd : (y == ("__classdict__" : Str)) = false := by decide) (hn : x ≠ "__name__" := by decide) (hdb : (x == ("__debug__" : Str)) = false := by decide)
    (he : starEach [Expr.Name y p2] X.env = (false, eval (Expr.Name y p2) X.env) :: starEach [] X.env := by rfl) (hpl : (backTo pos (starEach [] X.env)).any (·.1) = false := by rfl) :
    PE X (.Call (.Name x p) [.Name y p2] [] pos) (tF X.K (dLenV i)) :=
  PE.imp (pe_callB call_len hg hm hv (pa_cons (pe_var hN hy hd hcd) pa_nil he) hn hdb he hpl) fun σ H Q ⟨F, β, st, d, st', r, e1, q⟩ => by
    obtain ⟨c, h1, e2⟩ := bind_some e1
    obtain ⟨n, h2, e3⟩ := bind_some e2
    cases e3
    obtain ⟨v, h3, h4, _⟩ := r.peek_at h1
    obtain ⟨k, h5, rfl⟩ := len_rule h4 h2
    exact ⟨v, h3, v, k, rfl, h5, q _ _ _ (DOk.refl r (.int _))⟩

/-! abs, int, max and min of two ints, ord -/
def absD : List D → Option D
  | [.int i] => some (.int (if i < 0 then -i else i))
  | _ => none
def intD : List D → Option D
  | [.int i] => some (.int i)
  | [.bool b] => some (.int (if b = true then 1 else 0))
  | _ => none
def max2 : List D → Option D
  | [.int i, .int j] => some (.int (if j > i then j else i))
  | _ => none
def min2 : List D → Option D
  | [.int i, .int j] => some (.int (if j < i then j else i))
  | _ => none
def ordC : List D → Option D
  | [.str x] => if x.length = 1 then some (.int (x.cps.getD 0 0 : Nat)) else none
  | _ => none
theorem cAbs : CallR X (.builtin "abs") (rC X.K absD) := CallR.case fun xs H Q ⟨F, ds, c, l, ha, e, q⟩ => by
  unfold absD at e
  split at e
  · cases e
    obtain ⟨v, rfl, h1⟩ := ha.one_inv
    exact ⟨_, call_abs, _, by rw [h1.int_eq], q _ _ _ (Grow.refl l) (.int _)⟩
  · cases e
theorem cInt : CallR X (.type "int") (rC X.K intD) := CallR.case fun xs H Q ⟨F, ds, c, l, ha, e, q⟩ => by
  unfold intD at e
  split at e
  · cases e
    obtain ⟨v, rfl, h1⟩ := ha.one_inv
    exact ⟨_, call_int1, .inl ⟨_, by rw [h1.int_eq], q _ _ _ (Grow.refl l) (.int _)⟩⟩
  · cases e
    obtain ⟨v, rfl, h1⟩ := ha.one_inv
    exact ⟨_, call_int1, .inr ⟨_, by rw [h1.bool], q _ _ _ (Grow.refl l) (.int _)⟩⟩
  · cases e
theorem cMax2 (hc : X.calm = true) : CallR X (.builtin "max") (rC X.K max2) := CallR.case fun xs H Q ⟨F, ds, c, l, ha, e, q⟩ => by
  unfold max2 at e
  split at e
  · cases e
    obtain ⟨v, w, rfl, h1, h2⟩ := ha.two_inv
    exact ⟨_, call_max2 hc, _, _, by rw [h1.int_eq, h2.int_eq], q _ _ _ (Grow.refl l) (.int _)⟩
  · cases e
theorem cMin2 (hc : X.calm = true) : CallR X (.builtin "min") (rC X.K min2) := CallR.case fun xs H Q ⟨F, ds, c, l, ha, e, q⟩ => by
  unfold min2 at e
  split at e
  · cases e
    obtain ⟨v, w, rfl, h1, h2⟩ := ha.two_inv
    exact ⟨_, call_min2 hc, _, _, by rw [h1.int_eq, h2.int_eq], q _ _ _ (Grow.refl l) (.int _)⟩
  · cases e
theorem cOrd : CallR X (.builtin "ord") (rC X.K ordC) := CallR.case fun xs H Q ⟨F, ds, c, l, ha, e, q⟩ => by
  unfold ordC at e
  split at e
  · obtain ⟨hz, rfl⟩ := ite_some e
    obtain ⟨v, rfl, h1⟩ := ha.one_inv
    exact ⟨_, call_ord, _, by rw [h1.str_eq.1], hz, q _ _ _ (Grow.refl l) (.int _)⟩
  · cases e

/-! list, tuple, sorted -/
def listC : List D → Option D
  | [.list xs] => some (.list xs)
  | [.tuple xs] => some (.list xs)
  | _ => none
def tupC : List D → Option D
  | [.list xs] => some (.tuple xs)
  | [.tuple xs] => some (.tuple xs)
  | _ => none
theorem cList : CallR X (.type "list") (rCO X.K listC) := CallR.case fun xs H Q ⟨F, ds, c, l, ha, e, q⟩ => by
  unfold listC at e
  split at e
  · cases e
    obtain ⟨v, rfl, h1⟩ := ha.one_inv
    obtain ⟨p, vs, rfl, h1, h2⟩ := h1.list_inv
    exact ⟨_, call_list_of, p, vs, rfl, .inl (l.seq h1), fun u hu => q u _ hu (.lst h2)⟩
  · cases e
    obtain ⟨v, rfl, h1⟩ := ha.one_inv
    obtain ⟨p, vs, rfl, h1, h2⟩ := h1.tup_inv
    exact ⟨_, call_list_of, p, vs, rfl, .inr (SqT.mono l h1), fun u hu => q u _ hu (.lst h2)⟩
  · cases e
theorem cTup : CallR X (.type "tuple") (rC X.K tupC) := CallR.case fun xs H Q ⟨F, ds, c, l, ha, e, q⟩ => by
  unfold tupC at e
  split at e
  · cases e
    obtain ⟨v, rfl, h1⟩ := ha.one_inv
    obtain ⟨p, vs, rfl, h1, h2⟩ := h1.list_inv
    refine ⟨_, call_tuple_of, p, vs, rfl, .inl ⟨l.seq h1, fun u hu => ?_⟩⟩
    have g := Grow.laid (o := .tup vs) l hu
    exact q _ _ _ g (.tup (.inl (.inl upd_same)) (RpAll.mono g.mono h2))
  · cases e
    obtain ⟨v, rfl, h1⟩ := ha.one_inv
    obtain ⟨p, vs, rfl, h2, h3⟩ := id h1.tup_inv
    exact ⟨_, call_tuple_of, p, vs, rfl, .inr ⟨SqT.mono l h2, q _ _ _ (Grow.refl l) h1⟩⟩
  · cases e
def isTupX : D → Bool
  | .tuple (_ :: _) => true
  | _ => false
def isFlatX : D → Bool
  | .none => false
  | .tuple _ => false
  | _ => true
def sortOk (ds : List D) : Bool := cmpOk (.list ds) && (ds.all fun a => ds.all fun b => PySem.W.alike a b) && (ds.all isTupX || ds.all isFlatX) && decide (ds.length ≤ 16777216)
def sortC : List D → Option D
  | [.list ds] => if sortOk ds = true then some (.list (ds.mergeSort (PySem.W.dataLe false fun d => d))) else none
  | _ => none
theorem each_of {X : Cx} {pins : List (Addr × Obj)} {s : Shared} {σ : L2.St} {F H : Hp} (I : Inv X pins σ H s) (l : Same F H) : ∀ {vs : List V} {ds : List D} {us : List Value}, RpAll X.K F vs ds → Vals vs us → plainAll ds = true →
    PySem.W.EachIs (fun u d => ∃ v, RelV v u ∧ Rp X.K F v d) us ds ∧ PySem.W.EachIs (fun u d => ∃ as, Reads s.heap u d as) us ds
  | _, _, _, .nil, .nil, _ => ⟨.nil, .nil⟩
  | _, _, _, .cons h1 h2, .cons r1 r2, p => by
    rw [plainAll, Bool.and_eq_true] at p
    obtain ⟨a, b⟩ := each_of I l h2 r2 p.2
    obtain ⟨as, q⟩ := Dp.reads I _ _ _ (dp_mono l (Rp.dp _ _ p.1 h1).1) r1
    exact ⟨.cons ⟨_, r1, h1⟩ a, .cons ⟨as, q⟩ b⟩
theorem of_each {K : Fg} {F : Hp} : ∀ {us : List Value} {ds : List D}, PySem.W.EachIs (fun u d => ∃ v, RelV v u ∧ Rp K F v d) us ds → ∃ vs, Vals vs us ∧ RpAll K F vs ds
  | _, _, .nil => ⟨[], .nil, .nil⟩
  | _, _, .cons ⟨v, r, h⟩ t => by
    obtain ⟨vs, a, b⟩ := of_each t
    exact ⟨v :: vs, .cons r a, .cons h b⟩
theorem depth_mem : ∀ {ds : List D} {d : D}, d ∈ ds → d.depth ≤ PyData.depthAll ds
  | x :: xs, d, h => by
    rw [PyData.depthAll]
    rcases List.mem_cons.mp h with rfl | h
    · exact Nat.le_max_left _ _
    · exact Nat.le_trans (depth_mem h) (Nat.le_max_right _ _)
theorem cSort (hu : X.A.units + 70 < cLine) : CallR X (.builtin "sorted") (rCO X.K sortC) := fun pins s σ H xs us Q I r ⟨F, ds, c, l, ha, e, q⟩ => by
  unfold sortC at e
  split at e
  · rename_i ds
    obtain ⟨hz, rfl⟩ := ite_some e
    obtain ⟨v, rfl, h1⟩ := ha.one_inv
    obtain ⟨p, vs, rfl, h1, h2⟩ := h1.list_inv
    rw [Vals.ref1 r]
    unfold sortOk cmpOk at hz
    simp only [Bool.and_eq_true, Bool.or_eq_true, decide_eq_true_eq, List.all_eq_true] at hz
    obtain ⟨⟨⟨⟨pl, dp⟩, al⟩, so⟩, ln⟩ := hz
    rw [plain] at pl
    rw [PyData.depth] at dp
    obtain ⟨its, rv, hl, _⟩ := I.list (a := p) (xs := vs) (l.seq h1)
    obtain ⟨e1, e2⟩ := each_of I l h2 rv pl
    refine PySem.W.sorted_data (β := D) (enc := fun d => d) hl.isList e1 e2 ?_ ?_ (by rw [← big_eq]; exact ln) (fun d hd => ?_) fun out ho hout => ?_
    · intro d hd d' hd'
      rw [List.map_id'] at hd hd'
      exact al d hd d' hd'
    · rw [List.map_id']
      rcases so with so | so
      · refine .inl fun d hd => ?_
        have := so d hd
        unfold isTupX at this
        split at this
        · exact ⟨_, _, rfl⟩
        · cases this
      · refine .inr fun d hd => ?_
        have := so d hd
        unfold isFlatX at this
        split at this
        · cases this
        · cases this
        · rename_i n1 n2
          exact ⟨fun z => n1 z, fun ys z => n2 ys z⟩
    · have := depth_mem hd
      show X.A.units + 2 + d.depth < cLine
      omega
    · obtain ⟨ws, r3, h3⟩ := of_each hout
      obtain ⟨ep, he⟩ := PyProof.Rows.sortedAll_at s.heap its out.toArray
      have hw : ws.length ≤ sizeLine := by
        rw [r3.length, ho, ← big_eq]; exact ln
      have hn : H (s.heap.objs.size + 1) = none := I.hok.fresh (Nat.le_succ _)
      exact ⟨.ref _, upd H (s.heap.objs.size + 1) (.lst ws), I.laid (t' := s.toks) (fun _ _ => PyProof.Rows.sortedAll_old) (Nat.le_succ _) ⟨hw, out, ep, r3, he⟩, rfl, q _ _ hn (.lst h3)⟩
  · cases e

/-! isinstance -/
def isiD (ty : String) (d : D) : Option Bool := match d with
  | .none => kitB "NoneType" ty
  | .bool _ => kitB "bool" ty
  | .int _ => kitB "int" ty
  | .str _ => kitB "str" ty
  | .list _ => kitB "list" ty
  | .tuple _ => kitB "tuple" ty
  | .dict _ => none
def dIsi (ty : String) (f : DF) : DF := fun st => (f st).bind fun p => (isiD ty p.1).bind fun k => some (.bool k, p.2)
theorem tyX_of {K : Fg} {F H : Hp} {v : V} {d : D} {ty : String} {k : Bool} (l : Same F H) (h : Rp K F v d) (e : isiD ty d = some k) : ∃ t, TyX K H v t ∧ PySem.W.kitOne K t (.type ty) = some k := by
  cases d with
  | none => rw [h.none_eq]; exact ⟨_, .base .non, kit_ty e⟩
  | bool b => rw [h.bool]; exact ⟨_, .base (.bl b), kit_ty e⟩
  | int i => rw [h.int_eq]; exact ⟨_, .base (.int i), kit_ty e⟩
  | str x => rw [h.str_eq.1]; exact ⟨_, .base (.str x), kit_ty e⟩
  | list xs =>
    obtain ⟨a, vs, rfl, h1, h2⟩ := h.list_inv
    rcases h1 with (h1 | ⟨o, h1⟩) | ⟨o, its, n, hk, hc, _⟩
    · exact ⟨_, .base (.lst (l _ _ h1)), kit_ty e⟩
    · exact ⟨_, .base (.frz (l _ _ h1)), kit_ty e⟩
    · exact ⟨_, .kList hk hc, kit_ty e⟩
  | tuple xs =>
    obtain ⟨a, vs, rfl, h1, h2⟩ := h.tup_inv
    rcases h1 with (h1 | ⟨o, h1⟩) | ⟨o, its, n, hk, hc, _⟩
    · exact ⟨_, .base (.tup (l _ _ h1)), kit_ty e⟩
    · exact ⟨_, .fTuple (l _ _ h1), kit_ty e⟩
    · exact ⟨_, .kTuple hk hc, kit_ty e⟩
  | dict es => cases e
theorem pf_isi {ty : String} {y : Str} {p2 : Pos} (ha : PE X a (tF X.K f)) (hg : Gl X "isinstance") (hm : X.mg "isinstance" = none) (hg2 : Gl X y) (hm2 : X.mg y = none) (hv2 : bootBuiltins y = some (.type ty))
    (hn2 : y ≠ "__name__" := by decide) (hd2 : (y == ("__debug__" : Str)) = false := by decide)
    (h1 : starEach [a, Expr.Name y p2] X.env = (false, eval a X.env) :: starEach [Expr.Name y p2] X.env := by rfl) (h2 : starEach [Expr.Name y p2] X.env = (false, eval (Expr.Name y p2) X.env) :: starEach [] X.env := by rfl)
    (hpl : (backTo pos (starEach [Expr.Name y p2] X.env)).any (·.1) = false := by rfl) :
    PE X (.Call (.Name "isinstance" p) [a, .Name y p2] [] pos) (tF X.K (dIsi ty f)) :=
  PE.imp (pe_callB call_isi hg hm (by decide +kernel) (pa_cons ha (pa_cons (pe_bltn (v := .ty ty) hg2 hm2 hv2 rfl hn2 hd2) pa_nil h2) h1) (by decide) (by decide) h1 hpl) fun σ H Q ⟨F, β, st, d, st', r, e1, q⟩ => by
    obtain ⟨k, h1, e2⟩ := bind_some e1
    obtain ⟨c, h2, e3⟩ := bind_some e2
    cases e3
    refine ⟨F, β, st, k.1, k.2, r, h1, fun F1 H1 v k1 => ?_⟩
    obtain ⟨t, t1, t2⟩ := tyX_of k1.rel.le k1.res h2
    exact ⟨v, .ty ty, t, .type ty, c, rfl, .ty ty, t1, t2, q _ _ _ (k1.b.toD (.bl _))⟩

/-! methods of texts -/
def okSb (x : Str) : Bool := PyData.strOk x && decide (x.length ≤ 16777216)
theorem okSb_ok {x : Str} (h : okSb x = true) : okS x := by
  unfold okSb at h
  rw [Bool.and_eq_true, decide_eq_true_eq] at h
  exact h
theorem strs_rp {K : Fg} {F : Hp} : ∀ {ys : List Str}, ys.all okSb = true → RpAll K F (ys.map V.str) (ys.map PyData.str)
  | [], _ => .nil
  | y :: ys, h => by
    rw [List.all_cons, Bool.and_eq_true] at h
    exact .cons (.str (okSb_ok h.1)) (strs_rp h.2)
/-- x.split(sep) -/
def splitD : D → D → Option D
  | .str a, .str b => if (b.length == 0) = false ∧ a.length + 2 ≤ 16777216 ∧ (Txt.split a b).all okSb = true then some (.list ((Txt.split a b).map .str)) else none
  | _, _ => none
def dMetO (op : D → D → Option D) (f g : DF) : DE := fun st => (f st).bind fun p => (g p.2).bind fun q => (op p.1 q.1).bind fun c => some (.own none c, q.2)
theorem pd_split {apos : Pos} (ho : PE X o (tF X.K f)) (he : PE X e (tF X.K g)) (hs : starEach [e] X.env = [(false, eval e X.env)] := by rfl) (hbase : attributeBase o "split" X.env (eval o X.env) = eval o X.env := by rfl) (hline : (apos.endLine == pos.line) = true := by rfl) :
    PE X (.Call (.Attribute o "split" apos) [e] [] pos) (tD X.K (dMetO splitD f g)) :=
  PE.imp (pe_split ho he hs hbase hline) fun σ H Q ⟨F, β, st, d, st', r, e1, q⟩ => by
    obtain ⟨k, h1, e2⟩ := bind_some e1
    obtain ⟨k2, h2, e3⟩ := bind_some e2
    obtain ⟨c, h3, e4⟩ := bind_some e3
    cases e4
    unfold splitD at h3
    split at h3
    · rename_i a b z1 z2
      obtain ⟨⟨c1, c2, c3⟩, rfl⟩ := ite_some h3
      refine ⟨F, β, st, k.1, k.2, r, h1, fun F1 H1 v k1 => ⟨?_, F1, β, k.2, k2.1, k2.2, k1.rel, h2, fun F2 H2 v2 k3 => ?_⟩⟩
      · have := k1.res
        rw [z1] at this
        exact ⟨_, this.str_eq.1⟩
      · have w1 := k1.res
        rw [z1] at w1
        have w2 := k3.res
        rw [z2] at w2
        refine ⟨a, b, w1.str_eq.1, by rw [w2.str_eq.1], c1, by rw [← big_eq]; exact c2, fun p hp => ?_⟩
        exact q _ _ _ (own_new (k1.b.trans k3.b) hp (.lst (strs_rp c3)))
    · cases h3
/-- the texts of a list -/
def strsOf : List D → Option (List Str)
  | [] => some []
  | .str x :: ds => (strsOf ds).bind fun ys => some (x :: ys)
  | _ :: _ => none
theorem strsOf_rp {K : Fg} {F : Hp} : ∀ {vs : List V} {ds : List D} {ys : List Str}, RpAll K F vs ds → strsOf ds = some ys → vs = ys.map V.str
  | _, _, _, .nil, e => by cases e; rfl
  | _, .str x :: ds, _, .cons h1 h2, e => by
    obtain ⟨ys, e1, e2⟩ := bind_some e
    cases e2
    rw [h1.str_eq.1, strsOf_rp h2 e1]
    rfl
  | _, .none :: _, _, .cons _ _, e => by cases e
  | _, .bool _ :: _, _, .cons _ _, e => by cases e
  | _, .int _ :: _, _, .cons _ _, e => by cases e
  | _, .list _ :: _, _, .cons _ _, e => by cases e
  | _, .tuple _ :: _, _, .cons _ _, e => by cases e
  | _, .dict _ :: _, _, .cons _ _, e => by cases e
def joinD : D → D → Option D
  | .str a, .list ds => (strsOf ds).bind fun ys => if (ys.map (·.length)).sum + ys.length * a.length ≤ 16777216 ∧ okSb (Txt.join a ys) = true then some (.str (Txt.join a ys)) else none
  | .str a, .tuple ds => (strsOf ds).bind fun ys => if (ys.map (·.length)).sum + ys.length * a.length ≤ 16777216 ∧ okSb (Txt.join a ys) = true then some (.str (Txt.join a ys)) else none
  | _, _ => none
theorem pf_join {apos : Pos} (ho : PE X o (tF X.K f)) (he : PE X e (tF X.K g)) (hs : starEach [e] X.env = [(false, eval e X.env)] := by rfl) (hbase : attributeBase o "join" X.env (eval o X.env) = eval o X.env := by rfl) (hline : (apos.endLine == pos.line) = true := by rfl) :
    PE X (.Call (.Attribute o "join" apos) [e] [] pos) (tF X.K (dBin joinD f g)) :=
  PE.imp (pe_join ho he hs hbase hline) fun σ H Q ⟨F, β, st, d, st', r, e1, q⟩ => by
    obtain ⟨k, h1, e2⟩ := bind_some e1
    obtain ⟨k2, h2, e3⟩ := bind_some e2
    obtain ⟨c, h3, e4⟩ := bind_some e3
    cases e4
    have key : ∃ a ys, k.1 = .str a ∧ ((∃ ds, k2.1 = .list ds ∧ strsOf ds = some ys) ∨ (∃ ds, k2.1 = .tuple ds ∧ strsOf ds = some ys)) ∧ (ys.map (·.length)).sum + ys.length * a.length ≤ 16777216 ∧ okSb (Txt.join a ys) = true ∧ d = .str (Txt.join a ys) := by
      unfold joinD at h3
      split at h3
      · rename_i a ds z1 z2
        obtain ⟨ys, y1, y2⟩ := bind_some h3
        obtain ⟨y3, y4⟩ := ite_some y2
        exact ⟨a, ys, z1, .inl ⟨ds, z2, y1⟩, y3.1, y3.2, y4.symm⟩
      · rename_i a ds z1 z2
        obtain ⟨ys, y1, y2⟩ := bind_some h3
        obtain ⟨y3, y4⟩ := ite_some y2
        exact ⟨a, ys, z1, .inr ⟨ds, z2, y1⟩, y3.1, y3.2, y4.symm⟩
      · cases h3
    obtain ⟨a, ys, z1, z2, c1, c2, rfl⟩ := key
    refine ⟨F, β, st, k.1, k.2, r, h1, fun F1 H1 v k1 => ⟨?_, F1, β, k.2, k2.1, k2.2, k1.rel, h2, fun F2 H2 v2 k3 => ?_⟩⟩
    · have := k1.res
      rw [z1] at this
      exact ⟨_, this.str_eq.1⟩
    · have w1 := k1.res
      rw [z1] at w1
      have w2 := k3.res
      have fin := q _ _ _ ((k1.b.trans k3.b).toD (.str (okSb_ok c2)))
      rcases z2 with ⟨ds, z2, z3⟩ | ⟨ds, z2, z3⟩
      · rw [z2] at w2
        obtain ⟨p, vs, rfl, m1, m2⟩ := w2.list_inv
        rw [strsOf_rp m2 z3] at m1
        exact ⟨a, p, ys, w1.str_eq.1, rfl, .inl (k3.rel.le.seq m1), c1, fin⟩
      · rw [z2] at w2
        obtain ⟨p, vs, rfl, m1, m2⟩ := w2.tup_inv
        rw [strsOf_rp m2 z3] at m1
        exact ⟨a, p, ys, w1.str_eq.1, rfl, .inr (SqT.mono k3.rel.le m1), c1, fin⟩
end
end DL

/-! DL7: statements -/
namespace DL
open PySem PySem.Spec PyProof.Rows L2
inductive Out where
  | nx (st : DSt)
  | rt (r : SV) (st : DSt)
  | bk (st : DSt)
  | ct (st : DSt)
abbrev DS := DSt → Option Out
structure SOk (K : Fg) (F H : Hp) (β : Nat → Option Addr) (st : DSt) (σ : L2.St) (F' H' : Hp) (st' : DSt) (σ' : L2.St) : Prop where
  rel : StRel K F' H' β st' σ'
  stp : Stp F H (Own st σ) F' H'
  sub : ∀ a, Own st' σ' a → Own st σ a ∨ H a = none
structure ROk (K : Fg) (F H : Hp) (β : Nat → Option Addr) (st : DSt) (σ : L2.St) (F' H' : Hp) (st' : DSt) (σ' : L2.St) (v : V) (r : SV) : Prop where
  s : SOk K F H β st σ F' H' st' σ'
  res : SvOk K F' H' β v r
  fre : ∀ t c a, r = .own t c → v = .ref a → t = none ∧ ¬ Own st' σ' a ∧ (Own st σ a ∨ H a = none)
def OutOk (K : Fg) (F H : Hp) (β : Nat → Option Addr) (st : DSt) (σ : L2.St) (o : Out) (D : Ends) : Prop := match o with
  | .nx st' => ∀ F' H' σ', SOk K F H β st σ F' H' st' σ' → D.nx σ' H'
  | .bk st' => ∀ F' H' σ', SOk K F H β st σ F' H' st' σ' → D.bk σ' H'
  | .ct st' => ∀ F' H' σ', SOk K F H β st σ F' H' st' σ' → D.ct σ' H'
  | .rt r st' => ∀ F' H' σ' v, ROk K F H β st σ F' H' st' σ' v r → D.rt v H'
def tS (K : Fg) (f : DS) : TS := fun D σ H => ∃ F β st o, StRel K F H β st σ ∧ f st = some o ∧ OutOk K F H β st σ o D

section
variable {K : Fg} {F H F' H' F1 H1 F2 H2 : Hp} {β : Nat → Option Addr} {st st' st1 st2 : DSt} {σ σ' σ1 σ2 : L2.St} {v w : V} {a : Addr} {d : D} {r : SV}
theorem SOk.refl (r : StRel K F H β st σ) : SOk K F H β st σ F H st σ := ⟨r, Stp.refl _, fun _ h => .inl h⟩
theorem BOk.s (k : BOk K F H β st σ F1 H1 st1) : SOk K F H β st σ F1 H1 st1 σ := ⟨k.rel, k.stp, fun a h => .inl (k.sub a h)⟩
theorem SOk.trans (k : SOk K F H β st σ F1 H1 st1 σ1) (k2 : SOk K F1 H1 β st1 σ1 F2 H2 st2 σ2) : SOk K F H β st σ F2 H2 st2 σ2 :=
  ⟨k2.rel, k.stp.trans k2.stp k.sub, fun a h => by
    rcases k2.sub a h with z | z
    · exact k.sub a z
    · exact k.stp.fresh k.rel.le z⟩
theorem SOk.thenR (k : SOk K F H β st σ F1 H1 st1 σ1) (k2 : ROk K F1 H1 β st1 σ1 F2 H2 st2 σ2 v r) : ROk K F H β st σ F2 H2 st2 σ2 v r :=
  ⟨k.trans k2.s, k2.res, fun t c a h1 h2 => by
    obtain ⟨z1, z2, z3⟩ := k2.fre t c a h1 h2
    refine ⟨z1, z2, ?_⟩
    rcases z3 with z3 | z3
    · exact k.sub a z3
    · exact k.stp.fresh k.rel.le z3⟩
theorem OutOk.after {o : Out} {D : Ends} (h : OutOk K F H β st σ o D) (k : SOk K F H β st σ F1 H1 st1 σ1) : OutOk K F1 H1 β st1 σ1 o D := by
  cases o with
  | nx s => exact fun F' H' σ' z => h F' H' σ' (k.trans z)
  | bk s => exact fun F' H' σ' z => h F' H' σ' (k.trans z)
  | ct s => exact fun F' H' σ' z => h F' H' σ' (k.trans z)
  | rt r s => exact fun F' H' σ' v z => h F' H' σ' v (k.thenR z)
/-- a slot is set -/
theorem StRel.put {i : Nat} (k : StRel K F H β st σ) (q : SvOk K F H β v r) (fr : ∀ t c a, r = .own t c → v = .ref a → ¬ Own st σ a) : StRel K F H β (st.set i (some r)) (σ.set i (some v)) := by
  have get : ∀ (j : Nat) s, (st.set i (some r))[j]? = some (some s) → (j = i ∧ s = r ∧ i < st.length) ∨ (j ≠ i ∧ st[j]? = some (some s)) := fun j s z => by
    by_cases hj : i = j
    · subst hj
      by_cases hi : i < st.length
      · rw [List.getElem?_set_self hi] at z
        cases z
        exact .inl ⟨rfl, rfl, hi⟩
      · rw [List.getElem?_eq_none (by simpa using hi)] at z
        cases z
    · rw [List.getElem?_set_ne hj] at z
      exact .inr ⟨Ne.symm hj, z⟩
  refine ⟨k.le, by simp [k.len], fun j s z => ?_, fun j l t c u c2 a z1 z2 z3 z4 => ?_⟩
  · rcases get j s z with ⟨rfl, rfl, hi⟩ | ⟨hj, z⟩
    · exact ⟨v, by rw [List.getElem?_set_self (by rw [← k.len]; exact hi)], q⟩
    · rw [List.getElem?_set_ne (Ne.symm hj)]
      exact k.slot j s z
  · have getv : ∀ (j : Nat), j ≠ i → (σ.set i (some v))[j]? = σ[j]? := fun j hj => List.getElem?_set_ne (Ne.symm hj)
    rcases get j _ z1 with ⟨rfl, e1, hi⟩ | ⟨hj, y1⟩
    · rcases get l _ z2 with ⟨rfl, e2, _⟩ | ⟨hl, y2⟩
      · rfl
      · rw [getv l hl] at z4
        rw [List.getElem?_set_self (by rw [← k.len]; exact hi)] at z3
        exact absurd ⟨l, u, c2, y2, z4⟩ (fr t c a e1.symm (Option.some.inj (Option.some.inj z3)))
    · rcases get l _ z2 with ⟨rfl, e2, hi⟩ | ⟨hl, y2⟩
      · rw [getv j hj] at z3
        rw [List.getElem?_set_self (by rw [← k.len]; exact hi)] at z4
        exact absurd ⟨j, t, c, y1, z3⟩ (fr u c2 a e2.symm (Option.some.inj (Option.some.inj z4)))
      · rw [getv j hj] at z3
        rw [getv l hl] at z4
        exact k.ne _ _ _ _ _ _ _ y1 y2 z3 z4
theorem own_put {i : Nat} (h : Own (st.set i (some r)) (σ.set i (some v)) a) (hl : st.length = σ.length) : Own st σ a ∨ (∃ t c, r = .own t c ∧ v = .ref a) := by
  obtain ⟨j, t, c, z1, z2⟩ := h
  by_cases hj : i = j
  · subst hj
    by_cases hi : i < st.length
    · rw [List.getElem?_set_self hi] at z1
      rw [List.getElem?_set_self (by omega)] at z2
      cases z1
      cases z2
      exact .inr ⟨t, c, rfl, rfl⟩
    · rw [List.getElem?_eq_none (by simpa using hi)] at z1
      cases z1
  · rw [List.getElem?_set_ne hj] at z1 z2
    exact .inl ⟨j, t, c, z1, z2⟩
/-- a name is set to a result -/
theorem EOk.put (i : Nat) (k : EOk K F H β st σ F1 H1 st1 v r) : SOk K F H β st σ F1 H1 (st1.set i (some r)) (σ.set i (some v)) := by
  refine ⟨k.rel.put k.res fun t c a h1 h2 => (k.fre t c a h1 h2).2.1, k.stp, fun a h => ?_⟩
  rcases own_put h k.rel.len with z | ⟨t, c, h1, h2⟩
  · exact .inl (k.sub a z)
  · exact (k.fre t c a h1 h2).2.2
theorem StRel.putD (i : Nat) (k : StRel K F H β st σ) (q : Rp K F v d) : SOk K F H β st σ F H (st.set i (some (.val d))) (σ.set i (some v)) :=
  (DOk.refl k q).toE.put i
/-- a slot is forgotten -/
theorem StRel.kill (i : Nat) (k : StRel K F H β st σ) : SOk K F H β st σ F H (st.set i none) σ := by
  have get : ∀ (j : Nat) s, (st.set i none)[j]? = some (some s) → j ≠ i ∧ st[j]? = some (some s) := fun j s z => by
    by_cases hj : i = j
    · subst hj
      by_cases hi : i < st.length
      · rw [List.getElem?_set_self hi] at z
        cases z
      · rw [List.getElem?_eq_none (by simpa using hi)] at z
        cases z
    · rw [List.getElem?_set_ne hj] at z
      exact ⟨Ne.symm hj, z⟩
  refine ⟨⟨k.le, by simp [k.len], fun j s z => k.slot j s (get j s z).2, fun j l t c u c2 a z1 z2 z3 z4 => k.ne _ _ _ _ _ _ _ (get j _ z1).2 (get l _ z2).2 z3 z4⟩, Stp.refl _, fun a ⟨j, t, c, z1, z2⟩ => .inl ⟨j, t, c, (get j _ z1).2, z2⟩⟩
/-- what a slot owns is written -/
theorem StRel.write {i : Nat} {t : Option Nat} {c c' : D} {p : Addr} {o' : HO} (k : StRel K F H β st σ) (e : st[i]? = some (some (.own t c))) (e2 : σ[i]? = some (some (.ref p))) (q : ORp K F o' c') :
    BOk K F H β st σ F (upd H p o') (st.set i (some (.own t c'))) := by
  obtain ⟨v, e3, a, o, rfl, f, hh, _, b⟩ := k.slot i _ e
  rw [e2] at e3
  cases e3
  have hi : i < st.length := (List.getElem?_eq_some_iff.mp e).1
  have get : ∀ (j : Nat) s, (st.set i (some (SV.own t c')))[j]? = some (some s) → (j = i ∧ s = .own t c') ∨ (j ≠ i ∧ st[j]? = some (some s)) := fun j s z => by
    by_cases hj : i = j
    · subst hj
      rw [List.getElem?_set_self hi] at z
      cases z
      exact .inl ⟨rfl, rfl⟩
    · rw [List.getElem?_set_ne hj] at z
      exact .inr ⟨Ne.symm hj, z⟩
  have ow : ∀ (j : Nat) u x, (st.set i (some (SV.own t c')))[j]? = some (some (.own u x)) → ∃ x', st[j]? = some (some (.own u x')) := fun j u x z => by
    rcases get j _ z with ⟨rfl, z2⟩ | ⟨_, z2⟩
    · cases z2; exact ⟨c, e⟩
    · exact ⟨x, z2⟩
  refine ⟨⟨fun b u z => ?_, by simp [k.len], fun j s z => ?_, fun j l t1 c1 u c2 a' z1 z2 z3 z4 => ?_⟩, ⟨Same.refl _, fun b u z1 z2 z3 => ⟨?_, z2⟩⟩, fun b ⟨j, u, x, z1, z2⟩ => ?_⟩
  · rw [upd_ne (ne_of_none z f)]; exact k.le _ _ z
  · rcases get j s z with ⟨rfl, rfl⟩ | ⟨hj, z2⟩
    · exact ⟨_, e2, p, o', rfl, f, upd_same, q, b⟩
    · obtain ⟨v, e4, q4⟩ := k.slot j s z2
      refine ⟨v, e4, ?_⟩
      cases s with
      | val d => exact q4
      | own u x =>
        obtain ⟨a2, o2, rfl, f2, h2, q2, b2⟩ := q4
        have hne : a2 ≠ p := by
          rintro rfl
          exact hj (k.ne _ _ _ _ _ _ _ z2 e e4 e2)
        exact ⟨a2, o2, rfl, f2, by rw [upd_ne hne]; exact h2, q2, b2⟩
  · obtain ⟨x1, y1⟩ := ow j _ _ z1
    obtain ⟨x2, y2⟩ := ow l _ _ z2
    exact k.ne _ _ _ _ _ _ _ y1 y2 z3 z4
  · have hne : b ≠ p := by
      rintro rfl
      exact z3 ⟨i, t, c, e, e2⟩
    rw [upd_ne hne]; exact z1
  · obtain ⟨x', y⟩ := ow j _ _ z1
    exact ⟨j, u, x', y, z2⟩
end

/-! ### blocks -/
def dNext : DS := fun st => some (.nx st)
def dSeq (f g : DS) : DS := fun st => (f st).bind fun o => match o with
  | .nx s => g s
  | o => some o
def dKill (is : List Nat) : DS := fun st => some (.nx (is.foldl (fun s i => s.set i none) st))
/-- f, then the slots are forgotten -/
def dThenKill (f : DS) (is : List Nat) : DS := dSeq f (dKill is)
def dBk : DS := fun st => some (.bk st)
def dCt : DS := fun st => some (.ct st)
def dRet (f : DE) : DS := fun st => (f st).bind fun p => some (.rt p.1 p.2)
def dRetN : DS := fun st => some (.rt (.val .none) st)
def dDrop (f : DF) : DS := fun st => (f st).bind fun p => some (.nx p.2)
def dIf (t : DB) (f g : DS) : DS := fun st => (t st).bind fun p => if p.1 = true then f p.2 else g p.2
def dSet (i : Nat) (f : DE) : DS := fun st => (f st).bind fun p => some (.nx (p.2.set i (some p.1)))
section
variable {X : Cx} {e : Expr} {s1 : Stmt} {rest : List Stmt} {f g : DS} {fe : DE} {ff : DF} {t : DB} {pos pos' : Pos}
theorem kills (K : Fg) {F H : Hp} {β : Nat → Option Addr} {σ : L2.St} : ∀ (is : List Nat) (st : DSt), StRel K F H β st σ → SOk K F H β st σ F H (is.foldl (fun s i => s.set i none) st) σ
  | [], st, k => SOk.refl k
  | i :: is, st, k => (k.kill i).trans (kills K is _ (k.kill i).rel)
theorem ss_nil : PSs X [] (tS X.K dNext) := PSs.imp pss_nil fun D σ H ⟨F, β, st, o, r, e, q⟩ => by
  cases e
  exact q F H σ (SOk.refl r)
theorem seq_to {K : Fg} {D : Ends} {σ : L2.St} {H : Hp} (h : tS K (dSeq f g) D σ H) : tSeq (tS K f) (tS K g) D σ H := by
  obtain ⟨F, β, st, o, r, e, q⟩ := h
  obtain ⟨o1, h1, e2⟩ := bind_some e
  refine ⟨F, β, st, o1, r, h1, ?_⟩
  cases o1 with
  | nx s =>
    exact fun F1 H1 σ1 k => ⟨F1, β, s, o, k.rel, e2, q.after k⟩
  | rt rr s => cases e2; exact q
  | bk s => cases e2; exact q
  | ct s => cases e2; exact q
theorem ss_cons (h1 : PS X s1 (tS X.K f)) (h2 : PSs X rest (tS X.K g)) : PSs X (s1 :: rest) (tS X.K (dSeq f g)) := PSs.imp (pss_cons h1 h2) fun D σ H h => seq_to h
theorem ss_one (h1 : PS X s1 (tS X.K f)) : PSs X [s1] (tS X.K f) := pss_one h1
/-- behind a statement slots are forgotten -/
theorem s_kill (is : List Nat) (h1 : PS X s1 (tS X.K f)) : PS X s1 (tS X.K (dThenKill f is)) := PS.imp h1 fun D σ H ⟨F, β, st, o, r, e, q⟩ => by
  obtain ⟨o1, h1, e2⟩ := bind_some e
  refine ⟨F, β, st, o1, r, h1, ?_⟩
  cases o1 with
  | nx s =>
    cases e2
    exact fun F1 H1 σ1 k => q F1 H1 σ1 (k.trans (kills X.K is s k.rel))
  | rt rr s => cases e2; exact q
  | bk s => cases e2; exact q
  | ct s => cases e2; exact q
/-- ahead of a block slots are forgotten -/
theorem ss_kill (is : List Nat) (h1 : PSs X rest (tS X.K f)) : PSs X rest (tS X.K (dSeq (dKill is) f)) := PSs.imp h1 fun D σ H ⟨F, β, st, o, r, e, q⟩ => by
  obtain ⟨o1, h1, e2⟩ := bind_some e
  cases h1
  have k := kills X.K is st r
  exact ⟨F, β, _, o, k.rel, e2, q.after k⟩
theorem s_pass : PS X (.Pass pos) (tS X.K dNext) := PS.imp ps_pass fun D σ H ⟨F, β, st, o, r, e, q⟩ => by
  cases e
  exact q F H σ (SOk.refl r)
theorem s_break : PS X (.Break pos) (tS X.K dBk) := PS.imp ps_break fun D σ H ⟨F, β, st, o, r, e, q⟩ => by
  cases e
  exact q F H σ (SOk.refl r)
theorem s_continue : PS X (.Continue pos) (tS X.K dCt) := PS.imp ps_continue fun D σ H ⟨F, β, st, o, r, e, q⟩ => by
  cases e
  exact q F H σ (SOk.refl r)
theorem EOk.ret {K : Fg} {F H F1 H1 : Hp} {β : Nat → Option Addr} {st st1 : DSt} {σ : L2.St} {v : V} {r : SV} (k : EOk K F H β st σ F1 H1 st1 v r) : ROk K F H β st σ F1 H1 st1 σ v r := ⟨k.b.s, k.res, k.fre⟩
theorem s_ret (he : PE X e (tD X.K fe)) : PS X (.Return (some e) pos) (tS X.K (dRet fe)) := PS.imp (ps_ret he) fun D σ H ⟨F, β, st, o, r, e, q⟩ => by
  obtain ⟨p, h1, e2⟩ := bind_some e
  cases e2
  exact ⟨F, β, st, p.1, p.2, r, h1, fun F1 H1 v k => q F1 H1 σ v k.ret⟩
theorem s_retN : PS X (.Return none pos) (tS X.K dRetN) := PS.imp ps_retN fun D σ H ⟨F, β, st, o, r, e, q⟩ => by
  cases e
  exact q F H σ .non (DOk.refl r .non).toE.ret
theorem s_expr (he : PE X e (tF X.K ff)) (hs : swapsWith e none pos.line X.env = pure false := by rfl) : PS X (.Expr e pos) (tS X.K (dDrop ff)) := PS.imp (ps_expr he hs) fun D σ H ⟨F, β, st, o, r, e, q⟩ => by
  obtain ⟨p, h1, e2⟩ := bind_some e
  cases e2
  exact ⟨F, β, st, p.1, p.2, r, h1, fun F1 H1 v k => q F1 H1 σ k.b.s⟩
theorem s_if {a b : List Stmt} (hc : PT X e (tT X.K t)) (ha : PSs X a (tS X.K f)) (hb : PSs X b (tS X.K g)) : PS X (.If e a b pos) (tS X.K (dIf t f g)) := PS.imp (ps_if hc ha hb) fun D σ H ⟨F, β, st, o, r, e, q⟩ => by
  obtain ⟨p, h1, e2⟩ := bind_some e
  refine ⟨F, β, st, p.1, p.2, r, h1, fun F1 H1 k => ?_⟩
  show ite _ _ _
  split
  · rename_i hp
    rw [if_pos hp] at e2
    exact ⟨F1, β, p.2, o, k.rel, e2, q.after k.s⟩
  · rename_i hp
    rw [if_neg hp] at e2
    exact ⟨F1, β, p.2, o, k.rel, e2, q.after k.s⟩
theorem s_set (i : Nat) {x : Str} (hN : X.N.Nodup) (he : PE X e (tD X.K fe)) (hi : X.N[i]? = some x := by rfl) (hx : Loc X.env.scope x := by first | exact Or.inl rfl | exact Or.inr rfl) (hs : swapsWith e (some (.Name x pos')) pos.line X.env = pure false := by rfl)
    (hf : X.fn x = true ∨ X.env.scope.names.lookup x = some .local := by first | exact .inl rfl | exact .inr rfl | assumption) : PS X (.Assign [.Name x pos'] e pos) (tS X.K (dSet i fe)) := PS.imp (ps_set hN hi hx he hs hf) fun D σ H ⟨F, β, st, o, r, e, q⟩ => by
  obtain ⟨p, h1, e2⟩ := bind_some e
  cases e2
  exact ⟨F, β, st, p.1, p.2, r, h1, fun F1 H1 v k => q F1 H1 _ (k.put i)⟩
end

/-! ### targets -/
abbrev DG := D → DSt → Option DSt
abbrev DGs := List D → DSt → Option DSt
def tG (K : Fg) (g : DG) : TG := fun v σ H Q => ∃ F β st d st', StRel K F H β st σ ∧ Rp K F v d ∧ g d st = some st' ∧ ∀ F' H' σ', SOk K F H β st σ F' H' st' σ' → Q σ' H'
def tGs (K : Fg) (g : DGs) : TGs := fun vs σ H Q => ∃ F β st ds st', StRel K F H β st σ ∧ RpAll K F vs ds ∧ g ds st = some st' ∧ ∀ F' H' σ', SOk K F H β st σ F' H' st' σ' → Q σ' H'
theorem PGs.imp {X : Cx} {e : List Expr} {t t' : TGs} (h : PGs X e t) (w : ∀ v σ H Q, t' v σ H Q → t v σ H Q) : PGs X e t' := ⟨fun pins s σ H v u Q I r q => h.run pins s σ H v u Q I r (w v σ H Q q)⟩
def dNm (i : Nat) : DG := fun d st => some (st.set i (some (.val d)))
def dGN : DGs := fun ds st => match ds with
  | [] => some st
  | _ => none
def dGC (g : DG) (gs : DGs) : DGs := fun ds st => match ds with
  | d :: ds => (g d st).bind fun s => gs ds s
  | [] => none
def dTp (n : Nat) (gs : DGs) : DG := fun d st => match d with
  | .tuple ds => if ds.length = n then gs ds st else none
  | _ => none
def dAsg (f : DF) (g : DG) : DS := fun st => (f st).bind fun p => (g p.1 p.2).bind fun s => some (.nx s)
section
variable {X : Cx} {e tg : Expr} {es : List Expr} {g : DG} {gs : DGs} {ff : DF} {pos : Pos}
theorem g_nm (i : Nat) {x : Str} (hN : X.N.Nodup) (hi : X.N[i]? = some x := by rfl) (hx : Loc X.env.scope x := by first | exact Or.inl rfl | exact Or.inr rfl) (hf : X.fn x = true ∨ X.env.scope.names.lookup x = some .local := by first | exact .inl rfl | exact .inr rfl | assumption) : PG X (.Name x pos) (tG X.K (dNm i)) :=
  PG.imp (pg_name hN hi hx hf) fun v σ H Q ⟨F, β, st, d, st', r, h, e, q⟩ => by
    cases e
    exact q F H _ (r.putD i h)
theorem g_nil : PGs X [] (tGs X.K dGN) := PGs.imp pgs_nil fun vs σ H Q ⟨F, β, st, ds, st', r, h, e, q⟩ => by
  unfold dGN at e
  split at e
  · cases e
    cases h
    exact ⟨rfl, q F H _ (SOk.refl r)⟩
  · cases e
theorem g_cons (h1 : PG X e (tG X.K g)) (h2 : PGs X es (tGs X.K gs)) (hs : (assignEach (e :: es) X.env).map (·.2) = assign e X.env :: (assignEach es X.env).map (·.2) := by rfl) : PGs X (e :: es) (tGs X.K (dGC g gs)) :=
  PGs.imp (pgs_cons h1 h2 hs) fun vs σ H Q ⟨F, β, st, ds, st', r, h, e, q⟩ => by
    unfold dGC at e
    split at e
    · obtain ⟨s1, e1, e2⟩ := bind_some e
      cases h with
      | cons h3 h4 =>
        exact ⟨_, _, rfl, F, β, st, _, s1, r, h3, e1, fun F1 H1 σ1 k => ⟨F1, β, s1, _, st', k.rel, RpAll.mono k.stp.mono h4, e2, fun F2 H2 σ2 k2 => q F2 H2 σ2 (k.trans k2)⟩⟩
    · cases e
theorem g_tp (n : Nat) {k : Nat} (hc : X.calm = true) (h : PGs X es (tGs X.K gs)) (hn : (assignEach es X.env).length = n := by rfl) (hst : (assignEach es X.env).findIdx? (·.1) = none := by rfl) : PG X (.Tuple es k pos) (tG X.K (dTp n gs)) :=
  PG.imp (pg_tup hc h hn hst) fun v σ H Q ⟨F, β, st, d, st', r, h, e, q⟩ => by
    unfold dTp at e
    split at e
    · rename_i ds
      by_cases hz : ds.length = n
      · rw [if_pos hz] at e
        obtain ⟨a, vs, rfl, h1, h2⟩ := h.tup_inv
        exact ⟨a, vs, rfl, SqT.mono r.le h1, by rw [h2.length]; exact hz, F, β, st, ds, st', r, h2, e, q⟩
      · rw [if_neg hz] at e; cases e
    · cases e
theorem s_asg (he : PE X e (tF X.K ff)) (hg : PG X tg (tG X.K g)) (hs : swapsWithSole [tg] e pos.line X.env = pure false := by rfl) (hw : swappedStores [tg] e X.env = pure none := by rfl)
    (h1 : (assignEach [tg] X.env).map (·.2) = [assign tg X.env] := by rfl) : PS X (.Assign [tg] e pos) (tS X.K (dAsg ff g)) := PS.imp (ps_asg he hg hs hw h1) fun D σ H ⟨F, β, st, o, r, e, q⟩ => by
  obtain ⟨p, e1, e2⟩ := bind_some e
  obtain ⟨s, e3, e4⟩ := bind_some e2
  cases e4
  exact ⟨F, β, st, p.1, p.2, r, e1, fun F1 H1 v k => ⟨F1, β, p.2, p.1, s, k.rel, k.res, e3, fun F2 H2 σ2 k2 => q F2 H2 σ2 (k.b.s.trans k2)⟩⟩
end

/-! ### x[e] = v, x.append(e) -/
/-- what the slot owns, a list -/
def ownList (st : DSt) (i : Nat) : Option (Option Nat × List D) := match st[i]? with
  | some (some (.own t (.list xs))) => some (t, xs)
  | _ => none
theorem ownList_inv {st : DSt} {i : Nat} {p : Option Nat × List D} (h : ownList st i = some p) : st[i]? = some (some (.own p.1 (.list p.2))) := by
  unfold ownList at h
  split at h
  · cases h; assumption
  · cases h
theorem StRel.list {K : Fg} {F H : Hp} {β : Nat → Option Addr} {st : DSt} {σ : L2.St} {i : Nat} {p : Option Nat × List D} (k : StRel K F H β st σ) (h : ownList st i = some p) : ∃ a vs, σ[i]? = some (some (.ref a)) ∧ H a = some (.lst vs) ∧ RpAll K F vs p.2 := by
  obtain ⟨v, e1, a, o, rfl, f, hh, q, _⟩ := k.slot i _ (ownList_inv h)
  cases q with
  | lst q => exact ⟨a, _, e1, hh, q⟩
def dSetIx (i : Nat) (g h : DF) : DS := fun st => (h st).bind fun p => (ownList p.2 i).bind fun _ => (g p.2).bind fun q => (intOf q.1).bind fun k => (ownList q.2 i).bind fun w => (ixN w.2.length k).bind fun j => some (.nx (q.2.set i (some (.own w.1 (.list (w.2.set j p.1))))))
def dApp (i : Nat) (f : DF) : DS := fun st => (ownList st i).bind fun _ => (f st).bind fun p => (ownList p.2 i).bind fun w => if w.2.length < 16777216 then some (.nx (p.2.set i (some (.own w.1 (.list (w.2 ++ [p.1])))))) else none
section
variable {X : Cx} {e ie : Expr} {fg fh ff : DF} {pos pos2 p2 apos : Pos} {x : Str}
theorem s_setIx (i : Nat) (hv : PE X e (tF X.K fh)) (hi : PE X ie (tF X.K fg)) (hN : X.N[i]? = some x := by rfl) (hx : Vis X.env.scope x := by first | exact Or.inl rfl | exact Or.inr (Or.inl rfl) | exact Or.inr (Or.inr rfl)) (hd : (x == ("__debug__" : Str)) = false := by decide) (hcd : (x == ("__classdict__" : Str)) = false := by decide)
    (ha : ∀ v, assign (.Subscript (.Name x p2) ie pos2) X.env v = (do
      let ov ← holding [v] (eval (.Name x p2) X.env)
      let iv ← holding [v, ov] (eval ie X.env)
      standAt pos2
      holding [v, ov, iv] (setItem ov iv v)
      release [v, ov, iv] []) := by intro _; rfl)
    (hs : swapsWithSole [Expr.Subscript (.Name x p2) ie pos2] e pos.line X.env = pure false := by rfl) (hw : swappedStores [Expr.Subscript (.Name x p2) ie pos2] e X.env = pure none := by rfl)
    (h1 : (assignEach [Expr.Subscript (.Name x p2) ie pos2] X.env).map (·.2) = [assign (Expr.Subscript (.Name x p2) ie pos2) X.env] := by rfl) :
    PS X (.Assign [.Subscript (.Name x p2) ie pos2] e pos) (tS X.K (dSetIx i fg fh)) :=
  PS.imp (ps_asg hv (pg_sub (pe_var hN hx hd hcd) hi set_list ha) hs hw h1) fun D σ H ⟨F, β, st, o, r, e, q⟩ => by
    obtain ⟨p, e1, e2⟩ := bind_some e
    obtain ⟨w0, e0, e2⟩ := bind_some e2
    obtain ⟨p3, e3, e4⟩ := bind_some e2
    obtain ⟨k, e5, e6⟩ := bind_some e4
    obtain ⟨w, e7, e8⟩ := bind_some e6
    obtain ⟨j, e9, e10⟩ := bind_some e8
    cases e10
    refine ⟨F, β, st, p.1, p.2, r, e1, fun F1 H1 v k1 => ?_⟩
    have key : ∀ a, σ[i]? = some (some (V.ref a)) → tF X.K fg σ H1 (fun iv H3 => rSetL (.ref a) iv v H3 fun H4 => D.nx σ H4) := fun a ea => ⟨F1, β, p.2, p3.1, p3.2, k1.rel, e3, fun F2 H2 y k2 => by
      obtain ⟨a2, vs, z1, z2, z3⟩ := k2.rel.list e7
      rw [ea] at z1
      cases z1
      have hy := k2.res
      rw [intOf_eq e5] at hy
      refine ⟨a, vs, k, j, rfl, hy.int_eq, z2, by rw [z3.length]; exact e9, ?_⟩
      exact q _ _ _ ((k1.b.trans k2.b).trans (k2.rel.write (ownList_inv e7) ea (.lst (z3.set (Rp.mono k2.stp.mono k1.res) j)))).s⟩
    obtain ⟨a, vs0, ea, _⟩ := k1.rel.list e0
    exact ⟨_, ea, key a ea⟩
theorem s_app (i : Nat) (he : PE X e (tF X.K ff)) (hN : X.N[i]? = some x := by rfl) (hx : Vis X.env.scope x := by first | exact Or.inl rfl | exact Or.inr (Or.inl rfl) | exact Or.inr (Or.inr rfl)) (hd : (x == ("__debug__" : Str)) = false := by decide) (hcd : (x == ("__classdict__" : Str)) = false := by decide)
    (hbase : attributeBase (.Name x p2) "append" X.env (eval (.Name x p2) X.env) = eval (.Name x p2) X.env := by rfl)
    (hfew : ((backTo pos2 (starEach [e] X.env)).all (fun x => !x.1) && (backToKw pos2 (keywordEach [] X.env)).all (fun x => x.1.isSome)
      && decide (([e] : List Expr).length + ([] : List Keyword).length + (if ([] : List Keyword).isEmpty then 0 else 1) < 30)) = true := by rfl)
    (hline : (apos.endLine == pos2.line) = true := by rfl) (hst : starEach [e] X.env = (false, eval e X.env) :: starEach [] X.env := by rfl) (hplain : (backTo pos2 (starEach [] X.env)).any (·.1) = false := by rfl)
    (hs : swapsWith (.Call (.Attribute (.Name x p2) "append" apos) [e] [] pos2) none pos.line X.env = pure false := by rfl) :
    PS X (.Expr (.Call (.Attribute (.Name x p2) "append" apos) [e] [] pos2) pos) (tS X.K (dApp i ff)) :=
  PS.imp (ps_expr (pe_bm PySem.F.plainAttrs_list PySem.F.slot_list_append PySem.F.type_list_append mt_append (pe_var hN hx hd hcd) (pa_cons he pa_nil hst) hbase hfew hline hst hplain) hs) fun D σ H ⟨F, β, st, o, r, e, q⟩ => by
    obtain ⟨w0, e0, e2⟩ := bind_some e
    obtain ⟨p, e1, e3⟩ := bind_some e2
    obtain ⟨w, e4, e5⟩ := bind_some e3
    obtain ⟨hz, e6⟩ := ite_some e5
    subst e6
    obtain ⟨a, vs0, ea, h0, _⟩ := r.list e0
    refine ⟨_, ea, .inl ⟨rfl, vs0, .inl (.inl h0)⟩, F, β, st, p.1, p.2, r, e1, fun F1 H1 v k1 => ?_⟩
    obtain ⟨a2, vs, z1, z2, z3⟩ := k1.rel.list e4
    rw [ea] at z1
    cases z1
    refine ⟨a, vs, v, rfl, rfl, z2, by rw [z3.length, ← big_eq]; exact hz, ?_⟩
    exact q _ _ _ (k1.b.trans (k1.rel.write (ownList_inv e4) ea (.lst (z3.append (.one k1.res))))).s
end
end DL

/-! DL8: loops, comprehensions -/
namespace DL
open PySem PySem.Spec PyProof.Rows L2
def itemsD : D → Option (List D)
  | .list xs => some xs
  | .tuple xs => some xs
  | .str x => some (x.cps.toList.map fun c => .str ⟨#[c]⟩)
  | _ => none
def forL (tg : DG) (body : DS) : List D → DSt → Option Out
  | [], st => some (.nx st)
  | d :: ds, st => (tg d st).bind fun s1 => (body s1).bind fun o => match o with
    | .nx s2 => forL tg body ds s2
    | .ct s2 => forL tg body ds s2
    | .bk s2 => some (.nx s2)
    | .rt r s2 => some (.rt r s2)
/-- the iterator J gives the items ds, frozen in F -/
structure Gives (K : Fg) (F0 : Hp) (J : It) (ds : List D) : Prop where
  go : ∀ F H i, Same F0 F → Same F H → i < ds.length → J.go i H
  yld : ∀ F H i x H', Same F0 F → Same F H → i < ds.length → J.yld i H x H' → H' = H ∧ ∃ d, ds[i]? = some d ∧ Rp K F x d
  stop : ∀ F H, Same F0 F → Same F H → J.stop ds.length H
theorem gives_list {K : Fg} {F : Hp} {a : Addr} {vs : List V} {ds : List D} (h : SqL K F a vs) (q : RpAll K F vs ds) : Gives K F (Itl K a) ds := by
  refine ⟨fun F1 H i m l hi => ?_, fun F1 H i x H' m l hi y => ?_, fun F1 H m l => ?_⟩
  · have : i < vs.length := by rw [q.length]; exact hi
    exact ⟨vs, vs[i], l.seq (m.seq h), by simp [this]⟩
  · obtain ⟨e, y⟩ := y
    refine ⟨e, ?_⟩
    subst e
    have hx := y vs (l.seq (m.seq h))
    obtain ⟨d, e1, e2⟩ := q.getV hx
    exact ⟨d, e1, Rp.mono m e2⟩
  · exact ⟨vs, l.seq (m.seq h), by rw [q.length]; exact Nat.le_refl _⟩
theorem gives_tup {K : Fg} {F : Hp} {a : Addr} {vs : List V} {ds : List D} (h : SqT K F a vs) (q : RpAll K F vs ds) : Gives K F (Itt K a) ds := by
  refine ⟨fun F1 H i m l hi => ?_, fun F1 H i x H' m l hi y => ?_, fun F1 H m l => ?_⟩
  · have : i < vs.length := by rw [q.length]; exact hi
    exact ⟨vs, vs[i], SqT.mono l (SqT.mono m h), by simp [this]⟩
  · obtain ⟨e, y⟩ := y
    refine ⟨e, ?_⟩
    subst e
    have hx := y vs (SqT.mono l (SqT.mono m h))
    obtain ⟨d, e1, e2⟩ := q.getV hx
    exact ⟨d, e1, Rp.mono m e2⟩
  · exact ⟨vs, SqT.mono l (SqT.mono m h), by rw [q.length]; exact Nat.le_refl _⟩
theorem gives_str {K : Fg} {F : Hp} {x : Str} (h : okS x) : Gives K F (Its x) (x.cps.toList.map fun c => .str ⟨#[c]⟩) := by
  refine ⟨fun F1 H i m l hi => ?_, fun F1 H i v H' m l hi y => ?_, fun F1 H m l => ?_⟩
  · show i < x.cps.size
    simpa using hi
  · obtain ⟨e, c, e1, e2⟩ := y
    have e1' : x.cps.toList[i]? = some c := by simpa using e1
    refine ⟨e, .str ⟨#[c]⟩, by rw [List.getElem?_map, e1']; rfl, ?_⟩
    rw [e2]
    exact .str (okS_one h (List.mem_of_getElem? e1'))
  · show x.cps.size ≤ _
    simp
/-- the ints lo, lo + 1, .. -/
def intsFrom (lo : Int) : Nat → List D
  | 0 => []
  | n + 1 => .int lo :: intsFrom (lo + 1) n
theorem intsFrom_length : ∀ (n : Nat) (lo : Int), (intsFrom lo n).length = n
  | 0, _ => rfl
  | n + 1, lo => by simp [intsFrom, intsFrom_length n]
theorem intsFrom_get : ∀ (n : Nat) (lo : Int) (i : Nat), i < n → (intsFrom lo n)[i]? = some (.int (lo + i))
  | n + 1, lo, 0, _ => by simp [intsFrom]
  | n + 1, lo, i + 1, h => by
    simp only [intsFrom, List.getElem?_cons_succ]
    rw [intsFrom_get n (lo + 1) i (by omega)]
    congr 2
    omega
theorem gives_range {K : Fg} {F : Hp} {lo : Int} {n : Nat} : Gives K F (Itr lo n) (intsFrom lo n) := by
  refine ⟨fun F1 H i m l hi => ?_, fun F1 H i v H' m l hi y => ?_, fun F1 H m l => ?_⟩
  · rw [intsFrom_length] at hi; exact hi
  · rw [intsFrom_length] at hi
    obtain ⟨e1, e2⟩ := y
    refine ⟨e1, _, intsFrom_get n lo i hi, ?_⟩
    rw [e2]
    exact .int _
  · rw [intsFrom_length]; exact Nat.le_refl _

section
variable {X : Cx} {K : Fg}
theorem for_core {J : It} {ds : List D} {F0 H0 : Hp} {β : Nat → Option Addr} {st0 : DSt} {σ0 : L2.St} {o : Out} {D : Ends} {tg : DG} {body : DS} (k0 : StRel K F0 H0 β st0 σ0) (g : Gives K F0 J ds) (e : forL tg body ds st0 = some o) (q : OutOk K F0 H0 β st0 σ0 o D) :
    ∃ W : Nat → Nat → L2.St → Hp → Prop, (∃ m, W 0 m σ0 H0) ∧ ∀ i m σ H, W i m σ H →
      (J.stop i H ∧ D.nx σ H) ∨ (J.go i H ∧ ∃ N : L2.St → Hp → Prop, (∀ σ' H', N σ' H' → ∃ m', m' < m ∧ W (i + 1) m' σ' H') ∧ ∀ x H', J.yld i H x H' → tG K tg x σ H' fun σ2 H2 => tS K body { D with nx := N, ct := N, bk := D.nx } σ2 H2) := by
  refine ⟨fun i m σ H => m = ds.length - i ∧ i ≤ ds.length ∧ ∃ F st, SOk K F0 H0 β st0 σ0 F H st σ ∧ forL tg body (ds.drop i) st = some o, ⟨_, rfl, Nat.zero_le _, F0, st0, SOk.refl k0, by simpa using e⟩, ?_⟩
  rintro i m σ H ⟨rfl, hi, F, st, k, e2⟩
  by_cases hlt : i < ds.length
  · refine .inr ⟨g.go F H i k.stp.mono k.rel.le hlt, fun σ' H' => ∃ F' st', SOk K F0 H0 β st0 σ0 F' H' st' σ' ∧ forL tg body (ds.drop (i + 1)) st' = some o, fun σ' H' ⟨F', st', k', e'⟩ => ⟨ds.length - (i + 1), by omega, rfl, hlt, F', st', k', e'⟩, fun x H' y => ?_⟩
    obtain ⟨rfl, d, ed, rd⟩ := g.yld F H i x H' k.stp.mono k.rel.le hlt y
    rw [List.drop_eq_getElem_cons hlt] at e2
    have ed' : ds[i] = d := by
      rw [List.getElem?_eq_getElem hlt] at ed
      exact Option.some.inj ed
    rw [ed'] at e2
    obtain ⟨s1, e3, e4⟩ := bind_some e2
    obtain ⟨o1, e5, e6⟩ := bind_some e4
    refine ⟨F, β, st, d, s1, k.rel, rd, e3, fun F1 H1 σ1 k1 => ⟨F1, β, s1, o1, k1.rel, e5, ?_⟩⟩
    cases o1 with
    | nx s2 => exact fun F2 H2 σ2 k2 => ⟨F2, s2, (k.trans k1).trans k2, e6⟩
    | ct s2 => exact fun F2 H2 σ2 k2 => ⟨F2, s2, (k.trans k1).trans k2, e6⟩
    | bk s2 =>
      cases e6
      exact fun F2 H2 σ2 k2 => q F2 H2 σ2 ((k.trans k1).trans k2)
    | rt r s2 =>
      cases e6
      exact fun F2 H2 σ2 v k2 => q F2 H2 σ2 v ((k.trans k1).thenR k2)
  · have e3 : i = ds.length := by omega
    subst e3
    rw [List.drop_length] at e2
    cases e2
    exact .inl ⟨g.stop F H k.stp.mono k.rel.le, q F H σ k⟩
/-- walking data -/
def iD (K : Fg) (f : DF) : TI := fun σ H R => iList K (tF K f) σ H R ∨ iTup K (tF K f) σ H R ∨ iStr (tF K f) σ H R
variable {e tg a b : Expr} {f g : DF} {pos p : Pos}
theorem i_data (he : PE X e (tF X.K f)) : PI X tg e (iD X.K f) := PI.or (pi_list he) (PI.or (pi_tup he) (pi_str he))
theorem iD_of {f : DF} {σ : L2.St} {H F : Hp} {β : Nat → Option Addr} {st : DSt} {c : D} {st' : DSt} {ds : List D} {R : It → Hp → Prop} (k : StRel K F H β st σ) (e : f st = some (c, st')) (hi : itemsD c = some ds)
    (h : ∀ F' H' J, BOk K F H β st σ F' H' st' → Gives K F' J ds → R J H') : iD K f σ H R := by
  cases c with
  | list xs =>
    cases hi
    refine .inl ⟨F, β, st, _, st', k, e, fun F1 H1 v k1 => ?_⟩
    obtain ⟨p, vs, rfl, h1, h2⟩ := k1.res.list_inv
    exact ⟨p, rfl, ⟨vs, k1.rel.le.seq h1⟩, h _ _ _ k1.b (gives_list h1 h2)⟩
  | tuple xs =>
    cases hi
    refine .inr (.inl ⟨F, β, st, _, st', k, e, fun F1 H1 v k1 => ?_⟩)
    obtain ⟨p, vs, rfl, h1, h2⟩ := k1.res.tup_inv
    exact ⟨p, rfl, ⟨vs, SqT.mono k1.rel.le h1⟩, h _ _ _ k1.b (gives_tup h1 h2)⟩
  | str x =>
    cases hi
    refine .inr (.inr ⟨F, β, st, _, st', k, e, fun F1 H1 v k1 => ?_⟩)
    obtain ⟨rfl, h2⟩ := k1.res.str_eq
    exact ⟨x, rfl, h _ _ _ k1.b (gives_str h2)⟩
  | _ => cases hi
def dFor (it : DF) (tg : DG) (body : DS) : DS := fun st => (it st).bind fun p => (itemsD p.1).bind fun ds => forL tg body ds p.2
theorem s_for {body : List Stmt} {dg : DG} {db : DS} (hp : PassesOwn (model X.prog X.w) X.A X.env X.xe) (hc : X.calm = true) (hi : PE X e (tF X.K f)) (hg : PG X tg (tG X.K dg)) (hb : PSs X body (tS X.K db)) (hs : ∀ x, foldedSetIterable e X.env x = pure x := by intro _; rfl) :
    PS X (.For tg e body [] pos) (tS X.K (dFor f dg db)) := PS.imp (ps_for hp hc (i_data hi) hg hb hs) fun D σ H ⟨F, β, st, o, r, e1, q⟩ => by
  obtain ⟨c, h1, e2⟩ := bind_some e1
  obtain ⟨ds, h2, e3⟩ := bind_some e2
  exact iD_of (K := X.K) r h1 h2 fun F1 H1 J k g1 => for_core k.rel g1 e3 (q.after k.s)
/-- range(n), range(a, b) -/
noncomputable def rng1 (d : D) : Option (List D) := (intOf d).bind fun n => @ite _ (-(2 ^ 62) ≤ n ∧ n < 2 ^ 62) (Classical.propDecidable _) (some (intsFrom 0 n.toNat)) none
noncomputable def rng2 (d d2 : D) : Option (List D) := (intOf d).bind fun m => (intOf d2).bind fun n => @ite _ (-(2 ^ 62) ≤ m ∧ m < 2 ^ 62 ∧ -(2 ^ 62) ≤ n ∧ n < 2 ^ 62) (Classical.propDecidable _) (some (intsFrom m (n - m).toNat)) none
noncomputable def itR1 (f : DF) : DSt → Option (List D × DSt) := fun st => (f st).bind fun p => (rng1 p.1).bind fun ds => some (ds, p.2)
noncomputable def itR2 (f g : DF) : DSt → Option (List D × DSt) := fun st => (f st).bind fun p => (g p.2).bind fun q => (rng2 p.1 q.1).bind fun ds => some (ds, q.2)
/-- a walk over items that are told -/
def tI (K : Fg) (it : DSt → Option (List D × DSt)) : TI := fun σ H R => ∃ F β st ds st', StRel K F H β st σ ∧ it st = some (ds, st') ∧ ∀ F' H' J, BOk K F H β st σ F' H' st' → Gives K F' J ds → R J H'
theorem i_r1 (hg : Gl X "range") (hm : X.mg "range" = none) (ha : PE X a (tF X.K f)) (hs : starEach [a] X.env = [(false, eval a X.env)] := by rfl) : PI X tg (.Call (.Name "range" p) [a] [] pos) (tI X.K (itR1 f)) :=
  PI.imp (pi_range1 hg hm (pa_cons ha pa_nil hs) hs) fun σ H R ⟨F, β, st, ds, st', r, e1, q⟩ => by
    obtain ⟨c, h1, e2⟩ := bind_some e1
    obtain ⟨ds', h2, e3⟩ := bind_some e2
    cases e3
    obtain ⟨n, h3, e4⟩ := bind_some h2
    obtain ⟨hz, rfl⟩ := ite_some e4
    refine ⟨F, β, st, c.1, c.2, r, h1, fun F1 H1 v k => ?_⟩
    have k2 := k.res
    rw [intOf_eq h3] at k2
    exact ⟨n, by rw [k2.int_eq], hz.1, hz.2, q _ _ _ k.b gives_range⟩
theorem i_r2 (hg : Gl X "range") (hm : X.mg "range" = none) (ha : PE X a (tF X.K f)) (hb : PE X b (tF X.K g)) (hs : starEach [a, b] X.env = [(false, eval a X.env), (false, eval b X.env)] := by rfl) (hs2 : starEach [b] X.env = [(false, eval b X.env)] := by rfl) : PI X tg (.Call (.Name "range" p) [a, b] [] pos) (tI X.K (itR2 f g)) :=
  PI.imp (pi_range2 hg hm (pa_cons ha (pa_cons hb pa_nil hs2) (by rw [hs, hs2])) hs hs2) fun σ H R ⟨F, β, st, ds, st', r, e1, q⟩ => by
    obtain ⟨c, h1, e2⟩ := bind_some e1
    obtain ⟨c2, h2, e2⟩ := bind_some e2
    obtain ⟨ds', h3, e3⟩ := bind_some e2
    cases e3
    obtain ⟨m, h4, e4⟩ := bind_some h3
    obtain ⟨n, h5, e5⟩ := bind_some e4
    obtain ⟨hz, rfl⟩ := ite_some e5
    refine ⟨F, β, st, c.1, c.2, r, h1, fun F1 H1 v k => ⟨F1, β, c.2, c2.1, c2.2, k.rel, h2, fun F2 H2 w k2 => ?_⟩⟩
    have z1 := k.res
    rw [intOf_eq h4] at z1
    have z2 := k2.res
    rw [intOf_eq h5] at z2
    exact ⟨m, n, by rw [z1.int_eq, z2.int_eq], hz, q _ _ _ (k.b.trans k2.b) gives_range⟩
def itD (f : DF) : DSt → Option (List D × DSt) := fun st => (f st).bind fun p => (itemsD p.1).bind fun ds => some (ds, p.2)
theorem i_d (he : PE X e (tF X.K f)) : PI X tg e (tI X.K (itD f)) := PI.imp (i_data he) fun σ H R ⟨F, β, st, ds, st', r, e1, q⟩ => by
  obtain ⟨c, h1, e2⟩ := bind_some e1
  obtain ⟨ds', h2, e3⟩ := bind_some e2
  cases e3
  exact iD_of (K := X.K) r h1 h2 fun F1 H1 J k g1 => q F1 H1 J k g1
def dForI (it : DSt → Option (List D × DSt)) (tg : DG) (body : DS) : DS := fun st => (it st).bind fun p => forL tg body p.1 p.2
theorem s_forI {body : List Stmt} {dg : DG} {db : DS} {it : DSt → Option (List D × DSt)} (hp : PassesOwn (model X.prog X.w) X.A X.env X.xe) (hc : X.calm = true) (hi : PI X tg e (tI X.K it)) (hg : PG X tg (tG X.K dg)) (hb : PSs X body (tS X.K db)) (hs : ∀ x, foldedSetIterable e X.env x = pure x := by intro _; rfl) :
    PS X (.For tg e body [] pos) (tS X.K (dForI it dg db)) := PS.imp (ps_for hp hc hi hg hb hs) fun D σ H ⟨F, β, st, o, r, e1, q⟩ => by
  obtain ⟨c, h1, e2⟩ := bind_some e1
  exact ⟨F, β, st, c.1, c.2, r, h1, fun F1 H1 J k g1 => for_core k.rel g1 e2 (q.after k.s)⟩

/-! ### list comprehensions -/
/-- the slots of the block's own names are forgotten -/
def wipeD (st : DSt) (vs : List Nat) : DSt := vs.foldl (fun s i => s.set i none) st
def lcL (tg : DG) (tt : DB) (te : DF) (vs : List Nat) : List D → DSt → List D → Option (List D × DSt)
  | [], st, acc => some (acc, st)
  | d :: ds, st, acc => (tg d st).bind fun s1 => (tt s1).bind fun p => if p.1 = true then (te p.2).bind fun q => if acc.length < 16777216 then lcL tg tt te vs ds (wipeD q.2 vs) (acc ++ [q.1]) else none else lcL tg tt te vs ds (wipeD p.2 vs) acc
structure GOk (K : Fg) (F H : Hp) (β : Nat → Option Addr) (st : DSt) (σ : L2.St) (F' H' : Hp) (st' : DSt) (σ' : L2.St) : Prop where
  rel : StRel K F' H' β st' σ'
  stp : Stp F H (Own st σ) F' H'
  sub : ∀ a, Own st' σ' a → Own st σ a
theorem GOk.refl {K : Fg} {F H : Hp} {β : Nat → Option Addr} {st : DSt} {σ : L2.St} (r : StRel K F H β st σ) : GOk K F H β st σ F H st σ := ⟨r, Stp.refl _, fun _ h => h⟩
theorem GOk.trans {K : Fg} {F H F1 H1 F2 H2 : Hp} {β : Nat → Option Addr} {st st1 st2 : DSt} {σ σ1 σ2 : L2.St} (k : GOk K F H β st σ F1 H1 st1 σ1) (k2 : GOk K F1 H1 β st1 σ1 F2 H2 st2 σ2) : GOk K F H β st σ F2 H2 st2 σ2 :=
  ⟨k2.rel, k.stp.trans k2.stp fun a h => .inl (k.sub a h), fun a h => k.sub a (k2.sub a h)⟩
theorem BOk.toG {K : Fg} {F H F1 H1 : Hp} {β : Nat → Option Addr} {st st1 : DSt} {σ : L2.St} (k : BOk K F H β st σ F1 H1 st1) : GOk K F H β st σ F1 H1 st1 σ := ⟨k.rel, k.stp, k.sub⟩
def tGw (K : Fg) (g : DG) (vs : List Nat) : TG := fun v σ H Q => ∃ F β st d st', StRel K F H β st σ ∧ Rp K F v d ∧ g d st = some st' ∧ ∀ F' H' σ', wipe σ' vs = wipe σ vs → GOk K F H β st σ F' H' st' σ' → Q σ' H'
def tGsw (K : Fg) (g : DGs) (vs : List Nat) : TGs := fun ws σ H Q => ∃ F β st ds st', StRel K F H β st σ ∧ RpAll K F ws ds ∧ g ds st = some st' ∧ ∀ F' H' σ', wipe σ' vs = wipe σ vs → GOk K F H β st σ F' H' st' σ' → Q σ' H'
end
theorem wipe_in {σ : L2.St} {i : Nat} : ∀ {vs : List Nat}, i ∈ vs → (wipe σ vs)[i]? = if i < σ.length then some none else none
  | v :: vs, h => by
    show ((wipe σ vs).set v none)[i]? = _
    by_cases e : v = i
    · subst e
      by_cases hl : v < σ.length
      · rw [if_pos hl, List.getElem?_set_self (by rw [wipe_length]; exact hl)]
      · rw [if_neg hl, List.getElem?_eq_none (by rw [List.length_set, wipe_length]; omega)]
    · rw [List.getElem?_set_ne e]
      rcases List.mem_cons.mp h with z | z
      · exact absurd z.symm e
      · exact wipe_in z
theorem wipe_same {σ σ' : L2.St} {vs : List Nat} (hl : σ'.length = σ.length) (h : ∀ i, i ∉ vs → σ'[i]? = σ[i]?) : wipe σ' vs = wipe σ vs := by
  apply List.ext_getElem?
  intro i
  by_cases hi : i ∈ vs
  · rw [wipe_in hi, wipe_in hi, hl]
  · rw [L2.wipe_out hi, L2.wipe_out hi, h i hi]
theorem same_wipe {σ σ' : L2.St} {vs : List Nat} (h : wipe σ' vs = wipe σ vs) : σ'.length = σ.length ∧ ∀ i, i ∉ vs → σ'[i]? = σ[i]? := by
  refine ⟨by rw [← wipe_length σ' vs, h, wipe_length], fun i hi => ?_⟩
  rw [← L2.wipe_out (σ := σ') hi, h, L2.wipe_out hi]
theorem wipe_set {σ : L2.St} {i : Nat} {x : Option V} {vs : List Nat} (h : i ∈ vs) : wipe (σ.set i x) vs = wipe σ vs :=
  wipe_same (by simp) fun j hj => List.getElem?_set_ne (fun e => hj (by rw [← e]; exact h))
theorem wipe_wipe {σ : L2.St} {vs : List Nat} : wipe (wipe σ vs) vs = wipe σ vs := wipe_same (wipe_length _ _) fun j hj => L2.wipe_out hj
theorem wipeD_in : ∀ (vs : List Nat) (st : DSt) (i : Nat) (s : SV), (wipeD st vs)[i]? = some (some s) → i ∉ vs ∧ st[i]? = some (some s)
  | [], st, i, s, h => ⟨by simp, h⟩
  | v :: vs, st, i, s, h => by
    obtain ⟨h1, h2⟩ := wipeD_in vs (st.set v none) i s h
    by_cases e : v = i
    · subst e
      by_cases hl : v < st.length
      · rw [List.getElem?_set_self hl] at h2; cases h2
      · rw [List.getElem?_eq_none (by simpa using hl)] at h2; cases h2
    · rw [List.getElem?_set_ne e] at h2
      exact ⟨by simp only [List.mem_cons, not_or]; exact ⟨fun z => e z.symm, h1⟩, h2⟩
theorem wipeD_len : ∀ (vs : List Nat) (st : DSt), (wipeD st vs).length = st.length
  | [], st => rfl
  | v :: vs, st => by
    show (wipeD (st.set v none) vs).length = _
    rw [wipeD_len vs, List.length_set]
section
variable {K : Fg} {F H F' H' F1 H1 : Hp} {β : Nat → Option Addr} {st st' st1 : DSt} {σ σ' : L2.St} {a : Addr}
/-- the same slots, another frame that agrees where they hold something -/
theorem StRel.agree (k : StRel K F H β st σ) (hl : σ'.length = σ.length) (h : ∀ (i : Nat) (s : SV), st[i]? = some (some s) → σ'[i]? = σ[i]?) : StRel K F H β st σ' :=
  ⟨k.le, by rw [k.len, hl], fun i s e => by rw [h i s e]; exact k.slot i s e, fun i j t xs u ys a z1 z2 z3 z4 => by
    rw [h i _ z1] at z3
    rw [h j _ z2] at z4
    exact k.ne _ _ _ _ _ _ _ z1 z2 z3 z4⟩
theorem own_agree (h : ∀ (i : Nat) (s : SV), st[i]? = some (some s) → σ'[i]? = σ[i]?) (o : Own st σ' a) : Own st σ a := by
  obtain ⟨i, t, c, z1, z2⟩ := o
  rw [h i _ z1] at z2
  exact ⟨i, t, c, z1, z2⟩
/-- an object beside the slots and the frozen is written -/
theorem StRel.beside (k : StRel K F H β st σ) {p : Addr} {o : HO} (f : F p = none) (n : ¬ Own st σ p) : StRel K F (upd H p o) β st σ :=
  ⟨fun b u z => by rw [upd_ne (ne_of_none z f)]; exact k.le _ _ z, k.len, fun i s e => by
    obtain ⟨v, e1, q⟩ := k.slot i s e
    refine ⟨v, e1, ?_⟩
    cases s with
    | val d => exact q
    | own t c =>
      obtain ⟨a2, o2, rfl, f2, h2, q2, b2⟩ := q
      have hne : a2 ≠ p := by
        rintro rfl
        exact n ⟨i, t, c, e, e1⟩
      exact ⟨a2, o2, rfl, f2, by rw [upd_ne hne]; exact h2, q2, b2⟩, k.ne⟩
end
section
variable {X : Cx} {e tg : Expr} {es : List Expr} {g : DG} {gs : DGs} {pos : Pos} {vs : List Nat}
theorem gw_nm (i : Nat) {x : Str} (hv : i ∈ vs) (hN : X.N.Nodup) (hi : X.N[i]? = some x := by rfl) (hx : Loc X.env.scope x := by first | exact Or.inl rfl | exact Or.inr rfl) (hf : X.fn x = true ∨ X.env.scope.names.lookup x = some .local := by first | exact .inl rfl | exact .inr rfl | assumption) : PG X (.Name x pos) (tGw X.K (dNm i) vs) :=
  PG.imp (pg_name hN hi hx hf) fun v σ H Q ⟨F, β, st, d, st', r, h, e, q⟩ => by
    cases e
    exact q F H _ (wipe_set hv) ⟨(r.putD i h).rel, (r.putD i h).stp, fun a z => (own_put z r.len).elim id fun ⟨_, _, z, _⟩ => nomatch z⟩
theorem gw_nil : PGs X [] (tGsw X.K dGN vs) := PGs.imp pgs_nil fun ws σ H Q ⟨F, β, st, ds, st', r, h, e, q⟩ => by
  unfold dGN at e
  split at e
  · cases e
    cases h
    exact ⟨rfl, q F H _ rfl (GOk.refl r)⟩
  · cases e
theorem gw_cons (h1 : PG X e (tGw X.K g vs)) (h2 : PGs X es (tGsw X.K gs vs)) (hs : (assignEach (e :: es) X.env).map (·.2) = assign e X.env :: (assignEach es X.env).map (·.2) := by rfl) : PGs X (e :: es) (tGsw X.K (dGC g gs) vs) :=
  PGs.imp (pgs_cons h1 h2 hs) fun ws σ H Q ⟨F, β, st, ds, st', r, h, e, q⟩ => by
    unfold dGC at e
    split at e
    · obtain ⟨s1, e1, e2⟩ := bind_some e
      cases h with
      | cons h3 h4 =>
        exact ⟨_, _, rfl, F, β, st, _, s1, r, h3, e1, fun F1 H1 σ1 w1 k => ⟨F1, β, s1, _, st', k.rel, RpAll.mono k.stp.mono h4, e2, fun F2 H2 σ2 w2 k2 => q F2 H2 σ2 (w2.trans w1) (k.trans k2)⟩⟩
    · cases e
theorem gw_tp (n : Nat) {k : Nat} (hc : X.calm = true) (h : PGs X es (tGsw X.K gs vs)) (hn : (assignEach es X.env).length = n := by rfl) (hst : (assignEach es X.env).findIdx? (·.1) = none := by rfl) : PG X (.Tuple es k pos) (tGw X.K (dTp n gs) vs) :=
  PG.imp (pg_tup hc h hn hst) fun v σ H Q ⟨F, β, st, d, st', r, h, e, q⟩ => by
    unfold dTp at e
    split at e
    · rename_i ds
      by_cases hz : ds.length = n
      · rw [if_pos hz] at e
        obtain ⟨a, ws, rfl, h1, h2⟩ := h.tup_inv
        exact ⟨a, ws, rfl, SqT.mono r.le h1, by rw [h2.length]; exact hz, F, β, st, ds, st', r, h2, e, q⟩
      · rw [if_neg hz] at e; cases e
    · cases e
def dYes : DB := fun st => some (true, st)
theorem ts_nil : PTs X [] (tT X.K dYes) := ⟨fun pins s σ H Q I ⟨F, β, st, b, st', r, e, q⟩ => by
  cases e
  exact pts_nil.run pins s σ H Q I (q F H (BOk.refl r))⟩
theorem ts_one {c : Expr} {t : DB} (h : PT X c (tT X.K t)) : PTs X [c] (tT X.K t) := pts_one h
end
def dLc (it : DSt → Option (List D × DSt)) (tg : DG) (tt : DB) (te : DF) (vs : List Nat) : DE := fun st => (it st).bind fun p => (lcL tg tt te vs p.1 (wipeD p.2 vs) []).bind fun q => some (.own none (.list q.1), q.2)
theorem lc_to {K : Fg} {it : DSt → Option (List D × DSt)} {tg : DG} {tt : DB} {te : DF} {vs : List Nat} {σ : L2.St} {H : Hp} {Q : VK} (h : tD K (dLc it tg tt te vs) σ H Q) : tLc (tI K it) (tGw K tg vs) (tT K tt) (tF K te) vs σ H Q := by
  obtain ⟨F0, β, st0, r, st', k0, e, q⟩ := h
  obtain ⟨p, e1, e2⟩ := bind_some e
  obtain ⟨p2, e3, e4⟩ := bind_some e2
  cases e4
  refine ⟨F0, β, st0, p.1, p.2, k0, e1, fun F1 H1 J k1 g1 A hA => ?_⟩
  have fA : F1 A = none := k1.rel.le.free hA
  have nA : ¬ Own p.2 σ A := fun z => by
    obtain ⟨o, h2, _⟩ := k1.rel.ownH z
    rw [hA] at h2; cases h2
  -- W: the list so far stands at A
  refine ⟨fun i m H => m = p.1.length - i ∧ i ≤ p.1.length ∧ ∃ F st acc va, StRel K F H β st σ ∧ (∀ i s, st[i]? = some (some s) → i ∉ vs) ∧ Same F1 F ∧ (∀ a o, H1 a = some o → F1 a = none → ¬ Own p.2 σ a → H a = some o ∧ F a = none) ∧ (∀ a, Own st σ a → Own p.2 σ a) ∧ H A = some (.lst va) ∧ F A = none ∧ RpAll K F va acc ∧ ¬ Own st σ A ∧
    lcL tg tt te vs (p.1.drop i) st acc = some p2, ⟨_, rfl, Nat.zero_le _, F1, wipeD p.2 vs, [], [], ?_, fun i s z => (wipeD_in vs _ i s z).1, Same.refl _, fun a o h1 h2 h3 => ⟨by rw [upd_ne (ne_of_none h1 hA)]; exact h1, h2⟩, fun a ⟨i, t, c, z1, z2⟩ => ⟨i, t, c, (wipeD_in vs _ i _ z1).2, z2⟩, upd_same, fA, .nil, fun ⟨i, t, c, z1, z2⟩ => nA ⟨i, t, c, (wipeD_in vs _ i _ z1).2, z2⟩, by simpa using e3⟩, ?_⟩
  · exact ((kills K vs p.2 k1.rel).rel).beside fA fun ⟨i, t, c, z1, z2⟩ => nA ⟨i, t, c, (wipeD_in vs _ i _ z1).2, z2⟩
  · rintro i m H ⟨rfl, hi, F, st, acc, va, k, hv, mF, kp, sb, hD, fD, ra, nD, e5⟩
    by_cases hlt : i < p.1.length
    · refine .inr ⟨g1.go F H i mF k.le hlt, fun H' => ∃ F st acc va, StRel K F H' β st σ ∧ (∀ i s, st[i]? = some (some s) → i ∉ vs) ∧ Same F1 F ∧ (∀ a o, H1 a = some o → F1 a = none → ¬ Own p.2 σ a → H' a = some o ∧ F a = none) ∧ (∀ a, Own st σ a → Own p.2 σ a) ∧ H' A = some (.lst va) ∧ F A = none ∧ RpAll K F va acc ∧ ¬ Own st σ A ∧
        lcL tg tt te vs (p.1.drop (i + 1)) st acc = some p2, fun H' z => ⟨p.1.length - (i + 1), by omega, rfl, hlt, z⟩, fun x H' y => ?_⟩
      obtain ⟨rfl, d, ed, rd⟩ := g1.yld F H i x H' mF k.le hlt y
      rw [List.drop_eq_getElem_cons hlt] at e5
      have ed' : p.1[i] = d := by
        rw [List.getElem?_eq_getElem hlt] at ed
        exact Option.some.inj ed
      rw [ed'] at e5
      obtain ⟨s1, e6, e7⟩ := bind_some e5
      obtain ⟨p3, e8, e9⟩ := bind_some e7
      have ag : ∀ i s, st[i]? = some (some s) → (wipe σ vs)[i]? = σ[i]? := fun i s z => L2.wipe_out (hv i s z)
      have kw := k.agree (wipe_length σ vs) ag
      have ow : ∀ a, Own st (wipe σ vs) a → Own st σ a := fun a z => own_agree ag z
      refine ⟨F, β, st, d, s1, kw, rd, e6, fun F2 H2 σ2 w2 k2 => ⟨w2.trans wipe_wipe, F2, β, s1, p3.1, p3.2, k2.rel, e8, fun F3 H3 k3 => ?_⟩⟩
      have k23 := k2.trans k3.toG
      obtain ⟨len2, out2⟩ := same_wipe (w2.trans wipe_wipe)
      -- a state at σ2, its block slots forgotten, is one at σ
      have home : ∀ {F' H' : Hp} {sx : DSt}, StRel K F' H' β sx σ2 → StRel K F' H' β (wipeD sx vs) σ := fun {F' H' sx} z => ((kills K vs sx z).rel).agree len2.symm fun i s z2 => (out2 i (wipeD_in vs _ i s z2).1).symm
      have homeO : ∀ {sx : DSt} {a : Addr}, Own (wipeD sx vs) σ a → Own sx σ2 a := fun {sx a} ⟨i, t, c, z1, z2⟩ => ⟨i, t, c, (wipeD_in vs _ i _ z1).2, by rw [out2 i (wipeD_in vs _ i _ z1).1]; exact z2⟩
      -- what holds behind any further step
      have fin : ∀ {F' H'' : Hp} {sx : DSt}, GOk K F H' β st (wipe σ vs) F' H'' sx σ2 → Same F1 F' ∧ (∀ a o, H1 a = some o → F1 a = none → ¬ Own p.2 σ a → H'' a = some o ∧ F' a = none) ∧ (∀ a, Own (wipeD sx vs) σ a → Own p.2 σ a) ∧ H'' A = some (.lst va) ∧ F' A = none ∧ ¬ Own (wipeD sx vs) σ A := fun {F' H'' sx} z => by
        have hA' := z.stp.keep A _ hD fD (fun w => nD (ow _ w))
        refine ⟨mF.trans z.stp.mono, fun a o h1 h2 h3 => ?_, fun a w => sb a (ow a (z.sub a (homeO w))), hA'.1, hA'.2, fun w => nD (ow A (z.sub A (homeO w)))⟩
        obtain ⟨x1, x2⟩ := kp a o h1 h2 h3
        exact z.stp.keep a o x1 x2 fun w => h3 (sb a (ow a w))
      show ite _ _ _
      split
      · rename_i hp
        rw [if_pos hp] at e9
        obtain ⟨p4, e10, e11⟩ := bind_some e9
        refine ⟨F3, β, p3.2, p4.1, p4.2, k3.rel, e10, fun F4 H4 y k4 => ?_⟩
        have hz : acc.length < 16777216 := by
          by_cases hz : acc.length < 16777216
          · exact hz
          · rw [if_neg hz] at e11; cases e11
        rw [if_pos hz] at e11
        obtain ⟨f1, f2, f3, f4, f5, f6⟩ := fin (k23.trans k4.b.toG)
        have m4 := (k23.trans k4.b.toG).stp.mono
        refine ⟨va, f4, by rw [ra.length, ← big_eq]; exact hz, F4, _, acc ++ [p4.1], va ++ [y], (home k4.rel).beside f5 f6, fun i s z => (wipeD_in vs _ i s z).1, f1, fun a o h1 h2 h3 => ?_, f3, upd_same, f5, (RpAll.mono m4 ra).append (.one k4.res), f6, e11⟩
        rw [upd_ne (ne_of_none h1 hA)]
        exact f2 a o h1 h2 h3
      · rename_i hp
        rw [if_neg hp] at e9
        obtain ⟨f1, f2, f3, f4, f5, f6⟩ := fin k23
        exact ⟨F3, _, acc, va, home k3.rel, fun i s z => (wipeD_in vs _ i s z).1, f1, f2, f3, f4, f5, RpAll.mono k23.stp.mono ra, f6, e9⟩
    · have e6 : i = p.1.length := by omega
      subst e6
      rw [List.drop_length] at e5
      cases e5
      refine .inl ⟨g1.stop F H mF k.le, q F H _ ⟨k, ⟨k1.stp.mono.trans mF, fun a o h1 h2 h3 => ?_⟩, fun a z => k1.sub a (sb a z), ⟨A, .lst va, rfl, fD, hD, .lst ra, fun j z => nomatch z⟩, fun t c a h1 h2 => ?_⟩⟩
      · obtain ⟨x1, x2⟩ := k1.stp.keep a o h1 h2 h3
        exact kp a o x1 x2 fun z => h3 (k1.sub a z)
      · cases h1
        cases h2
        exact ⟨rfl, nD, k1.stp.fresh k1.rel.le hA⟩
section
variable {X : Cx} {elt tg iter : Expr} {ifs : List Expr} {scope : Scope} {own : List (Str × Nat)} {pos : Pos} {it : DSt → Option (List D × DSt)} {g : DG} {tt : DB} {te : DF}
theorem pd_lc (hc : X.calm = true) (hN : X.N.Nodup) (hi : PI X tg iter (tI X.K it)) (ok : BlkOk X.N X.env.scope scope own)
    (hg : ∀ (s : Shared) (H : Hp) (C : Addr) (cl : List (Str × Addr)) (fp : List Addr), PG (X.blk s H scope (compEnvC scope cl C X.env) fp) tg (tGw X.K g (own.map (·.2)))) (ht : ∀ (s : Shared) (H : Hp) (C : Addr) (cl : List (Str × Addr)) (fp : List Addr), PTs (X.blk s H scope (compEnvC scope cl C X.env) fp) ifs (tT X.K tt))
    (he : ∀ (s : Shared) (H : Hp) (C : Addr) (cl : List (Str × Addr)) (fp : List Addr), PE (X.blk s H scope (compEnvC scope cl C X.env) fp) elt (tF X.K te)) (hs : ∀ x, foldedSetIterable iter X.env x = pure x := by intro _; rfl) :
    PE X (.ListComp elt [⟨tg, iter, ifs, 0⟩] scope pos) (tD X.K (dLc it g tt te (own.map (·.2)))) := PE.imp (pe_lc hc hN hi ok hg ht he hs) fun _ _ _ h => lc_to h
/-- name = [..] on one line -/
theorem s_setLc (i : Nat) {y : Str} {py spos : Pos} (hc : X.calm = true) (hN : X.N.Nodup) (hi : PI X tg iter (tI X.K it)) (ok : BlkOk X.N X.env.scope scope own)
    (hg : ∀ (s : Shared) (H : Hp) (C : Addr) (cl : List (Str × Addr)) (fp : List Addr), PG (X.blk s H scope (compEnvC scope cl C X.env) fp) tg (tGw X.K g (own.map (·.2)))) (ht : ∀ (s : Shared) (H : Hp) (C : Addr) (cl : List (Str × Addr)) (fp : List Addr), PTs (X.blk s H scope (compEnvC scope cl C X.env) fp) ifs (tT X.K tt))
    (he : ∀ (s : Shared) (H : Hp) (C : Addr) (cl : List (Str × Addr)) (fp : List Addr), PE (X.blk s H scope (compEnvC scope cl C X.env) fp) elt (tF X.K te)) 
    (hy : X.N[i]? = some y := by rfl) (hyl : X.env.scope.names.lookup y = some .local := by rfl) (hsw : swapsWith (.ListComp elt [⟨tg, iter, ifs, 0⟩] scope pos) (some (.Name y py)) spos.line X.env = pure true := by exact sw_true rfl rfl rfl (by decide +kernel))
    (hs : ∀ x, foldedSetIterable iter X.env x = pure x := by intro _; rfl) :
    PS X (.Assign [.Name y py] (.ListComp elt [⟨tg, iter, ifs, 0⟩] scope pos) spos) (tS X.K (dSet i (dLc it g tt te (own.map (·.2))))) := PS.imp (ps_setLc hc hN hy hyl hsw hi ok hg ht he hs) fun D σ H ⟨F, β, st, o, r, e, q⟩ => by
  obtain ⟨p, h1, e2⟩ := bind_some e
  cases e2
  exact lc_to ⟨F, β, st, p.1, p.2, r, h1, fun F1 H1 v k => q F1 H1 _ (k.put i)⟩
end
end DL

/-! DL9: defs: what they promise, their calls, their bodies -/
namespace DL
open PySem PySem.Spec PyProof.Rows L2
/-- what a def does: its arguments (a list that is handed over to be changed bears its place), the result and what these lists are then -/
abbrev Fn := List SV → Option (SV × DSt)
def Tagged (args : List SV) : Prop := ∀ (i : Nat) t c, args[i]? = some (SV.own t c) → t = some i
structure COk (K : Fg) (F H : Hp) (β : Nat → Option Addr) (args : List SV) (vs : List V) (F' H' : Hp) (outs : DSt) (v : V) (r : SV) : Prop where
  rel : StRel K F' H' β outs (vs.map some)
  stp : Stp F H (Own (args.map some) (vs.map some)) F' H'
  res : SvOk K F' H' β v r
  fre : ∀ t c a, r = .own t c → v = .ref a → t = none ∧ ¬ Own outs (vs.map some) a ∧ (Own (args.map some) (vs.map some) a ∨ H a = none)
  own : ∀ (i : Nat) t c, outs[i]? = some (some (SV.own t c)) → t = some i
def spD (K : Fg) (n : Nat) (f : Fn) : Sp := fun vs H Q _ => vs.length = n ∧ ∃ F β args r outs, StRel K F H β (args.map some) (vs.map some) ∧ Tagged args ∧ f args = some (r, outs) ∧ ∀ F' H' v, COk K F H β args vs F' H' outs v r → Q v H'

/-! ### a body -/
def outsOf : List SV → Nat → DSt → Option DSt
  | [], _, _ => some []
  | .val _ :: as, j, st => (outsOf as (j + 1) st).bind fun o => some (none :: o)
  | .own _ _ :: as, j, st => match st[j]? with
    | some (some (.own (some k) c)) => if k = j then (outsOf as (j + 1) st).bind fun o => some (some (.own (some j) c) :: o) else none
    | _ => none
/-- the def of n names whose body does f -/
def defSem (n : Nat) (f : DS) : Fn := fun args => (f (args.map some ++ List.replicate (n - args.length) none)).bind fun o => match o with
  | .rt r st => (outsOf args 0 st).bind fun outs => some (r, outs)
  | .nx st => (outsOf args 0 st).bind fun outs => some (.val .none, outs)
  | _ => none
theorem outsOf_at : ∀ (as : List SV) (j : Nat) (st outs : DSt), outsOf as j st = some outs → outs.length = as.length ∧ ∀ (i : Nat) s, outs[i]? = some (some s) → ∃ c t c', s = .own (some (j + i)) c ∧ st[j + i]? = some (some s) ∧ as[i]? = some (.own t c')
  | [], j, st, outs, h => by
    cases h
    exact ⟨rfl, fun i s z => by simp at z⟩
  | .val d :: as, j, st, outs, h => by
    obtain ⟨o, h1, h2⟩ := bind_some h
    cases h2
    obtain ⟨l, q⟩ := outsOf_at as (j + 1) st o h1
    refine ⟨by simp [l], fun i s z => ?_⟩
    cases i with
    | zero => simp at z
    | succ i =>
      obtain ⟨c, t, c', z1, z2, z3⟩ := q i s (by simpa using z)
      have e : j + 1 + i = j + (i + 1) := by omega
      rw [e] at z1 z2
      exact ⟨c, t, c', z1, z2, by simpa using z3⟩
  | .own t0 c0 :: as, j, st, outs, h => by
    unfold outsOf at h
    split at h
    · rename_i k c e0
      split at h
      · rename_i hk
        subst hk
        obtain ⟨o, h1, h2⟩ := bind_some h
        cases h2
        obtain ⟨l, q⟩ := outsOf_at as (k + 1) st o h1
        refine ⟨by simp [l], fun i s z => ?_⟩
        cases i with
        | zero =>
          simp at z
          subst z
          exact ⟨c, t0, c0, rfl, e0, rfl⟩
        | succ i =>
          obtain ⟨c, t, c', z1, z2, z3⟩ := q i s (by simpa using z)
          have e : k + 1 + i = k + (i + 1) := by omega
          rw [e] at z1 z2
          exact ⟨c, t, c', z1, z2, by simpa using z3⟩
      · cases h
    · cases h
section
variable {P : Program} {w : World} {K : Fg} {mg : Str → Option Value} {base : Heap}
theorem start_get {vs : List V} {n i : Nat} : (vs.map some ++ List.replicate (n - vs.length) (none : Option V))[i]? = if i < vs.length then (vs.map some)[i]? else (List.replicate (n - vs.length) none)[i - vs.length]? := by
  rw [List.getElem?_append]
  simp
/-- behind a body: what the callers see -/
theorem fin_call {F H F' H' : Hp} {β : Nat → Option Addr} {args : List SV} {vs : List V} {n : Nat} {st' : DSt} {σ' : L2.St} {outs : DSt} {v : V} {r : SV} (k0 : StRel K F H β (args.map some) (vs.map some)) (tg : Tagged args)
    (k : ROk K F H β (args.map some ++ List.replicate (n - args.length) none) (vs.map some ++ List.replicate (n - vs.length) none) F' H' st' σ' v r) (e : outsOf args 0 st' = some outs) : COk K F H β args vs F' H' outs v r := by
  obtain ⟨ol, oa⟩ := outsOf_at args 0 st' outs e
  have la : args.length = vs.length := by simpa using k0.len
  have ownS : ∀ a, Own (args.map some ++ List.replicate (n - args.length) none) (vs.map some ++ List.replicate (n - vs.length) none) a → Own (args.map some) (vs.map some) a := fun a ⟨i, t, c, z1, z2⟩ => by
    rw [List.getElem?_append] at z1 z2
    by_cases hi : i < args.length
    · rw [if_pos (by simpa using hi)] at z1
      rw [if_pos (by simpa [← la] using hi)] at z2
      exact ⟨i, t, c, z1, z2⟩
    · rw [if_neg (by simpa using hi)] at z1
      rw [List.getElem?_replicate] at z1
      split at z1 <;> cases z1
  -- an out is the argument's own list, at its address
  have at_ : ∀ (i : Nat) s, outs[i]? = some (some s) → ∃ a c, s = .own (some i) c ∧ vs[i]? = some (.ref a) ∧ β i = some a ∧ σ'[i]? = some (some (.ref a)) ∧ SvOk K F' H' β (.ref a) s ∧ Own (args.map some) (vs.map some) a := fun i s z => by
    obtain ⟨c, t, c', z1, z2, z3⟩ := oa i s z
    rw [Nat.zero_add] at z1 z2
    subst z1
    have z4 : (args.map some)[i]? = some (some (SV.own t c')) := by rw [List.getElem?_map, z3]; rfl
    obtain ⟨v1, y1, a, o, rfl, f, hh, q, b⟩ := k0.slot i _ z4
    have bi := b i (tg i t c' z3)
    obtain ⟨v2, y2, y3⟩ := k.s.rel.slot i _ z2
    obtain ⟨a2, o2, rfl, f2, hh2, q2, b2⟩ := id y3
    have e2 := b2 i rfl
    rw [bi] at e2
    cases e2
    have y1' : vs[i]? = some (.ref a) := by
      rw [List.getElem?_map] at y1
      cases q3 : vs[i]? with
      | none => rw [q3] at y1; cases y1
      | some u => rw [q3] at y1; cases y1; rfl
    exact ⟨a, c, rfl, y1', bi, y2, y3, i, t, c', z4, y1⟩
  have ownO : ∀ a, Own outs (vs.map some) a → Own st' σ' a := fun a ⟨i, t, c, z1, z2⟩ => by
    obtain ⟨a2, c2, y1, y2, y3, y4, y5, _⟩ := at_ i _ z1
    rw [List.getElem?_map, y2] at z2
    cases z2
    obtain ⟨c4, t4, c5, x1, x2, _⟩ := oa i _ z1
    rw [Nat.zero_add] at x2
    exact ⟨i, t, c, x2, y4⟩
  refine ⟨⟨k.s.rel.le, by rw [ol, List.length_map, la], fun i s z => ?_, fun i j t c u c2 a z1 z2 z3 z4 => ?_⟩, ⟨k.s.stp.mono, fun a o h1 h2 h3 => k.s.stp.keep a o h1 h2 fun z => h3 (ownS a z)⟩, k.res, fun t c a h1 h2 => ?_, fun i t c z => ?_⟩
  · obtain ⟨a, c, y1, y2, y3, y4, y5, _⟩ := at_ i s z
    exact ⟨.ref a, by rw [List.getElem?_map, y2]; rfl, y5⟩
  · obtain ⟨c4, t4, c5, x1, x2, _⟩ := oa i _ z1
    obtain ⟨c6, t6, c7, x3, x4, _⟩ := oa j _ z2
    rw [Nat.zero_add] at x2 x4
    obtain ⟨a1, _, _, y2, _, y4, _⟩ := at_ i _ z1
    obtain ⟨a2, _, _, w2, _, w4, _⟩ := at_ j _ z2
    rw [List.getElem?_map, y2] at z3
    rw [List.getElem?_map, w2] at z4
    cases z3
    cases z4
    exact k.s.rel.ne _ _ _ _ _ _ _ x2 x4 y4 w4
  · obtain ⟨x1, x2, x3⟩ := k.fre t c a h1 h2
    exact ⟨x1, fun z => x2 (ownO a z), x3.imp (ownS a) id⟩
  · obtain ⟨a, c2, y1, _⟩ := at_ i _ z
    cases y1
    rfl
/-- THE RULE: a def whose body is shown to do f keeps the promise of f -/
theorem def_ok {x qual : Str} {st : Stmt} {f : Addr} {fd : FuncData} {N ps : List Str} {k : Nat} {fs : DS} (F : Fun K x qual st f fd) (S : FnScope N ps (defScope st))
    (hbody : ∀ (cdv : Value) (A : Around) (outer : List Env) (s : Shared) (H : Hp) (E : XK), Room k (A.deeper (envOfC qual (defScope st) s.heap.objs.size f cdv)) →
      PSs (cxOf CX0 P w K mg base N qual (defScope st) f cdv A outer s H E).nox (defBody st) (tS K fs)) : FnOk P w K mg base CX0 (k + 1) f fd ps (spD K ps.length (defSem N.length fs)) := by
  refine F.ok S (fun vs H Q E h => h.1) fun cdv A outer s H vs Q E hr h => ⟨_, hbody cdv A outer s H E hr, ?_⟩
  obtain ⟨hl, F0, β, args, r, outs, k0, tg, e, q⟩ := h
  have la : args.length = vs.length := by simpa using k0.len
  obtain ⟨o, e1, e2⟩ := bind_some e
  have k1 : StRel K F0 H β (args.map some ++ List.replicate (N.length - args.length) none) (L2.start N vs) := by
    unfold L2.start
    refine ⟨k0.le, by simp [la], fun i s z => ?_, fun i j t c u c2 a z1 z2 z3 z4 => ?_⟩
    · rw [List.getElem?_append] at z ⊢
      by_cases hi : i < args.length
      · rw [if_pos (by simpa using hi)] at z
        rw [if_pos (by simpa [← la] using hi)]
        exact k0.slot i s z
      · rw [if_neg (by simpa using hi), List.getElem?_replicate] at z
        split at z <;> cases z
    · have get : ∀ (i : Nat) (s : SV), (args.map some ++ List.replicate (N.length - args.length) none)[i]? = some (some s) → (args.map some)[i]? = some (some s) ∧ i < vs.length := fun i s z => by
        rw [List.getElem?_append] at z
        by_cases hi : i < args.length
        · rw [if_pos (by simpa using hi)] at z
          exact ⟨z, by omega⟩
        · rw [if_neg (by simpa using hi), List.getElem?_replicate] at z
          split at z <;> cases z
      obtain ⟨y1, l1⟩ := get i _ z1
      obtain ⟨y2, l2⟩ := get j _ z2
      rw [List.getElem?_append, if_pos (by simpa using l1)] at z3
      rw [List.getElem?_append, if_pos (by simpa using l2)] at z4
      exact k0.ne _ _ _ _ _ _ _ y1 y2 z3 z4
  refine ⟨F0, β, _, o, k1, e1, ?_⟩
  cases o with
  | nx st' =>
    obtain ⟨outs', e3, e4⟩ := bind_some e2
    cases e4
    exact fun F' H' σ' kk => q F' H' .non (fin_call k0 tg ⟨kk, .non, fun _ _ _ z => nomatch z⟩ e3)
  | rt r' st' =>
    obtain ⟨outs', e3, e4⟩ := bind_some e2
    cases e4
    exact fun F' H' σ' v kk => q F' H' v (fin_call k0 tg kk e3)
  | bk _ => cases e2
  | ct _ => cases e2
end

/-! ### calls -/
inductive Arg where
  | e (f : DF)
  | v (i : Nat)
def evA : List Arg → DSt → Option (List (D ⊕ Nat) × DSt)
  | [], st => some ([], st)
  | .e f :: as, st => (f st).bind fun p => (evA as p.2).bind fun q => some (.inl p.1 :: q.1, q.2)
  | .v i :: as, st => (peek st i).bind fun _ => (evA as st).bind fun q => some (.inr i :: q.1, q.2)
def mkArgs (st : DSt) : Nat → List (D ⊕ Nat) → Option (List SV)
  | _, [] => some []
  | j, .inl d :: us => (mkArgs st (j + 1) us).bind fun as => some (.val d :: as)
  | j, .inr i :: us => match st[i]? with
    | some (some (.own _ c)) => (mkArgs st (j + 1) us).bind fun as => some (.own (some j) c :: as)
    | _ => none
def putBack : List (D ⊕ Nat) → DSt → DSt → Option DSt
  | [], _, st => some st
  | .inl _ :: us, _ :: outs, st => putBack us outs st
  | .inr i :: us, some (.own _ c) :: outs, st => match st[i]? with
    | some (some (.own t _)) => putBack us outs (st.set i (some (.own t c)))
    | _ => none
  | _, _, _ => none
/-- no slot is handed over twice -/
def noDup : List (D ⊕ Nat) → Bool
  | [] => true
  | .inl _ :: us => noDup us
  | .inr i :: us => (us.all fun u => match u with | .inl _ => true | .inr j => decide (j ≠ i)) && noDup us
def dCall (f : Fn) (as : List Arg) : DE := fun st => (evA as st).bind fun p => if noDup p.1 = true then (mkArgs p.2 0 p.1).bind fun args => (f args).bind fun q => (putBack p.1 q.2 p.2).bind fun s => some (q.1, s) else none
/-- the values of the arguments -/
def ArgRel (K : Fg) (F : Hp) (σ : L2.St) : List V → List (D ⊕ Nat) → Prop
  | [], [] => True
  | v :: vs, .inl d :: us => Rp K F v d ∧ ArgRel K F σ vs us
  | v :: vs, .inr i :: us => σ[i]? = some (some v) ∧ ArgRel K F σ vs us
  | _, _ => False
def tR (K : Fg) (as : List Arg) : TA := fun σ H Q => ∃ F β st us st', StRel K F H β st σ ∧ evA as st = some (us, st') ∧ ∀ F' H' vs, BOk K F H β st σ F' H' st' → ArgRel K F' σ vs us → Q vs H'
section
variable {X : Cx} {e : Expr} {es : List Expr} {f : DF} {as : List Arg} {pos : Pos}
theorem ar_nil : PA X [] (tR X.K []) := PA.imp pa_nil fun σ H Q ⟨F, β, st, us, st', r, e1, q⟩ => by
  cases e1
  exact q F H [] (BOk.refl r) trivial
theorem ArgRel.mono {K : Fg} {F F' : Hp} {σ : L2.St} (m : Same F F') : ∀ {vs : List V} {us : List (D ⊕ Nat)}, ArgRel K F σ vs us → ArgRel K F' σ vs us
  | [], [], _ => trivial
  | _ :: _, .inl _ :: _, h => ⟨Rp.mono m h.1, ArgRel.mono m h.2⟩
  | _ :: _, .inr _ :: _, h => ⟨h.1, ArgRel.mono m h.2⟩
  | [], .inl _ :: _, h => h.elim
  | [], .inr _ :: _, h => h.elim
  | _ :: _, [], h => h.elim
theorem ar_e (he : PE X e (tF X.K f)) (hr : PA X es (tR X.K as)) (hs : starEach (e :: es) X.env = (false, eval e X.env) :: starEach es X.env := by rfl) : PA X (e :: es) (tR X.K (.e f :: as)) :=
  PA.imp (pa_cons he hr hs) fun σ H Q ⟨F, β, st, us, st', r, e1, q⟩ => by
    obtain ⟨p, h1, e2⟩ := bind_some e1
    obtain ⟨p2, h2, e3⟩ := bind_some e2
    cases e3
    exact ⟨F, β, st, p.1, p.2, r, h1, fun F1 H1 v k1 => ⟨F1, β, p.2, p2.1, p2.2, k1.rel, h2, fun F2 H2 vs k2 a2 => q F2 H2 _ (k1.b.trans k2) ⟨Rp.mono k2.stp.mono k1.res, a2⟩⟩⟩
theorem ar_v (i : Nat) {x : Str} {p : Pos} (hr : PA X es (tR X.K as)) (hN : X.N[i]? = some x := by rfl) (hv : Vis X.env.scope x := by first | exact Or.inl rfl | exact Or.inr (Or.inl rfl) | exact Or.inr (Or.inr rfl)) (hd : (x == ("__debug__" : Str)) = false := by decide) (hcd : (x == ("__classdict__" : Str)) = false := by decide)
    (hs : starEach (Expr.Name x p :: es) X.env = (false, eval (Expr.Name x p) X.env) :: starEach es X.env := by rfl) : PA X (.Name x p :: es) (tR X.K (.v i :: as)) :=
  PA.imp (pa_cons (pe_var hN hv hd hcd) hr hs) fun σ H Q ⟨F, β, st, us, st', r, e1, q⟩ => by
    obtain ⟨c, h1, e2⟩ := bind_some e1
    obtain ⟨p2, h2, e3⟩ := bind_some e2
    cases e3
    obtain ⟨v, hv, _⟩ := r.peek_at h1
    exact ⟨v, hv, F, β, st, p2.1, p2.2, r, h2, fun F2 H2 vs k2 a2 => q F2 H2 _ k2 ⟨hv, a2⟩⟩
end
theorem mkArgs_at {K : Fg} {F H : Hp} {β : Nat → Option Addr} {st : DSt} {σ : L2.St} (k : StRel K F H β st σ) : ∀ (us : List (D ⊕ Nat)) (j : Nat) (args : List SV) (vs : List V), mkArgs st j us = some args → ArgRel K F σ vs us →
    args.length = us.length ∧ vs.length = us.length ∧ ∀ (i : Nat) s, args[i]? = some s → (∃ d v, s = .val d ∧ us[i]? = some (.inl d) ∧ vs[i]? = some v ∧ Rp K F v d) ∨ (∃ l t c a o, s = .own (some (j + i)) c ∧ us[i]? = some (.inr l) ∧ st[l]? = some (some (.own t c)) ∧ σ[l]? = some (some (.ref a)) ∧ vs[i]? = some (.ref a) ∧ F a = none ∧ H a = some o ∧ ORp K F o c)
  | [], j, args, vs, h, r => by
    cases h
    cases vs with
    | nil => exact ⟨rfl, rfl, fun i s z => by simp at z⟩
    | cons _ _ => exact r.elim
  | .inl d :: us, j, args, vs, h, r => by
    obtain ⟨as, h1, h2⟩ := bind_some h
    cases h2
    cases vs with
    | nil => exact r.elim
    | cons v vs =>
      obtain ⟨l1, l2, q⟩ := mkArgs_at k us (j + 1) as vs h1 r.2
      refine ⟨by simp [l1], by simp [l2], fun i s z => ?_⟩
      cases i with
      | zero =>
        simp at z
        subst z
        exact .inl ⟨d, v, rfl, rfl, rfl, r.1⟩
      | succ i =>
        rcases q i s (by simpa using z) with ⟨d, v, z1, z2, z3, z4⟩ | ⟨l, t, c, a, o, z1, z2, z3⟩
        · exact .inl ⟨d, v, z1, by simpa using z2, by simpa using z3, z4⟩
        · have e : j + 1 + i = j + (i + 1) := by omega
          rw [e] at z1
          exact .inr ⟨l, t, c, a, o, z1, by simpa using z2, by simpa using z3⟩
  | .inr l :: us, j, args, vs, h, r => by
    unfold mkArgs at h
    split at h
    · rename_i t c e0
      obtain ⟨as, h1, h2⟩ := bind_some h
      cases h2
      cases vs with
      | nil => exact r.elim
      | cons v vs =>
        obtain ⟨l1, l2, q⟩ := mkArgs_at k us (j + 1) as vs h1 r.2
        refine ⟨by simp [l1], by simp [l2], fun i s z => ?_⟩
        cases i with
        | zero =>
          simp at z
          subst z
          obtain ⟨v', e1, a, o, rfl, f, hh, q, b⟩ := k.slot l _ e0
          have e2 : σ[l]? = some (some v) := r.1
          rw [e1] at e2
          cases e2
          exact .inr ⟨l, t, c, a, o, rfl, rfl, e0, e1, rfl, f, hh, q⟩
        | succ i =>
          rcases q i s (by simpa using z) with ⟨d, v, z1, z2, z3, z4⟩ | ⟨l, t, c, a, o, z1, z2, z3⟩
          · exact .inl ⟨d, v, z1, by simpa using z2, by simpa using z3, z4⟩
          · have e : j + 1 + i = j + (i + 1) := by omega
            rw [e] at z1
            exact .inr ⟨l, t, c, a, o, z1, by simpa using z2, by simpa using z3⟩
    · cases h
theorem noDup_ne : ∀ (us : List (D ⊕ Nat)) (i j l : Nat), noDup us = true → us[i]? = some (.inr l) → us[j]? = some (.inr l) → i = j
  | [], i, j, l, _, h, _ => by simp at h
  | .inl d :: us, 0, j, l, _, h, _ => by simp at h
  | .inl d :: us, i + 1, 0, l, _, _, h => by simp at h
  | .inl d :: us, i + 1, j + 1, l, n, h, h' => by
    have := noDup_ne us i j l n (by simpa using h) (by simpa using h')
    omega
  | .inr m :: us, 0, 0, l, _, _, _ => rfl
  | .inr m :: us, 0, j + 1, l, n, h, h' => by
    simp at h
    subst h
    unfold noDup at n
    rw [Bool.and_eq_true, List.all_eq_true] at n
    have := n.1 _ (List.mem_of_getElem? (show us[j]? = _ by simpa using h'))
    simp at this
  | .inr m :: us, i + 1, 0, l, n, h', h => by
    simp at h
    subst h
    unfold noDup at n
    rw [Bool.and_eq_true, List.all_eq_true] at n
    have := n.1 _ (List.mem_of_getElem? (show us[i]? = _ by simpa using h'))
    simp at this
  | .inr m :: us, i + 1, j + 1, l, n, h, h' => by
    unfold noDup at n
    rw [Bool.and_eq_true] at n
    have := noDup_ne us i j l n.2 (by simpa using h) (by simpa using h')
    omega
/-- what putBack leaves in a slot -/
theorem putBack_at : ∀ (us : List (D ⊕ Nat)) (outs st st2 : DSt), putBack us outs st = some st2 → noDup us = true → st2.length = st.length ∧ ∀ (l : Nat) s, st2[l]? = some (some s) → (st[l]? = some (some s) ∧ ∀ (i : Nat), us[i]? ≠ some (.inr l)) ∨ (∃ (i : Nat) (t : Option Nat) (c c' : D) (u : Option Nat), s = .own t c' ∧ st[l]? = some (some (.own t c)) ∧ us[i]? = some (.inr l) ∧ outs[i]? = some (some (.own u c')))
  | [], outs, st, st2, h, _ => by
    cases h
    exact ⟨rfl, fun l s z => .inl ⟨z, fun i => by simp⟩⟩
  | .inl d :: us, outs, st, st2, h, n => by
    cases outs with
    | nil => unfold putBack at h; cases h
    | cons o outs =>
      unfold putBack at h
      obtain ⟨l1, q⟩ := putBack_at us outs st st2 h n
      refine ⟨l1, fun l s z => ?_⟩
      rcases q l s z with ⟨z1, z2⟩ | ⟨i, t, c, c', u, z1, z2, z3, z4⟩
      · refine .inl ⟨z1, fun i => ?_⟩
        cases i with
        | zero => simp
        | succ i => simpa using z2 i
      · exact .inr ⟨i + 1, t, c, c', u, z1, z2, by simpa using z3, by simpa using z4⟩
  | .inr m :: us, [], st, st2, h, n => by simp [putBack] at h
  | .inr m :: us, none :: outs, st, st2, h, n => by simp [putBack] at h
  | .inr m :: us, some (.val d) :: outs, st, st2, h, n => by simp [putBack] at h
  | .inr m :: us, some (.own u0 c0) :: outs, st, st2, h, n => by
      rw [putBack] at h
      split at h
      · rename_i t0 x0 e0
        have n2 : noDup us = true := by
          unfold noDup at n
          rw [Bool.and_eq_true] at n
          exact n.2
        obtain ⟨l1, q⟩ := putBack_at us _ _ st2 h n2
        have hm : m < st.length := (List.getElem?_eq_some_iff.mp e0).1
        refine ⟨by rw [l1, List.length_set], fun l s z => ?_⟩
        rcases q l s z with ⟨z1, z2⟩ | ⟨i, t, c, c', u, z1, z2, z3, z4⟩
        · by_cases hl : m = l
          · subst hl
            rw [List.getElem?_set_self hm] at z1
            cases z1
            exact .inr ⟨0, t0, x0, c0, u0, rfl, e0, rfl, rfl⟩
          · rw [List.getElem?_set_ne hl] at z1
            refine .inl ⟨z1, fun i => ?_⟩
            cases i with
            | zero => simpa using fun e => hl e
            | succ i => simpa using z2 i
        · have hl : m ≠ l := by
            rintro rfl
            have := noDup_ne (.inr m :: us) 0 (i + 1) m n rfl (by simpa using z3)
            omega
          rw [List.getElem?_set_ne hl] at z2
          exact .inr ⟨i + 1, t, c, c', u, z1, z2, by simpa using z3, by simpa using z4⟩
      · cases h
theorem putBack_outs : ∀ (us : List (D ⊕ Nat)) (outs st st2 : DSt), putBack us outs st = some st2 → ∀ (i l : Nat), us[i]? = some (.inr l) → ∃ (u : Option Nat) (c : D), outs[i]? = some (some (.own u c))
  | [], outs, st, st2, h, i, l, e => by simp at e
  | .inl d :: us, [], st, st2, h, i, l, e => by simp [putBack] at h
  | .inl d :: us, o :: outs, st, st2, h, i, l, e => by
    rw [putBack] at h
    cases i with
    | zero => simp at e
    | succ i => simpa using putBack_outs us outs st st2 h i l (by simpa using e)
  | .inr m :: us, [], st, st2, h, i, l, e => by simp [putBack] at h
  | .inr m :: us, none :: outs, st, st2, h, i, l, e => by simp [putBack] at h
  | .inr m :: us, some (.val d) :: outs, st, st2, h, i, l, e => by simp [putBack] at h
  | .inr m :: us, some (.own u0 c0) :: outs, st, st2, h, i, l, e => by
    rw [putBack] at h
    split at h
    · cases i with
      | zero => exact ⟨u0, c0, rfl⟩
      | succ i => simpa using putBack_outs us outs _ st2 h i l (by simpa using e)
    · cases h

/-- what a call leaves -/
theorem after_call {K : Fg} {F H F' H' : Hp} {β β' : Nat → Option Addr} {st st2 outs : DSt} {σ : L2.St} {us : List (D ⊕ Nat)} {args : List SV} {vs : List V} {v : V} {r : SV} (k : StRel K F H β st σ) (nd : noDup us = true) (em : mkArgs st 0 us = some args) (ar : ArgRel K F σ vs us)
    (c : COk K F H β' args vs F' H' outs v r) (ep : putBack us outs st = some st2) : EOk K F H β st σ F' H' st2 v r := by
  obtain ⟨la, lv, at_⟩ := mkArgs_at k us 0 args vs em ar
  obtain ⟨l2, pb⟩ := putBack_at us outs st st2 ep nd
  -- what the callee may have written is owned by our slots
  have ownA : ∀ a, Own (args.map some) (vs.map some) a → ∃ (i l : Nat) (t : Option Nat) (x : D), us[i]? = some (.inr l) ∧ st[l]? = some (some (.own t x)) ∧ σ[l]? = some (some (.ref a)) ∧ vs[i]? = some (.ref a) := fun a ⟨i, t, x, z1, z2⟩ => by
    rw [List.getElem?_map] at z1 z2
    cases q1 : args[i]? with
    | none => rw [q1] at z1; cases z1
    | some s =>
      rw [q1] at z1
      cases z1
      rcases at_ i _ q1 with ⟨d, w, y, _⟩ | ⟨l, t', c', a', o, y1, y2, y3, y4, y5, _⟩
      · cases y
      · rw [y5] at z2
        cases z2
        exact ⟨i, l, t', c', y2, y3, y4, y5⟩
  have ownS : ∀ a, Own (args.map some) (vs.map some) a → Own st σ a := fun a z => by
    obtain ⟨i, l, t, x, _, y1, y2, _⟩ := ownA a z
    exact ⟨l, t, x, y1, y2⟩
  have sub : ∀ a, Own st2 σ a → Own st σ a := fun a ⟨l, t, x, z1, z2⟩ => by
    rcases pb l _ z1 with ⟨y, _⟩ | ⟨i, t', c', c'', u, y1, y2, _⟩
    · exact ⟨l, t, x, y, z2⟩
    · exact ⟨l, t', c', y2, z2⟩
  have own2 : ∀ (l : Nat) (t : Option Nat) (x : D), st2[l]? = some (some (.own t x)) → ∃ x', st[l]? = some (some (.own t x')) := fun l t x z => by
    rcases pb l _ z with ⟨y, _⟩ | ⟨i, t', c', c'', u, y1, y2, _⟩
    · exact ⟨x, y⟩
    · cases y1; exact ⟨c', y2⟩
  refine ⟨⟨c.rel.le, by rw [l2]; exact k.len, fun l s z => ?_, fun i j t x u y a z1 z2 z3 z4 => ?_⟩, c.stp.weak ownS, sub, ?_, fun t x a h1 h2 => ?_⟩
  · rcases pb l s z with ⟨y, ny⟩ | ⟨i, t, x, x', u, rfl, y2, y3, y4⟩
    · obtain ⟨w, e1, q⟩ := k.slot l s y
      refine ⟨w, e1, ?_⟩
      cases s with
      | val d => exact Rp.mono c.stp.mono q
      | own t x =>
        obtain ⟨a, o, rfl, f, hh, q1, b⟩ := q
        have n : ¬ Own (args.map some) (vs.map some) a := fun z => by
          obtain ⟨i, l', t', x', g1, g2, g3, _⟩ := ownA a z
          have : l = l' := k.ne _ _ _ _ _ _ _ y g2 e1 g3
          subst this
          exact ny i g1
        obtain ⟨h1, h2⟩ := c.stp.keep a o hh f n
        exact ⟨a, o, rfl, h2, h1, ORp.mono c.stp.mono q1, b⟩
    · obtain ⟨w, e1, q⟩ := k.slot l _ y2
      obtain ⟨a, o, rfl, f, hh, q1, b⟩ := q
      obtain ⟨w2, e2, q2⟩ := c.rel.slot i _ y4
      have hl : i < args.length := by rw [la]; exact (List.getElem?_eq_some_iff.mp y3).1
      rcases at_ i _ (List.getElem?_eq_getElem hl) with ⟨d, w3, _, g2, _⟩ | ⟨l3, t3, c3, a3, o3, _, g2, g3, g4, g5, _⟩
      · rw [y3] at g2; cases g2
      · rw [y3] at g2
        cases g2
        rw [e1] at g4
        cases g4
        rw [List.getElem?_map, g5] at e2
        cases e2
        obtain ⟨a4, o4, z4, f4, h4, q4, _⟩ := q2
        cases z4
        exact ⟨_, e1, a, o4, rfl, f4, h4, q4, b⟩
  · obtain ⟨x', y1⟩ := own2 i t x z1
    obtain ⟨y', y2⟩ := own2 j u y z2
    exact k.ne _ _ _ _ _ _ _ y1 y2 z3 z4
  · cases r with
    | val d => exact c.res
    | own t x =>
      obtain ⟨a, o, e1, f, hh, q, b⟩ := c.res
      obtain ⟨rfl, _⟩ := c.fre t x a rfl e1
      exact ⟨a, o, e1, f, hh, q, fun j z => nomatch z⟩
  · obtain ⟨y1, y2, y3⟩ := c.fre t x a h1 h2
    -- a list that was handed over comes back
    have back : Own (args.map some) (vs.map some) a → False := fun z => by
      obtain ⟨i, l, t', x', g1, g2, g3, g4⟩ := ownA a z
      obtain ⟨u, x2, g5⟩ := putBack_outs us outs st st2 ep i l g1
      exact y2 ⟨i, u, x2, g5, by rw [List.getElem?_map, g4]; rfl⟩
    refine ⟨y1, fun z => ?_, ?_⟩
    · obtain ⟨l, t', x', z1, z2⟩ := z
      rcases pb l _ z1 with ⟨g1, ng⟩ | ⟨i, t2, c2, c3, u, g1, g2, g3, g4⟩
      · -- a slot that was not handed over: its list was tracked, so it is not new; and it is no argument's
        rcases y3 with y3 | y3
        · exact back y3
        · obtain ⟨o, h1, _⟩ := k.ownH ⟨l, t', x', g1, z2⟩
          rw [y3] at h1; cases h1
      · have hl : i < args.length := by rw [la]; exact (List.getElem?_eq_some_iff.mp g3).1
        rcases at_ i _ (List.getElem?_eq_getElem hl) with ⟨d, w3, _, k2, _⟩ | ⟨l3, t3, c4, a3, o3, _, k2, k3, k4, k5, _⟩
        · rw [g3] at k2; cases k2
        · rw [g3] at k2
          cases k2
          rw [z2] at k4
          cases k4
          exact y2 ⟨i, u, c3, g4, by rw [List.getElem?_map, k5]; rfl⟩
    · rcases y3 with y3 | y3
      · exact .inl (ownS a y3)
      · exact .inr y3

section
variable {X : Cx} {k : Nat} {fa : Addr} {fd : FuncData} {ps : List Str} {fn : Fn} {x : Str} {p pos : Pos} {e : Expr} {es : List Expr} {as : List Arg} {n : Nat}
theorem call_to {K : Fg} {σ : L2.St} {H : Hp} {Q : VK} {E : XK} (hn : as.length = n) (h : tD K (dCall fn as) σ H Q) : tCall (spD K n fn) [] E (tR K as) σ H Q := by
  obtain ⟨F, β, st, r, st', k0, e, q⟩ := h
  obtain ⟨p, e1, e2⟩ := bind_some e
  by_cases nd : noDup p.1 = true
  · rw [if_pos nd] at e2
    obtain ⟨args, e3, e4⟩ := bind_some e2
    obtain ⟨p2, e5, e6⟩ := bind_some e4
    obtain ⟨s2, e7, e8⟩ := bind_some e6
    cases e8
    refine ⟨F, β, st, p.1, p.2, k0, e1, fun F1 H1 vs k1 ar => ?_⟩
    show spD K n fn (vs ++ []) H1 Q E
    rw [List.append_nil]
    obtain ⟨la, lv, at_⟩ := mkArgs_at k1.rel p.1 0 args vs e3 ar
    have lp : p.1.length = as.length := by
      have : ∀ (as : List Arg) (st : DSt) (p : List (D ⊕ Nat) × DSt), evA as st = some p → p.1.length = as.length := by
        intro as
        induction as with
        | nil => intro st p h; cases h; rfl
        | cons a as ih =>
          intro st p h
          cases a with
          | e f =>
            obtain ⟨p1, _, h2⟩ := bind_some h
            obtain ⟨p2, h3, h4⟩ := bind_some h2
            cases h4
            simp [ih _ _ h3]
          | v i =>
            obtain ⟨c, _, h2⟩ := bind_some h
            obtain ⟨p2, h3, h4⟩ := bind_some h2
            cases h4
            simp [ih _ _ h3]
      exact this as st p e1
    -- the callee's places
    refine ⟨by omega, F1, fun i => match vs[i]? with | some (.ref a) => some a | _ => none, args, p2.1, p2.2, ⟨k1.rel.le, by simp [la, lv], fun i s z => ?_, fun i j t c u c2 a z1 z2 z3 z4 => ?_⟩, fun i t c z => ?_, e5, fun F2 H2 v c => q F2 H2 v (k1.thenE (after_call k1.rel nd e3 ar c e7))⟩
    · rw [List.getElem?_map] at z ⊢
      cases q1 : args[i]? with
      | none => rw [q1] at z; cases z
      | some s' =>
        rw [q1] at z
        cases z
        rcases at_ i _ q1 with ⟨d, w, rfl, y2, y3, y4⟩ | ⟨l, t, c, a, o, rfl, y2, y3, y4, y5, y6, y7, y8⟩
        · exact ⟨w, by rw [y3]; rfl, y4⟩
        · refine ⟨.ref a, by rw [y5]; rfl, a, o, rfl, y6, y7, y8, fun j hj => ?_⟩
          cases hj
          rw [Nat.zero_add]
          show (match vs[i]? with | some (.ref a) => some a | _ => none) = some a
          rw [y5]
    · rw [List.getElem?_map] at z1 z2 z3 z4
      cases q1 : args[i]? with
      | none => rw [q1] at z1; cases z1
      | some s1 =>
        cases q2 : args[j]? with
        | none => rw [q2] at z2; cases z2
        | some s2 =>
          rw [q1] at z1
          rw [q2] at z2
          cases z1
          cases z2
          rcases at_ i _ q1 with ⟨d, w, y, _⟩ | ⟨l, t', c', a', o, y1, y2, y3, y4, y5, _⟩
          · cases y
          · rcases at_ j _ q2 with ⟨d, w, y, _⟩ | ⟨l2, t2, c3, a2, o2, g1, g2, g3, g4, g5, _⟩
            · cases y
            · rw [y5] at z3
              rw [g5] at z4
              cases z3
              cases z4
              have := k1.rel.ne _ _ _ _ _ _ _ y3 g3 y4 g4
              subst this
              exact noDup_ne p.1 i j l nd y2 g2
    · rcases at_ i _ z with ⟨d, w, y, _⟩ | ⟨l, t', c', a', o, y1, _⟩
      · cases y
      · cases y1
        rw [Nat.zero_add]
  · rw [if_neg nd] at e2; cases e2
theorem pd_call (G : FnOk X.prog X.w X.K X.mg X.base CX0 k fa fd ps (spD X.K n fn)) (hr : Room k X.A) (hg : Gl X x) (hm : X.mg x = some (.ref fa)) (hk : PySem.W.keepIn X.K (.ref fa) = true) (hb : Binds X.K fd ps [])
    (ha : PA X (e :: es) (tR X.K as)) (hn : as.length = n := by rfl) (hdb : (x == ("__debug__" : Str)) = false := by decide) (he : starEach (e :: es) X.env = (false, eval e X.env) :: starEach es X.env := by rfl) (hpl : (backTo pos (starEach es X.env)).any (·.1) = false := by rfl) :
    PE X (.Call (.Name x p) (e :: es) [] pos) (tD X.K (dCall fn as)) := PE.imp (pe_call (E := E0) G hr hg hm hk hb .nil pass0 ha hdb he hpl) fun _ _ _ h => call_to hn h
theorem pd_call0 (G : FnOk X.prog X.w X.K X.mg X.base CX0 k fa fd ps (spD X.K 0 fn)) (hr : Room k X.A) (hg : Gl X x) (hm : X.mg x = some (.ref fa)) (hk : PySem.W.keepIn X.K (.ref fa) = true) (hb : Binds X.K fd ps []) (hdb : (x == ("__debug__" : Str)) = false := by decide) :
    PE X (.Call (.Name x p) [] [] pos) (tD X.K (dCall fn [])) := PE.imp (pe_call0 (E := E0) G hr hg hm hk hb .nil pass0 hdb) fun σ H Q h => by
  obtain ⟨F, β, st, us, st', r, e1, q⟩ := call_to (n := 0) (E := E0) rfl h
  cases e1
  exact q F H [] (BOk.refl r) trivial
end
end DL

/-! DL10: the defs of a text, the law's end -/
namespace DL
open PySem PySem.Spec PyProof.Rows L2
theorem room66 {k : Nat} {A : Around} (r : Room k A) : A.units + 66 < cLine := by have := r.un; omega
theorem room64 {k : Nat} {A : Around} (r : Room k A) : A.units + 64 < cLine := by have := r.un; omega
theorem room70 {k : Nat} {A : Around} (r : Room k A) : A.units + 70 < cLine := by have := r.un; omega
/-- a def of the text, as it stands behind the top -/
structure DefAt (K : Fg) (mg : Str → Option Value) (x : Str) (st : Stmt) (ps : List Str) : Prop where
  ex : ∃ fa fd, Fun K x x st fa fd ∧ mg x = some (.ref fa) ∧ Binds K fd ps [] ∧ ∀ us : List Value, us.length = ps.length → bindArgs fd ⟨us, []⟩ = pure (ps.zip us)
/-- a def that keeps its promise -/
structure Cal (P : Program) (w : World) (K : Fg) (mg : Str → Option Value) (k : Nat) (x : Str) (ps : List Str) (fn : Fn) : Prop where
  ex : ∃ fa fd, (∀ base, FnOk P w K mg base CX0 k fa fd ps (spD K ps.length fn)) ∧ mg x = some (.ref fa) ∧ PySem.W.keepIn K (.ref fa) = true ∧ Binds K fd ps [] ∧ ∀ us : List Value, us.length = ps.length → bindArgs fd ⟨us, []⟩ = pure (ps.zip us)
section
variable {P : Program} {w : World} {K : Fg} {mg : Str → Option Value}
theorem Cal.mono {j k : Nat} {x : Str} {ps : List Str} {fn : Fn} (c : Cal P w K mg j x ps fn) (h : j ≤ k) : Cal P w K mg k x ps fn := by
  obtain ⟨fa, fd, F, a⟩ := c.ex
  exact ⟨fa, fd, fun base => (F base).mono h, a⟩
theorem cal_of {x : Str} {st : Stmt} {N ps : List Str} {k n : Nat} {fs : DS} (hn : N.length = n) (D : DefAt K mg x st ps) (S : FnScope N ps (defScope st))
    (hbody : ∀ (base : Heap) (f : Addr) (cdv : Value) (A : Around) (outer : List Env) (s : Shared) (H : Hp) (E : XK), Room k (A.deeper (envOfC x (defScope st) s.heap.objs.size f cdv)) →
      PSs (cxOf CX0 P w K mg base N x (defScope st) f cdv A outer s H E).nox (defBody st) (tS K fs)) : Cal P w K mg (k + 1) x ps (defSem n fs) := by
  subst hn
  obtain ⟨fa, fd, F, hm, hb⟩ := D.ex
  exact ⟨fa, fd, fun base => def_ok F S (fun cdv A outer s H E hr => hbody base fa cdv A outer s H E hr), hm, F.kp, hb⟩
/-- no promise at all -/
theorem cal_never {x : Str} {st : Stmt} {ps : List Str} {k : Nat} (D : DefAt K mg x st ps) : Cal P w K mg k x ps (fun _ => none) := by
  obtain ⟨fa, fd, F, hm, hb⟩ := D.ex
  exact ⟨fa, fd, fun base => ⟨fun vs H Q E h => h.1, fun A outer s H args us vs Q E _ _ _ _ h => by
    obtain ⟨_, _, _, _, _, _, _, _, e, _⟩ := h
    cases e⟩, hm, F.kp, hb⟩
theorem defAt_mk {h : Heap} {x : Str} {st : Stmt} {ps : List Str} {f : Addr} {oc : Value} {od an : Option Addr} {osl : Array (Option Value)} {kV doc pm cdv ct : Value} (KX : K.In h) (G : h.Ns mainGlobals mg) (a : PySem.W.nsIn K mainGlobals x = some (some (.ref f)))
    (l : K.lookup f = some ⟨oc, od, .func (PySem.W.fnOf x x (defArgs st) (defBody st) (defScope st) .none kV doc pm an cdv ct), osl⟩) (c : PySem.W.codeIn K cdv x = true) (k : PySem.W.keepIn K (.ref f) = true)
    (hb : ∀ (kV doc pm : Value) (an : Option Addr) (cdv ct : Value) (us : List Value), us.length = ps.length → bindArgs (PySem.W.fnOf x x (defArgs st) (defBody st) (defScope st) .none kV doc pm an cdv ct) ⟨us, []⟩ = pure (ps.zip us)) : DefAt K mg x st ps :=
  have F := fun_mk (st := st) l c k
  ⟨f, _, F, PySem.W.mg_of KX G a, F.binds hb, hb _ _ _ _ _ _⟩
end
section
variable {X : Cx} {k j : Nat} {ps : List Str} {fn : Fn} {x : Str} {p pos : Pos} {e : Expr} {es : List Expr} {as : List Arg}
theorem pd_cal (C : Cal X.prog X.w X.K X.mg k x ps fn) (hr : Room j X.A) (ha : PA X (e :: es) (tR X.K as)) (hk : k ≤ j := by omega) (hg : Gl X x := by rfl) (hn : as.length = ps.length := by rfl) (hdb : (x == ("__debug__" : Str)) = false := by decide) (he : starEach (e :: es) X.env = (false, eval e X.env) :: starEach es X.env := by rfl) (hpl : (backTo pos (starEach es X.env)).any (·.1) = false := by rfl) :
    PE X (.Call (.Name x p) (e :: es) [] pos) (tD X.K (dCall fn as)) := by
  obtain ⟨fa, fd, F, hm, hkp, hb, _⟩ := C.ex
  exact pd_call (F X.base) (hr.mono hk) hg hm hkp hb ha hn hdb he hpl
theorem pd_cal0 (C : Cal X.prog X.w X.K X.mg k x [] fn) (hr : Room j X.A) (hk : k ≤ j := by omega) (hg : Gl X x := by rfl) (hdb : (x == ("__debug__" : Str)) = false := by decide) :
    PE X (.Call (.Name x p) [] [] pos) (tD X.K (dCall fn [])) := by
  obtain ⟨fa, fd, F, hm, hkp, hb, _⟩ := C.ex
  exact pd_call0 (F X.base) (hr.mono hk) hg hm hkp hb hdb
/-- slots are forgotten ahead of a statement -/
theorem s_pre {st : Stmt} {f : DS} (is : List Nat) (h1 : PS X st (tS X.K f)) : PS X st (tS X.K (dSeq (dKill is) f)) := PS.imp h1 fun D σ H ⟨F, β, st, o, r, e, q⟩ => by
  obtain ⟨o1, h1, e2⟩ := bind_some e
  cases h1
  have k := kills X.K is st r
  exact ⟨F, β, _, o, k.rel, e2, q.after k⟩
/-- x op= e -/
def dAug (i : Nat) (op : D → D → Option D) (f : DF) : DS := fun st => (dVar i st).bind fun p => (f p.2).bind fun q => (op p.1 q.1).bind fun c => some (.nx (q.2.set i (some (.val c))))
def augAdd : D → D → Option D
  | .int a, .int b => some (.int (a + b))
  | .str a, .str b => if a.length + b.length ≤ 16777216 then some (.str (a ++ b)) else none
  | _, _ => none
def augSub : D → D → Option D
  | .int a, .int b => some (.int (a - b))
  | _, _ => none
theorem oAugAdd : OpD X (inplaceOp .Add) augAdd := OpR.case fun x y H Q ⟨F, a, b, c, l, ha, hb, e, q⟩ => by
  unfold augAdd at e
  split at e
  · cases e
    exact ⟨_, iop_add, _, _, ha.int_eq, hb.int_eq, q _ _ _ (Grow.refl l) (.int _)⟩
  · obtain ⟨hz, rfl⟩ := ite_some e
    obtain ⟨e1, o1⟩ := ha.str_eq
    obtain ⟨e2, o2⟩ := hb.str_eq
    exact ⟨_, iop_add_str, _, _, e1, e2, by rw [← big_eq]; exact hz, q _ _ _ (Grow.refl l) (.str (okS_append o1 o2 hz))⟩
  · cases e
theorem oAugSub : OpD X (inplaceOp .Sub) augSub := OpR.case fun x y H Q ⟨F, a, b, c, l, ha, hb, e, q⟩ => by
  unfold augSub at e
  split at e
  · cases e
    exact ⟨_, iop_sub, _, _, ha.int_eq, hb.int_eq, q _ _ _ (Grow.refl l) (.int _)⟩
  · cases e
theorem s_aug (i : Nat) {op : Operator} {f : DF} {o : D → D → Option D} {pos' : Pos} (hN : X.N.Nodup) (ho : OpD X (inplaceOp op) o) (he : PE X e (tF X.K f)) (hi : X.N[i]? = some x := by rfl) (hx : Loc X.env.scope x := by first | exact Or.inl rfl | exact Or.inr rfl)
    (hf : X.fn x = true ∨ X.env.scope.names.lookup x = some .local := by first | exact .inl rfl | exact .inr rfl | assumption) : PS X (.AugAssign (.Name x pos') op e pos) (tS X.K (dAug i o f)) :=
  PS.imp (ps_aug (ti := rD X.K o) hN hi hx he ho hf) fun D σ H ⟨F, β, st, o1, r, e, q⟩ => by
    obtain ⟨p, h1, e2⟩ := bind_some e
    obtain ⟨p2, h2, e3⟩ := bind_some e2
    obtain ⟨c, h3, e4⟩ := bind_some e3
    cases e4
    unfold dVar at h1
    have key : ∃ v F1, σ[i]? = some (some v) ∧ DOk X.K F H β st σ F1 H p.2 v p.1 := by
      split at h1
      · rename_i d' z
        cases h1
        obtain ⟨v, e2, q2⟩ := r.slot i _ z
        exact ⟨v, F, e2, DOk.refl r q2⟩
      · rename_i c z
        cases h1
        obtain ⟨v, F2, e2, q2⟩ := r.freeze z
        exact ⟨v, F2, e2, q2⟩
      · cases h1
    obtain ⟨v, F1, hv, k1⟩ := key
    refine ⟨v, hv, F1, β, p.2, p2.1, p2.2, k1.rel, h2, fun F2 H2 y k2 => ?_⟩
    exact ⟨F2, p.1, p2.1, c, k2.rel.le, Rp.mono k2.stp.mono k1.res, k2.res, h3, fun F3 H3 v3 g3 q3 => q _ _ _ ((((k1.b.trans k2.b).grow g3).toD q3).toE.put i)⟩
end
/-! ### the law -/
def spLaw (K : Fg) : Sp := fun vs H Q _ => ∃ (a : Addr) (ns : List Int), vs = [.ref a] ∧ SqL K H a (ns.map V.int) ∧ ns.length ≤ 63 ∧ ∀ H', Q (.bl true) H'
theorem ints_rp {K : Fg} {F : Hp} : ∀ ns : List Int, RpAll K F (ns.map V.int) (ns.map PyData.int)
  | [] => .nil
  | n :: ns => .cons (.int n) (ints_rp ns)
/-- the law's def comes back with True whatever the script -/
def Holds (fn : Fn) : Prop := ∀ ns : List Int, ns.length ≤ 63 → ∃ outs, fn [.val (.list (ns.map .int))] = some (.val (.bool true), outs)
theorem law_of {P : Program} {w : World} {K : Fg} {mg : Str → Option Value} {base : Heap} {k : Nat} {fa : Addr} {fd : FuncData} {ps : List Str} {fn : Fn} (h : Holds fn) (F : FnOk P w K mg base CX0 k fa fd ps (spD K 1 fn)) : FnOk P w K mg base CX0 k fa fd ps (spLaw K) :=
  F.imp fun vs H Q E ⟨a, ns, e, hs, hl, q⟩ => by
    obtain ⟨outs, h1⟩ := h ns hl
    subst e
    refine ⟨rfl, H, fun _ => none, [.val (.list (ns.map .int))], _, outs, ⟨Same.refl _, rfl, fun i s z => ?_, fun i j t c u c2 a z1 => ?_⟩, fun i t c z => ?_, h1, fun F' H' v c => ?_⟩
    · cases i with
      | zero =>
        cases z
        exact ⟨_, rfl, .kl hs (ints_rp ns)⟩
      | succ i => simp at z
    · cases i with
      | zero => cases z1
      | succ i => simp at z1
    · cases i with
      | zero => cases z
      | succ i => simp at z
    · have := c.res
      rw [Rp.bool this]
      exact q _
theorem law_end {P : Program} {w : World} {K : Fg} {mg : Str → Option Value} {k : Nat} {fa : Addr} {x p : Str} {fn : Fn} (hm : mg x = some (.ref fa)) (C : Cal P w K mg k x [p] fn) :
    ∃ fd : FuncData, (∀ (s : Shared) (u : Value), BindsTo s fd ⟨[u], []⟩ [(p, u)]) ∧ ∀ base : Heap, K.In base → base.Ns mainGlobals mg → FnOk P w K mg base CX0 k fa fd [p] (spD K 1 fn) := by
  obtain ⟨fa', fd, F, hm', _, _, hb⟩ := C.ex
  rw [hm] at hm'
  cases hm'
  exact ⟨fd, fun s u => .of_eq (hb [u] rfl), fun base _ _ => F base⟩
/-- the end: from the law's def -/
theorem law_walk {l : PySem.W.OpenLaw} {q : Program} {loose : List Str} {XP : (Str → Option Value) → Heap → Prop} {YP : World → Heap → Prop} {d : DefRec} {K : Params → Fg} {k : Nat} {x : Str} {fn : Fn} (hn : l.most = some 63) (hdf : d.params.defaults = []) (hr : Room k callerA)
    (hY : ∀ (w : World) (h : Heap), YP w h → (K w.params).In h) (hl : Holds fn)
    (F : ∀ (w : World) (mg : Str → Option Value) (fa : Addr) (h : Heap), (K w.params).In h → h.Ns mainGlobals mg → mg d.name = some (.ref fa) →
      ∃ fd : FuncData, (∀ (s : Shared) (u : Value), BindsTo s fd ⟨[u], []⟩ [(x, u)]) ∧ ∀ base : Heap, (K w.params).In base → base.Ns mainGlobals mg → FnOk l.prog w (K w.params) mg base CX0 k fa fd [x] (spD (K w.params) 1 fn)) :
    PySem.W.WalkO q loose XP YP l.row.toRowW d [] (fun f vs => PySem.call f vs) :=
  L2.walk_of (n := 63) (k := k) (x := x) (CX := fun _ => CX0) (sp := fun w => spLaw (K w.params)) hn (by decide) hdf hr hY (fun w mg fa h KX G hm => let ⟨fd, hb, hF⟩ := F w mg fa h KX G hm; ⟨fd, hb, fun base h1 h2 => law_of hl (hF base h1 h2)⟩)
    (fun _ _ a ns hl _ hS => ⟨a, ns, rfl, hS, hl, fun _ => rfl⟩) fun _ _ _ _ _ z => z
end DL

/-! DL11: to run the terms by simp -/
namespace DL
open PySem PySem.Spec PyProof.Rows L2
@[simp ↓] theorem obind_match {α β : Type} {a : Option α} {f : α → Option β} : a.bind f = match a with
  | some x => f x
  | none => none := by cases a <;> rfl
section
variable {f g : DF} {e : DE} {ga : DA} {s t : DS} {b c : DB} {st : DSt} {i j : Nat} {d : D} {x y : D}
@[simp] theorem e_var : dVar i st = match st[i]? with
  | some (some (.val d)) => some (d, st)
  | some (some (.own none c)) => some (c, st.set i (some (.val c)))
  | _ => none := id rfl
@[simp] theorem e_c : dC d st = some (d, st) := id rfl
@[simp] theorem e_mov : dMov i st = match st[i]? with
  | some (some (.val d)) => some (.val d, st)
  | some (some (.own none c)) => some (.own none c, st.set i none)
  | _ => none := id rfl
@[simp] theorem e_nil : dNil st = some ([], st) := id rfl
@[simp] theorem e_cons : dCons f ga st = (f st).bind fun p => (ga p.2).bind fun q => some (p.1 :: q.1, q.2) := id rfl
@[simp] theorem e_tup : dTup ga st = (ga st).bind fun p => if p.1.length ≤ 16777216 then some (.tuple p.1, p.2) else none := id rfl
@[simp] theorem e_lst : dLst ga st = (ga st).bind fun p => if p.1.length ≤ 16777216 then some (.own none (.list p.1), p.2) else none := id rfl
@[simp] theorem e_bin {op} : dBin op f g st = (f st).bind fun p => (g p.2).bind fun q => (op p.1 q.1).bind fun c => some (c, q.2) := id rfl
@[simp] theorem e_un {op} : dUn op f st = (f st).bind fun p => (op p.1).bind fun c => some (c, p.2) := id rfl
@[simp] theorem e_cmp {op} : dCmp op f g st = (f st).bind fun p => (g p.2).bind fun q => (op p.1 q.1).bind fun c => some (.bool c, q.2) := by
  show (f st).bind _ = _
  congr 1; funext p
  congr 1; funext q
  unfold liftB
  cases op p.1 q.1 <;> rfl
@[simp] theorem e_cmpT {op} : dCmpT op f g st = (f st).bind fun p => (g p.2).bind fun q => (op p.1 q.1).bind fun c => some (c, q.2) := id rfl
@[simp] theorem e_test : dTest f st = (f st).bind fun p => (dTru p.1).bind fun k => some (k, p.2) := id rfl
@[simp] theorem e_and : dAnd b c st = (b st).bind fun p => if p.1 = true then c p.2 else some (false, p.2) := id rfl
@[simp] theorem e_or : dOr b c st = (b st).bind fun p => if p.1 = true then some (true, p.2) else c p.2 := id rfl
@[simp] theorem e_not : dNot b st = (b st).bind fun p => some (!p.1, p.2) := id rfl
@[simp] theorem e_andV : dAndV f g st = (f st).bind fun p => (dTru p.1).bind fun k => if k = true then g p.2 else some (p.1, p.2) := id rfl
@[simp] theorem e_orV : dOrV f g st = (f st).bind fun p => (dTru p.1).bind fun k => if k = true then some (p.1, p.2) else g p.2 := id rfl
@[simp] theorem e_notV : dNotV f st = (f st).bind fun p => (dTru p.1).bind fun k => some (.bool (!k), p.2) := id rfl
@[simp] theorem e_ifE : dIfE b f g st = (b st).bind fun p => if p.1 = true then f p.2 else g p.2 := id rfl
@[simp] theorem e_dV : dV f st = (f st).bind fun p => some (.val p.1, p.2) := by unfold dV; cases f st <;> rfl
@[simp] theorem e_dF : dF e st = (e st).bind fun p => some (p.1.frz, p.2) := by unfold dF; cases e st <;> rfl
@[simp] theorem e_ix : dIx f g st = (f st).bind fun p => (g p.2).bind fun q => (ixD p.1 q.1).bind fun c => some (c, q.2) := id rfl
@[simp] theorem e_ixV : dIxV i g st = (peek st i).bind fun _ => (g st).bind fun q => (peek q.2 i).bind fun c => (ixD c q.1).bind fun r => some (r, q.2) := id rfl
@[simp] theorem e_noP : dNoP st = some (none, st) := id rfl
@[simp] theorem e_pt : dPt f st = (f st).bind fun p => (intOf p.1).bind fun i => some (some i, p.2) := id rfl
@[simp] theorem e_sl {lo hi : DO} : dSl f lo hi st = (f st).bind fun p => (lo p.2).bind fun a => (hi a.2).bind fun b => (slD p.1 a.1 b.1).bind fun c => some (c, b.2) := id rfl
@[simp] theorem e_slV {lo hi : DO} : dSlV i lo hi st = (peek st i).bind fun _ => (lo st).bind fun a => (hi a.2).bind fun b => (peek b.2 i).bind fun x => (slD x a.1 b.1).bind fun c => some (c, b.2) := id rfl
@[simp] theorem e_callB {op} : dCallB op ga st = (ga st).bind fun p => (op p.1).bind fun c => some (c, p.2) := id rfl
@[simp] theorem e_callO {op} : dCallO op ga st = (ga st).bind fun p => (op p.1).bind fun c => some (.own none c, p.2) := id rfl
@[simp] theorem e_lenV : dLenV i st = (peek st i).bind fun c => (lenD [c]).bind fun n => some (n, st) := id rfl
@[simp] theorem e_isi {ty} : dIsi ty f st = (f st).bind fun p => (isiD ty p.1).bind fun k => some (.bool k, p.2) := id rfl
@[simp] theorem e_metO {op} : dMetO op f g st = (f st).bind fun p => (g p.2).bind fun q => (op p.1 q.1).bind fun c => some (.own none c, q.2) := id rfl
@[simp] theorem e_next : dNext st = some (.nx st) := id rfl
@[simp] theorem e_seq : dSeq s t st = (s st).bind fun o => match o with
  | .nx s => t s
  | o => some o := id rfl
@[simp] theorem e_kill {is : List Nat} : dKill is st = some (.nx (is.foldl (fun s i => s.set i none) st)) := id rfl
@[simp] theorem e_thenKill {is : List Nat} : dThenKill s is st = dSeq s (dKill is) st := id rfl
@[simp] theorem e_bk : dBk st = some (.bk st) := id rfl
@[simp] theorem e_ct : dCt st = some (.ct st) := id rfl
@[simp] theorem e_ret : dRet e st = (e st).bind fun p => some (.rt p.1 p.2) := id rfl
@[simp] theorem e_retN : dRetN st = some (.rt (.val .none) st) := id rfl
@[simp] theorem e_drop : dDrop f st = (f st).bind fun p => some (.nx p.2) := id rfl
@[simp] theorem e_if : dIf b s t st = (b st).bind fun p => if p.1 = true then s p.2 else t p.2 := id rfl
@[simp] theorem e_set : dSet i e st = (e st).bind fun p => some (.nx (p.2.set i (some p.1))) := id rfl
@[simp] theorem e_nm : dNm i d st = some (st.set i (some (.val d))) := id rfl
@[simp] theorem e_gN {ds : List D} : dGN ds st = match ds with
  | [] => some st
  | _ => none := id rfl
@[simp] theorem e_gC {g : DG} {gs : DGs} {ds : List D} : dGC g gs ds st = match ds with
  | d :: ds => (g d st).bind fun s => gs ds s
  | [] => none := id rfl
@[simp] theorem e_tp {n : Nat} {gs : DGs} : dTp n gs d st = match d with
  | .tuple ds => if ds.length = n then gs ds st else none
  | _ => none := id rfl
@[simp] theorem e_asg {g : DG} : dAsg f g st = (f st).bind fun p => (g p.1 p.2).bind fun s => some (.nx s) := id rfl
@[simp] theorem e_setIx {h : DF} : dSetIx i g h st = (h st).bind fun p => (ownList p.2 i).bind fun _ => (g p.2).bind fun q => (intOf q.1).bind fun k => (ownList q.2 i).bind fun w => (ixN w.2.length k).bind fun j => some (.nx (q.2.set i (some (.own w.1 (.list (w.2.set j p.1)))))) := id rfl
@[simp] theorem e_app : dApp i f st = (ownList st i).bind fun _ => (f st).bind fun p => (ownList p.2 i).bind fun w => if w.2.length < 16777216 then some (.nx (p.2.set i (some (.own w.1 (.list (w.2 ++ [p.1])))))) else none := id rfl
@[simp] theorem e_aug {op} : dAug i op f st = (dVar i st).bind fun p => (f p.2).bind fun q => (op p.1 q.1).bind fun c => some (.nx (q.2.set i (some (.val c)))) := id rfl
@[simp] theorem e_forI {it : DSt → Option (List D × DSt)} {tg : DG} : dForI it tg s st = (it st).bind fun p => forL tg s p.1 p.2 := id rfl
@[simp] theorem e_itD : itD f st = (f st).bind fun p => (itemsD p.1).bind fun ds => some (ds, p.2) := id rfl
@[simp] theorem e_itR1 : itR1 f st = (f st).bind fun p => (rng1 p.1).bind fun ds => some (ds, p.2) := id rfl
@[simp] theorem e_itR2 : itR2 f g st = (f st).bind fun p => (g p.2).bind fun q => (rng2 p.1 q.1).bind fun ds => some (ds, q.2) := id rfl
@[simp] theorem e_yes : dYes st = some (true, st) := id rfl
@[simp] theorem e_lc {it : DSt → Option (List D × DSt)} {tg : DG} {tt : DB} {te : DF} {vs : List Nat} : dLc it tg tt te vs st = (it st).bind fun p => (lcL tg tt te vs p.1 (wipeD p.2 vs) []).bind fun q => some (.own none (.list q.1), q.2) := id rfl
@[simp] theorem e_call {f : Fn} {as : List Arg} : dCall f as st = (evA as st).bind fun p => if noDup p.1 = true then (mkArgs p.2 0 p.1).bind fun args => (f args).bind fun q => (putBack p.1 q.2 p.2).bind fun s => some (q.1, s) else none := id rfl
@[simp] theorem e_evA0 : evA [] st = some ([], st) := id rfl
@[simp] theorem e_evAe {as : List Arg} : evA (.e f :: as) st = (f st).bind fun p => (evA as p.2).bind fun q => some (.inl p.1 :: q.1, q.2) := id rfl
@[simp] theorem e_evAv {as : List Arg} : evA (.v i :: as) st = (peek st i).bind fun _ => (evA as st).bind fun q => some (.inr i :: q.1, q.2) := id rfl
@[simp] theorem e_mk0 : mkArgs st i [] = some [] := id rfl
@[simp] theorem e_mkl {us} : mkArgs st j (.inl d :: us) = (mkArgs st (j + 1) us).bind fun as => some (.val d :: as) := id rfl
@[simp] theorem e_mkr {us} : mkArgs st j (.inr i :: us) = match st[i]? with
    | some (some (.own _ c)) => (mkArgs st (j + 1) us).bind fun as => some (.own (some j) c :: as)
    | _ => none := id rfl
@[simp] theorem e_pb0 {o} : putBack [] o st = some st := by cases o <;> rfl
@[simp] theorem e_pbl {us o os} : putBack (.inl d :: us) (o :: os) st = putBack us os st := id rfl
@[simp] theorem e_pbr {us t c os} : putBack (.inr i :: us) (some (.own t c) :: os) st = match st[i]? with
    | some (some (.own t _)) => putBack us os (st.set i (some (.own t c)))
    | _ => none := id rfl
@[simp] theorem e_nd0 : noDup [] = true := id rfl
@[simp] theorem e_ndl {us} : noDup (.inl d :: us) = noDup us := id rfl
@[simp] theorem e_ndr {us} : noDup (.inr i :: us) = ((us.all fun u => match u with | .inl _ => true | .inr j => decide (j ≠ i)) && noDup us) := id rfl
@[simp] theorem e_oo0 : outsOf [] j st = some [] := id rfl
@[simp] theorem e_oov {as} : outsOf (.val d :: as) j st = (outsOf as (j + 1) st).bind fun o => some (none :: o) := id rfl
@[simp] theorem e_ooo {as t c} : outsOf (.own t c :: as) j st = match st[j]? with
    | some (some (.own (some k) c)) => if k = j then (outsOf as (j + 1) st).bind fun o => some (some (.own (some j) c) :: o) else none
    | _ => none := id rfl
@[simp] theorem e_def {n : Nat} {args : List SV} : defSem n s args = (s (args.map some ++ List.replicate (n - args.length) none)).bind fun o => match o with
  | .rt r st => (outsOf args 0 st).bind fun outs => some (r, outs)
  | .nx st => (outsOf args 0 st).bind fun outs => some (.val .none, outs)
  | _ => none := id rfl
@[simp] theorem e_peek : peek st i = match st[i]? with
  | some (some s) => some s.frz
  | _ => none := id rfl
@[simp] theorem e_ownList : ownList st i = match st[i]? with
  | some (some (.own t (.list xs))) => some (t, xs)
  | _ => none := id rfl
@[simp] theorem e_frzV : (SV.val d).frz = d := id rfl
@[simp] theorem e_frzO {t} : (SV.own t d).frz = d := id rfl
theorem ite_cl {α : Type} {c : Prop} [i : Decidable c] {a b : α} : @ite _ c (Classical.propDecidable c) a b = if c then a else b := by
  have : Classical.propDecidable c = i := Subsingleton.elim _ _
  rw [this]
/-! the words of the data -/
variable {m n : Int} {u v : Str} {k l : Bool} {ds es : List D}
@[simp] theorem v_int : intOf (.int n) = some n := id rfl
@[simp] theorem v_add : dAdd (.int m) (.int n) = some (.int (m + n)) := id rfl
@[simp] theorem v_addS : dAdd (.str u) (.str v) = if u.length + v.length ≤ 16777216 then some (.str (u ++ v)) else none := id rfl
@[simp] theorem v_addL : dAdd (.list ds) (.list es) = if ds.length + es.length ≤ 16777216 then some (.list (ds ++ es)) else none := id rfl
@[simp] theorem v_addT : dAdd (.tuple ds) (.tuple es) = if ds.length + es.length ≤ 16777216 then some (.tuple (ds ++ es)) else none := id rfl
@[simp] theorem v_sub : dSub (.int m) (.int n) = some (.int (m - n)) := id rfl
@[simp] theorem v_mul : dMul (.int m) (.int n) = if mulOk m n then some (.int (m * n)) else none := id rfl
@[simp] theorem v_div : dDiv (.int m) (.int n) = if 0 < n ∧ n < 1073741824 then some (.int (m / n)) else none := ite_cl
@[simp] theorem v_mod : dMod (.int m) (.int n) = if 0 < n then some (.int (m % n)) else none := ite_cl
@[simp] theorem v_pow : dPow (.int m) (.int n) = if 0 ≤ n ∧ n ≤ 1000000 ∧ m.natAbs < 2 ^ 64 then some (.int (m ^ n.toNat)) else none := ite_cl
@[simp] theorem v_neg : dNeg (.int m) = some (.int (-m)) := id rfl
@[simp] theorem v_lenL : lenD [.list ds] = some (.int ds.length) := id rfl
@[simp] theorem v_lenT : lenD [.tuple ds] = some (.int ds.length) := id rfl
@[simp] theorem v_lenS : lenD [.str u] = some (.int u.length) := id rfl
@[simp] theorem v_abs : absD [.int n] = some (.int (n.natAbs : Int)) := by
  show some (PyData.int _) = _
  congr 2
  split <;> omega
@[simp] theorem v_intC : intD [.int n] = some (.int n) := id rfl
@[simp] theorem v_intB : intD [.bool k] = some (.int (if k = true then 1 else 0)) := id rfl
@[simp] theorem v_max2 : max2 [.int m, .int n] = some (.int (max m n)) := by
  show some (PyData.int _) = _
  congr 2
  split <;> omega
@[simp] theorem v_min2 : min2 [.int m, .int n] = some (.int (min m n)) := by
  show some (PyData.int _) = _
  congr 2
  split <;> omega
@[simp] theorem v_listL : listC [.list ds] = some (.list ds) := id rfl
@[simp] theorem v_listT : listC [.tuple ds] = some (.list ds) := id rfl
@[simp] theorem v_tupL : tupC [.list ds] = some (.tuple ds) := id rfl
@[simp] theorem v_tupT : tupC [.tuple ds] = some (.tuple ds) := id rfl
@[simp] theorem v_itL : itemsD (.list ds) = some ds := id rfl
@[simp] theorem v_itT : itemsD (.tuple ds) = some ds := id rfl
@[simp] theorem v_itS : itemsD (.str u) = some (u.cps.toList.map fun c => .str ⟨#[c]⟩) := id rfl
@[simp] theorem v_ixL : ixD (.list ds) (.int n) = atI ds n := id rfl
@[simp] theorem v_ixT : ixD (.tuple ds) (.int n) = atI ds n := id rfl
@[simp] theorem v_ixS : ixD (.str u) (.int n) = (atI u.cps.toList n).bind fun c => some (.str ⟨#[c]⟩) := id rfl
@[simp] theorem v_slL {lo hi} : slD (.list ds) lo hi = some (.list (cutD ds lo hi)) := id rfl
@[simp] theorem v_slT {lo hi} : slD (.tuple ds) lo hi = some (.tuple (cutD ds lo hi)) := id rfl
@[simp] theorem v_slS {lo hi} : slD (.str u) lo hi = some (.str (cutS u lo hi)) := id rfl
@[simp] theorem v_tN : dTru .none = some false := id rfl
@[simp] theorem v_tB : dTru (.bool k) = some k := id rfl
@[simp] theorem v_tI : dTru (.int n) = some (n != 0) := id rfl
@[simp] theorem v_tS : dTru (.str u) = some (u.length != 0) := id rfl
@[simp] theorem v_tL : dTru (.list ds) = some (!ds.isEmpty) := id rfl
@[simp] theorem v_tT : dTru (.tuple ds) = some (!ds.isEmpty) := id rfl
@[simp] theorem v_isN : isN d .none = some (isNoneD d) := by cases d <;> rfl
@[simp] theorem v_isNN : isNN d .none = some (!isNoneD d) := by cases d <;> rfl
@[simp] theorem v_nN : isNoneD .none = true := id rfl
@[simp] theorem v_nB : isNoneD (.bool k) = false := id rfl
@[simp] theorem v_nI : isNoneD (.int n) = false := id rfl
@[simp] theorem v_nS : isNoneD (.str u) = false := id rfl
@[simp] theorem v_nT : isNoneD (.tuple ds) = false := id rfl
@[simp] theorem v_nL : isNoneD (.list ds) = false := id rfl
theorem c_int : cmpOk (.int n) = true := id rfl
theorem c_str : cmpOk (.str u) = true := id rfl
theorem c_bool : cmpOk (.bool k) = true := id rfl
theorem c_none : cmpOk .none = true := id rfl
theorem beq_dec {α : Type} [BEq α] [LawfulBEq α] [DecidableEq α] (a b : α) : (a == b) = decide (a = b) := by
  by_cases h : a = b
  · subst h; simp
  · rw [decide_eq_false h]; exact beq_eq_false_iff_ne.mpr h
@[simp] theorem v_eqI : eqD (.int m) (.int n) = some (decide (m = n)) := by
  unfold eqD
  rw [if_pos ⟨c_int, c_int⟩]
  unfold PyData.eqv
  simp [beq_dec]
@[simp] theorem v_eqS : eqD (.str u) (.str v) = some (decide (u = v)) := by
  unfold eqD
  rw [if_pos ⟨c_str, c_str⟩]
  unfold PyData.eqv
  simp [beq_dec]
@[simp] theorem v_neI : neD (.int m) (.int n) = some (!decide (m = n)) := by
  unfold neD
  rw [if_pos ⟨c_int, c_int⟩]
  unfold PyData.eqv
  simp [beq_dec]
@[simp] theorem v_neB : neD (.bool k) (.bool l) = some (!decide (k = l)) := by
  cases k <;> cases l <;> rfl
@[simp] theorem v_eqB : eqD (.bool k) (.bool l) = some (decide (k = l)) := by
  cases k <;> cases l <;> rfl
@[simp] theorem v_ltI : ordD .Lt (.int m) (.int n) = some (decide (m < n)) := congrArg some dec_cl'
@[simp] theorem v_leI : ordD .LtE (.int m) (.int n) = some (decide (m ≤ n)) := congrArg some dec_cl'
@[simp] theorem v_gtI : ordD .Gt (.int m) (.int n) = some (decide (n < m)) := congrArg some dec_cl'
@[simp] theorem v_geI : ordD .GtE (.int m) (.int n) = some (decide (n ≤ m)) := congrArg some dec_cl'
@[simp] theorem v_r1 : rng1 (.int n) = if -(2 ^ 62) ≤ n ∧ n < 2 ^ 62 then some (intsFrom 0 n.toNat) else none := ite_cl
@[simp] theorem v_r2 : rng2 (.int m) (.int n) = if -(2 ^ 62) ≤ m ∧ m < 2 ^ 62 ∧ -(2 ^ 62) ≤ n ∧ n < 2 ^ 62 then some (intsFrom m (n - m).toNat) else none := ite_cl
end
@[simp] theorem mulOk_r {a b : Int} (h : -(2 ^ 64) < b ∧ b < 2 ^ 64) : mulOk a b := .inr (.inl h)
theorem mulOk_l {a b : Int} (h : -(2 ^ 64) < a ∧ a < 2 ^ 64) : mulOk a b := .inl h
@[simp] theorem i_isiT {d : D} : isiD "tuple" d = (match d with | .tuple _ => some true | .dict _ => none | _ => some false) := by
  cases d <;> rfl
@[simp] theorem i_isiS {d : D} : isiD "str" d = (match d with | .str _ => some true | .dict _ => none | _ => some false) := by
  cases d <;> rfl
@[simp] theorem i_isiB {d : D} : isiD "bool" d = (match d with | .bool _ => some true | .dict _ => none | _ => some false) := by
  cases d <;> rfl
@[simp] theorem i_isiI {d : D} : isiD "int" d = (match d with | .int _ => some true | .bool _ => some true | .dict _ => none | _ => some false) := by
  cases d <;> rfl
end DL

/-! DL12: max and min of data, list.index -/
namespace DL
open PySem PySem.Spec PyProof.Rows L2
section
variable {prog : Program} {w : World} {A : Around} {E : Value → Shared → Prop} {s : Shared} {Q : Value → Shared → Prop} {a b : Value} {x y : D} {as bs : List Addr}
theorem max_two_data (hh : A.handled = none) (ra : Reads s.heap a x as) (rb : Reads s.heap b y bs) (al : PySem.W.AlikeAll [x, y]) (hu : A.units + 1 + PyData.depthAll [x, y] < cLine)
    (q : ∀ h' tk, (∀ d o, s.heap.get? d = some o → h'.get? d = some o) → Q (if PySem.W.dataLt x y = true then b else a) { s with heap := h', toks := tk }) :
    wpAny (model prog w) A (call (.builtin "max") [a, b]) Q E s := by
  have nm : (toString "max" ++ toString ".loop") = ("max.loop" : String) := by decide
  refine call_function_tree PySem.F.kind_max PySem.F.plain_max PySem.F.entry_max (PySem.F.args_max2 a b) ?_
  show wpAny (model prog w) A.in1 (Builtin.Builtins.bindParams "max" ["key", "default"] 0 ⟨[], []⟩ >>= _) _ E s
  refine wpAny_bind (wpAny_of_eq (a := [none, none]) rfl ?_)
  show wpAny (model prog w) A.in1 (newTuple [a, b] >>= _) _ E s
  refine wpAny_bind (wpAny_newObj_type ?_)
  generalize hs1 : ({ s with heap := s.heap.push { cls := .type "tuple", data := .seq #[a, b] } } : Shared) = s1
  have hh1 : s1.heap = s.heap.push { cls := .type "tuple", data := .seq #[a, b] } := by rw [← hs1]
  have hT : s1.heap.IsTuple s.heap.objs.size #[a, b] := by rw [hh1]; exact ⟨_, Heap.get?_push_size _ rfl, rfl, 0, rfl⟩
  have k1 : ∀ d o, s.heap.get? d = some o → s1.heap.get? d = some o := fun d o e => by rw [hh1]; exact Heap.get?_push_of_some _ e
  refine wpAny_bind (PySem.W.iter_tupleW (A := A.in1) hh hT fun s₂ e W st hfp hw hk => ?_)
  have hr : ReadsAll s.heap (#[a, b] : Array Value).toList [x, y] (as ++ (bs ++ [])) := .cons ra (.cons rb .nil)
  refine wpAny_bind (wpAny_newObj_type ?_)
  have hSf : s₂.heap.objs.size ∉ [s1.heap.objs.size, s.heap.objs.size] := fun hm => Nat.lt_irrefl _ (hfp _ hm)
  rw [nm]
  have hf := W.frame 0 s₂ (s₂.heap.push { cls := .type "list", data := .seq #[] 0 }) s₂.toks st (Nat.le_refl _) fun b _ o e => Heap.get?_push_of_some _ e
  refine wpAny_pure ⟨plainId_quiet PySem.F.plain_max_loop _, codeAny_max_loop_firstH W s.heap (fun d o e => hw d o (k1 d o e)) _ (PySem.W.cmpIn_gt (A := A.in1) hr al hu) s₂.heap.objs.size hSf (fresh_in fun d o e => hk d o (k1 d o e)) _ (show 0 < 2 by omega) (fun d o e => Heap.get?_push_of_some _ (hk d o (k1 d o e))) hf (Heap.get?_push_size _ rfl) fun v s' hP hm => ?_⟩
  obtain ⟨h', tk, rfl, hk'⟩ := PySem.W.moved_old e rfl (Moved.drop_new (tk := s₂.toks) hm (Nat.le_refl _))
  have q' := q h' tk fun d o e => hk' d o (k1 d o e)
  have hv : (if PySem.W.dataLt x y = true then b else a) = v := by
    cases h : PySem.W.dataLt x y <;> simp [argBest, h] at hP <;> simp <;> exact hP
  rw [hv] at q'
  rw [← hs1]
  exact q'
theorem min_two_data (hh : A.handled = none) (ra : Reads s.heap a x as) (rb : Reads s.heap b y bs) (al : PySem.W.AlikeAll [x, y]) (hu : A.units + 1 + PyData.depthAll [x, y] < cLine)
    (q : ∀ h' tk, (∀ d o, s.heap.get? d = some o → h'.get? d = some o) → Q (if PySem.W.dataLt y x = true then b else a) { s with heap := h', toks := tk }) :
    wpAny (model prog w) A (call (.builtin "min") [a, b]) Q E s := by
  have nm : (toString "min" ++ toString ".loop") = ("min.loop" : String) := by decide
  refine call_function_tree PySem.F.kind_min PySem.F.plain_min PySem.F.entry_min (PySem.F.args_min2 a b) ?_
  show wpAny (model prog w) A.in1 (Builtin.Builtins.bindParams "min" ["key", "default"] 0 ⟨[], []⟩ >>= _) _ E s
  refine wpAny_bind (wpAny_of_eq (a := [none, none]) rfl ?_)
  show wpAny (model prog w) A.in1 (newTuple [a, b] >>= _) _ E s
  refine wpAny_bind (wpAny_newObj_type ?_)
  generalize hs1 : ({ s with heap := s.heap.push { cls := .type "tuple", data := .seq #[a, b] } } : Shared) = s1
  have hh1 : s1.heap = s.heap.push { cls := .type "tuple", data := .seq #[a, b] } := by rw [← hs1]
  have hT : s1.heap.IsTuple s.heap.objs.size #[a, b] := by rw [hh1]; exact ⟨_, Heap.get?_push_size _ rfl, rfl, 0, rfl⟩
  have k1 : ∀ d o, s.heap.get? d = some o → s1.heap.get? d = some o := fun d o e => by rw [hh1]; exact Heap.get?_push_of_some _ e
  refine wpAny_bind (PySem.W.iter_tupleW (A := A.in1) hh hT fun s₂ e W st hfp hw hk => ?_)
  have hr : ReadsAll s.heap (#[a, b] : Array Value).toList [x, y] (as ++ (bs ++ [])) := .cons ra (.cons rb .nil)
  refine wpAny_bind (wpAny_newObj_type ?_)
  have hSf : s₂.heap.objs.size ∉ [s1.heap.objs.size, s.heap.objs.size] := fun hm => Nat.lt_irrefl _ (hfp _ hm)
  rw [nm]
  have hf := W.frame 0 s₂ (s₂.heap.push { cls := .type "list", data := .seq #[] 0 }) s₂.toks st (Nat.le_refl _) fun b _ o e => Heap.get?_push_of_some _ e
  refine wpAny_pure ⟨plainId_quiet PySem.F.plain_min_loop _, codeAny_min_loop_firstH W s.heap (fun d o e => hw d o (k1 d o e)) _ (PySem.W.cmpIn_lt (A := A.in1) hr al hu) s₂.heap.objs.size hSf (fresh_in fun d o e => hk d o (k1 d o e)) _ (show 0 < 2 by omega) (fun d o e => Heap.get?_push_of_some _ (hk d o (k1 d o e))) hf (Heap.get?_push_size _ rfl) fun v s' hP hm => ?_⟩
  obtain ⟨h', tk, rfl, hk'⟩ := PySem.W.moved_old e rfl (Moved.drop_new (tk := s₂.toks) hm (Nat.le_refl _))
  have q' := q h' tk fun d o e => hk' d o (k1 d o e)
  have hv : (if PySem.W.dataLt y x = true then b else a) = v := by
    cases h : PySem.W.dataLt y x <;> simp [argBest, h] at hP <;> simp <;> exact hP
  rw [hv] at q'
  rw [← hs1]
  exact q'
end
/-- can be compared by max and min -/
def alikeOk (ds : List D) : Bool := cmpOk (.list ds) && (ds.all fun a => ds.all fun b => PySem.W.alike a b) && ds.all (fun d => !isNoneD d)
theorem alikeOk_inv {ds : List D} (h : alikeOk ds = true) : plainAll ds = true ∧ PyData.depthAll ds ≤ 59 ∧ PySem.W.AlikeAll ds := by
  unfold alikeOk cmpOk at h
  simp only [Bool.and_eq_true, List.all_eq_true, decide_eq_true_eq] at h
  obtain ⟨⟨⟨p, d⟩, a⟩, n⟩ := h
  rw [DL.plain] at p
  rw [PyData.depth] at d
  refine ⟨p, by omega, fun x hx y hy => a x hx y hy, fun x hx e => ?_⟩
  have := n x hx
  subst e
  cases this
def maxV : List D → Option D
  | [.int i, .int j] => some (.int (max i j))
  | [.list (d :: ds)] => if alikeOk (d :: ds) = true then some (PySem.W.maxD d ds) else none
  | [.tuple (d :: ds)] => if alikeOk (d :: ds) = true then some (PySem.W.maxD d ds) else none
  | [a, b] => if alikeOk [a, b] = true then some (if PySem.W.dataLt a b = true then b else a) else none
  | _ => none
def minV : List D → Option D
  | [.int i, .int j] => some (.int (min i j))
  | [.list (d :: ds)] => if alikeOk (d :: ds) = true then some (PySem.W.minD d ds) else none
  | [.tuple (d :: ds)] => if alikeOk (d :: ds) = true then some (PySem.W.minD d ds) else none
  | [a, b] => if alikeOk [a, b] = true then some (if PySem.W.dataLt b a = true then b else a) else none
  | _ => none
section
variable {X : Cx} {K : Fg}
theorem each_at {R : Value → D → Prop} : ∀ {us : List Value} {ds : List D}, PySem.W.EachIs R us ds → ∀ (i : Nat) u, us[i]? = some u → ∃ d, ds[i]? = some d ∧ R u d
  | _, _, .nil, i, u, e => by simp at e
  | _, _, .cons h t, 0, u, e => by
    simp at e
    subst e
    exact ⟨_, rfl, h⟩
  | _, _, .cons h t, i + 1, u, e => by
    obtain ⟨d, a, b⟩ := each_at t i u (by simpa using e)
    exact ⟨d, by simpa using a, b⟩
/-- the best of alike items is one of them -/
theorem best_rp {K : Fg} {F : Hp} {h h' : Heap} {us : List Value} {ds : List D} {best : D} {i : Nat} {u : Value} {cs : List Addr} (e1 : PySem.W.EachIs (fun u d => ∃ v, RelV v u ∧ Rp K F v d) us ds) (e2 : PySem.W.EachIs (fun u d => ∃ as, Reads h u d as) us ds) (al : PySem.W.AlikeAll ds) (hb : best ∈ ds)
    (hi : us[i]? = some u) (kp : ∀ b o, h.get? b = some o → h'.get? b = some o) (hr : Reads h' u best cs) : ∃ v, RelV v u ∧ Rp K F v best := by
  obtain ⟨d, a, v, r, q⟩ := each_at e1 i u hi
  obtain ⟨d', a', as, r'⟩ := each_at e2 i u hi
  rw [a] at a'
  cases a'
  have := PySem.W.alike_unique d best u as cs (al.1 d (List.mem_of_getElem? a) best hb) (PySem.W.reads_keeps kp r') hr
  subst this
  exact ⟨v, r, q⟩
theorem maxD_mem (d : D) (ds : List D) : PySem.W.maxD d ds ∈ d :: ds := by
  unfold PySem.W.maxD
  induction ds generalizing d with
  | nil => simp
  | cons x xs ih =>
    rw [List.foldl_cons]
    rcases List.mem_cons.mp (ih (if PySem.W.dataLt d x = true then x else d)) with h | h
    · rw [h]; split <;> simp
    · simp [h]
theorem minD_mem (d : D) (ds : List D) : PySem.W.minD d ds ∈ d :: ds := by
  unfold PySem.W.minD
  induction ds generalizing d with
  | nil => simp
  | cons x xs ih =>
    rw [List.foldl_cons]
    rcases List.mem_cons.mp (ih (if PySem.W.dataLt x d = true then x else d)) with h | h
    · rw [h]; split <;> simp
    · simp [h]
theorem two_of {X : Cx} {pins : List (Addr × Obj)} {s : Shared} {σ : L2.St} {F H : Hp} (I : Inv X pins σ H s) (l : Same F H) {v w : V} {a b : D} {u u2 : Value} (h1 : Rp X.K F v a) (h2 : Rp X.K F w b) (r1 : RelV v u) (r2 : RelV w u2) (p : plainAll [a, b] = true) : (∃ as, Reads s.heap u a as) ∧ ∃ bs, Reads s.heap u2 b bs := by
  rw [plainAll, plainAll, Bool.and_eq_true, Bool.and_eq_true] at p
  exact ⟨Dp.reads I _ _ _ (dp_mono l (Rp.dp _ _ p.1 h1).1) r1, Dp.reads I _ _ _ (dp_mono l (Rp.dp _ _ p.2.1 h2).1) r2⟩
theorem cMaxV (hc : X.calm = true) (hu : X.A.units + 70 < cLine) : CallR X (.builtin "max") (rC X.K maxV) := fun pins s σ H xs us Q I r ⟨F, ds, c, l, ha, e, q⟩ => by
  unfold maxV at e
  split at e
  · rename_i i j
    cases e
    refine cMax2 hc pins s σ H xs us Q I r ⟨F, _, .int (if j > i then j else i), l, ha, rfl, ?_⟩
    have : (if j > i then j else i) = max i j := by split <;> omega
    rw [this]
    exact q
  · rename_i d ds
    obtain ⟨hz, rfl⟩ := ite_some e
    obtain ⟨pl, dp, al⟩ := alikeOk_inv hz
    obtain ⟨v, rfl, h1⟩ := ha.one_inv
    obtain ⟨p, vs, rfl, h1, h2⟩ := h1.list_inv
    rw [Vals.ref1 r]
    obtain ⟨its, rv, hl, _⟩ := I.list (a := p) (xs := vs) (l.seq h1)
    obtain ⟨e1, e2⟩ := each_of I l h2 rv pl
    obtain ⟨as, hr⟩ := PySem.W.each_readsAll (fun d : D => d) e2
    rw [List.map_id'] at hr
    refine PySem.W.max_list_data (vs := its.toArray) (I.ok.hd hc) hl.isList hr al (by omega) fun i u h' tk cs hi hb kp => ?_
    obtain ⟨v, r3, h3⟩ := best_rp e1 e2 al (maxD_mem d ds) (by simpa using hi) kp hb
    exact ⟨v, H, I.kept kp, r3, q _ _ _ (Grow.refl l) h3⟩
  · rename_i d ds
    obtain ⟨hz, rfl⟩ := ite_some e
    obtain ⟨pl, dp, al⟩ := alikeOk_inv hz
    obtain ⟨v, rfl, h1⟩ := ha.one_inv
    obtain ⟨p, vs, rfl, h1, h2⟩ := h1.tup_inv
    rw [Vals.ref1 r]
    obtain ⟨its, rv, hl, _⟩ := I.tuple (SqT.mono l h1)
    obtain ⟨e1, e2⟩ := each_of I l h2 rv pl
    obtain ⟨as, hr⟩ := PySem.W.each_readsAll (fun d : D => d) e2
    rw [List.map_id'] at hr
    refine PySem.W.max_tuple_data (vs := its.toArray) (I.ok.hd hc) hl hr al (by omega) fun i u h' tk cs hi hb kp => ?_
    obtain ⟨v, r3, h3⟩ := best_rp e1 e2 al (maxD_mem d ds) (by simpa using hi) kp hb
    exact ⟨v, H, I.kept kp, r3, q _ _ _ (Grow.refl l) h3⟩
  · rename_i a b _
    obtain ⟨hz, rfl⟩ := ite_some e
    obtain ⟨pl, dp, al⟩ := alikeOk_inv hz
    obtain ⟨v, w, rfl, h1, h2⟩ := ha.two_inv
    obtain ⟨u1, u2, rfl, r1, r2⟩ := vals2 r
    obtain ⟨⟨as, g1⟩, bs, g2⟩ := two_of I l h1 h2 r1 r2 pl
    refine max_two_data (I.ok.hd hc) g1 g2 al (by omega) fun h' tk kp => ?_
    by_cases hb : PySem.W.dataLt a b = true
    · rw [if_pos hb] at q ⊢
      exact ⟨w, H, I.kept kp, r2, q _ _ _ (Grow.refl l) h2⟩
    · rw [if_neg hb] at q ⊢
      exact ⟨v, H, I.kept kp, r1, q _ _ _ (Grow.refl l) h1⟩
  · cases e
theorem cMinV (hc : X.calm = true) (hu : X.A.units + 70 < cLine) : CallR X (.builtin "min") (rC X.K minV) := fun pins s σ H xs us Q I r ⟨F, ds, c, l, ha, e, q⟩ => by
  unfold minV at e
  split at e
  · rename_i i j
    cases e
    refine cMin2 hc pins s σ H xs us Q I r ⟨F, _, .int (if j < i then j else i), l, ha, rfl, ?_⟩
    have : (if j < i then j else i) = min i j := by split <;> omega
    rw [this]
    exact q
  · rename_i d ds
    obtain ⟨hz, rfl⟩ := ite_some e
    obtain ⟨pl, dp, al⟩ := alikeOk_inv hz
    obtain ⟨v, rfl, h1⟩ := ha.one_inv
    obtain ⟨p, vs, rfl, h1, h2⟩ := h1.list_inv
    rw [Vals.ref1 r]
    obtain ⟨its, rv, hl, _⟩ := I.list (a := p) (xs := vs) (l.seq h1)
    obtain ⟨e1, e2⟩ := each_of I l h2 rv pl
    obtain ⟨as, hr⟩ := PySem.W.each_readsAll (fun d : D => d) e2
    rw [List.map_id'] at hr
    refine PySem.W.min_list_data (vs := its.toArray) (I.ok.hd hc) hl.isList hr al (by omega) fun i u h' tk cs hi hb kp => ?_
    obtain ⟨v, r3, h3⟩ := best_rp e1 e2 al (minD_mem d ds) (by simpa using hi) kp hb
    exact ⟨v, H, I.kept kp, r3, q _ _ _ (Grow.refl l) h3⟩
  · rename_i d ds
    obtain ⟨hz, rfl⟩ := ite_some e
    obtain ⟨pl, dp, al⟩ := alikeOk_inv hz
    obtain ⟨v, rfl, h1⟩ := ha.one_inv
    obtain ⟨p, vs, rfl, h1, h2⟩ := h1.tup_inv
    rw [Vals.ref1 r]
    obtain ⟨its, rv, hl, _⟩ := I.tuple (SqT.mono l h1)
    obtain ⟨e1, e2⟩ := each_of I l h2 rv pl
    obtain ⟨as, hr⟩ := PySem.W.each_readsAll (fun d : D => d) e2
    rw [List.map_id'] at hr
    refine PySem.W.min_tuple_data (vs := its.toArray) (I.ok.hd hc) hl hr al (by omega) fun i u h' tk cs hi hb kp => ?_
    obtain ⟨v, r3, h3⟩ := best_rp e1 e2 al (minD_mem d ds) (by simpa using hi) kp hb
    exact ⟨v, H, I.kept kp, r3, q _ _ _ (Grow.refl l) h3⟩
  · rename_i a b _
    obtain ⟨hz, rfl⟩ := ite_some e
    obtain ⟨pl, dp, al⟩ := alikeOk_inv hz
    obtain ⟨v, w, rfl, h1, h2⟩ := ha.two_inv
    obtain ⟨u1, u2, rfl, r1, r2⟩ := vals2 r
    obtain ⟨⟨as, g1⟩, bs, g2⟩ := two_of I l h1 h2 r1 r2 pl
    refine min_two_data (I.ok.hd hc) g1 g2 al (by omega) fun h' tk kp => ?_
    by_cases hb : PySem.W.dataLt b a = true
    · rw [if_pos hb] at q ⊢
      exact ⟨w, H, I.kept kp, r2, q _ _ _ (Grow.refl l) h2⟩
    · rw [if_neg hb] at q ⊢
      exact ⟨v, H, I.kept kp, r1, q _ _ _ (Grow.refl l) h1⟩
  · cases e
/-! list.index -/
def firstEq (y : D) : List D → Nat → Option Nat
  | [], _ => none
  | x :: xs, n => if PyData.eqv x y = true then some n else firstEq y xs (n + 1)
def idxD : D → D → Option D
  | .list xs, y => if cmpOk y = true ∧ cmpOk (.list xs) = true ∧ xs.length ≤ 16777216 then (firstEq y xs 0).map (fun j : Nat => PyData.int (Int.ofNat j)) else none
  | _, _ => none
theorem firstEq_at {y : D} : ∀ {xs : List D} {n j : Nat}, firstEq y xs n = some j → n ≤ j ∧ (∃ z, xs[j - n]? = some z ∧ PyData.eqv z y = true) ∧ ∀ m z, m < j - n → xs[m]? = some z → PyData.eqv z y = false
  | [], n, j, h => by cases h
  | x :: xs, n, j, h => by
    rw [firstEq] at h
    by_cases hx : PyData.eqv x y = true
    · rw [if_pos hx] at h
      cases h
      exact ⟨Nat.le_refl _, ⟨x, by simp, hx⟩, fun m z hm => by omega⟩
    · rw [if_neg hx] at h
      obtain ⟨a, ⟨z, b, c⟩, d⟩ := firstEq_at h
      refine ⟨by omega, ⟨z, ?_, c⟩, fun m z hm hz => ?_⟩
      · rw [show j - n = (j - (n + 1)) + 1 by omega, List.getElem?_cons_succ]
        exact b
      · cases m with
        | zero =>
          rw [List.getElem?_cons_zero] at hz
          cases hz
          exact Bool.eq_false_iff.mpr hx
        | succ m =>
          rw [List.getElem?_cons_succ] at hz
          exact d m z (by omega) hz
def rIdx (K : Fg) : V → List V → Hp → VK → Prop := fun x ys H Q => ∃ F y a b c, ys = [y] ∧ Same F H ∧ Rp K F x a ∧ Rp K F y b ∧ idxD a b = some c ∧ ∀ F' H' v, Grow F H F' H' → Rp K F' v c → Q v H'
theorem mt_idx (hu : X.A.units + 66 < cLine) : MtR X "list.index" (rIdx X.K) := by
  intro pins s σ H x ys v us Q I rx rys ⟨F, y, a, b, c, e0, l, ha, hb, e, q⟩
  subst e0
  unfold idxD at e
  split at e
  · rename_i xs
    by_cases hz : cmpOk b = true ∧ cmpOk (.list xs) = true ∧ xs.length ≤ 16777216
    · rw [if_pos hz] at e
      obtain ⟨hy, hl, hn⟩ := hz
      cases ej : firstEq b xs 0 with
      | none => rw [ej] at e; cases e
      | some j =>
        rw [ej] at e
        cases e
        obtain ⟨_, ⟨z, hz, hzj⟩, hno⟩ := firstEq_at ej
        rw [Nat.sub_zero] at hz hno
        cases rys with
        | cons ry rt =>
          rename_i uy ut
          cases rt
          obtain ⟨bs, g1, y1, d1⟩ := rd_reads I l hb ry hy
          obtain ⟨p, vs, rfl, h1, h2⟩ := ha.list_inv
          cases rx
          obtain ⟨its, rv, ⟨⟨cls, dd, data, sls⟩, n, ho, hcl, hdn, hdt⟩, hlen⟩ := I.list (a := p) (xs := vs) (l.seq h1)
          simp only at hcl hdt
          subst hcl hdt
          have pl : plainAll xs = true := by
            unfold cmpOk at hl
            rw [Bool.and_eq_true, DL.plain] at hl
            exact hl.1
          obtain ⟨e1, e2⟩ := each_of I l h2 rv pl
          obtain ⟨as, hr⟩ := PySem.W.each_readsAll (fun d : D => d) e2
          rw [List.map_id'] at hr
          have hlay : PyData.canLayAll0 xs = true := (RpAll.dp xs vs pl h2).2
          have len : its.length = xs.length := SeqAt.ReadsAll.length xs its as hr
          have hmap : its.map (SeqAt.readOf s.heap) = xs := SeqAt.readsAll_map xs its as hlay hr
          obtain ⟨hjd, _⟩ := List.getElem?_eq_some_iff.mp hz
          have hj : j < its.toArray.size := by simpa [len] using hjd
          have at_ : ∀ (m : Nat) (hm : m < its.toArray.size) (z' : D), xs[m]? = some z' → SeqAt.readOf s.heap its.toArray[m] = z' := fun m hm z' hz' => by
            have hml : m < its.length := by simpa using hm
            rw [← hmap, List.getElem?_map, List.getElem?_eq_getElem hml] at hz'
            simpa using Option.some.inj hz'
          have hroom : X.A.units + 1 + min (PyData.depthAll xs) b.depth < cLine := by
            have := Nat.min_le_right (PyData.depthAll xs) b.depth
            omega
          have j63 : (j : Int) < 2 ^ 63 - 1 := by omega
          refine call_meets PySem.F.slot_list_index ⟨_, ho, rfl⟩ PySem.F.entry_list_index (PySem.F.args_list_index_2 _ _)
            (SeqAt.list_indexAt p its.toArray n dd sls uy (fun u => PyData.eqv (SeqAt.readOf s.heap u) b) j hj j63 ?_ ?_) ⟨ho, SeqAt.items_eqAt (vs := its.toArray) (show ReadsAll s.heap its.toArray.toList xs as from hr) g1 hlay y1 hroom, .int (j : Nat), H, I.tok _, ⟨_, rfl⟩, q _ _ _ (Grow.refl l) (.int _)⟩
          · show PyData.eqv (SeqAt.readOf s.heap its.toArray[j]) b = true
            rw [at_ j hj z hz]
            exact hzj
          · intro m hm hmj
            have hmd : m < xs.length := by omega
            have hz' : xs[m]? = some xs[m] := List.getElem?_eq_getElem hmd
            show PyData.eqv (SeqAt.readOf s.heap its.toArray[m]) b = false
            rw [at_ m hm _ hz']
            exact hno m _ hmj hz'
    · rw [if_neg hz] at e; cases e
  · cases e
theorem pf_index {o e : Expr} {f g : DF} {apos pos : Pos} (hu : X.A.units + 66 < cLine) (ho : PE X o (tF X.K f)) (he : PE X e (tF X.K g)) (hs : starEach [e] X.env = (false, eval e X.env) :: starEach [] X.env := by rfl) (hbase : attributeBase o "index" X.env (eval o X.env) = eval o X.env := by rfl)
    (hfew : ((backTo pos (starEach [e] X.env)).all (fun x => !x.1) && (backToKw pos (keywordEach [] X.env)).all (fun x => x.1.isSome) && decide ([e].length + ([] : List Keyword).length + (if ([] : List Keyword).isEmpty then 0 else 1) < 30)) = true := by rfl)
    (hline : (apos.endLine == pos.line) = true := by rfl) (hpl : (backTo pos (starEach [] X.env)).any (·.1) = false := by rfl) :
    PE X (.Call (.Attribute o "index" apos) [e] [] pos) (tF X.K (dBin idxD f g)) :=
  PE.imp (pe_bm (T := "list") PySem.F.plainAttrs_list PySem.F.slot_list_index PySem.F.type_list_index (mt_idx hu) ho (paf_cons he paf_nil hs) hbase hfew hline hs hpl) fun σ H Q ⟨F, β, st, d, st', r, e1, q⟩ => by
    obtain ⟨k, h1, e2⟩ := bind_some e1
    obtain ⟨k2, h2, e3⟩ := bind_some e2
    obtain ⟨c, h3, e4⟩ := bind_some e3
    cases e4
    refine ⟨F, β, st, k.1, k.2, r, h1, fun F1 H1 v k1 => ⟨?_, F1, β, k.2, [k2.1], k2.2, k1.rel, ?_, fun F2 H2 vs k3 => ?_⟩⟩
    · obtain ⟨xs, hx⟩ : ∃ xs, k.1 = .list xs := by
        cases hk : k.1 with
        | list xs => exact ⟨xs, rfl⟩
        | _ => rw [hk] at h3; cases h3
      have w1 := k1.res
      rw [hx] at w1
      obtain ⟨p, vs, rfl, h4, h5⟩ := w1.list_inv
      exact .inl ⟨rfl, vs, k1.rel.le.seq h4⟩
    · show (g k.2).bind _ = _
      rw [h2]
      rfl
    · obtain ⟨w, rfl, h5⟩ := k3.res.one_inv
      exact ⟨F2, w, k.1, k2.1, d, rfl, k3.rel.le, Rp.mono k3.stp.mono k1.res, h5, h3, fun F3 H3 v3 g3 q3 => q _ _ _ (((k1.b.trans k3.b).grow g3).toD q3)⟩
end
/-! list(range(n)) -/
noncomputable def rangeL (d : D) : Option (List D) := (intOf d).bind fun n => @ite _ (0 ≤ n ∧ n ≤ 16777216) (Classical.propDecidable _) (some (intsFrom 0 n.toNat)) none
noncomputable def dListR (f : DF) : DE := fun st => (f st).bind fun p => (rangeL p.1).bind fun ds => some (.own none (.list ds), p.2)
theorem rp_range {K : Fg} {F : Hp} : ∀ (m : Nat) (lo : Int), RpAll K F ((List.range m).map fun i => V.int (lo + (i : Nat))) (intsFrom lo m)
  | 0, lo => .nil
  | m + 1, lo => by
    rw [List.range_succ_eq_map, List.map_cons, List.map_map, intsFrom]
    refine .cons (by rw [show lo + ((0 : Nat) : Int) = lo by omega]; exact .int lo) ?_
    have := rp_range (K := K) (F := F) m (lo + 1)
    have e : (fun i : Nat => V.int (lo + 1 + (i : Nat))) = ((fun i : Nat => V.int (lo + (i : Nat))) ∘ Nat.succ) := by
      funext i
      show V.int _ = V.int _
      congr 1
      omega
    rw [← e]
    exact this
theorem pd_listR {X : Cx} {a : Expr} {f : DF} {p p2 pos pos2 : Pos} (hc : X.calm = true) (hg : Gl X "list") (hm : X.mg "list" = none) (hg2 : Gl X "range") (hm2 : X.mg "range" = none) (ha : PE X a (tF X.K f))
    (na : starEach [a] X.env = (false, eval a X.env) :: starEach [] X.env := by rfl) (na2 : starEach [Expr.Call (.Name "range" p2) [a] [] pos2] X.env = (false, eval (Expr.Call (.Name "range" p2) [a] [] pos2) X.env) :: starEach [] X.env := by rfl) :
    PE X (.Call (.Name "list" p) [.Call (.Name "range" p2) [a] [] pos2] [] pos) (tD X.K (dListR f)) := PE.imp (pe_listRg hc hg hm (prg_1 hg2 hm2 ha na) na2) fun σ H Q ⟨F, β, st, d, st', r, e1, q⟩ => by
  obtain ⟨k, h1, e2⟩ := bind_some e1
  obtain ⟨ds, h2, e3⟩ := bind_some e2
  cases e3
  obtain ⟨n, h3, e4⟩ := bind_some h2
  obtain ⟨hz, rfl⟩ := ite_some e4
  refine ⟨F, β, st, k.1, k.2, r, h1, fun F1 H1 v k1 => ?_⟩
  have k2 := k1.res
  rw [intOf_eq h3] at k2
  refine ⟨n, k2.int_eq, RgOk.of_le (by omega) hz.2 (by omega) hz.1, fun x hx => q _ _ _ (own_new k1.b hx (.lst ?_))⟩
  unfold rgV
  rw [show (n - 0).toNat = n.toNat by omega]
  exact rp_range n.toNat 0
/-! to run them -/
section
variable {m n : Int} {ds : List D} {a b : D}
@[simp] theorem e_listR {f : DF} {st : DSt} : dListR f st = (f st).bind fun p => (rangeL p.1).bind fun ds => some (.own none (.list ds), p.2) := id rfl
@[simp] theorem v_maxI : maxV [.int m, .int n] = some (.int (max m n)) := id rfl
@[simp] theorem v_minI : minV [.int m, .int n] = some (.int (min m n)) := id rfl
@[simp] theorem v_idx : idxD (.list ds) b = if cmpOk b = true ∧ cmpOk (.list ds) = true ∧ ds.length ≤ 16777216 then (firstEq b ds 0).map (fun j : Nat => PyData.int (Int.ofNat j)) else none := id rfl
end
end DL

/-! DL13: x in name: what the slot holds is looked at, not taken -/
namespace DL
open PySem PySem.Spec PyProof.Rows L2
def dCmpTV (op : D → D → Option Bool) (f : DF) (i : Nat) : DB := fun st => (f st).bind fun p => (peek p.2 i).bind fun c => (op p.1 c).bind fun k => some (k, p.2)
def dCmpV (op : D → D → Option Bool) (f : DF) (i : Nat) : DF := fun st => (f st).bind fun p => (peek p.2 i).bind fun c => (op p.1 c).bind fun k => some (.bool k, p.2)
section
variable {X : Cx} {a : Expr} {f : DF} {o : CmpOp} {op : D → D → Option Bool} {y : Str} {p2 pos : Pos}
theorem Grow.tight {F H F' H' : Hp} (l : Same F H) (g : Grow H H F' H') : Grow F H F H' := ⟨Same.refl _, l.trans g.keep, g.keep, fun a h => .inl h⟩
theorem pt_cmpV (i : Nat) (ho : OpD X (compareOp o) (liftB op)) (ha : PE X a (tF X.K f)) (hN : X.N[i]? = some y := by rfl) (hy : Vis X.env.scope y := by first | exact Or.inl rfl | exact Or.inr (Or.inl rfl) | exact Or.inr (Or.inr rfl)) (hd : (y == ("__debug__" : Str)) = false := by decide) (hcd : (y == ("__classdict__" : Str)) = false := by decide)
    (hm : behindInMarks o (.Name y p2) = false := by first | exact nomark _ | rfl) : PT X (.Compare a [o] [.Name y p2] pos) (tT X.K (dCmpTV op f i)) :=
  PT.imp (pt_cmpR ho ha (pe_var hN hy hd hcd) hm) fun σ H Q ⟨F, β, st, d, st', r, e1, q⟩ => by
    obtain ⟨p, h1, e2⟩ := bind_some e1
    obtain ⟨c, h2, e3⟩ := bind_some e2
    obtain ⟨k, h3, e4⟩ := bind_some e3
    cases e4
    refine ⟨F, β, st, p.1, p.2, r, h1, fun F1 H1 v1 k1 => ?_⟩
    obtain ⟨v, h4, h5, _⟩ := k1.rel.peek_at h2
    exact ⟨v, h4, H1, p.1, c, .bool d, Same.refl _, Rp.mono k1.rel.le k1.res, h5, by unfold liftB; rw [h3]; rfl, fun F3 H3 v3 g3 q3 => ⟨d, q3.bool, q _ _ (k1.b.grow (Grow.tight k1.rel.le g3))⟩⟩
theorem pf_cmpV (i : Nat) (ho : OpD X (compareOp o) (liftB op)) (ha : PE X a (tF X.K f)) (hN : X.N[i]? = some y := by rfl) (hy : Vis X.env.scope y := by first | exact Or.inl rfl | exact Or.inr (Or.inl rfl) | exact Or.inr (Or.inr rfl)) (hd : (y == ("__debug__" : Str)) = false := by decide) (hcd : (y == ("__classdict__" : Str)) = false := by decide)
    (hm : behindInMarks o (.Name y p2) = false := by first | exact nomark _ | rfl) : PE X (.Compare a [o] [.Name y p2] pos) (tF X.K (dCmpV op f i)) :=
  PE.imp (pe_cmpR ho ha (pe_var hN hy hd hcd) hm) fun σ H Q ⟨F, β, st, d, st', r, e1, q⟩ => by
    obtain ⟨p, h1, e2⟩ := bind_some e1
    obtain ⟨c, h2, e3⟩ := bind_some e2
    obtain ⟨k, h3, e4⟩ := bind_some e3
    cases e4
    refine ⟨F, β, st, p.1, p.2, r, h1, fun F1 H1 v1 k1 => ?_⟩
    obtain ⟨v, h4, h5, _⟩ := k1.rel.peek_at h2
    refine ⟨v, h4, H1, p.1, c, .bool k, Same.refl _, Rp.mono k1.rel.le k1.res, h5, by unfold liftB; rw [h3]; rfl, fun F3 H3 v3 g3 q3 => ?_⟩
    rw [q3.bool]
    exact q _ _ _ ((k1.b.grow (Grow.tight k1.rel.le g3)).toD (.bl k))
end
section
variable {f : DF} {st : DSt} {i : Nat} {op : D → D → Option Bool}
@[simp] theorem e_cmpTV : dCmpTV op f i st = (f st).bind fun p => (peek p.2 i).bind fun c => (op p.1 c).bind fun k => some (k, p.2) := id rfl
@[simp] theorem e_cmpV : dCmpV op f i st = (f st).bind fun p => (peek p.2 i).bind fun c => (op p.1 c).bind fun k => some (.bool k, p.2) := id rfl
end
end DL

/-! what the defs of the text do: printed by gen.py -/
namespace LW
open PySem L2 DL
noncomputable section
def F_least_key : DS :=
  (dSeq (dIf (dTest (dVar 0))
    (dRet (dV (dTup (dCons (dC (.str (Str.ofString ""))) (dCons (dC (.str (Str.ofString ""))) dNil)))))
    dNext)
    (dRet (dV (dC (.str (Str.ofString ""))))))
def m_least_key : Fn := defSem 1 F_least_key
def F_whole_interval : DS :=
  (dRet (dV (dTup (dCons (dF (dCall m_least_key [.e (dVar 0)])) (dCons (dC .none) dNil)))))
def m_whole_interval : Fn := defSem 1 F_whole_interval
def F_successor_of : DS :=
  (dSeq (dIf (dTest (dIsi "tuple" (dVar 0)))
    (dRet (dV (dTup (dCons (dIxV 0 (dC (.int 0))) (dCons (dBin dAdd (dIxV 0 (dC (.int 1))) (dC (.str (Str.ofString " ")))) dNil)))))
    dNext)
    (dRet (dV (dBin dAdd (dVar 0) (dC (.str (Str.ofString " ")))))))
def m_successor_of : Fn := defSem 1 F_successor_of
def F_around_key : DS :=
  (dRet (dV (dTup (dCons (dVar 0) (dCons (dF (dCall m_successor_of [.e (dVar 0)])) dNil)))))
def m_around_key : Fn := defSem 1 F_around_key
def F_has_key : DS :=
  (dSeq (dAsg (dVar 0) (dTp 2 (dGC (dNm 2) (dGC (dNm 3) dGN))))
    (dRet (dV (dAndV (dCmp (ordD .LtE) (dVar 2) (dVar 1)) (dOrV (dCmp isN (dVar 3) (dC .none)) (dCmp (ordD .Lt) (dVar 1) (dVar 3)))))))
def m_has_key : Fn := defSem 4 F_has_key
def F_is_empty : DS :=
  (dSeq (dAsg (dVar 0) (dTp 2 (dGC (dNm 1) (dGC (dNm 2) dGN))))
    (dRet (dV (dAndV (dCmp isNN (dVar 2) (dC .none)) (dCmp (ordD .LtE) (dVar 2) (dVar 1))))))
def m_is_empty : Fn := defSem 3 F_is_empty
def F_lesser_high : DS :=
  (dSeq (dIf (dCmpT isN (dVar 0) (dC .none))
    (dRet (dMov 1))
    dNext)
    (dSeq (dIf (dOr (dCmpT isN (dVar 1) (dC .none)) (dCmpT (ordD .Lt) (dVar 0) (dVar 1)))
    (dRet (dMov 0))
    dNext)
    (dRet (dMov 1))))
def m_lesser_high : Fn := defSem 2 F_lesser_high
def F_common_part : DS :=
  (dSeq (dSet 2 (dV (dTup (dCons (dCallB maxV (dCons (dIxV 0 (dC (.int 0))) (dCons (dIxV 1 (dC (.int 0))) dNil))) (dCons (dF (dCall m_lesser_high [.e (dIxV 0 (dC (.int 1))), .e (dIxV 1 (dC (.int 1)))])) dNil)))))
    (dSeq (dIf (dTest (dF (dCall m_is_empty [.e (dVar 2)])))
    (dRet (dV (dC .none)))
    dNext)
    (dRet (dMov 2))))
def m_common_part : Fn := defSem 3 F_common_part
def F_is_overlapping : DS :=
  (dRet (dV (dCmp isNN (dF (dCall m_common_part [.e (dVar 0), .e (dVar 1)])) (dC .none))))
def m_is_overlapping : Fn := defSem 2 F_is_overlapping
def F_is_covering : DS :=
  (dSeq (dIf (dCmpT (ordD .Lt) (dIxV 1 (dC (.int 0))) (dIxV 0 (dC (.int 0))))
    (dRet (dV (dC (.bool false))))
    dNext)
    (dRet (dV (dOrV (dCmp isN (dIxV 0 (dC (.int 1))) (dC .none)) (dAndV (dCmp isNN (dIxV 1 (dC (.int 1))) (dC .none)) (dCmp (ordD .LtE) (dIxV 1 (dC (.int 1))) (dIxV 0 (dC (.int 1)))))))))
def m_is_covering : Fn := defSem 2 F_is_covering
def F_join_of : DS :=
  (dSeq (dSet 2 (dV (dCallB minV (dCons (dIxV 0 (dC (.int 0))) (dCons (dIxV 1 (dC (.int 0))) dNil)))))
    (dSeq (dIf (dOr (dCmpT isN (dIxV 0 (dC (.int 1))) (dC .none)) (dCmpT isN (dIxV 1 (dC (.int 1))) (dC .none)))
    (dRet (dV (dTup (dCons (dVar 2) (dCons (dC .none) dNil)))))
    dNext)
    (dRet (dV (dTup (dCons (dVar 2) (dCons (dCallB maxV (dCons (dIxV 0 (dC (.int 1))) (dCons (dIxV 1 (dC (.int 1))) dNil))) dNil)))))))
def m_join_of : Fn := defSem 3 F_join_of
def F_left_of : DS :=
  (dSeq (dSet 2 (dLst (dCons (dTup (dCons (dIxV 0 (dC (.int 0))) (dCons (dF (dCall m_lesser_high [.e (dIxV 0 (dC (.int 1))), .e (dIxV 1 (dC (.int 0)))])) dNil))) dNil)))
    (dSeq (dIf (dCmpT isNN (dIxV 1 (dC (.int 1))) (dC .none))
    (dApp 2 (dTup (dCons (dCallB maxV (dCons (dIxV 0 (dC (.int 0))) (dCons (dIxV 1 (dC (.int 1))) dNil))) (dCons (dIxV 0 (dC (.int 1))) dNil))))
    dNext)
    (dRet (dV (dCallB tupC (dCons (dF (dLc (itD (dVar 2)) (dNm 3) (dNot (dTest (dF (dCall m_is_empty [.e (dVar 3)])))) (dVar 3) [3])) dNil))))))
def m_left_of : Fn := defSem 4 F_left_of
def F__law_a_next : DS :=
  (dSeq (dIf (dTest (dIsi "tuple" (dVar 0)))
    (dRet (dV (dTup (dCons (dIxV 0 (dC (.int 0))) (dCons (dBin dAdd (dIxV 0 (dC (.int 1))) (dC (.str (Str.ofString " ")))) dNil)))))
    dNext)
    (dRet (dV (dBin dAdd (dVar 0) (dC (.str (Str.ofString " ")))))))
def m__law_a_next : Fn := defSem 1 F__law_a_next
def F__law_signs : DS :=
  (dSeq (dSet 0 (dV (dC (.str (Str.ofString " !\"#$&'()*+,-./0123456789:;<=>?@ABCDEFGHIJKLMNOPQRSTUVWXYZ[\\]^_")))))
    (dRet (dV (dBin dAdd (dVar 0) (dC (.str (Str.ofString "`abcdefghijklmnopqrstuvwxyz{|}~")))))))
def m__law_signs : Fn := defSem 1 F__law_signs
def F__law_same (self_ : Fn) : DS :=
  (dSeq (dThenKill (dIf (dTest (dIsi "tuple" (dVar 1)))
    (dSeq (dIf (dOr (dNot (dTest (dIsi "tuple" (dVar 0)))) (dCmpT neD (dLenV 0) (dLenV 1)))
    (dRet (dV (dC (.bool false))))
    dNext)
    (dSeq (dForI (itR1 (dLenV 1)) (dNm 2)
    (dThenKill (dIf (dNot (dTest (dF (dCall self_ [.e (dIxV 0 (dVar 2)), .e (dIxV 1 (dVar 2))]))))
    (dRet (dV (dC (.bool false))))
    dNext) [2]))
    (dRet (dV (dC (.bool true))))))
    dNext) [2])
    (dSeq (dIf (dOr (dCmpT isN (dVar 1) (dC .none)) (dCmpT isN (dVar 0) (dC .none)))
    (dRet (dV (dAndV (dCmp isN (dVar 1) (dC .none)) (dCmp isN (dVar 0) (dC .none)))))
    dNext)
    (dSeq (dIf (dTest (dIsi "str" (dVar 1)))
    (dRet (dV (dAndV (dIsi "str" (dVar 0)) (dCmp eqD (dVar 0) (dVar 1)))))
    dNext)
    (dSeq (dIf (dOr (dCmpT neD (dIsi "bool" (dVar 0)) (dIsi "bool" (dVar 1))) (dNot (dTest (dIsi "int" (dVar 0)))))
    (dRet (dV (dC (.bool false))))
    dNext)
    (dRet (dV (dCmp eqD (dVar 0) (dVar 1))))))))
def m__law_same : Nat → Fn
  | 0 => fun _ => none
  | k + 1 => defSem 3 (F__law_same (m__law_same k))
def F__law_draw : DS :=
  (dSeq (dThenKill (dIf (dCmpT eqD (dIxV 0 (dC (.int 2))) (dC (.int 0)))
    (dSeq (dSet 2 (dV (dIxV 0 (dC (.int 1)))))
    (dSeq (dSet 3 (dV (dC (.int 0))))
    (dSeq (dIf (dCmpT (ordD .Lt) (dVar 2) (dCallB lenD (dCons (dIxV 0 (dC (.int 0))) dNil)))
    (dSet 3 (dV (dCallB absD (dCons (dCallB intD (dCons (dIx (dIxV 0 (dC (.int 0))) (dVar 2)) dNil)) dNil))))
    (dSeq (dSetIx 0 (dC (.int 3)) (dBin dMod (dCallB intD (dCons (dBin dAdd (dBin dAdd (dBin dMul (dIxV 0 (dC (.int 3))) (dC (.int 48271))) (dVar 2)) (dC (.int 1))) dNil)) (dC (.int 2147483647))))
    (dSet 3 (dV (dIxV 0 (dC (.int 3)))))))
    (dSeq (dSetIx 0 (dC (.int 1)) (dBin dAdd (dVar 2) (dC (.int 1))))
    (dSeq (dIf (dCmpT (ordD .Lt) (dVar 3) (dBin dPow (dC (.int 10)) (dC (.int 18))))
    (dSeq (dSet 3 (dV (dBin dMod (dCallB intD (dCons (dBin dAdd (dBin dAdd (dBin dMul (dVar 3) (dC (.int 48271))) (dBin dMul (dVar 2) (dC (.int 69621)))) (dC (.int 5))) dNil)) (dC (.int 2147483647)))))
    (dSeq (dSet 3 (dV (dBin dMod (dCallB intD (dCons (dBin dMul (dVar 3) (dC (.int 69621))) dNil)) (dC (.int 2147483629)))))
    (dRet (dV (dBin dMod (dCallB intD (dCons (dVar 3) dNil)) (dCallB maxV (dCons (dVar 1) (dCons (dC (.int 1)) dNil))))))))
    dNext)
    (dSetIx 0 (dC (.int 2)) (dVar 3)))))))
    dNext) [2, 3])
    (dSeq (dSet 3 (dV (dIxV 0 (dC (.int 2)))))
    (dSeq (dSetIx 0 (dC (.int 2)) (dBin dDiv (dVar 3) (dCallB maxV (dCons (dVar 1) (dCons (dC (.int 2)) dNil)))))
    (dRet (dV (dBin dMod (dCallB intD (dCons (dVar 3) dNil)) (dCallB maxV (dCons (dVar 1) (dCons (dC (.int 1)) dNil)))))))))
def m__law_draw : Fn := defSem 4 F__law_draw
def F__law_tape : DS :=
  (dSeq (dSet 1 (dV (dC (.int 7))))
    (dSeq (dForI (itD (dVar 0)) (dNm 2)
    (dThenKill (dSet 1 (dV (dBin dMod (dCallB intD (dCons (dBin dAdd (dBin dMul (dVar 1) (dC (.int 31))) (dCallB absD (dCons (dCallB intD (dCons (dVar 2) dNil)) dNil))) dNil)) (dC (.int 2147483647))))) [2]))
    (dRet (dLst (dCons (dF (dCallO listC (dCons (dVar 0) dNil))) (dCons (dC (.int 0)) (dCons (dC (.int 0)) (dCons (dVar 1) dNil))))))))
def m__law_tape : Fn := defSem 3 F__law_tape
def F__law_digits : DS :=
  (dSeq (dSet 3 (dV (dC (.int 1))))
    (dSeq (dForI (itR1 (dVar 2)) (dNm 4)
    (dThenKill (dSet 3 (dV (dBin dMul (dVar 3) (dVar 1)))) [4]))
    (dSeq (dSet 5 (dCall m__law_draw [.v 0, .e (dVar 3)]))
    (dSeq (dSet 6 (dLst dNil))
    (dSeq (dThenKill (dSeq (dKill [4]) (dForI (itR1 (dVar 2)) (dNm 4)
    (dSeq (dApp 6 (dBin dMod (dCallB intD (dCons (dVar 5) dNil)) (dVar 1)))
    (dThenKill (dSet 5 (dV (dBin dDiv (dVar 5) (dVar 1)))) [4])))) [4, 5])
    (dRet (dMov 6)))))))
def m__law_digits : Fn := defSem 7 F__law_digits
def F__law_round : DS :=
  (dSeq (dSet 2 (dCall m__law_draw [.v 0, .e (dBin dMul (dC (.int 3)) (dLenV 1))]))
    (dSeq (dSet 3 (dV (dBin dDiv (dVar 2) (dC (.int 3)))))
    (dSeq (dSet 4 (dV (dBin dAdd (dSlV 1 (dPt (dVar 3)) dNoP) (dSlV 1 dNoP (dPt (dVar 3))))))
    (dRet (dV (dIfE (dCmpT eqD (dBin dMod (dCallB intD (dCons (dVar 2) dNil)) (dC (.int 3))) (dC (.int 0))) (dSlV 4 dNoP (dPt (dC (.int 1)))) (dVar 4)))))))
def m__law_round : Fn := defSem 5 F__law_round
def F__law_two_signs : DS :=
  (dSeq (dSet 1 (dCall m__law_signs []))
    (dSeq (dSet 2 (dCall m__law_draw [.v 0, .e (dBin dMul (dC (.int 94)) (dC (.int 94)))]))
    (dRet (dV (dTup (dCons (dIxV 1 (dBin dMod (dCallB intD (dCons (dVar 2) dNil)) (dC (.int 94)))) (dCons (dIxV 1 (dBin dDiv (dVar 2) (dC (.int 94)))) dNil)))))))
def m__law_two_signs : Fn := defSem 3 F__law_two_signs
def F__law_names : DS :=
  (dSeq (dSet 3 (dLst dNil))
    (dSeq (dForI (itD (dF (dLst (dCons (dC (.str (Str.ofString ""))) (dCons (dVar 1) (dCons (dBin dAdd (dVar 1) (dC (.str (Str.ofString " ")))) (dCons (dBin dAdd (dVar 1) (dVar 2)) (dCons (dVar 2) (dCons (dBin dAdd (dBin dAdd (dBin dAdd (dVar 2) (dVar 1)) (dVar 1)) (dVar 2)) dNil))))))))) (dNm 4)
    (dThenKill (dIf (dCmpTV ninD (dVar 4) 3)
    (dApp 3 (dVar 4))
    dNext) [4]))
    (dSeq (dIf (dNot (dTest (dVar 0)))
    (dRet (dMov 3))
    dNext)
    (dSeq (dSet 5 (dLst dNil))
    (dSeq (dSeq (dKill [4]) (dForI (itD (dF (dLst (dCons (dC (.str (Str.ofString ""))) (dCons (dVar 1) (dCons (dBin dMul (dBin dAdd (dVar 1) (dVar 2)) (dC (.int 4))) (dCons (dBin dAdd (dVar 2) (dC (.str (Str.ofString " ")))) dNil))))))) (dNm 6)
    (dThenKill (dSeq (dKill [4]) (dForI (itD (dSlV 3 dNoP (dPt (dC (.int 3))))) (dNm 4)
    (dThenKill (dIf (dCmpTV ninD (dTup (dCons (dVar 6) (dCons (dVar 4) dNil))) 5)
    (dApp 5 (dTup (dCons (dVar 6) (dCons (dVar 4) dNil))))
    dNext) [4]))) [4, 6])))
    (dRet (dMov 5)))))))
def m__law_names : Fn := defSem 7 F__law_names
def F__law_line : DS :=
  (dSeq (dSet 1 (dLst dNil))
    (dSeq (dForI (itD (dVar 0)) (dNm 2)
    (dSeq (dSet 3 (dLst (dCons (dVar 2) (dCons (dF (dCall m__law_a_next [.e (dVar 2)])) dNil))))
    (dSeq (dIf (dTest (dIsi "tuple" (dVar 2)))
    (dApp 3 (dTup (dCons (dBin dAdd (dIxV 2 (dC (.int 0))) (dC (.str (Str.ofString " ")))) (dCons (dC (.str (Str.ofString ""))) dNil))))
    dNext)
    (dThenKill (dSeq (dKill [4]) (dForI (itD (dVar 3)) (dNm 4)
    (dThenKill (dIf (dCmpTV ninD (dVar 4) 1)
    (dApp 1 (dVar 4))
    dNext) [4]))) [2, 3, 4]))))
    (dRet (dCallO sortC (dCons (dVar 1) dNil)))))
def m__law_line : Fn := defSem 5 F__law_line
def F__law_span : DS :=
  (dSeq (dSet 3 (dV (dIxV 0 (dBin dMod (dCallB intD (dCons (dVar 1) dNil)) (dLenV 0)))))
    (dSeq (dSet 4 (dLc (itD (dVar 0)) (dNm 5) (dCmpT (ordD .Lt) (dVar 3) (dVar 5)) (dVar 5) [5]))
    (dSeq (dIf (dOr (dCmpT eqD (dLenV 4) (dC (.int 0))) (dCmpT (ordD .Lt) (dVar 2) (dC (.int 6))))
    (dRet (dV (dTup (dCons (dVar 3) (dCons (dC .none) dNil)))))
    dNext)
    (dRet (dV (dTup (dCons (dVar 3) (dCons (dIxV 4 (dBin dMod (dCallB intD (dCons (dVar 2) dNil)) (dLenV 4))) dNil))))))))
def m__law_span : Fn := defSem 6 F__law_span
def F__law_beside : DS :=
  (dSeq (dSet 4 (dLc (itD (dVar 3)) (dNm 6) (dAnd (dCmpT isNN (dIxV 1 (dC (.int 1))) (dC .none)) (dCmpT (ordD .Lt) (dIxV 1 (dC (.int 1))) (dVar 6))) (dVar 6) [6]))
    (dSeq (dSet 5 (dLc (itD (dVar 3)) (dNm 6) (dCmpT (ordD .Lt) (dVar 6) (dIxV 1 (dC (.int 0)))) (dVar 6) [6]))
    (dSeq (dIf (dCmpT eqD (dVar 0) (dC (.int 0)))
    (dRet (dMov 1))
    dNext)
    (dSeq (dIf (dAnd (dCmpT eqD (dVar 0) (dC (.int 1))) (dCmpT isNN (dIxV 1 (dC (.int 1))) (dC .none)))
    (dRet (dV (dTup (dCons (dIxV 1 (dC (.int 1))) (dCons (dIfE (dCmpT (ordD .Gt) (dLenV 4) (dC (.int 0))) (dIxV 4 (dC (.int 0))) (dC .none)) dNil)))))
    dNext)
    (dSeq (dIf (dAnd (dCmpT eqD (dVar 0) (dC (.int 2))) (dCmpT (ordD .Gt) (dLenV 5) (dC (.int 0))))
    (dRet (dV (dTup (dCons (dIxV 5 (dBin dMod (dCallB intD (dCons (dCallB lenD (dCons (dIxV 1 (dC (.int 0))) dNil)) dNil)) (dLenV 5))) (dCons (dIxV 1 (dC (.int 0))) dNil)))))
    dNext)
    (dRet (dMov 2)))))))
def m__law_beside : Fn := defSem 7 F__law_beside
def F__law_points : DS :=
  (dSeq (dSet 1 (dLst dNil))
    (dSeq (dForI (itD (dVar 0)) (dNm 2)
    (dThenKill (dSeq (dKill [3]) (dForI (itD (dVar 2)) (dNm 3)
    (dThenKill (dIf (dAnd (dCmpT isNN (dVar 3) (dC .none)) (dCmpTV ninD (dVar 3) 1))
    (dApp 1 (dVar 3))
    dNext) [3]))) [2, 3]))
    (dRet (dCallO sortC (dCons (dVar 1) dNil)))))
def m__law_points : Fn := defSem 4 F__law_points
def F__law_has : DS :=
  (dRet (dV (dAndV (dCmp (ordD .LtE) (dIxV 0 (dC (.int 0))) (dVar 1)) (dOrV (dCmp isN (dIxV 0 (dC (.int 1))) (dC .none)) (dCmp (ordD .Lt) (dVar 1) (dIxV 0 (dC (.int 1))))))))
def m__law_has : Fn := defSem 2 F__law_has
def F__law_rows : DS :=
  (dSeq (dSet 2 (dLst dNil))
    (dSeq (dForI (itR1 (dLenV 0)) (dNm 3)
    (dSeq (dSet 4 (dV (dIfE (dCmpT (ordD .Lt) (dBin dAdd (dVar 3) (dC (.int 1))) (dLenV 0)) (dIxV 0 (dBin dAdd (dVar 3) (dC (.int 1)))) (dC .none))))
    (dThenKill (dIf (dAnd (dTest (dIxV 1 (dVar 3))) (dAnd (dCmpT (ordD .Gt) (dVar 3) (dC (.int 0))) (dTest (dIxV 1 (dBin dSub (dVar 3) (dC (.int 1)))))))
    (dSetIx 2 (dUn dNeg (dC (.int 1))) (dTup (dCons (dIx (dIxV 2 (dUn dNeg (dC (.int 1)))) (dC (.int 0))) (dCons (dVar 4) dNil))))
    (dIf (dTest (dIxV 1 (dVar 3)))
    (dApp 2 (dTup (dCons (dIxV 0 (dVar 3)) (dCons (dVar 4) dNil))))
    dNext)) [3, 4])))
    (dRet (dV (dCallB tupC (dCons (dVar 2) dNil))))))
def m__law_rows : Fn := defSem 5 F__law_rows
def F__law_both : DS :=
  (dSeq (dSet 2 (dLc (itD (dVar 0)) (dNm 4) dYes (dCmp ninD (dC (.bool false)) (dF (dLc (itD (dVar 1)) (dNm 5) dYes (dF (dCall m__law_has [.e (dVar 5), .e (dVar 4)])) [5]))) [4]))
    (dSeq (dSet 3 (dCall m__law_rows [.e (dVar 0), .e (dVar 2)]))
    (dRet (dV (dIfE (dCmpT (ordD .Gt) (dLenV 3) (dC (.int 0))) (dIxV 3 (dC (.int 0))) (dC .none))))))
def m__law_both : Fn := defSem 6 F__law_both
def F__law_all : DS :=
  (dSeq (dSet 2 (dLc (itD (dVar 0)) (dNm 4) dYes (dCmp inD (dC (.bool true)) (dF (dLc (itD (dVar 1)) (dNm 6) dYes (dF (dCall m__law_has [.e (dVar 6), .e (dVar 4)])) [6]))) [4]))
    (dSeq (dSet 3 (dV (dCallB maxV (dCons (dF (dLc (itR1 (dLenV 0)) (dNm 5) (dTest (dIxV 2 (dVar 5))) (dVar 5) [5])) dNil))))
    (dRet (dV (dTup (dCons (dIxV 0 (dBin idxD (dVar 2) (dC (.bool true)))) (dCons (dIfE (dCmpT (ordD .Lt) (dBin dAdd (dVar 3) (dC (.int 1))) (dLenV 0)) (dIxV 0 (dBin dAdd (dVar 3) (dC (.int 1)))) (dC .none)) dNil)))))))
def m__law_all : Fn := defSem 7 F__law_all
def F__law_rest : DS :=
  (dRet (dCall m__law_rows [.e (dVar 0), .e (dF (dLc (itD (dVar 0)) (dNm 3) dYes (dAndV (dF (dCall m__law_has [.e (dVar 1), .e (dVar 3)])) (dCmp ninD (dC (.bool true)) (dF (dLc (itD (dVar 2)) (dNm 4) dYes (dF (dCall m__law_has [.e (dVar 4), .e (dVar 3)])) [4])))) [3]))]))
def m__law_rest : Fn := defSem 5 F__law_rest
def F__law_pair_right : DS :=
  (dSeq (dSet 3 (dCall m__law_both [.e (dVar 0), .e (dF (dLst (dCons (dVar 1) (dCons (dVar 2) dNil))))]))
    (dSeq (dIf (dOr (dNot (dTest (dF (dCall (m__law_same 6) [.e (dF (dCall m_common_part [.e (dVar 1), .e (dVar 2)])), .e (dVar 3)])))) (dNot (dTest (dF (dCall (m__law_same 6) [.e (dF (dCall m_is_overlapping [.e (dVar 1), .e (dVar 2)])), .e (dCmp isNN (dVar 3) (dC .none))])))))
    (dRet (dV (dC (.bool false))))
    dNext)
    (dSeq (dIf (dOr (dNot (dTest (dF (dCall (m__law_same 6) [.e (dF (dCall m_join_of [.e (dVar 1), .e (dVar 2)])), .e (dF (dCall m__law_all [.e (dVar 0), .e (dF (dLst (dCons (dVar 1) (dCons (dVar 2) dNil))))]))])))) (dNot (dTest (dF (dCall (m__law_same 6) [.e (dF (dCall m_left_of [.e (dVar 1), .e (dVar 2)])), .e (dF (dCall m__law_rest [.e (dVar 0), .e (dVar 1), .e (dF (dLst (dCons (dVar 2) dNil)))]))])))))
    (dRet (dV (dC (.bool false))))
    dNext)
    (dRet (dCall (m__law_same 6) [.e (dF (dCall m_is_covering [.e (dVar 1), .e (dVar 2)])), .e (dCmp eqD (dCallB lenD (dCons (dF (dCall m__law_rest [.e (dVar 0), .e (dVar 2), .e (dF (dLst (dCons (dVar 1) dNil)))])) dNil)) (dC (.int 0)))])))))
def m__law_pair_right : Fn := defSem 4 F__law_pair_right
def F__law_three_right : DS :=
  (dSeq (dSet 4 (dCall m__law_both [.e (dVar 0), .e (dF (dLst (dCons (dVar 1) (dCons (dVar 2) dNil))))]))
    (dSeq (dIf (dAnd (dCmpT isNN (dVar 4) (dC .none)) (dNot (dTest (dF (dCall (m__law_same 6) [.e (dF (dCall m_common_part [.e (dVar 4), .e (dVar 3)])), .e (dF (dCall m__law_both [.e (dVar 0), .e (dF (dLst (dCons (dVar 1) (dCons (dVar 2) (dCons (dVar 3) dNil)))))]))])))))
    (dRet (dV (dC (.bool false))))
    dNext)
    (dSeq (dSet 5 (dCall m__law_all [.e (dVar 0), .e (dF (dLst (dCons (dVar 1) (dCons (dVar 2) dNil))))]))
    (dSeq (dIf (dNot (dTest (dF (dCall (m__law_same 6) [.e (dF (dCall m_join_of [.e (dVar 3), .e (dVar 5)])), .e (dF (dCall m__law_all [.e (dVar 0), .e (dF (dLst (dCons (dVar 1) (dCons (dVar 2) (dCons (dVar 3) dNil)))))]))]))))
    (dRet (dV (dC (.bool false))))
    dNext)
    (dSeq (dIf (dNot (dTest (dF (dCall (m__law_same 6) [.e (dF (dCall m_is_covering [.e (dVar 5), .e (dVar 3)])), .e (dCmp eqD (dCallB lenD (dCons (dF (dCall m__law_rest [.e (dVar 0), .e (dVar 3), .e (dF (dLst (dCons (dVar 5) dNil)))])) dNil)) (dC (.int 0)))]))))
    (dRet (dV (dC (.bool false))))
    dNext)
    (dSeq (dSet 6 (dLst dNil))
    (dSeq (dForI (itD (dF (dCall m__law_rest [.e (dVar 0), .e (dVar 1), .e (dF (dLst (dCons (dVar 2) dNil)))]))) (dNm 7)
    (dSeq (dSet 8 (dCall m_left_of [.e (dVar 7), .e (dVar 3)]))
    (dSeq (dIf (dNot (dTest (dIsi "tuple" (dVar 8))))
    (dRet (dV (dC (.bool false))))
    dNext)
    (dThenKill (dSet 6 (dV (dBin dAdd (dVar 6) (dF (dCallO listC (dCons (dVar 8) dNil)))))) [7, 8]))))
    (dRet (dCall (m__law_same 6) [.e (dCallB tupC (dCons (dVar 6) dNil)), .e (dF (dCall m__law_rest [.e (dVar 0), .e (dVar 1), .e (dF (dLst (dCons (dVar 2) (dCons (dVar 3) dNil))))]))])))))))))
def m__law_three_right : Fn := defSem 9 F__law_three_right
def F__law_keys_right : DS :=
  (dSeq (dSet 3 (dV (dIfE (dTest (dVar 0)) (dTup (dCons (dC (.str (Str.ofString ""))) (dCons (dC (.str (Str.ofString ""))) dNil))) (dC (.str (Str.ofString ""))))))
    (dSeq (dIf (dOr (dNot (dTest (dF (dCall (m__law_same 6) [.e (dF (dCall m_least_key [.e (dVar 0)])), .e (dVar 3)])))) (dNot (dTest (dF (dCall (m__law_same 6) [.e (dF (dCall m_whole_interval [.e (dVar 0)])), .e (dTup (dCons (dVar 3) (dCons (dC .none) dNil)))])))))
    (dRet (dV (dC (.bool false))))
    dNext)
    (dSeq (dIf (dOr (dNot (dTest (dF (dCall (m__law_same 6) [.e (dF (dCall m_successor_of [.e (dVar 1)])), .e (dF (dCall m__law_a_next [.e (dVar 1)]))])))) (dNot (dTest (dF (dCall (m__law_same 6) [.e (dF (dCall m_around_key [.e (dVar 1)])), .e (dTup (dCons (dVar 1) (dCons (dF (dCall m__law_a_next [.e (dVar 1)])) dNil)))])))))
    (dRet (dV (dC (.bool false))))
    dNext)
    (dSeq (dForI (itD (dVar 2)) (dNm 4)
    (dSeq (dIf (dNot (dTest (dF (dCall (m__law_same 6) [.e (dF (dCall m_has_key [.e (dVar 4), .e (dVar 1)])), .e (dF (dCall m__law_has [.e (dVar 4), .e (dVar 1)]))]))))
    (dRet (dV (dC (.bool false))))
    dNext)
    (dSeq (dSet 5 (dV (dTup (dCons (dIxV 4 (dC (.int 0))) (dCons (dIx (dIxV 2 (dC (.int 0))) (dC (.int 0))) dNil)))))
    (dThenKill (dIf (dOr (dNot (dTest (dF (dCall (m__law_same 6) [.e (dF (dCall m_is_empty [.e (dVar 4)])), .e (dC (.bool false))])))) (dNot (dTest (dF (dCall (m__law_same 6) [.e (dF (dCall m_is_empty [.e (dVar 5)])), .e (dCmp (ordD .LtE) (dIxV 5 (dC (.int 1))) (dIxV 5 (dC (.int 0))))])))))
    (dRet (dV (dC (.bool false))))
    dNext) [4, 5]))))
    (dRet (dV (dC (.bool true))))))))
def m__law_keys_right : Fn := defSem 6 F__law_keys_right
def F__law_asked_right : DS :=
  (dSeq (dSet 4 (dCall m__law_points [.e (dVar 3)]))
    (dSeq (dIf (dCmpT eqD (dVar 0) (dC (.int 12)))
    (dRet (dCall m__law_keys_right [.e (dVar 1), .e (dVar 2), .e (dVar 3)]))
    dNext)
    (dSeq (dSet 5 (dLst (dCons (dTup (dCons (dC (.int 0)) (dCons (dC (.int 1)) (dCons (dC (.int 2)) dNil)))) (dCons (dTup (dCons (dC (.int 1)) (dCons (dC (.int 0)) (dCons (dC (.int 2)) dNil)))) (dCons (dTup (dCons (dC (.int 0)) (dCons (dC (.int 2)) (dCons (dC (.int 1)) dNil)))) (dCons (dTup (dCons (dC (.int 2)) (dCons (dC (.int 0)) (dCons (dC (.int 1)) dNil)))) (dCons (dTup (dCons (dC (.int 1)) (dCons (dC (.int 2)) (dCons (dC (.int 0)) dNil)))) (dCons (dTup (dCons (dC (.int 2)) (dCons (dC (.int 1)) (dCons (dC (.int 0)) dNil)))) dNil))))))))
    (dSeq (dSet 6 (dV (dIxV 5 (dBin dMod (dCallB intD (dCons (dVar 0) dNil)) (dC (.int 6))))))
    (dSeq (dIf (dCmpT (ordD .Lt) (dVar 0) (dC (.int 6)))
    (dRet (dCall m__law_pair_right [.e (dVar 4), .e (dIxV 3 (dIxV 6 (dC (.int 0)))), .e (dIxV 3 (dIxV 6 (dC (.int 1))))]))
    dNext)
    (dRet (dCall m__law_three_right [.e (dVar 4), .e (dIxV 3 (dIxV 6 (dC (.int 0)))), .e (dIxV 3 (dIxV 6 (dC (.int 1)))), .e (dIxV 3 (dIxV 6 (dC (.int 2))))])))))))
def m__law_asked_right : Fn := defSem 7 F__law_asked_right
def F_law : DS :=
  (dSeq (dSet 1 (dCall m__law_tape [.e (dVar 0)]))
    (dSeq (dAsg (dF (dCall m__law_two_signs [.v 1])) (dTp 2 (dGC (dNm 2) (dGC (dNm 3) dGN))))
    (dSeq (dSet 4 (dV (dCmp eqD (dF (dCall m__law_draw [.v 1, .e (dC (.int 2))])) (dC (.int 1)))))
    (dSeq (dThenKill (dForI (itR1 (dC (.int 2))) (dNm 5)
    (dSeq (dSet 6 (dCall m__law_names [.e (dVar 4), .e (dVar 2), .e (dVar 3)]))
    (dSeq (dSet 7 (dCall m__law_line [.e (dVar 6)]))
    (dSeq (dSet 8 (dCall m__law_digits [.v 1, .e (dC (.int 30)), .e (dC (.int 6))]))
    (dSeq (dSet 9 (dCall m__law_digits [.v 1, .e (dC (.int 12)), .e (dC (.int 3))]))
    (dSeq (dSet 10 (dCall m__law_span [.e (dVar 7), .e (dIxV 8 (dC (.int 0))), .e (dIxV 8 (dC (.int 1)))]))
    (dSeq (dSet 11 (dCall m__law_beside [.e (dIxV 9 (dC (.int 0))), .e (dVar 10), .e (dF (dCall m__law_span [.e (dVar 7), .e (dIxV 8 (dC (.int 2))), .e (dIxV 8 (dC (.int 3)))])), .e (dVar 7)]))
    (dSeq (dSet 12 (dCall m__law_beside [.e (dIxV 9 (dC (.int 1))), .e (dVar 11), .e (dF (dCall m__law_span [.e (dVar 7), .e (dIxV 8 (dC (.int 4))), .e (dIxV 8 (dC (.int 5)))])), .e (dVar 7)]))
    (dSeq (dSeq (dKill [13]) (dForI (itD (dF (dCall m__law_round [.v 1, .e (dF (dListR (dC (.int 13))))]))) (dNm 13)
    (dThenKill (dIf (dNot (dTest (dF (dCall m__law_asked_right [.e (dVar 13), .e (dVar 4), .e (dIxV 6 (dBin dMod (dCallB intD (dCons (dIxV 9 (dC (.int 2))) dNil)) (dLenV 6))), .e (dF (dLst (dCons (dVar 10) (dCons (dVar 11) (dCons (dVar 12) dNil)))))]))))
    (dRet (dV (dC (.bool false))))
    dNext) [13])))
    (dSeq (dIf (dNot (dTest (dF (dCall m__law_pair_right [.e (dF (dCall m__law_points [.e (dF (dLst (dCons (dVar 10) (dCons (dVar 11) dNil))))])), .e (dVar 10), .e (dVar 11)]))))
    (dRet (dV (dC (.bool false))))
    dNext)
    (dThenKill (dSet 4 (dV (dNotV (dVar 4)))) [5, 6, 7, 8, 9, 10, 11, 12, 13]))))))))))) [4, 5, 6, 7, 8, 9, 10, 11, 12, 13])
    (dRet (dV (dC (.bool true))))))))
def m_law : Fn := defSem 14 F_law
end
end LW

namespace LW
open PySem L2 DL
theorem ixN_nat (n i : Nat) : ixN n (i : Int) = if i < n then some i else none := by
  unfold ixN
  rw [if_pos (by omega)]
  by_cases h : i < n
  · rw [if_pos (by omega), if_pos h]
    rfl
  · rw [if_neg (by omega), if_neg h]
theorem atI_nat {α : Type} (xs : List α) (i : Nat) : atI xs (i : Int) = xs[i]? := by
  unfold atI
  rw [ixN_nat]
  by_cases h : i < xs.length
  · rw [if_pos h]; rfl
  · rw [if_neg h, List.getElem?_eq_none (by omega)]; rfl
theorem atI_in {α : Type} (xs : List α) (i : Int) (h0 : 0 ≤ i) (h1 : i < xs.length) : ∃ a, atI xs i = some a ∧ a ∈ xs := by
  obtain ⟨k, rfl⟩ := Int.eq_ofNat_of_zero_le h0
  have hk : k < xs.length := by omega
  exact ⟨xs[k], (atI_nat xs k).trans (List.getElem?_eq_getElem hk), List.getElem_mem hk⟩
theorem ixN_4 : ixN 4 0 = some 0 ∧ ixN 4 1 = some 1 ∧ ixN 4 2 = some 2 ∧ ixN 4 3 = some 3 := ⟨rfl, rfl, rfl, rfl⟩
theorem atI_1 {α : Type} {a b c d : α} : atI [a, b, c, d] 0 = some a ∧ atI [a, b, c, d] 1 = some b ∧ atI [a, b, c, d] 2 = some c ∧ atI [a, b, c, d] 3 = some d := ⟨rfl, rfl, rfl, rfl⟩
theorem rng1_nat (n : Nat) (h : n ≤ 1000000) : rng1 (.int (n : Int)) = some (intsFrom 0 n) := by
  rw [v_r1, if_pos ⟨by omega, by omega⟩]
  rfl
theorem intsFrom_len (lo : Int) (n : Nat) : (intsFrom lo n).length = n := intsFrom_length n lo
def Sg (c : Nat) : Prop := 32 ≤ c ∧ c ≤ 126
/-- a text of at most n signs of the 95 -/
def Tx (n : Nat) (t : Str) : Prop := t.length ≤ n ∧ ∀ c ∈ t.cps.toList, Sg c
/-! a text of the signs -/
theorem len_app (a b : Str) : (a ++ b).length = a.length + b.length := by
  show (a.cps ++ b.cps).size = a.cps.size + b.cps.size
  simp
theorem cps_app (a b : Str) : (a ++ b).cps.toList = a.cps.toList ++ b.cps.toList := by
  show (a.cps ++ b.cps).toList = _
  simp
theorem Tx.add {m n : Nat} {a b : Str} (h : Tx m a) (g : Tx n b) : Tx (m + n) (a ++ b) := ⟨by rw [len_app]; have := h.1; have := g.1; omega, fun c hc => by
  rw [cps_app] at hc
  rcases List.mem_append.mp hc with hc | hc
  · exact h.2 c hc
  · exact g.2 c hc⟩
theorem Tx.mono {m n : Nat} {a : Str} (h : Tx m a) (l : m ≤ n) : Tx n a := ⟨Nat.le_trans h.1 l, h.2⟩
theorem Tx.one {c : Nat} (h : Sg c) : Tx 1 ⟨#[c]⟩ := ⟨Nat.le_refl _, fun x hx => by
  have : x = c := by simpa using hx
  rw [this]; exact h⟩
theorem Tx.nil : Tx 0 "" := ⟨by decide +kernel, fun x hx => by
  have : (Str.ofString "").cps.toList = [] := by decide +kernel
  rw [this] at hx; cases hx⟩
theorem Tx.space : Tx 1 " " := ⟨by decide +kernel, by
  have : (Str.ofString " ").cps.toList = [32] := by decide +kernel
  rw [this]
  intro c hc
  rw [List.mem_singleton.mp hc]
  exact ⟨by omega, by omega⟩⟩
theorem cutD_mem {α : Type} {xs : List α} {lo hi : Option Int} {x : α} (h : x ∈ cutD xs lo hi) : x ∈ xs := List.mem_of_mem_drop (List.mem_of_mem_take h)
theorem cutD_len {α : Type} (xs : List α) (lo hi : Option Int) : (cutD xs lo hi).length ≤ xs.length := by
  unfold cutD
  rw [List.length_take, List.length_drop]
  omega
theorem depthAll_mem : ∀ {xs : List D} {x : D}, x ∈ xs → x.depth ≤ PyData.depthAll xs
  | y :: ys, x, m => by
    rw [PyData.depthAll]
    rcases List.mem_cons.mp m with rfl | m
    · exact Nat.le_max_left _ _
    · exact Nat.le_trans (depthAll_mem m) (Nat.le_max_right _ _)
def S' (l : List Nat) : Str := ⟨l.toArray⟩
theorem S'_cps (l : List Nat) : (S' l).cps.toList = l := by simp [S']
theorem S'_len (l : List Nat) : (S' l).length = l.length := by show l.toArray.size = _; simp
theorem S'_of (x : Str) : S' x.cps.toList = x := by cases x; simp [S']
theorem S'_add (l : List Nat) (c : Nat) : S' l ++ ⟨#[c]⟩ = S' (l ++ [c]) := by
  show (⟨l.toArray ++ #[c]⟩ : Str) = ⟨(l ++ [c]).toArray⟩
  simp
theorem S'_nil : S' [] = "" := by decide +kernel
theorem S'_inj {a b : List Nat} (h : S' a = S' b) : a = b := by rw [← S'_cps a, h, S'_cps]
theorem Tx.ok {n : Nat} {t : Str} (h : Tx n t) (hn : n ≤ 16777216) : okSb t = true := by
  unfold okSb
  rw [Bool.and_eq_true, decide_eq_true_eq]
  refine ⟨?_, Nat.le_trans h.1 hn⟩
  unfold PyData.strOk
  rw [← Array.all_toList, List.all_eq_true]
  intro c hc
  have := (h.2 c hc).2
  simp; omega
theorem Tx.sub {n m : Nat} {t : Str} {l : List Nat} (h : Tx n t) (hl : ∀ c ∈ l, c ∈ t.cps.toList) (hm : l.length ≤ m) : Tx m (S' l) := ⟨by rw [S'_len]; exact hm, fun c hc => h.2 c (hl c (by rwa [S'_cps] at hc))⟩
theorem cps_len (t : Str) : t.cps.toList.length = t.length := by show _ = t.cps.size; simp
theorem plainAll_of : ∀ {ds : List D}, (∀ d ∈ ds, plain d = true) → plainAll ds = true
  | [], _ => rfl
  | d :: ds, h => by
    rw [plainAll, h d List.mem_cons_self, plainAll_of fun x m => h x (List.mem_cons_of_mem _ m)]
    rfl
theorem depthAll_of {n : Nat} : ∀ {ds : List D}, (∀ d ∈ ds, d.depth ≤ n) → PyData.depthAll ds ≤ n
  | [], _ => Nat.zero_le _
  | d :: ds, h => by
    rw [PyData.depthAll]
    exact Nat.max_le.mpr ⟨h d List.mem_cons_self, depthAll_of fun x m => h x (List.mem_cons_of_mem _ m)⟩
mutual
def simp1 : D → Bool
  | .none => true
  | .bool _ => true
  | .int _ => true
  | .str _ => true
  | .tuple xs => decide (xs.length ≤ 1000000) && simpAll xs
  | _ => false
def simpAll : List D → Bool
  | [] => true
  | x :: xs => simp1 x && simpAll xs
end
theorem simpAll_mem : ∀ {xs : List D} {x : D}, simpAll xs = true → x ∈ xs → simp1 x = true
  | y :: ys, x, h, m => by
    rw [simpAll, Bool.and_eq_true] at h
    rcases List.mem_cons.mp m with rfl | m
    · exact h.1
    · exact simpAll_mem h.2 m
theorem simpAll_of : ∀ {ds : List D}, (∀ d ∈ ds, simp1 d = true) → simpAll ds = true
  | [], _ => rfl
  | d :: ds, h => by
    rw [simpAll, h d List.mem_cons_self, simpAll_of fun x m => h x (List.mem_cons_of_mem _ m)]
    rfl
end LW

namespace LW
open PySem L2 DL
/-- the tape of draws -/
abbrev tapeD (s : List Int) (p m x : Int) : D := .list [.list (s.map .int), .int p, .int m, .int x]
def Tape (d : D) : Prop := ∃ (s : List Int) (p m x : Int), 0 ≤ p ∧ d = tapeD s p m x
theorem draw_1 (s : List Int) (p m x many : Int) (hp : 0 ≤ p) (hm : m ≠ 0) (h1 : 1 ≤ many) (h2 : many < 1073741824) :
    m__law_draw [.own (some 0) (tapeD s p m x), .val (.int many)] = some (.val (.int (m % many)), [some (.own (some 0) (tapeD s p (m / max many 2) x)), none]) := by
  unfold m__law_draw F__law_draw
  have e1 : 0 < max many 2 := by omega
  have e2 : max many 2 < 1073741824 := by omega
  have e3 : max many 1 = many := by omega
  have e4 : 0 < many := by omega
  simp [atI_1, ixN_4, hm, e1, e2, e3, e4]
theorem draw_2a (s : List Int) (p x many : Int) (h1 : 1 ≤ many) (h2 : many < 1073741824) (n a : Int) (hs : p < s.length) (e5 : atI (s.map PyData.int) p = some (.int n)) (ha : absD [.int n] = some (.int a)) (hb : a < 1000000000000000000) :
    m__law_draw [.own (some 0) (tapeD s p 0 x), .val (.int many)] = some (.val (.int ((a * 48271 + p * 69621 + 5) % 2147483647 * 69621 % 2147483629 % many)), [some (.own (some 0) (tapeD s (p + 1) 0 x)), none]) := by
  unfold m__law_draw F__law_draw
  have e3 : max many 1 = many := by omega
  have e4 : 0 < many := by omega
  simp [-v_abs, ha, atI_1, ixN_4, e3, e4, hs, e5, hb]
theorem draw_2b (s : List Int) (p x many : Int) (h1 : 1 ≤ many) (h2 : many < 1073741824) (n a : Int) (hs : p < s.length) (e5 : atI (s.map PyData.int) p = some (.int n)) (ha : absD [.int n] = some (.int a)) (hb : ¬ a < 1000000000000000000) :
    m__law_draw [.own (some 0) (tapeD s p 0 x), .val (.int many)] = some (.val (.int (a % many)), [some (.own (some 0) (tapeD s (p + 1) (a / max many 2) x)), none]) := by
  unfold m__law_draw F__law_draw
  have e1 : 0 < max many 2 := by omega
  have e2 : max many 2 < 1073741824 := by omega
  have e3 : max many 1 = many := by omega
  have e4 : 0 < many := by omega
  simp [-v_abs, ha, atI_1, ixN_4, e1, e2, e3, e4, hs, e5, hb]
theorem draw_2c (s : List Int) (p x many y : Int) (h1 : 1 ≤ many) (h2 : many < 1073741824) (hs : ¬ p < s.length) (hy : (x * 48271 + p + 1) % 2147483647 = y) (hb : y < 1000000000000000000) :
    m__law_draw [.own (some 0) (tapeD s p 0 x), .val (.int many)] = some (.val (.int ((y * 48271 + p * 69621 + 5) % 2147483647 * 69621 % 2147483629 % many)), [some (.own (some 0) (tapeD s (p + 1) 0 y)), none]) := by
  unfold m__law_draw F__law_draw
  have e3 : max many 1 = many := by omega
  have e4 : 0 < many := by omega
  simp [atI_1, ixN_4, e3, e4, hs, hy, hb]
theorem draw_2 (s : List Int) (p x many : Int) (hp : 0 ≤ p) (h1 : 1 ≤ many) (h2 : many < 1073741824) :
    ∃ r p' m' x', m__law_draw [.own (some 0) (tapeD s p 0 x), .val (.int many)] = some (.val (.int r), [some (.own (some 0) (tapeD s p' m' x')), none]) ∧ 0 ≤ r ∧ r < many ∧ 0 ≤ p' := by
  have e4 : 0 < many := by omega
  by_cases hs : p < s.length
  · obtain ⟨k, hk⟩ := Int.eq_ofNat_of_zero_le hp
    have hk' : k < s.length := by omega
    have e5 : atI (s.map PyData.int) p = some (.int s[k]) := by
      rw [hk]
      exact (atI_nat _ _).trans (by rw [List.getElem?_map, List.getElem?_eq_getElem hk']; rfl)
    by_cases hb : (s[k].natAbs : Int) < 1000000000000000000
    · exact ⟨_, _, _, _, draw_2a s p x many h1 h2 _ _ hs e5 v_abs hb, Int.emod_nonneg _ (by omega), Int.emod_lt_of_pos _ e4, by omega⟩
    · exact ⟨_, _, _, _, draw_2b s p x many h1 h2 _ _ hs e5 v_abs hb, Int.emod_nonneg _ (by omega), Int.emod_lt_of_pos _ e4, by omega⟩
  · have hb : (x * 48271 + p + 1) % 2147483647 < 1000000000000000000 := by
      have := Int.emod_lt_of_pos (x * 48271 + p + 1) (b := 2147483647) (by omega)
      omega
    exact ⟨_, _, _, _, draw_2c s p x many _ h1 h2 hs rfl hb, Int.emod_nonneg _ (by omega), Int.emod_lt_of_pos _ e4, by omega⟩
/-- a drawn number -/
theorem draw {d : D} (T : Tape d) (many : Int) (h1 : 1 ≤ many) (h2 : many < 1073741824) :
    ∃ r d', m__law_draw [.own (some 0) d, .val (.int many)] = some (.val (.int r), [some (.own (some 0) d'), none]) ∧ Tape d' ∧ 0 ≤ r ∧ r < many := by
  obtain ⟨s, p, m, x, hp, rfl⟩ := T
  by_cases hm : m = 0
  · subst hm
    obtain ⟨r, p', m', x', e, a, b, c⟩ := draw_2 s p x many hp h1 h2
    exact ⟨r, _, e, ⟨s, p', m', x', c, rfl⟩, a, b⟩
  · exact ⟨_, _, draw_1 s p m x many hp hm h1 h2, ⟨s, p, _, x, hp, rfl⟩, Int.emod_nonneg _ (by omega), Int.emod_lt_of_pos _ (by omega)⟩
/-- the tape at first -/
theorem tape_at : ∀ (ns : List Int) (all : List Int) (m : Int), ∃ m', forL (dNm 2) (dThenKill (dSet 1 (dV (dBin dMod (dCallB intD (dCons (dBin dAdd (dBin dMul (dVar 1) (dC (.int 31))) (dCallB absD (dCons (dCallB intD (dCons (dVar 2) dNil)) dNil))) dNil)) (dC (.int 2147483647))))) [2]) (ns.map .int) [some (.val (.list (all.map .int))), some (.val (.int m)), none] = some (.nx [some (.val (.list (all.map .int))), some (.val (.int m')), none])
  | [], all, m => ⟨m, rfl⟩
  | n :: ns, all, m => by
    obtain ⟨m', h⟩ := tape_at ns all ((m * 31 + n.natAbs) % 2147483647)
    refine ⟨m', ?_⟩
    simp only [List.map_cons, forL]
    simp
    exact h
theorem tape (ns : List Int) : ∃ d, m__law_tape [.val (.list (ns.map .int))] = some (.own none d, [none]) ∧ Tape d := by
  obtain ⟨m', h⟩ := tape_at ns ns 7
  refine ⟨_, ?_, ⟨ns, 0, 0, m', by omega, rfl⟩⟩
  unfold m__law_tape F__law_tape
  simp [h]
end LW

namespace LW
open PySem L2 DL
theorem digits_1 (d : D) (base many : Int) (hb : 0 < base) (hb2 : base < 1073741824) : ∀ (xs : List D) (t : Int),
    forL (dNm 4) (dThenKill (dSet 3 (dV (dBin dMul (dVar 3) (dVar 1)))) [4]) xs [some (.own (some 0) d), some (.val (.int base)), some (.val (.int many)), some (.val (.int t)), none, none, none]
      = some (.nx [some (.own (some 0) d), some (.val (.int base)), some (.val (.int many)), some (.val (.int (t * base ^ xs.length))), none, none, none])
  | [], t => by simp [forL]
  | x :: xs, t => by
    have e1 : mulOk t base := mulOk_r ⟨by omega, by omega⟩
    have ih := digits_1 d base many hb hb2 xs (t * base)
    simp only [forL]
    simp [e1]
    rw [ih, Int.pow_succ, Int.mul_assoc, Int.mul_comm base]
def InR (base : Int) (ds : List Int) : Prop := ∀ x ∈ ds, 0 ≤ x ∧ x < base
theorem digits_2 (d : D) (base many t : Int) (hb : 0 < base) (hb2 : base < 1073741824) : ∀ (xs : List D) (acc : List Int) (r : Int), InR base acc → acc.length + xs.length ≤ 1000 → ∃ ds r',
    forL (dNm 4) (dSeq (dApp 6 (dBin dMod (dCallB intD (dCons (dVar 5) dNil)) (dVar 1))) (dThenKill (dSet 5 (dV (dBin dDiv (dVar 5) (dVar 1)))) [4])) xs [some (.own (some 0) d), some (.val (.int base)), some (.val (.int many)), some (.val (.int t)), none, some (.val (.int r)), some (.own none (.list (acc.map .int)))]
      = some (.nx [some (.own (some 0) d), some (.val (.int base)), some (.val (.int many)), some (.val (.int t)), none, some (.val (.int r')), some (.own none (.list (ds.map .int)))]) ∧ ds.length = acc.length + xs.length ∧ InR base ds
  | [], acc, r, h, _ => ⟨acc, r, rfl, rfl, h⟩
  | x :: xs, acc, r, h, hl => by
    simp only [List.length_cons] at hl
    have hl2 : (acc ++ [r % base]).length + xs.length ≤ 1000 := by simp only [List.length_append, List.length_cons, List.length_nil]; omega
    have h2 : InR base (acc ++ [r % base]) := fun x hx => by
      rcases List.mem_append.mp hx with hx | hx
      · exact h x hx
      · rw [List.mem_singleton.mp hx]
        exact ⟨Int.emod_nonneg _ (by omega), Int.emod_lt_of_pos _ hb⟩
    obtain ⟨ds, r', e, a, b⟩ := digits_2 d base many t hb hb2 xs (acc ++ [r % base]) (r / base) h2 hl2
    refine ⟨ds, r', ?_, by rw [a]; simp only [List.length_append, List.length_cons, List.length_nil]; omega, b⟩
    have hl3 : acc.length < 16777216 := by omega
    simp only [forL]
    simp [hb, hb2, hl3]
    rw [← e]
    simp
theorem digits_core {d d' : D} {base n t r r' : Int} {xs : List D} {ds : List Int} (h0 : rng1 (.int n) = some xs)
    (h1 : forL (dNm 4) (dThenKill (dSet 3 (dV (dBin dMul (dVar 3) (dVar 1)))) [4]) xs [some (.own (some 0) d), some (.val (.int base)), some (.val (.int n)), some (.val (.int 1)), none, none, none]
      = some (.nx [some (.own (some 0) d), some (.val (.int base)), some (.val (.int n)), some (.val (.int t)), none, none, none]))
    (h2 : m__law_draw [.own (some 0) d, .val (.int t)] = some (.val (.int r), [some (.own (some 0) d'), none]))
    (h3 : forL (dNm 4) (dSeq (dApp 6 (dBin dMod (dCallB intD (dCons (dVar 5) dNil)) (dVar 1))) (dThenKill (dSet 5 (dV (dBin dDiv (dVar 5) (dVar 1)))) [4])) xs [some (.own (some 0) d'), some (.val (.int base)), some (.val (.int n)), some (.val (.int t)), none, some (.val (.int r)), some (.own none (.list []))]
      = some (.nx [some (.own (some 0) d'), some (.val (.int base)), some (.val (.int n)), some (.val (.int t)), none, some (.val (.int r')), some (.own none (.list (ds.map .int)))])) :
    m__law_digits [.own (some 0) d, .val (.int base), .val (.int n)] = some (.own none (.list (ds.map .int)), [some (.own (some 0) d'), none, none]) := by
  unfold m__law_digits F__law_digits
  simp [-v_r1, h0, h1, h2, h3]
/-- drawn digits -/
theorem digits {d : D} (T : Tape d) (base : Int) (many : Nat) (hb : 0 < base) (hp : base ^ many < 1073741824) (hb2 : base < 1073741824) (hm : many ≤ 100) :
    ∃ ds d', m__law_digits [.own (some 0) d, .val (.int base), .val (.int many)] = some (.own none (.list (ds.map .int)), [some (.own (some 0) d'), none, none]) ∧ Tape d' ∧ ds.length = many ∧ InR base ds := by
  have p1 : 0 < base ^ many := Int.pow_pos hb
  obtain ⟨r, d', e, T', r0, r1⟩ := draw T (base ^ many) (by omega) hp
  obtain ⟨ds, r', e2, l2, h2⟩ := digits_2 d' base many (base ^ many) hb hb2 (intsFrom 0 many) [] r (fun _ h => nomatch h) (by rw [intsFrom_len]; simp; omega)
  refine ⟨ds, d', ?_, T', by rw [l2, intsFrom_len]; simp, h2⟩
  have e1 := digits_1 d base many hb hb2 (intsFrom 0 many) 1
  rw [intsFrom_len, Int.one_mul] at e1
  exact digits_core (rng1_nat many (by omega)) e1 e e2
end LW

namespace LW
open PySem L2 DL
theorem round_core {d d' : D} {n m r : Int} {ms : List D} (hn : (ms.length : Int) = n) (hm : 3 * n = m) (hk : mulOk 3 n) (h1 : m__law_draw [.own (some 0) d, .val (.int m)] = some (.val (.int r), [some (.own (some 0) d'), none]))
    (hl : (cutD ms (some (r / 3)) none).length + (cutD ms none (some (r / 3))).length ≤ 16777216) :
    m__law_round [.own (some 0) d, .val (.list ms)] = some (.val (.list (if r % 3 = 0 then cutD (cutD ms (some (r / 3)) none ++ cutD ms none (some (r / 3))) none (some 1) else cutD ms (some (r / 3)) none ++ cutD ms none (some (r / 3)))), [some (.own (some 0) d'), none]) := by
  unfold m__law_round F__law_round
  by_cases h : r % 3 = 0
  · simp [hn, hm, hk, h1, hl, h]
  · simp [hn, hm, hk, h1, hl, h]
theorem round {d : D} (T : Tape d) (ms : List D) (h1 : 1 ≤ ms.length) (h2 : ms.length ≤ 1000) : ∃ told d', m__law_round [.own (some 0) d, .val (.list ms)] = some (.val (.list told), [some (.own (some 0) d'), none]) ∧ Tape d' ∧ (∀ x ∈ told, x ∈ ms) ∧ told.length ≤ 2000 := by
  obtain ⟨r, d', e, T', r0, r1⟩ := draw T (3 * (ms.length : Int)) (by omega) (by omega)
  have l1 := cutD_len ms (some (r / 3)) none
  have l2 := cutD_len ms none (some (r / 3))
  refine ⟨_, d', round_core rfl rfl (mulOk_l ⟨by omega, by omega⟩) e (by omega), T', ?_, ?_⟩
  · intro x hx
    split at hx
    · rcases List.mem_append.mp (cutD_mem hx) with hx | hx <;> exact cutD_mem hx
    · rcases List.mem_append.mp hx with hx | hx <;> exact cutD_mem hx
  · split
    · refine Nat.le_trans (cutD_len _ _ _) ?_
      rw [List.length_append]; omega
    · rw [List.length_append]; omega
end LW

namespace LW
open PySem L2 DL
abbrev sameBody (f : Fn) : DS := dThenKill (dIf (dNot (dTest (dF (dCall f [.e (dIxV 0 (dVar 2)), .e (dIxV 1 (dVar 2))])))) (dRet (dV (dC (.bool false)))) dNext) [2]
theorem same_step {f : Fn} {xs ds : List D} {i : Int} {x : D} (hx : atI xs i = some x) (hf : f [.val x, .val x] = some (.val (.bool true), [none, none])) :
    forL (dNm 2) (sameBody f) (.int i :: ds) [some (.val (.tuple xs)), some (.val (.tuple xs)), none] = forL (dNm 2) (sameBody f) ds [some (.val (.tuple xs)), some (.val (.tuple xs)), none] := by
  simp only [forL, sameBody]
  simp [hx, hf]
theorem same_loop {f : Fn} {xs : List D} (hf : ∀ x ∈ xs, f [.val x, .val x] = some (.val (.bool true), [none, none])) : ∀ (n k : Nat), k + n ≤ xs.length →
    forL (dNm 2) (sameBody f) (DL.intsFrom k n) [some (.val (.tuple xs)), some (.val (.tuple xs)), none] = some (.nx [some (.val (.tuple xs)), some (.val (.tuple xs)), none])
  | 0, k, _ => rfl
  | n + 1, k, h => by
    have hk : k < xs.length := by omega
    have e : atI xs (k : Int) = some xs[k] := (atI_nat xs k).trans (List.getElem?_eq_getElem hk)
    rw [DL.intsFrom, same_step e (hf _ (List.getElem_mem hk))]
    exact same_loop hf n (k + 1) (by omega)
theorem same_tup {f : Fn} {xs us : List D} {n : Int} (hl : lenD [.tuple xs] = some (.int n)) (h1 : rng1 (.int n) = some us)
    (h : forL (dNm 2) (sameBody f) us [some (.val (.tuple xs)), some (.val (.tuple xs)), none] = some (.nx [some (.val (.tuple xs)), some (.val (.tuple xs)), none])) :
    defSem 3 (F__law_same f) [.val (.tuple xs), .val (.tuple xs)] = some (.val (.bool true), [none, none]) := by
  unfold F__law_same
  simp only [sameBody] at h
  simp [-v_r1, -v_lenT, hl, h1, h]
theorem same_refl : ∀ (k : Nat) (d : D), simp1 d = true → d.depth + 1 ≤ k → m__law_same k [.val d, .val d] = some (.val (.bool true), [none, none])
  | 0, d, _, h => by omega
  | k + 1, d, hs, hd => by
    show defSem 3 (F__law_same (m__law_same k)) _ = _
    cases d with
    | none => unfold F__law_same; simp
    | bool b => unfold F__law_same; simp
    | int n => unfold F__law_same; simp
    | str u => unfold F__law_same; simp
    | list xs => simp [simp1] at hs
    | dict xs => simp [simp1] at hs
    | tuple xs =>
      rw [simp1, Bool.and_eq_true, decide_eq_true_eq] at hs
      rw [PyData.depth] at hd
      refine same_tup v_lenT (rng1_nat _ hs.1) (same_loop (fun x m => same_refl k x (simpAll_mem hs.2 m) (by have := depthAll_mem m; omega)) xs.length 0 (by omega))
end LW

namespace LW
open PySem L2 DL
def signsS : Str := (" !\"#$&'()*+,-./0123456789:;<=>?@ABCDEFGHIJKLMNOPQRSTUVWXYZ[\\]^_" : Str) ++ ("`abcdefghijklmnopqrstuvwxyz{|}~" : Str)
theorem signs_all : (signsS.cps.toList.all fun c => decide (32 ≤ c) && decide (c ≤ 126)) = true ∧ signsS.cps.toList.length = 94 := by decide +kernel
theorem signs_small : (Str.ofString " !\"#$&'()*+,-./0123456789:;<=>?@ABCDEFGHIJKLMNOPQRSTUVWXYZ[\\]^_").length + (Str.ofString "`abcdefghijklmnopqrstuvwxyz{|}~").length ≤ 16777216 := by decide +kernel
theorem signs : m__law_signs [] = some (.val (.str signsS), []) := by
  unfold m__law_signs F__law_signs
  simp [signs_small, signsS]
theorem sign_at (i : Int) (h0 : 0 ≤ i) (h1 : i < 94) : ∃ c, atI signsS.cps.toList i = some c ∧ Sg c := by
  obtain ⟨c, e, m⟩ := atI_in signsS.cps.toList i h0 (by rw [signs_all.2]; exact h1)
  have := List.all_eq_true.mp signs_all.1 c m
  simp only [Bool.and_eq_true, decide_eq_true_eq] at this
  exact ⟨c, e, this⟩
end LW

namespace LW
open PySem L2 DL
/-! keys of one kind, and their order -/
inductive Key : Bool → D → Prop where
  | one (a : Str) : Tx 40 a → Key false (.str a)
  | two (a b : Str) : Tx 40 a → Tx 40 b → Key true (.tuple [.str a, .str b])
def kk : D → List Nat × List Nat
  | .str a => (a.cps.toList, [])
  | .tuple [.str a, .str b] => (a.cps.toList, b.cps.toList)
  | _ => ([], [])
def klt (x y : D) : Bool := decide ((kk x).1 < (kk y).1 ∨ (kk x).1 = (kk y).1 ∧ (kk x).2 < (kk y).2)
theorem kk_inj {p : Bool} {x y : D} (hx : Key p x) (hy : Key p y) (h : kk x = kk y) : x = y := by
  cases hx with
  | one a ha =>
    cases hy with
    | one b hb =>
      have : a.cps.toList = b.cps.toList := (Prod.mk.injEq _ _ _ _ ▸ h : _ ∧ _).1
      rw [← S'_of a, this, S'_of]
  | two a b ha hb =>
    cases hy with
    | two c d hc hd =>
      have h2 : a.cps.toList = c.cps.toList ∧ b.cps.toList = d.cps.toList := (Prod.mk.injEq _ _ _ _ ▸ h : _ ∧ _)
      rw [← S'_of a, h2.1, S'_of, ← S'_of b, h2.2, S'_of]
theorem nlt_tri {a b : List Nat} (h : ¬ a < b) (h2 : ¬ b < a) : a = b := List.le_antisymm (List.not_lt.mp h2) (List.not_lt.mp h)
theorem klt_irrefl (x : D) : klt x x = false := by
  unfold klt
  rw [decide_eq_false]
  rintro (h | ⟨_, h⟩)
  · exact List.lt_irrefl _ h
  · exact List.lt_irrefl _ h
theorem klt_trans {x y z : D} (h : klt x y = true) (g : klt y z = true) : klt x z = true := by
  unfold klt at *
  rw [decide_eq_true_eq] at *
  rcases h with h | ⟨h, h'⟩
  · rcases g with g | ⟨g, g'⟩
    · exact .inl (List.lt_trans h g)
    · exact .inl (g ▸ h)
  · rcases g with g | ⟨g, g'⟩
    · exact .inl (h ▸ g)
    · exact .inr ⟨h.trans g, List.lt_trans h' g'⟩
theorem klt_tri {p : Bool} {x y : D} (hx : Key p x) (hy : Key p y) (h : klt x y = false) (g : klt y x = false) : x = y := by
  unfold klt at *
  rw [decide_eq_false_iff_not] at *
  have e1 : (kk x).1 = (kk y).1 := nlt_tri (fun z => h (.inl z)) (fun z => g (.inl z))
  have e2 : (kk x).2 = (kk y).2 := nlt_tri (fun z => h (.inr ⟨e1, z⟩)) (fun z => g (.inr ⟨e1.symm, z⟩))
  exact kk_inj hx hy (Prod.ext e1 e2)
theorem klt_asymm {x y : D} (h : klt x y = true) : klt y x = false := by
  cases g : klt y x with
  | false => rfl
  | true => have := klt_trans h g; rw [klt_irrefl] at this; cases this
/-! what the program's comparisons tell -/
theorem Tx.small {n : Nat} {a : Str} (h : Tx n a) : True := trivial
theorem str_eqv (a b : Str) : PyData.eqv (.str a) (.str b) = decide (a = b) := by
  unfold PyData.eqv
  simp [beq_dec]
theorem cps_eq {a b : Str} : a = b ↔ a.cps.toList = b.cps.toList := ⟨fun h => by rw [h], fun h => by rw [← S'_of a, h, S'_of]⟩
theorem key_facts {p : Bool} {x y : D} (hx : Key p x) (hy : Key p y) : ordD .Lt x y = some (klt x y) ∧ ordD .LtE x y = some (!klt y x) ∧ PySem.W.dataLt x y = klt x y ∧ PyData.eqv x y = decide (kk x = kk y) ∧ PySem.W.alike x y = true ∧ cmpOk x = true ∧ x.depth ≤ 1 ∧ DL.plain x = true ∧ isNoneD x = false := by
  cases hx with
  | one a ha =>
    cases hy with
    | one b hb =>
      have e : PyData.eqv (.str a) (.str b) = decide (kk (.str a) = kk (.str b)) := by
        rw [str_eqv]
        congr 1
        simp only [kk, Prod.mk.injEq, and_true, cps_eq]
      have k1 : klt (.str a) (.str b) = decide (a.cps.toList < b.cps.toList) := by simp [klt, kk]
      have k2 : klt (.str b) (.str a) = decide (b.cps.toList < a.cps.toList) := by simp [klt, kk]
      refine ⟨?_, ?_, ?_, e, rfl, rfl, Nat.zero_le _, rfl, rfl⟩
      · rw [k1]; show (if _ then _ else _) = _; rw [if_pos ⟨rfl, rfl, rfl⟩]; simp only [ordV, ordS]
      · rw [k2]; show (if _ then _ else _) = _; rw [if_pos ⟨rfl, rfl, rfl⟩]; simp only [ordV, ordS]
      · rw [PySem.W.dataLt_str, k1]
  | two a b ha hb =>
    cases hy with
    | two c d hc hd =>
      have e : PyData.eqv (.tuple [.str a, .str b]) (.tuple [.str c, .str d]) = decide (kk (.tuple [.str a, .str b]) = kk (.tuple [.str c, .str d])) := by
        have : PyData.eqv (.tuple [.str a, .str b]) (.tuple [.str c, .str d]) = (PyData.eqv (.str a) (.str c) && (PyData.eqv (.str b) (.str d) && true)) := by
          simp only [PyData.eqv, PyData.eqvAll]
        rw [this, str_eqv, str_eqv]
        simp only [kk, Prod.mk.injEq, cps_eq (a := a), cps_eq (a := b), Bool.and_true, Bool.decide_and]
      have k1 : ∀ a b c d : Str, klt (.tuple [.str a, .str b]) (.tuple [.str c, .str d]) = decide (a.cps.toList < c.cps.toList ∨ a.cps.toList = c.cps.toList ∧ b.cps.toList < d.cps.toList) := fun _ _ _ _ => by simp [klt, kk]
      refine ⟨?_, ?_, ?_, e, rfl, rfl, Nat.le_refl _, rfl, rfl⟩
      · rw [k1]; show (if _ then _ else _) = _; rw [if_pos ⟨rfl, rfl, rfl⟩]
        simp only [ordV, ordAllV, str_eqv, decide_eq_true_eq, ordS, ordN, cps_eq (a := a), cps_eq (a := b)]
        congr 1
        by_cases h1 : a.cps.toList = c.cps.toList
        · by_cases h2 : b.cps.toList = d.cps.toList
          · simp [h1, h2, List.lt_irrefl]
          · simp [h1, h2, List.lt_irrefl]
        · simp [h1]
      · rw [k1]; show (if _ then _ else _) = _; rw [if_pos ⟨rfl, rfl, rfl⟩]
        simp only [ordV, ordAllV, str_eqv, decide_eq_true_eq, ordS, ordN, cps_eq (a := a), cps_eq (a := b)]
        congr 1
        by_cases h1 : a.cps.toList = c.cps.toList
        · by_cases h2 : b.cps.toList = d.cps.toList
          · simp [h1, h2, List.lt_irrefl]
          · simp [h1, h2, List.lt_irrefl]
        · have h1' : ¬ c.cps.toList = a.cps.toList := fun z => h1 z.symm
          simp [h1, h1']
      · rw [k1, PySem.W.dataLt_pair rfl rfl, PySem.W.dataLt_str, PySem.W.dataLt_str]
        simp only [str_eqv, decide_eq_true_eq, cps_eq (a := a), cps_eq (a := b)]
        by_cases h1 : a.cps.toList = c.cps.toList
        · by_cases h2 : b.cps.toList = d.cps.toList
          · simp [h1, h2, List.lt_irrefl]
          · simp [h1, h2, List.lt_irrefl]
        · simp [h1]
end LW

namespace LW
open PySem L2 DL
/-! points in their order, intervals as rows of segments -/
structure Pts (p : Bool) (ps : List D) : Prop where
  keys : ∀ x ∈ ps, Key p x
  srt : ps.Pairwise fun x y => klt x y = true
  few : ps.length ≤ 1000
def pt (ps : List D) (k : Nat) : D := ps.getD k .none
abbrev E (ps : List D) (r : Nat × Nat) : D := .tuple [pt ps r.1, pt ps r.2]
section
variable {p : Bool} {ps : List D} {i j k : Nat}
theorem pt_in (h : k < ps.length) : pt ps k = ps[k] := by
  unfold pt
  rw [List.getD_eq_getElem?_getD, List.getElem?_eq_getElem h]
  rfl
theorem pt_out (h : ps.length ≤ k) : pt ps k = .none := by
  unfold pt
  rw [List.getD_eq_getElem?_getD, List.getElem?_eq_none h]
  rfl
theorem Pts.key (P : Pts p ps) (h : k < ps.length) : Key p (pt ps k) := by
  rw [pt_in h]
  exact P.keys _ (List.getElem_mem h)
theorem Pts.lt (P : Pts p ps) (hi : i < ps.length) (hj : j < ps.length) : klt (pt ps i) (pt ps j) = decide (i < j) := by
  rw [pt_in hi, pt_in hj]
  have h := List.pairwise_iff_getElem.mp P.srt
  by_cases h1 : i < j
  · rw [decide_eq_true h1]
    exact h i j hi hj h1
  · rw [decide_eq_false h1]
    by_cases h2 : i = j
    · subst h2; exact klt_irrefl _
    · exact klt_asymm (h j i hj hi (by omega))
theorem Pts.none (P : Pts p ps) : isNoneD (pt ps k) = decide (ps.length ≤ k) := by
  by_cases h : ps.length ≤ k
  · rw [pt_out h, decide_eq_true h]; rfl
  · rw [decide_eq_false h]
    have h' : k < ps.length := by omega
    exact (key_facts (P.key h') (P.key h')).2.2.2.2.2.2.2.2
theorem Pts.ltD (P : Pts p ps) (hi : i < ps.length) (hj : j < ps.length) : ordD .Lt (pt ps i) (pt ps j) = some (decide (i < j)) := by
  rw [(key_facts (P.key hi) (P.key hj)).1, P.lt hi hj]
theorem Pts.leD (P : Pts p ps) (hi : i < ps.length) (hj : j < ps.length) : ordD .LtE (pt ps i) (pt ps j) = some (decide (i ≤ j)) := by
  rw [(key_facts (P.key hi) (P.key hj)).2.1, P.lt hj hi]
  by_cases h : j < i
  · rw [decide_eq_true h, decide_eq_false (by omega)]; rfl
  · rw [decide_eq_false h, decide_eq_true (by omega)]; rfl
theorem alikeOk_keys {ds : List D} (h : ∀ x ∈ ds, Key p x) : alikeOk ds = true := by
  unfold alikeOk cmpOk
  simp only [Bool.and_eq_true, List.all_eq_true, decide_eq_true_eq]
  refine ⟨⟨⟨?_, ?_⟩, fun a ha b hb => (key_facts (h a ha) (h b hb)).2.2.2.2.1⟩, fun a ha => ?_⟩
  · rw [DL.plain]
    exact plainAll_of fun d m => (key_facts (h d m) (h d m)).2.2.2.2.2.2.2.1
  · rw [PyData.depth]
    have := depthAll_of (n := 1) fun d m => (key_facts (h d m) (h d m)).2.2.2.2.2.2.1
    omega
  · rw [(key_facts (h a ha) (h a ha)).2.2.2.2.2.2.2.2]; rfl
theorem maxV_key {x y : D} (hx : Key p x) (hy : Key p y) : maxV [x, y] = some (if klt x y = true then y else x) := by
  have a : alikeOk [x, y] = true := alikeOk_keys (p := p) fun z m => by
    rcases List.mem_cons.mp m with rfl | m
    · exact hx
    · rw [List.mem_singleton.mp m]; exact hy
  rw [← (key_facts hx hy).2.2.1]
  cases hx <;> cases hy <;> simp only [maxV, a, if_true]
theorem minV_key {x y : D} (hx : Key p x) (hy : Key p y) : minV [x, y] = some (if klt y x = true then y else x) := by
  have a : alikeOk [x, y] = true := alikeOk_keys (p := p) fun z m => by
    rcases List.mem_cons.mp m with rfl | m
    · exact hx
    · rw [List.mem_singleton.mp m]; exact hy
  rw [← (key_facts hy hx).2.2.1]
  cases hx <;> cases hy <;> simp only [minV, a, if_true]
theorem Pts.max (P : Pts p ps) (hi : i < ps.length) (hj : j < ps.length) : maxV [pt ps i, pt ps j] = some (pt ps (max i j)) := by
  rw [maxV_key (P.key hi) (P.key hj), P.lt hi hj]
  by_cases h : i < j
  · rw [decide_eq_true h, if_pos rfl, show Max.max i j = j by omega]
  · rw [decide_eq_false h, if_neg Bool.false_ne_true, show Max.max i j = i by omega]
theorem Pts.min (P : Pts p ps) (hi : i < ps.length) (hj : j < ps.length) : minV [pt ps i, pt ps j] = some (pt ps (min i j)) := by
  rw [minV_key (P.key hi) (P.key hj), P.lt hj hi]
  by_cases h : j < i
  · rw [decide_eq_true h, if_pos rfl, show Min.min i j = j by omega]
  · rw [decide_eq_false h, if_neg Bool.false_ne_true, show Min.min i j = i by omega]
theorem key_simp1 {x : D} (h : Key p x) : simp1 x = true := by cases h <;> rfl
theorem Pts.simp (P : Pts p ps) (k : Nat) : simp1 (pt ps k) = true ∧ (pt ps k).depth ≤ 1 := by
  by_cases h : k < ps.length
  · exact ⟨key_simp1 (P.key h), (key_facts (P.key h) (P.key h)).2.2.2.2.2.2.1⟩
  · rw [pt_out (by omega)]; exact ⟨rfl, Nat.zero_le _⟩
theorem Pts.simpE (P : Pts p ps) (r : Nat × Nat) : simp1 (E ps r) = true ∧ (E ps r).depth ≤ 2 := by
  refine ⟨?_, ?_⟩
  · show (decide (2 ≤ 1000000) && (simp1 (pt ps r.1) && (simp1 (pt ps r.2) && true))) = true
    rw [(P.simp r.1).1, (P.simp r.2).1]
    rfl
  · show Nat.max (PyData.depth _) (Nat.max (PyData.depth _) 0) + 1 ≤ 2
    have h1 := (P.simp r.1).2
    have h2 := (P.simp r.2).2
    have : Nat.max (pt ps r.1).depth (Nat.max (pt ps r.2).depth 0) ≤ 1 := Nat.max_le.mpr ⟨h1, Nat.max_le.mpr ⟨h2, Nat.zero_le _⟩⟩
    omega
theorem Pts.simpEs (P : Pts p ps) (rs : List (Nat × Nat)) (h : rs.length ≤ 1000) : simp1 (.tuple (rs.map (E ps))) = true ∧ (PyData.tuple (rs.map (E ps))).depth ≤ 3 := by
  refine ⟨?_, ?_⟩
  · rw [simp1, Bool.and_eq_true, decide_eq_true_eq, List.length_map]
    exact ⟨by omega, simpAll_of fun d m => by obtain ⟨r, _, rfl⟩ := List.mem_map.mp m; exact (P.simpE r).1⟩
  · rw [PyData.depth]
    have := depthAll_of (ds := rs.map (E ps)) (n := 2) fun d m => by obtain ⟨r, _, rfl⟩ := List.mem_map.mp m; exact (P.simpE r).2
    omega
end
/-! rows of segments -/
structure Can (rs : List (Nat × Nat)) : Prop where
  ne : ∀ r ∈ rs, r.1 < r.2
  gap : rs.Pairwise fun x y => x.2 < y.1
def inR (rs : List (Nat × Nat)) (j : Nat) : Prop := ∃ r ∈ rs, r.1 ≤ j ∧ j < r.2
theorem Can.nil : Can [] := ⟨fun _ m => (nomatch m), .nil⟩
theorem Can.tail {r : Nat × Nat} {rs : List (Nat × Nat)} (h : Can (r :: rs)) : Can rs := ⟨fun x m => h.ne x (List.mem_cons_of_mem _ m), (List.pairwise_cons.mp h.gap).2⟩
theorem can_uniq : ∀ {R S : List (Nat × Nat)}, Can R → Can S → (∀ j, inR R j ↔ inR S j) → R = S
  | [], [], _, _, _ => rfl
  | [], s :: S, _, hS, h => by
    obtain ⟨r, m, _⟩ := (h s.1).mpr ⟨s, List.mem_cons_self, Nat.le_refl _, hS.ne s List.mem_cons_self⟩
    cases m
  | r :: R, [], hR, _, h => by
    obtain ⟨s, m, _⟩ := (h r.1).mp ⟨r, List.mem_cons_self, Nat.le_refl _, hR.ne r List.mem_cons_self⟩
    cases m
  | r :: R, s :: S, hR, hS, h => by
    have gR := (List.pairwise_cons.mp hR.gap).1
    have gS := (List.pairwise_cons.mp hS.gap).1
    have nr := hR.ne r List.mem_cons_self
    have ns := hS.ne s List.mem_cons_self
    have e1 : r.1 = s.1 := by
      obtain ⟨x, m, a, b⟩ := (h r.1).mp ⟨r, List.mem_cons_self, Nat.le_refl _, nr⟩
      obtain ⟨y, m', a', b'⟩ := (h s.1).mpr ⟨s, List.mem_cons_self, Nat.le_refl _, ns⟩
      have k1 : s.1 ≤ r.1 := by
        rcases List.mem_cons.mp m with rfl | m
        · exact a
        · have := gS x m; omega
      have k2 : r.1 ≤ s.1 := by
        rcases List.mem_cons.mp m' with rfl | m'
        · exact a'
        · have := gR y m'; omega
      omega
    have oR : ¬ inR (r :: R) r.2 := by
      rintro ⟨x, m, a, b⟩
      rcases List.mem_cons.mp m with rfl | m
      · omega
      · have := gR x m; omega
    have oS : ¬ inR (s :: S) s.2 := by
      rintro ⟨x, m, a, b⟩
      rcases List.mem_cons.mp m with rfl | m
      · omega
      · have := gS x m; omega
    have e2 : r.2 = s.2 := by
      by_cases c1 : r.2 < s.2
      · exact absurd ((h r.2).mpr ⟨s, List.mem_cons_self, by omega, c1⟩) oR
      · by_cases c2 : s.2 < r.2
        · exact absurd ((h s.2).mp ⟨r, List.mem_cons_self, by omega, c2⟩) oS
        · omega
    have ers : r = s := Prod.ext e1 e2
    subst ers
    rw [can_uniq hR.tail hS.tail fun j => ?_]
    constructor
    · rintro ⟨x, m, a, b⟩
      obtain ⟨y, m', a', b'⟩ := (h j).mp ⟨x, List.mem_cons_of_mem _ m, a, b⟩
      rcases List.mem_cons.mp m' with rfl | m'
      · have := gR x m; omega
      · exact ⟨y, m', a', b'⟩
    · rintro ⟨x, m, a, b⟩
      obtain ⟨y, m', a', b'⟩ := (h j).mpr ⟨x, List.mem_cons_of_mem _ m, a, b⟩
      rcases List.mem_cons.mp m' with rfl | m'
      · have := gS x m; omega
      · exact ⟨y, m', a', b'⟩
end LW

namespace LW
open PySem L2 DL
theorem at2 {a b : D} : atI [a, b] 0 = some a ∧ atI [a, b] 1 = some b := ⟨rfl, rfl⟩
section
variable {lo hi x al ah bl bh m h c : D} {p q n na nb e : Bool}
theorem c_law_has (h1 : ordD .LtE lo x = some p) (hn : isNoneD hi = n) (h2 : n = false → ordD .Lt x hi = some q) : m__law_has [.val (.tuple [lo, hi]), .val x] = some (.val (.bool (p && (n || q))), [none, none]) := by
  unfold m__law_has F__law_has
  cases p
  · simp [at2, h1]
  · cases n
    · simp [at2, h1, hn, h2 rfl]
    · simp [at2, h1, hn]
theorem c_has_key (h1 : ordD .LtE lo x = some p) (hn : isNoneD hi = n) (h2 : n = false → ordD .Lt x hi = some q) : m_has_key [.val (.tuple [lo, hi]), .val x] = some (.val (.bool (p && (n || q))), [none, none]) := by
  unfold m_has_key F_has_key
  cases p
  · simp [at2, h1]
  · cases n
    · simp [at2, h1, hn, h2 rfl]
    · simp [at2, h1, hn]
theorem c_is_empty (hn : isNoneD hi = n) (h2 : n = false → ordD .LtE hi lo = some q) : m_is_empty [.val (.tuple [lo, hi])] = some (.val (.bool (!n && q)), [none]) := by
  unfold m_is_empty F_is_empty
  cases n
  · simp [at2, hn, h2 rfl]
  · simp [at2, hn]
theorem c_lesser (hna : isNoneD ah = na) (hnb : isNoneD bh = nb) (h2 : na = false → nb = false → ordD .Lt ah bh = some q) : m_lesser_high [.val ah, .val bh] = some (.val (if na = true then bh else if nb = true then ah else if q = true then ah else bh), [none, none]) := by
  unfold m_lesser_high F_lesser_high
  cases na
  · cases nb
    · cases q <;> simp [hna, hnb, h2 rfl rfl]
    · simp [hna, hnb]
  · simp [hna]
theorem c_common (h1 : maxV [al, bl] = some m) (h2 : m_lesser_high [.val ah, .val bh] = some (.val h, [none, none])) (h3 : m_is_empty [.val (.tuple [m, h])] = some (.val (.bool e), [none])) :
    m_common_part [.val (.tuple [al, ah]), .val (.tuple [bl, bh])] = some (.val (if e = true then .none else .tuple [m, h]), [none, none]) := by
  unfold m_common_part F_common_part
  cases e <;> simp [at2, h1, h2, h3]
theorem c_overlap {a b : D} (h1 : m_common_part [.val a, .val b] = some (.val c, [none, none])) : m_is_overlapping [.val a, .val b] = some (.val (.bool (!isNoneD c)), [none, none]) := by
  unfold m_is_overlapping F_is_overlapping
  simp [h1]
theorem c_cover (h1 : ordD .Lt bl al = some p) (hna : isNoneD ah = na) (hnb : isNoneD bh = nb) (h2 : na = false → nb = false → ordD .LtE bh ah = some q) :
    m_is_covering [.val (.tuple [al, ah]), .val (.tuple [bl, bh])] = some (.val (.bool (!p && (na || (!nb && q)))), [none, none]) := by
  unfold m_is_covering F_is_covering
  cases p
  · cases na
    · cases nb
      · simp [at2, h1, hna, hnb, h2 rfl rfl]
      · simp [at2, h1, hna, hnb]
    · simp [at2, h1, hna]
  · simp [at2, h1]
theorem c_join (h1 : minV [al, bl] = some m) (hna : isNoneD ah = na) (hnb : isNoneD bh = nb) (h2 : na = false → nb = false → maxV [ah, bh] = some h) :
    m_join_of [.val (.tuple [al, ah]), .val (.tuple [bl, bh])] = some (.val (if (na || nb) = true then .tuple [m, .none] else .tuple [m, h]), [none, none]) := by
  unfold m_join_of F_join_of
  cases na
  · cases nb
    · simp [at2, h1, hna, hnb, h2 rfl rfl]
    · simp [at2, h1, hna, hnb]
  · simp [at2, h1, hna]
theorem c_left0 {e1 : Bool} (h1 : m_lesser_high [.val ah, .val bl] = some (.val h, [none, none])) (hnb : isNoneD bh = true) (h3 : m_is_empty [.val (.tuple [al, h])] = some (.val (.bool e1), [none])) :
    m_left_of [.val (.tuple [al, ah]), .val (.tuple [bl, bh])] = some (.val (.tuple (if e1 = true then [] else [.tuple [al, h]])), [none, none]) := by
  unfold m_left_of F_left_of
  cases e1 <;> simp [at2, h1, hnb, h3, lcL, wipeD]
theorem c_left1 {e1 e2 : Bool} (h1 : m_lesser_high [.val ah, .val bl] = some (.val h, [none, none])) (hnb : isNoneD bh = false) (h2 : maxV [al, bh] = some m) (h3 : m_is_empty [.val (.tuple [al, h])] = some (.val (.bool e1), [none])) (h4 : m_is_empty [.val (.tuple [m, ah])] = some (.val (.bool e2), [none])) :
    m_left_of [.val (.tuple [al, ah]), .val (.tuple [bl, bh])] = some (.val (.tuple ((if e1 = true then [] else [.tuple [al, h]]) ++ (if e2 = true then [] else [.tuple [m, ah]]))), [none, none]) := by
  unfold m_left_of F_left_of
  cases e1 <;> cases e2 <;> simp [at2, h1, hnb, h2, h3, h4, lcL, wipeD]
end
/-! over points -/
section
variable {p : Bool} {ps : List D}
theorem P_law_has (P : Pts p ps) {l h k : Nat} (hl : l < ps.length) (hh : h ≤ ps.length) (hk : k < ps.length) : m__law_has [.val (E ps (l, h)), .val (pt ps k)] = some (.val (.bool (decide (l ≤ k ∧ k < h))), [none, none]) := by
  by_cases c : h < ps.length
  · rw [c_law_has (P.leD hl hk) (n := false) (by rw [P.none]; exact decide_eq_false (by omega)) fun _ => P.ltD hk c]
    simp
  · rw [c_law_has (P.leD hl hk) (n := true) (q := true) (by rw [P.none]; exact decide_eq_true (by omega)) (fun z => by cases z)]
    have : k < h := by omega
    simp [this]
theorem P_empty (P : Pts p ps) {l h : Nat} (hl : l < ps.length) (hh : h ≤ ps.length) : m_is_empty [.val (E ps (l, h))] = some (.val (.bool (decide (h ≤ l))), [none]) := by
  by_cases c : h < ps.length
  · rw [c_is_empty (n := false) (by rw [P.none]; exact decide_eq_false (by omega)) fun _ => P.leD c hl]
    simp
  · rw [c_is_empty (n := true) (q := true) (by rw [P.none]; exact decide_eq_true (by omega)) (fun z => by cases z)]
    have : ¬ h ≤ l := by omega
    simp [this]
theorem P_lesser (P : Pts p ps) {i j : Nat} (hi : i ≤ ps.length) (hj : j ≤ ps.length) : m_lesser_high [.val (pt ps i), .val (pt ps j)] = some (.val (pt ps (min i j)), [none, none]) := by
  by_cases c : i < ps.length
  · by_cases d : j < ps.length
    · rw [c_lesser (na := false) (nb := false) (by rw [P.none]; exact decide_eq_false (by omega)) (by rw [P.none]; exact decide_eq_false (by omega)) fun _ _ => P.ltD c d]
      by_cases k : i < j
      · simp [k, show min i j = i by omega]
      · simp [k, show min i j = j by omega]
    · rw [c_lesser (na := false) (nb := true) (q := true) (by rw [P.none]; exact decide_eq_false (by omega)) (by rw [P.none]; exact decide_eq_true (by omega)) (fun _ z => by cases z)]
      simp [show min i j = i by omega]
  · rw [c_lesser (na := true) (q := true) (by rw [P.none]; exact decide_eq_true (by omega)) rfl (fun z => by cases z)]
    simp [show min i j = j by omega]
theorem P_common (P : Pts p ps) {al ah bl bh : Nat} (h1 : al < ps.length) (h2 : ah ≤ ps.length) (h3 : bl < ps.length) (h4 : bh ≤ ps.length) :
    m_common_part [.val (E ps (al, ah)), .val (E ps (bl, bh))] = some (.val (if max al bl < min ah bh then E ps (max al bl, min ah bh) else .none), [none, none]) := by
  rw [c_common (P.max h1 h3) (P_lesser P h2 h4) (P_empty P (by omega) (by omega))]
  by_cases c : max al bl < min ah bh
  · simp only [c, if_true, decide_eq_true_eq]
    rw [if_neg (by omega)]
  · simp only [c, if_false, decide_eq_true_eq]
    rw [if_pos (by omega)]
theorem P_overlap (P : Pts p ps) {al ah bl bh : Nat} (h1 : al < ps.length) (h2 : ah ≤ ps.length) (h3 : bl < ps.length) (h4 : bh ≤ ps.length) :
    m_is_overlapping [.val (E ps (al, ah)), .val (E ps (bl, bh))] = some (.val (.bool (decide (max al bl < min ah bh))), [none, none]) := by
  rw [c_overlap (P_common P h1 h2 h3 h4)]
  by_cases c : max al bl < min ah bh
  · simp only [c, if_true, decide_true]
    rfl
  · simp only [c, if_false, decide_false]
    rfl
theorem P_cover (P : Pts p ps) {al ah bl bh : Nat} (h1 : al < ps.length) (h2 : ah ≤ ps.length) (h3 : bl < ps.length) (h4 : bh ≤ ps.length) :
    m_is_covering [.val (E ps (al, ah)), .val (E ps (bl, bh))] = some (.val (.bool (decide (al ≤ bl ∧ bh ≤ ah))), [none, none]) := by
  have key : ∀ x y : Bool, x = y → some (SV.val (PyData.bool x), ([none, none] : DSt)) = some (.val (.bool y), [none, none]) := fun x y h => by rw [h]
  by_cases c : ah < ps.length
  · by_cases d : bh < ps.length
    · rw [c_cover (na := false) (nb := false) (P.ltD h3 h1) (by rw [P.none]; exact decide_eq_false (by omega)) (by rw [P.none]; exact decide_eq_false (by omega)) fun _ _ => P.leD d c]
      apply key
      rw [Bool.eq_iff_iff]
      simp
    · rw [c_cover (na := false) (nb := true) (q := true) (P.ltD h3 h1) (by rw [P.none]; exact decide_eq_false (by omega)) (by rw [P.none]; exact decide_eq_true (by omega)) (fun _ z => by cases z)]
      apply key
      rw [Bool.eq_iff_iff]
      simp
      omega
  · rw [c_cover (na := true) (q := true) (P.ltD h3 h1) (by rw [P.none]; exact decide_eq_true (by omega)) rfl (fun z => by cases z)]
    apply key
    rw [Bool.eq_iff_iff]
    simp
    omega
theorem P_join (P : Pts p ps) {al ah bl bh : Nat} (h1 : al < ps.length) (h2 : ah ≤ ps.length) (h3 : bl < ps.length) (h4 : bh ≤ ps.length) :
    m_join_of [.val (E ps (al, ah)), .val (E ps (bl, bh))] = some (.val (E ps (min al bl, max ah bh)), [none, none]) := by
  by_cases c : ah < ps.length
  · by_cases d : bh < ps.length
    · rw [c_join (na := false) (nb := false) (P.min h1 h3) (by rw [P.none]; exact decide_eq_false (by omega)) (by rw [P.none]; exact decide_eq_false (by omega)) fun _ _ => P.max c d]
      simp
    · rw [c_join (na := false) (nb := true) (h := .none) (P.min h1 h3) (by rw [P.none]; exact decide_eq_false (by omega)) (by rw [P.none]; exact decide_eq_true (by omega)) (fun _ z => by cases z)]
      have : pt ps (max ah bh) = .none := pt_out (by omega)
      simp [this]
  · rw [c_join (na := true) (h := .none) (P.min h1 h3) (by rw [P.none]; exact decide_eq_true (by omega)) rfl (fun z => by cases z)]
    have : pt ps (max ah bh) = .none := pt_out (by omega)
    simp [this]
/-- what is left of one range without another -/
def minus (a b : Nat × Nat) : List (Nat × Nat) := (if a.1 < min a.2 b.1 then [(a.1, min a.2 b.1)] else []) ++ (if max a.1 b.2 < a.2 then [(max a.1 b.2, a.2)] else [])
theorem P_left (P : Pts p ps) {al ah bl bh : Nat} (h1 : al < ps.length) (h2 : ah ≤ ps.length) (h3 : bl < ps.length) (h4 : bh ≤ ps.length) :
    m_left_of [.val (E ps (al, ah)), .val (E ps (bl, bh))] = some (.val (.tuple ((minus (al, ah) (bl, bh)).map (E ps))), [none, none]) := by
  have key : ∀ x y : List D, x = y → some (SV.val (PyData.tuple x), ([none, none] : DSt)) = some (.val (.tuple y), [none, none]) := fun x y h => by rw [h]
  have t1 : ∀ l h : Nat, (if decide (h ≤ l) = true then ([] : List D) else [E ps (l, h)]) = (if l < h then [(l, h)] else []).map (E ps) := fun l h => by
    by_cases c : l < h
    · rw [if_pos c, if_neg (by simp; omega)]; rfl
    · rw [if_neg c, if_pos (by simp; omega)]; rfl
  by_cases d : bh < ps.length
  · rw [c_left1 (P_lesser P h2 (by omega)) (by rw [P.none]; exact decide_eq_false (by omega)) (P.max h1 d) (P_empty P h1 (by omega)) (P_empty P (by omega) h2)]
    apply key
    unfold minus
    rw [List.map_append, ← t1, ← t1]
  · rw [c_left0 (P_lesser P h2 (by omega)) (by rw [P.none]; exact decide_eq_true (by omega)) (P_empty P h1 (by omega))]
    apply key
    unfold minus
    have : ¬ max al bh < ah := by omega
    rw [if_neg this, List.append_nil, ← t1]
end
end LW

namespace LW
open PySem L2 DL
/-! comprehensions in general -/
theorem lc_gen {tg : DG} {tt : DB} {te : DF} {vs : List Nat} {st : DSt} {g : D → D} : ∀ (ds acc : List D), (∀ d ∈ ds, ∀ ds' acc' : List D, acc'.length < 16777216 → lcL tg tt te vs (d :: ds') st acc' = lcL tg tt te vs ds' st (acc' ++ [g d])) → acc.length + ds.length ≤ 1000000 → lcL tg tt te vs ds st acc = some (acc ++ ds.map g, st)
  | [], acc, _, _ => by simp [lcL]
  | d :: ds, acc, h, hl => by
    simp only [List.length_cons] at hl
    rw [h d List.mem_cons_self ds acc (by omega), lc_gen ds (acc ++ [g d]) (fun x m => h x (List.mem_cons_of_mem _ m)) (by simp only [List.length_append, List.length_cons, List.length_nil]; omega)]
    simp
theorem lc_sel {tg : DG} {tt : DB} {te : DF} {vs : List Nat} {st : DSt} {f : D → Bool} {g : D → D} : ∀ (ds acc : List D), (∀ d ∈ ds, ∀ ds' acc' : List D, acc'.length < 16777216 → lcL tg tt te vs (d :: ds') st acc' = lcL tg tt te vs ds' st (acc' ++ if f d = true then [g d] else [])) → acc.length + ds.length ≤ 1000000 → lcL tg tt te vs ds st acc = some (acc ++ (ds.filter f).map g, st)
  | [], acc, _, _ => by simp [lcL]
  | d :: ds, acc, h, hl => by
    simp only [List.length_cons] at hl
    rw [h d List.mem_cons_self ds acc (by omega), lc_sel ds _ (fun x m => h x (List.mem_cons_of_mem _ m)) (by split <;> simp <;> omega)]
    by_cases c : f d = true
    · simp [c]
    · simp [c]
/-! rows -/
def wsD (n : Nat) (W : Nat → Bool) : List D := (List.range n).map fun j => .bool (W j)
theorem wsD_len (n : Nat) (W : Nat → Bool) : (wsD n W).length = n := by simp [wsD]
theorem wsD_at {n k : Nat} {W : Nat → Bool} (h : k < n) : atI (wsD n W) (k : Int) = some (.bool (W k)) := by
  rw [atI_nat]
  unfold wsD
  rw [List.getElem?_map, List.getElem?_range h]
  rfl
noncomputable abbrev rowsBody : DS := dSeq (dSet 4 (dV (dIfE (dCmpT (ordD .Lt) (dBin dAdd (dVar 3) (dC (.int 1))) (dLenV 0)) (dIxV 0 (dBin dAdd (dVar 3) (dC (.int 1)))) (dC .none))))
    (dThenKill (dIf (dAnd (dTest (dIxV 1 (dVar 3))) (dAnd (dCmpT (ordD .Gt) (dVar 3) (dC (.int 0))) (dTest (dIxV 1 (dBin dSub (dVar 3) (dC (.int 1)))))))
    (dSetIx 2 (dUn dNeg (dC (.int 1))) (dTup (dCons (dIx (dIxV 2 (dUn dNeg (dC (.int 1)))) (dC (.int 0))) (dCons (dVar 4) dNil))))
    (dIf (dTest (dIxV 1 (dVar 3)))
    (dApp 2 (dTup (dCons (dIxV 0 (dVar 3)) (dCons (dVar 4) dNil))))
    dNext)) [3, 4])
abbrev rowsSt (ps ws told : List D) : DSt := [some (.val (.list ps)), some (.val (.list ws)), some (.own none (.list told)), none, none]
section
variable {ps ws told told' ds : List D} {k n k1 k0 : Int} {hi lo a b : D} {c : Bool} {j : Nat}
/-- the end of the k-th segment, as the body finds it -/
structure Hi (ps : List D) (n k1 : Int) (c : Bool) (hi : D) : Prop where
  len : lenD [.list ps] = some (.int n)
  lt : ordD .Lt (.int k1) (.int n) = some c
  yes : c = true → atI ps k1 = some hi
  no : c = false → hi = .none
theorem rows_no (H : Hi ps n k1 c hi) (hk : k + 1 = k1) (hw : atI ws k = some (.bool false)) : forL (dNm 3) rowsBody (.int k :: ds) (rowsSt ps ws told) = forL (dNm 3) rowsBody ds (rowsSt ps ws told) := by
  have h1 := H.len
  have h2 := H.lt
  simp only [forL, rowsBody, rowsSt]
  cases c
  · simp [-v_lenL, -v_ltI, hk, h1, h2, hw]
  · simp [-v_lenL, -v_ltI, hk, h1, h2, hw, H.yes rfl]
theorem rows_new (H : Hi ps n k1 c hi) (hk : k + 1 = k1) (hk0 : k - 1 = k0) (hw : atI ws k = some (.bool true)) (hp : 0 < k → atI ws k0 = some (.bool false)) (hlo : atI ps k = some lo) (hl : told.length < 16777216) :
    forL (dNm 3) rowsBody (.int k :: ds) (rowsSt ps ws told) = forL (dNm 3) rowsBody ds (rowsSt ps ws (told ++ [.tuple [lo, hi]])) := by
  have h1 := H.len
  have h2 := H.lt
  simp only [forL, rowsBody, rowsSt]
  by_cases hz : 0 < k
  · cases c
    · have := H.no rfl
      subst this
      simp [-v_lenL, -v_ltI, hk, hk0, h1, h2, hw, hz, hp hz, hlo, hl]
    · simp [-v_lenL, -v_ltI, hk, hk0, h1, h2, hw, H.yes rfl, hz, hp hz, hlo, hl]
  · cases c
    · have := H.no rfl
      subst this
      simp [-v_lenL, -v_ltI, hk, hk0, h1, h2, hw, hz, hlo, hl]
    · simp [-v_lenL, -v_ltI, hk, hk0, h1, h2, hw, H.yes rfl, hz, hlo, hl]
theorem rows_more (H : Hi ps n k1 c hi) (hk : k + 1 = k1) (hk0 : k - 1 = k0) (hw : atI ws k = some (.bool true)) (hz : 0 < k) (hp : atI ws k0 = some (.bool true)) (h3 : atI told (-1) = some (.tuple [a, b])) (h4 : ixN told.length (-1) = some j) (h5 : told.set j (.tuple [a, hi]) = told') :
    forL (dNm 3) rowsBody (.int k :: ds) (rowsSt ps ws told) = forL (dNm 3) rowsBody ds (rowsSt ps ws told') := by
  have h1 := H.len
  have h2 := H.lt
  simp only [forL, rowsBody, rowsSt]
  cases c
  · have := H.no rfl
    subst this
    simp [-v_lenL, -v_ltI, hk, hk0, h1, h2, hw, hz, hp, at2, h3, h4, h5]
  · simp [-v_lenL, -v_ltI, hk, hk0, h1, h2, hw, hz, hp, at2, h3, h4, h5, H.yes rfl]
theorem rows_core {rs us : List D} (hL : lenD [.list ps] = some (.int n)) (hr : rng1 (.int n) = some us) (h : forL (dNm 3) rowsBody us (rowsSt ps ws []) = some (.nx (rowsSt ps ws rs))) :
    m__law_rows [.val (.list ps), .val (.list ws)] = some (.val (.tuple rs), [none, none]) := by
  unfold m__law_rows F__law_rows
  simp only [rowsBody, rowsSt] at h
  simp [-v_lenL, -v_r1, hL, hr, h]
end
theorem last_at (xs : List D) (y : D) : atI (xs ++ [y]) (-1) = some y ∧ ixN (xs ++ [y]).length (-1) = some xs.length := by
  have h : ixN (xs ++ [y]).length (-1) = some xs.length := by
    unfold ixN
    rw [if_neg (by omega), if_pos (by simp only [List.length_append, List.length_cons, List.length_nil]; omega)]
    congr 1
    simp only [List.length_append, List.length_cons, List.length_nil]
    omega
  refine ⟨?_, h⟩
  unfold atI
  rw [h]
  show (xs ++ [y])[xs.length]? = _
  simp
structure RInv (W : Nat → Bool) (k : Nat) (rs : List (Nat × Nat)) : Prop where
  can : Can rs
  le : ∀ r ∈ rs, r.2 ≤ k
  mem : ∀ j, inR rs j ↔ j < k ∧ W j = true
  last : 0 < k → W (k - 1) = true → ∃ rs' l, rs = rs' ++ [(l, k)]
  len : rs.length ≤ k
theorem inR_app {R S : List (Nat × Nat)} {j : Nat} : inR (R ++ S) j ↔ inR R j ∨ inR S j := by
  constructor
  · rintro ⟨r, m, h⟩
    rcases List.mem_append.mp m with m | m
    · exact .inl ⟨r, m, h⟩
    · exact .inr ⟨r, m, h⟩
  · rintro (⟨r, m, h⟩ | ⟨r, m, h⟩)
    · exact ⟨r, List.mem_append.mpr (.inl m), h⟩
    · exact ⟨r, List.mem_append.mpr (.inr m), h⟩
theorem inR_one {r : Nat × Nat} {j : Nat} : inR [r] j ↔ r.1 ≤ j ∧ j < r.2 := by
  constructor
  · rintro ⟨x, m, h⟩
    rw [List.mem_singleton.mp m] at h; exact h
  · intro h; exact ⟨r, List.mem_singleton.mpr rfl, h⟩
theorem Can.snoc {R : List (Nat × Nat)} {l h : Nat} (c : Can R) (hl : l < h) (hg : ∀ r ∈ R, r.2 < l) : Can (R ++ [(l, h)]) := ⟨fun r m => by
  rcases List.mem_append.mp m with m | m
  · exact c.ne r m
  · rw [List.mem_singleton.mp m]; exact hl, List.pairwise_append.mpr ⟨c.gap, List.pairwise_singleton _ _, fun x hx y hy => by rw [List.mem_singleton.mp hy]; exact hg x hx⟩⟩
theorem rinv_no {W : Nat → Bool} {k : Nat} {rs : List (Nat × Nat)} (I : RInv W k rs) (h : W k = false) : RInv W (k + 1) rs := by
  refine ⟨I.can, fun r m => by have := I.le r m; omega, fun j => ?_, fun _ z => ?_, by have := I.len; omega⟩
  · rw [I.mem]
    constructor
    · rintro ⟨a, b⟩
      exact ⟨by omega, b⟩
    · rintro ⟨a, b⟩
      refine ⟨?_, b⟩
      by_cases e : j = k
      · subst e
        rw [h] at b
        cases b
      · omega
  · rw [Nat.add_sub_cancel, h] at z
    cases z
theorem rinv_new {W : Nat → Bool} {k : Nat} {rs : List (Nat × Nat)} (I : RInv W k rs) (h : W k = true) (hp : 0 < k → W (k - 1) = false) : RInv W (k + 1) (rs ++ [(k, k + 1)]) := by
  have hg : ∀ r ∈ rs, r.2 < k := fun r m => by
    have h1 := I.le r m
    have h2 := I.can.ne r m
    by_cases e : r.2 = k
    · have : inR rs (k - 1) := ⟨r, m, by omega, by omega⟩
      have := ((I.mem (k - 1)).mp this).2
      rw [hp (by omega)] at this
      cases this
    · omega
  refine ⟨I.can.snoc (by omega) hg, fun r m => ?_, fun j => ?_, fun _ _ => ⟨rs, k, rfl⟩, by have := I.len; simp; omega⟩
  · rcases List.mem_append.mp m with m | m
    · have := I.le r m; omega
    · rw [List.mem_singleton.mp m]; exact Nat.le_refl _
  · rw [inR_app, inR_one, I.mem]
    constructor
    · rintro (⟨a, b⟩ | ⟨a, b⟩)
      · exact ⟨by omega, b⟩
      · have a' : k ≤ j := a
        have b' : j < k + 1 := b
        have : j = k := by omega
        subst this
        exact ⟨by omega, h⟩
    · rintro ⟨a, b⟩
      by_cases e : j = k
      · exact .inr ⟨by show k ≤ j; omega, by show j < k + 1; omega⟩
      · exact .inl ⟨by omega, b⟩
theorem rinv_more {W : Nat → Bool} {k l : Nat} {rs : List (Nat × Nat)} (I : RInv W k (rs ++ [(l, k)])) (h : W k = true) : RInv W (k + 1) (rs ++ [(l, k + 1)]) := by
  have c := I.can
  have hl : l < k := c.ne (l, k) (List.mem_append.mpr (.inr (List.mem_singleton.mpr rfl)))
  have hg := (List.pairwise_append.mp c.gap).2.2
  have cR : Can rs := ⟨fun r m => c.ne r (List.mem_append.mpr (.inl m)), (List.pairwise_append.mp c.gap).1⟩
  refine ⟨cR.snoc (by omega) fun r m => hg r m (l, k) (List.mem_singleton.mpr rfl), fun r m => ?_, fun j => ?_, fun _ _ => ⟨rs, l, rfl⟩, by have := I.len; simp at this ⊢; omega⟩
  · rcases List.mem_append.mp m with m | m
    · have := I.le r (List.mem_append.mpr (.inl m)); omega
    · rw [List.mem_singleton.mp m]; exact Nat.le_refl _
  · have hm := I.mem j
    rw [inR_app, inR_one] at hm
    rw [inR_app, inR_one]
    constructor
    · rintro (a | ⟨a, b⟩)
      · have := hm.mp (.inl a)
        exact ⟨by omega, this.2⟩
      · have a' : l ≤ j := a
        have b' : j < k + 1 := b
        by_cases e : j = k
        · subst e; exact ⟨by omega, h⟩
        · have := hm.mp (.inr ⟨a', by show j < k; omega⟩)
          exact ⟨by omega, this.2⟩
    · rintro ⟨a, b⟩
      by_cases e : j = k
      · exact .inr ⟨by show l ≤ j; omega, by show j < k + 1; omega⟩
      · rcases hm.mpr ⟨by omega, b⟩ with z | ⟨z, y⟩
        · exact .inl z
        · exact .inr ⟨z, by have : j < k := y
                            show j < k + 1; omega⟩
section
variable {p : Bool} {ps : List D}
theorem Hi.of (ps : List D) (k : Nat) (hk : k < ps.length) : ∃ c, Hi ps (ps.length : Int) ((k : Int) + 1) c (pt ps (k + 1)) := by
  by_cases h : k + 1 < ps.length
  · refine ⟨true, v_lenL, by rw [v_ltI, decide_eq_true (by omega)], fun _ => ?_, fun z => by cases z⟩
    rw [show ((k : Int) + 1) = ((k + 1 : Nat) : Int) by omega, atI_nat, List.getElem?_eq_getElem h, pt_in h]
  · exact ⟨false, v_lenL, by rw [v_ltI, decide_eq_false (by omega)], (fun z => by cases z), fun _ => pt_out (by omega)⟩
theorem rows_loop (W : Nat → Bool) : ∀ (m k : Nat) (rs : List (Nat × Nat)), k + m = ps.length → ps.length ≤ 1000 → RInv W k rs → ∃ rs', forL (dNm 3) rowsBody (DL.intsFrom k m) (rowsSt ps (wsD ps.length W) (rs.map (E ps))) = some (.nx (rowsSt ps (wsD ps.length W) (rs'.map (E ps)))) ∧ RInv W ps.length rs'
  | 0, k, rs, h, _, I => ⟨rs, rfl, by rw [← h]; exact I⟩
  | m + 1, k, rs, h, hf, I => by
    have hk : k < ps.length := by omega
    obtain ⟨c, H⟩ := Hi.of ps k hk
    have hw := wsD_at (W := W) hk
    rw [DL.intsFrom]
    cases e : W k with
    | false =>
      rw [e] at hw
      rw [rows_no H rfl hw]
      exact rows_loop W m (k + 1) rs (by omega) hf (rinv_no I e)
    | true =>
      rw [e] at hw
      by_cases z : 0 < k ∧ W (k - 1) = true
      · obtain ⟨rs', l, rfl⟩ := I.last z.1 z.2
        have hp : atI (wsD ps.length W) ((k : Int) - 1) = some (.bool true) := by
          rw [show ((k : Int) - 1) = ((k - 1 : Nat) : Int) by omega, wsD_at (by omega), z.2]
        rw [List.map_append, List.map_singleton, rows_more H rfl rfl hw (by omega) hp (last_at _ _).1 (last_at _ _).2 (told' := (rs' ++ [(l, k + 1)]).map (E ps)) (by simp)]
        exact rows_loop W m (k + 1) _ (by omega) hf (rinv_more I e)
      · have hp : 0 < k → W (k - 1) = false := fun z1 => by
          cases e2 : W (k - 1) with
          | false => rfl
          | true => exact absurd ⟨z1, e2⟩ z
        have hlo : atI ps (k : Int) = some (pt ps k) := by rw [atI_nat, List.getElem?_eq_getElem hk, pt_in hk]
        rw [rows_new H rfl rfl hw (fun z1 => by rw [show ((k : Int) - 1) = ((k - 1 : Nat) : Int) by omega, wsD_at (by omega), hp (by omega)]) hlo (by have := I.len; simp; omega)]
        have := rows_loop W m (k + 1) (rs ++ [(k, k + 1)]) (by omega) hf (rinv_new I e hp)
        rw [List.map_append, List.map_singleton] at this
        exact this
theorem rows_spec (hf : ps.length ≤ 1000) (W : Nat → Bool) : ∃ rs, m__law_rows [.val (.list ps), .val (.list (wsD ps.length W))] = some (.val (.tuple (rs.map (E ps))), [none, none]) ∧ RInv W ps.length rs := by
  obtain ⟨rs, e, I⟩ := rows_loop (ps := ps) W ps.length 0 [] (by omega) hf ⟨.nil, (fun _ m => nomatch m), fun j => ⟨(fun ⟨r, m, _⟩ => nomatch m), fun ⟨a, _⟩ => by omega⟩, fun z => by omega, Nat.le_refl _⟩
  exact ⟨rs, rows_core v_lenL (rng1_nat _ (by omega)) e, I⟩
/-- the rows are those of any list of ranges that says the same -/
theorem rows_is (hf : ps.length ≤ 1000) {W : Nat → Bool} {R : List (Nat × Nat)} (c : Can R) (h : ∀ j, inR R j ↔ j < ps.length ∧ W j = true) : m__law_rows [.val (.list ps), .val (.list (wsD ps.length W))] = some (.val (.tuple (R.map (E ps))), [none, none]) := by
  obtain ⟨rs, e, I⟩ := rows_spec hf W
  rw [can_uniq c I.can fun j => (h j).trans (I.mem j).symm]
  exact e
end
end LW

namespace LW
open PySem L2 DL
theorem lc_map {α : Type} {tg : DG} {tt : DB} {te : DF} {vs : List Nat} {st : DSt} {f g : α → D} : ∀ (L : List α) (acc : List D), (∀ a ∈ L, ∀ ds acc' : List D, acc'.length < 16777216 → lcL tg tt te vs (f a :: ds) st acc' = lcL tg tt te vs ds st (acc' ++ [g a])) → acc.length + L.length ≤ 1000000 → lcL tg tt te vs (L.map f) st acc = some (acc ++ L.map g, st)
  | [], acc, _, _ => by simp [lcL]
  | d :: ds, acc, h, hl => by
    simp only [List.length_cons] at hl
    rw [List.map_cons, h d List.mem_cons_self (ds.map f) acc (by omega), lc_map ds (acc ++ [g d]) (fun x m => h x (List.mem_cons_of_mem _ m)) (by simp only [List.length_append, List.length_cons, List.length_nil]; omega)]
    simp
theorem lc_fil {α : Type} {tg : DG} {tt : DB} {te : DF} {vs : List Nat} {st : DSt} {f g : α → D} {w : α → Bool} : ∀ (L : List α) (acc : List D), (∀ a ∈ L, ∀ ds acc' : List D, acc'.length < 16777216 → lcL tg tt te vs (f a :: ds) st acc' = lcL tg tt te vs ds st (acc' ++ if w a = true then [g a] else [])) → acc.length + L.length ≤ 1000000 → lcL tg tt te vs (L.map f) st acc = some (acc ++ (L.filter w).map g, st)
  | [], acc, _, _ => by simp [lcL]
  | d :: ds, acc, h, hl => by
    simp only [List.length_cons] at hl
    rw [List.map_cons, h d List.mem_cons_self (ds.map f) acc (by omega), lc_fil ds _ (fun x m => h x (List.mem_cons_of_mem _ m)) (by split <;> simp <;> omega)]
    by_cases c : w d = true
    · simp [c]
    · simp [c]
def hasR (k : Nat) (r : Nat × Nat) : Bool := decide (r.1 ≤ k ∧ k < r.2)
theorem bools_ok (bs : List Bool) : cmpOk (.list (bs.map .bool)) = true := by
  unfold cmpOk
  rw [Bool.and_eq_true, decide_eq_true_eq]
  refine ⟨by rw [DL.plain]; exact plainAll_of fun d m => by obtain ⟨b, _, rfl⟩ := List.mem_map.mp m; rfl, ?_⟩
  rw [PyData.depth]
  have h0 : PyData.depthAll (bs.map PyData.bool) ≤ 0 := depthAll_of fun d m => by
    obtain ⟨b, _, rfl⟩ := List.mem_map.mp m
    exact Nat.le_refl _
  omega
theorem in_bools (b : Bool) (bs : List Bool) : inD (.bool b) (.list (bs.map .bool)) = some (bs.any fun x => x == b) := by
  show (if _ then _ else _) = _
  rw [if_pos ⟨rfl, bools_ok bs⟩]
  congr 1
  induction bs with
  | nil => rfl
  | cons x xs ih =>
    rw [List.map_cons, List.any_cons, List.any_cons, ih]
    cases x <;> cases b <;> rfl
theorem nin_bools (b : Bool) (bs : List Bool) : ninD (.bool b) (.list (bs.map .bool)) = some (!bs.any fun x => x == b) := by
  unfold ninD
  rw [in_bools]
  rfl
theorem pts_eq (ps : List D) : ps = (List.range ps.length).map (pt ps) := by
  refine List.ext_getElem (by simp) fun i h1 h2 => ?_
  rw [List.getElem_map, List.getElem_range, pt_in h1]
/-- the ranges lie within the points -/
def Ok (n : Nat) (Rs : List (Nat × Nat)) : Prop := ∀ r ∈ Rs, r.1 < r.2 ∧ r.2 ≤ n
theorem range_le {n a : Nat} (h : a ∈ List.range n) : a < n := List.mem_range.mp h
/-! both -/
def hdD : List D → D
  | [] => .none
  | r :: _ => r
noncomputable abbrev bIn : DF := dF (dCall m__law_has [.e (dVar 5), .e (dVar 4)])
noncomputable abbrev bOut : DF := dCmp ninD (dC (.bool false)) (dF (dLc (itD (dVar 1)) (dNm 5) dYes bIn [5]))
theorem both_in {P S x s : D} {b : Bool} {ds acc : List D} (h : m__law_has [.val s, .val x] = some (.val (.bool b), [none, none])) (hl : acc.length < 16777216) :
    lcL (dNm 5) dYes bIn [5] (s :: ds) [some (.val P), some (.val S), none, none, some (.val x), none] acc = lcL (dNm 5) dYes bIn [5] ds [some (.val P), some (.val S), none, none, some (.val x), none] (acc ++ [.bool b]) := by
  rw [lcL]
  simp [h, hl, wipeD]
theorem both_out {P x : D} {S bs ds acc : List D} {b : Bool} (h : lcL (dNm 5) dYes bIn [5] S [some (.val P), some (.val (.list S)), none, none, some (.val x), none] [] = some (bs, [some (.val P), some (.val (.list S)), none, none, some (.val x), none])) (hb : ninD (.bool false) (.list bs) = some b) (hl : acc.length < 16777216) :
    lcL (dNm 4) dYes bOut [4] (x :: ds) [some (.val P), some (.val (.list S)), none, none, none, none] acc = lcL (dNm 4) dYes bOut [4] ds [some (.val P), some (.val (.list S)), none, none, none, none] (acc ++ [.bool b]) := by
  rw [lcL]
  simp only [bIn] at h
  simp [h, hb, hl, wipeD]
theorem both_core {S : D} {ps ws rs : List D} (h : lcL (dNm 4) dYes bOut [4] ps [some (.val (.list ps)), some (.val S), none, none, none, none] [] = some (ws, [some (.val (.list ps)), some (.val S), none, none, none, none])) (hr : m__law_rows [.val (.list ps), .val (.list ws)] = some (.val (.tuple rs), [none, none])) :
    m__law_both [.val (.list ps), .val S] = some (.val (hdD rs), [none, none]) := by
  unfold m__law_both F__law_both
  simp only [bOut, bIn] at h
  cases rs with
  | nil => simp [wipeD, h, hr, hdD]
  | cons r rs =>
    have e0 : atI (r :: rs) 0 = some r := by
      have := atI_nat (r :: rs) 0
      simpa using this
    obtain ⟨n, e1, e2⟩ : ∃ n : Int, lenD [.tuple (r :: rs)] = some (.int n) ∧ 0 < n := ⟨_, v_lenT, by simp only [List.length_cons]; omega⟩
    simp [wipeD, h, hr, e0, -v_lenT, e1, e2, hdD]
section
variable {p : Bool} {ps : List D}
theorem P_has1 (P : Pts p ps) {r : Nat × Nat} {k : Nat} (h : r.1 < r.2 ∧ r.2 ≤ ps.length) (hk : k < ps.length) : m__law_has [.val (E ps r), .val (pt ps k)] = some (.val (.bool (hasR k r)), [none, none]) := P_law_has P (by omega) h.2 hk
theorem P_both (P : Pts p ps) {Rs R : List (Nat × Nat)} (hO : Ok ps.length Rs) (hl : Rs.length ≤ 1000) (c : Can R) (h : ∀ j, inR R j ↔ j < ps.length ∧ (Rs.all (hasR j)) = true) :
    m__law_both [.val (.list ps), .val (.list (Rs.map (E ps)))] = some (.val (hdD (R.map (E ps))), [none, none]) := by
  have hf := P.few
  refine both_core (ws := wsD ps.length fun k => Rs.all (hasR k)) ?_ (rows_is hf c h)
  have key := lc_map (tg := dNm 4) (tt := dYes) (te := bOut) (vs := [4]) (st := [some (.val (.list ps)), some (.val (.list (Rs.map (E ps)))), none, none, none, none]) (f := pt ps) (g := fun k => .bool (Rs.all (hasR k))) (List.range ps.length) [] (fun k m ds acc ha => ?_) (by simp; omega)
  · rw [← pts_eq] at key
    exact key
  · have hk := range_le m
    have inn := lc_map (tg := dNm 5) (tt := dYes) (te := bIn) (vs := [5]) (st := [some (.val (.list ps)), some (.val (.list (Rs.map (E ps)))), none, none, some (.val (pt ps k)), none]) (f := E ps) (g := fun r => .bool (hasR k r)) Rs [] (fun r m2 ds2 acc2 ha2 => both_in (P_has1 P (hO r m2) hk) ha2) (by simp; omega)
    refine both_out inn ?_ ha
    have := nin_bools false (Rs.map (hasR k))
    rw [List.map_map] at this
    rw [List.nil_append]
    refine this.trans ?_
    congr 1
    rw [List.any_map, List.not_any_eq_all_not]
    congr 1
    funext r
    show (!(hasR k r == false)) = _
    cases hasR k r <;> rfl
end
/-! rest -/
noncomputable abbrev rIn : DF := dF (dCall m__law_has [.e (dVar 4), .e (dVar 3)])
noncomputable abbrev rOut : DF := dAndV (dF (dCall m__law_has [.e (dVar 1), .e (dVar 3)])) (dCmp ninD (dC (.bool true)) (dF (dLc (itD (dVar 2)) (dNm 4) dYes rIn [4])))
theorem rest_in {P A S x s : D} {b : Bool} {ds acc : List D} (h : m__law_has [.val s, .val x] = some (.val (.bool b), [none, none])) (hl : acc.length < 16777216) :
    lcL (dNm 4) dYes rIn [4] (s :: ds) [some (.val P), some (.val A), some (.val S), some (.val x), none] acc = lcL (dNm 4) dYes rIn [4] ds [some (.val P), some (.val A), some (.val S), some (.val x), none] (acc ++ [.bool b]) := by
  rw [lcL]
  simp [h, hl, wipeD]
theorem rest_out {P A x : D} {S bs ds acc : List D} {a b : Bool} (h0 : m__law_has [.val A, .val x] = some (.val (.bool a), [none, none])) (h : lcL (dNm 4) dYes rIn [4] S [some (.val P), some (.val A), some (.val (.list S)), some (.val x), none] [] = some (bs, [some (.val P), some (.val A), some (.val (.list S)), some (.val x), none])) (hb : ninD (.bool true) (.list bs) = some b) (hl : acc.length < 16777216) :
    lcL (dNm 3) dYes rOut [3] (x :: ds) [some (.val P), some (.val A), some (.val (.list S)), none, none] acc = lcL (dNm 3) dYes rOut [3] ds [some (.val P), some (.val A), some (.val (.list S)), none, none] (acc ++ [.bool (a && b)]) := by
  rw [lcL]
  simp only [rIn] at h
  cases a
  · simp [h0, hl, wipeD]
  · simp [h0, h, hb, hl, wipeD]
theorem rest_core {A S : D} {ps ws : List D} {rs : D} (h : lcL (dNm 3) dYes rOut [3] ps [some (.val (.list ps)), some (.val A), some (.val S), none, none] [] = some (ws, [some (.val (.list ps)), some (.val A), some (.val S), none, none])) (hr : m__law_rows [.val (.list ps), .val (.list ws)] = some (.val rs, [none, none])) :
    m__law_rest [.val (.list ps), .val A, .val S] = some (.val rs, [none, none, none]) := by
  unfold m__law_rest F__law_rest
  simp only [rOut, rIn] at h
  simp [wipeD, h, hr]
section
variable {p : Bool} {ps : List D}
theorem P_rest (P : Pts p ps) {a : Nat × Nat} {Rs R : List (Nat × Nat)} (ha : a.1 < a.2 ∧ a.2 ≤ ps.length) (hO : Ok ps.length Rs) (hl : Rs.length ≤ 1000) (c : Can R) (h : ∀ j, inR R j ↔ j < ps.length ∧ (hasR j a && !Rs.any (hasR j)) = true) :
    m__law_rest [.val (.list ps), .val (E ps a), .val (.list (Rs.map (E ps)))] = some (.val (.tuple (R.map (E ps))), [none, none, none]) := by
  have hf := P.few
  refine rest_core (ws := wsD ps.length fun k => hasR k a && !Rs.any (hasR k)) ?_ (rows_is hf c h)
  have key := lc_map (tg := dNm 3) (tt := dYes) (te := rOut) (vs := [3]) (st := [some (.val (.list ps)), some (.val (E ps a)), some (.val (.list (Rs.map (E ps)))), none, none]) (f := pt ps) (g := fun k => .bool (hasR k a && !Rs.any (hasR k))) (List.range ps.length) [] (fun k m ds acc hacc => ?_) (by simp; omega)
  · rw [← pts_eq] at key
    exact key
  · have hk := range_le m
    have inn := lc_map (tg := dNm 4) (tt := dYes) (te := rIn) (vs := [4]) (st := [some (.val (.list ps)), some (.val (E ps a)), some (.val (.list (Rs.map (E ps)))), some (.val (pt ps k)), none]) (f := E ps) (g := fun r => .bool (hasR k r)) Rs [] (fun r m2 ds2 acc2 ha2 => rest_in (P_has1 P (hO r m2) hk) ha2) (by simp; omega)
    refine rest_out (P_has1 P ha hk) inn ?_ hacc
    have := nin_bools true (Rs.map (hasR k))
    rw [List.map_map] at this
    rw [List.nil_append]
    refine this.trans ?_
    congr 2
    rw [List.any_map]
    congr 1
    funext r
    show (hasR k r == true) = _
    cases hasR k r <;> rfl
end
end LW

namespace LW
open PySem L2 DL
noncomputable abbrev aIn : DF := dF (dCall m__law_has [.e (dVar 6), .e (dVar 4)])
noncomputable abbrev aOut : DF := dCmp inD (dC (.bool true)) (dF (dLc (itD (dVar 1)) (dNm 6) dYes aIn [6]))
abbrev aSt (P S : D) (w : Option SV) (x : Option SV) : DSt := [some (.val P), some (.val S), w, none, x, none, none]
theorem all_in {P S x s : D} {b : Bool} {ds acc : List D} (h : m__law_has [.val s, .val x] = some (.val (.bool b), [none, none])) (hl : acc.length < 16777216) :
    lcL (dNm 6) dYes aIn [6] (s :: ds) (aSt P S none (some (.val x))) acc = lcL (dNm 6) dYes aIn [6] ds (aSt P S none (some (.val x))) (acc ++ [.bool b]) := by
  rw [lcL]
  simp [h, hl, wipeD]
theorem all_out {P x : D} {S bs ds acc : List D} {b : Bool} (h : lcL (dNm 6) dYes aIn [6] S (aSt P (.list S) none (some (.val x))) [] = some (bs, aSt P (.list S) none (some (.val x)))) (hb : inD (.bool true) (.list bs) = some b) (hl : acc.length < 16777216) :
    lcL (dNm 4) dYes aOut [4] (x :: ds) (aSt P (.list S) none none) acc = lcL (dNm 4) dYes aOut [4] ds (aSt P (.list S) none none) (acc ++ [.bool b]) := by
  rw [lcL]
  simp only [aIn, aSt] at h
  simp [h, hb, hl, wipeD]
theorem all_last {P S : D} {ws ds acc : List D} {k : Int} {b : Bool} (h : atI ws k = some (.bool b)) (hl : acc.length < 16777216) :
    lcL (dNm 5) (dTest (dIxV 2 (dVar 5))) (dVar 5) [5] (.int k :: ds) (aSt P S (some (.own none (.list ws))) none) acc = lcL (dNm 5) (dTest (dIxV 2 (dVar 5))) (dVar 5) [5] ds (aSt P S (some (.own none (.list ws))) none) (acc ++ if b = true then [.int k] else []) := by
  rw [lcL]
  cases b
  · simp [h, hl, wipeD]
  · simp [h, hl, wipeD]
theorem all_core {S lo hi : D} {ps ws us ks : List D} {n f l l1 : Int} {c : Bool} (h1 : lcL (dNm 4) dYes aOut [4] ps (aSt (.list ps) S none none) [] = some (ws, aSt (.list ps) S none none)) (hr : rng1 (.int n) = some us)
    (h2 : lcL (dNm 5) (dTest (dIxV 2 (dVar 5))) (dVar 5) [5] us (aSt (.list ps) S (some (.own none (.list ws))) none) [] = some (ks, aSt (.list ps) S (some (.own none (.list ws))) none)) (h3 : maxV [.list ks] = some (.int l)) (h4 : idxD (.list ws) (.bool true) = some (.int f)) (h5 : atI ps f = some lo) (h6 : l + 1 = l1) (H : Hi ps n l1 c hi) :
    m__law_all [.val (.list ps), .val S] = some (.val (.tuple [lo, hi]), [none, none]) := by
  have g1 := H.len
  have g2 := H.lt
  unfold m__law_all F__law_all
  simp only [aOut, aIn, aSt] at h1
  simp only [aSt] at h2
  cases c
  · have := H.no rfl
    subst this
    simp [wipeD, h1, -v_lenL, g1, -v_r1, hr, h2, h3, -v_idx, h4, h5, h6, -v_ltI, g2]
  · simp [wipeD, h1, -v_lenL, g1, -v_r1, hr, h2, h3, -v_idx, h4, h5, h6, -v_ltI, g2, H.yes rfl]
theorem ints_eq (n : Nat) : ∀ lo : Nat, DL.intsFrom lo n = (List.range n).map fun k => PyData.int ((lo + k : Nat) : Int) := by
  induction n with
  | zero => intro lo; rfl
  | succ n ih =>
    intro lo
    rw [DL.intsFrom, List.range_succ_eq_map, List.map_cons, List.map_map, show ((lo : Int) + 1) = ((lo + 1 : Nat) : Int) by omega, ih (lo + 1)]
    congr 1
    apply List.map_congr_left
    intro k _
    show PyData.int _ = PyData.int _
    congr 1
    omega
theorem ints_alike (ns : List Int) : alikeOk (ns.map .int) = true := by
  unfold alikeOk cmpOk
  simp only [Bool.and_eq_true, List.all_eq_true, decide_eq_true_eq]
  refine ⟨⟨⟨?_, ?_⟩, fun a ha b hb => ?_⟩, fun a ha => ?_⟩
  · rw [DL.plain]
    exact plainAll_of fun d m => by obtain ⟨b, _, rfl⟩ := List.mem_map.mp m; rfl
  · rw [PyData.depth]
    have h0 : PyData.depthAll (ns.map PyData.int) ≤ 0 := depthAll_of fun d m => by
      obtain ⟨b, _, rfl⟩ := List.mem_map.mp m
      exact Nat.le_refl _
    omega
  · obtain ⟨x, _, rfl⟩ := List.mem_map.mp ha
    obtain ⟨y, _, rfl⟩ := List.mem_map.mp hb
    rfl
  · obtain ⟨x, _, rfl⟩ := List.mem_map.mp ha
    rfl
theorem foldl_max : ∀ (ns : List Int) (n : Int), ns.foldl max n ∈ n :: ns ∧ ∀ x ∈ n :: ns, x ≤ ns.foldl max n
  | [], n => ⟨List.mem_cons_self, fun x m => by rw [List.mem_singleton.mp m]; exact Int.le_refl _⟩
  | y :: ys, n => by
    obtain ⟨a, b⟩ := foldl_max ys (max n y)
    rw [List.foldl_cons]
    have hb := b (max n y) List.mem_cons_self
    refine ⟨?_, fun x m => ?_⟩
    · rcases List.mem_cons.mp a with e | m
      · rw [e]
        by_cases h : n ≤ y
        · rw [show max n y = y by omega]; simp
        · rw [show max n y = n by omega]; simp
      · exact List.mem_cons_of_mem _ (List.mem_cons_of_mem _ m)
    · rcases List.mem_cons.mp m with rfl | m
      · omega
      · rcases List.mem_cons.mp m with rfl | m
        · omega
        · exact b x (List.mem_cons_of_mem _ m)
theorem max_ints {ns : List Int} (h : ns ≠ []) : ∃ m, maxV [.list (ns.map .int)] = some (.int m) ∧ m ∈ ns ∧ ∀ x ∈ ns, x ≤ m := by
  cases ns with
  | nil => exact absurd rfl h
  | cons n ns =>
    refine ⟨_, ?_, foldl_max ns n⟩
    have a := ints_alike (n :: ns)
    rw [List.map_cons] at a ⊢
    simp only [maxV, a, if_true, PySem.W.maxD_ints]
theorem first_of {W : Nat → Bool} {n f : Nat} (hf : f < n) (h1 : W f = true) (h2 : ∀ j, j < f → W j = false) (hn : n ≤ 1000) : idxD (.list (wsD n W)) (.bool true) = some (.int (f : Int)) := by
  have hw : ∀ k, k < n → (wsD n W)[k]? = some (.bool (W k)) := fun k hk => by
    have := wsD_at (W := W) hk
    rwa [atI_nat] at this
  have ex : ∀ (m k : Nat) (xs : List D), xs.length = m → (∀ i, i < m → xs[i]? = some (.bool (W (k + i)))) → k ≤ f → f < k + m → firstEq (.bool true) xs k = some f := by
    intro m
    induction m with
    | zero => intro k xs _ _ a b; omega
    | succ m ih =>
      intro k xs hl hx a b
      cases xs with
      | nil => simp at hl
      | cons x xs =>
        have e0 := hx 0 (by omega)
        simp at e0
        subst e0
        rw [firstEq]
        by_cases e : k = f
        · subst e
          rw [h1, if_pos (by rfl)]
        · rw [h2 k (by omega), if_neg (by decide)]
          refine ih (k + 1) xs (by simpa using hl) (fun i hi => ?_) (by omega) (by omega)
          have := hx (i + 1) (by omega)
          rw [List.getElem?_cons_succ] at this
          rw [this, show k + (i + 1) = k + 1 + i by omega]
  have e1 : cmpOk (.list (wsD n W)) = true := by
    have := bools_ok ((List.range n).map W)
    rw [List.map_map] at this
    exact this
  rw [v_idx, if_pos ⟨rfl, e1, by rw [wsD_len]; omega⟩, ex n 0 (wsD n W) (wsD_len n W) (fun i hi => by rw [Nat.zero_add]; exact hw i hi) (by omega) (by omega)]
  rfl
section
variable {p : Bool} {ps : List D}
theorem P_all (P : Pts p ps) {Rs : List (Nat × Nat)} {lo hi : Nat} (hO : Ok ps.length Rs) (hl : Rs.length ≤ 1000) (a1 : lo < hi) (a2 : hi ≤ ps.length) (b1 : Rs.any (hasR lo) = true) (b2 : ∀ j, j < lo → Rs.any (hasR j) = false) (c1 : Rs.any (hasR (hi - 1)) = true) (c2 : ∀ j, hi ≤ j → j < ps.length → Rs.any (hasR j) = false) :
    m__law_all [.val (.list ps), .val (.list (Rs.map (E ps)))] = some (.val (E ps (lo, hi)), [none, none]) := by
  have hf := P.few
  have h1 : lcL (dNm 4) dYes aOut [4] ps (aSt (.list ps) (.list (Rs.map (E ps))) none none) [] = some (wsD ps.length fun k => Rs.any (hasR k), aSt (.list ps) (.list (Rs.map (E ps))) none none) := by
    have key := lc_map (tg := dNm 4) (tt := dYes) (te := aOut) (vs := [4]) (st := aSt (.list ps) (.list (Rs.map (E ps))) none none) (f := pt ps) (g := fun k => .bool (Rs.any (hasR k))) (List.range ps.length) [] (fun k m ds acc ha => ?_) (by simp; omega)
    · rw [← pts_eq] at key
      exact key
    · have hk := range_le m
      have inn := lc_map (tg := dNm 6) (tt := dYes) (te := aIn) (vs := [6]) (st := aSt (.list ps) (.list (Rs.map (E ps))) none (some (.val (pt ps k)))) (f := E ps) (g := fun r => .bool (hasR k r)) Rs [] (fun r m2 ds2 acc2 ha2 => all_in (P_has1 P (hO r m2) hk) ha2) (by simp; omega)
      refine all_out inn ?_ ha
      have := in_bools true (Rs.map (hasR k))
      rw [List.map_map] at this
      rw [List.nil_append]
      refine this.trans ?_
      congr 1
      rw [List.any_map]
      congr 1
      funext r
      show (hasR k r == true) = _
      cases hasR k r <;> rfl
  have h2 : lcL (dNm 5) (dTest (dIxV 2 (dVar 5))) (dVar 5) [5] (DL.intsFrom ((0 : Nat) : Int) ps.length) (aSt (.list ps) (.list (Rs.map (E ps))) (some (.own none (.list (wsD ps.length fun k => Rs.any (hasR k))))) none) [] = some (((List.range ps.length).filter fun k => Rs.any (hasR k)).map fun k => .int (k : Int), aSt (.list ps) (.list (Rs.map (E ps))) (some (.own none (.list (wsD ps.length fun k => Rs.any (hasR k))))) none) := by
    rw [ints_eq ps.length 0]
    have e : (fun k : Nat => PyData.int ((0 + k : Nat) : Int)) = fun k : Nat => PyData.int (k : Int) := by funext k; rw [Nat.zero_add]
    rw [e]
    exact lc_fil (f := fun k : Nat => PyData.int (k : Int)) (g := fun k : Nat => PyData.int (k : Int)) (w := fun k => Rs.any (hasR k)) (List.range ps.length) [] (fun k m ds acc ha => all_last (wsD_at (range_le m)) ha) (by simp; omega)
  have mem1 : hi - 1 ∈ (List.range ps.length).filter fun k => Rs.any (hasR k) := List.mem_filter.mpr ⟨List.mem_range.mpr (by omega), c1⟩
  obtain ⟨m, m1, m2, m3⟩ := max_ints (ns := ((List.range ps.length).filter fun k => Rs.any (hasR k)).map fun k : Nat => (k : Int)) (by
    intro z
    rw [List.map_eq_nil_iff] at z
    rw [z] at mem1
    cases mem1)
  rw [List.map_map] at m1
  have em : m = ((hi - 1 : Nat) : Int) := by
    obtain ⟨x, hx, rfl⟩ := List.mem_map.mp m2
    obtain ⟨x1, x2⟩ := List.mem_filter.mp hx
    have x3 := range_le x1
    have g1 := m3 ((hi - 1 : Nat) : Int) (List.mem_map.mpr ⟨hi - 1, mem1, rfl⟩)
    by_cases z : hi ≤ x
    · rw [c2 x z x3] at x2
      cases x2
    · omega
  obtain ⟨c, H⟩ := Hi.of ps (hi - 1) (by omega)
  have h5 : atI ps (lo : Int) = some (pt ps lo) := by rw [atI_nat, List.getElem?_eq_getElem (by omega), pt_in (by omega)]
  subst em
  have := all_core h1 (rng1_nat _ (by omega)) h2 m1 (first_of (f := lo) (by omega) b1 b2 hf) h5 rfl H
  rw [this, show hi - 1 + 1 = hi by omega]
end
end LW

namespace LW
open PySem L2 DL
abbrev Same6 (d : D) : Prop := m__law_same 6 [.val d, .val d] = some (.val (.bool true), [none, none])
theorem pair_core {P a b bo j lf : D} {o c : Bool} {rs : List D} {n : Int} (h1 : m__law_both [.val P, .val (.list [a, b])] = some (.val bo, [none, none])) (h2 : m_common_part [.val a, .val b] = some (.val bo, [none, none])) (s1 : Same6 bo)
    (h3 : m_is_overlapping [.val a, .val b] = some (.val (.bool o), [none, none])) (hn : (!isNoneD bo) = o) (s2 : Same6 (.bool o)) (h4 : m_join_of [.val a, .val b] = some (.val j, [none, none])) (h5 : m__law_all [.val P, .val (.list [a, b])] = some (.val j, [none, none])) (s3 : Same6 j)
    (h6 : m_left_of [.val a, .val b] = some (.val lf, [none, none])) (h7 : m__law_rest [.val P, .val a, .val (.list [b])] = some (.val lf, [none, none, none])) (s4 : Same6 lf) (h8 : m_is_covering [.val a, .val b] = some (.val (.bool c), [none, none])) (h9 : m__law_rest [.val P, .val b, .val (.list [a])] = some (.val (.tuple rs), [none, none, none])) (hl : lenD [.tuple rs] = some (.int n)) (hc : eqD (.int n) (.int 0) = some c) (s5 : Same6 (.bool c)) :
    m__law_pair_right [.val P, .val a, .val b] = some (.val (.bool true), [none, none, none]) := by
  unfold m__law_pair_right F__law_pair_right
  simp [h1, h2, s1, h3, hn, s2, h4, h5, s3, h6, h7, s4, h8, h9, -v_lenT, hl, -v_eqI, hc, s5]
noncomputable abbrev tBody : DS := dSeq (dSet 8 (dCall m_left_of [.e (dVar 7), .e (dVar 3)]))
    (dSeq (dIf (dNot (dTest (dIsi "tuple" (dVar 8))))
    (dRet (dV (dC (.bool false))))
    dNext)
    (dThenKill (dSet 6 (dV (dBin dAdd (dVar 6) (dF (dCallO listC (dCons (dVar 8) dNil)))))) [7, 8]))
abbrev tSt (P a b c : D) (bo j : SV) (r : SV) : DSt := [some (.val P), some (.val a), some (.val b), some (.val c), some bo, some j, some r, none, none]
theorem t_step {P a b c x : D} {bo j r : SV} {acc qs ds : List D} (hr : r = .own none (.list acc) ∨ r = .val (.list acc)) (h : m_left_of [.val x, .val c] = some (.val (.tuple qs), [none, none])) (hl : acc.length + qs.length ≤ 16777216) :
    forL (dNm 7) tBody (x :: ds) (tSt P a b c bo j r) = forL (dNm 7) tBody ds (tSt P a b c bo j (.val (.list (acc ++ qs)))) := by
  simp only [forL, tBody, tSt]
  rcases hr with rfl | rfl
  · simp [h, hl]
  · simp [h, hl]
theorem t_loop {P a b c : D} {bo j : SV} {α : Type} {f : α → D} {g : α → List D} : ∀ (L : List α) (r : SV) (acc : List D), (r = .own none (.list acc) ∨ r = .val (.list acc)) → (∀ x ∈ L, m_left_of [.val (f x), .val c] = some (.val (.tuple (g x)), [none, none]) ∧ (g x).length ≤ 2) → acc.length + 2 * L.length ≤ 10000 →
    ∃ r', forL (dNm 7) tBody (L.map f) (tSt P a b c bo j r) = some (.nx (tSt P a b c bo j r')) ∧ (r' = .own none (.list (acc ++ L.flatMap g)) ∨ r' = .val (.list (acc ++ L.flatMap g)))
  | [], r, acc, hr, _, _ => ⟨r, rfl, by simpa using hr⟩
  | x :: L, r, acc, hr, h, hl => by
    simp only [List.length_cons] at hl
    obtain ⟨h1, h2⟩ := h x List.mem_cons_self
    rw [List.map_cons, t_step hr h1 (by omega)]
    obtain ⟨r', e, q⟩ := t_loop (P := P) (a := a) (b := b) (bo := bo) (j := j) (f := f) L (.val (.list (acc ++ g x))) (acc ++ g x) (.inr rfl) (fun y m => h y (List.mem_cons_of_mem _ m)) (by simp only [List.length_append]; omega)
    refine ⟨r', e, ?_⟩
    rw [List.flatMap_cons]
    rw [List.append_assoc] at q
    exact q
theorem three_core {P a b c j j3 q : D} {bo : D} {cv : Bool} {rs parts all : List D} {n : Int} {r' : SV} (h1 : m__law_both [.val P, .val (.list [a, b])] = some (.val bo, [none, none])) (h2 : isNoneD bo = false → m_common_part [.val bo, .val c] = some (.val q, [none, none]) ∧ m__law_both [.val P, .val (.list [a, b, c])] = some (.val q, [none, none]) ∧ Same6 q)
    (h3 : m__law_all [.val P, .val (.list [a, b])] = some (.val j, [none, none])) (h4 : m_join_of [.val c, .val j] = some (.val j3, [none, none])) (h5 : m__law_all [.val P, .val (.list [a, b, c])] = some (.val j3, [none, none])) (s2 : Same6 j3)
    (h6 : m_is_covering [.val j, .val c] = some (.val (.bool cv), [none, none])) (h7 : m__law_rest [.val P, .val c, .val (.list [j])] = some (.val (.tuple rs), [none, none, none])) (hl : lenD [.tuple rs] = some (.int n)) (hc : eqD (.int n) (.int 0) = some cv) (s3 : Same6 (.bool cv))
    (h8 : m__law_rest [.val P, .val a, .val (.list [b])] = some (.val (.tuple parts), [none, none, none])) (h9 : forL (dNm 7) tBody parts (tSt P a b c (.val bo) (.val j) (.own none (.list []))) = some (.nx (tSt P a b c (.val bo) (.val j) r'))) (hr : r' = .own none (.list all) ∨ r' = .val (.list all))
    (h10 : m__law_rest [.val P, .val a, .val (.list [b, c])] = some (.val (.tuple all), [none, none, none])) (s4 : Same6 (.tuple all)) :
    m__law_three_right [.val P, .val a, .val b, .val c] = some (.val (.bool true), [none, none, none, none]) := by
  unfold m__law_three_right F__law_three_right
  simp only [tBody, tSt] at h9
  cases hb : isNoneD bo with
  | true =>
    rcases hr with rfl | rfl
    · simp [h1, hb, h3, h4, h5, s2, h6, h7, -v_lenT, hl, -v_eqI, hc, s3, h8, h9, h10, s4]
    · simp [h1, hb, h3, h4, h5, s2, h6, h7, -v_lenT, hl, -v_eqI, hc, s3, h8, h9, h10, s4]
  | false =>
    obtain ⟨g1, g2, g3⟩ := h2 hb
    rcases hr with rfl | rfl
    · simp [h1, hb, g1, g2, g3, h3, h4, h5, s2, h6, h7, -v_lenT, hl, -v_eqI, hc, s3, h8, h9, h10, s4]
    · simp [h1, hb, g1, g2, g3, h3, h4, h5, s2, h6, h7, -v_lenT, hl, -v_eqI, hc, s3, h8, h9, h10, s4]
/-! what is left, by segments -/
theorem minus_in {a b r : Nat × Nat} (h : r ∈ minus a b) : r.1 < r.2 ∧ a.1 ≤ r.1 ∧ r.2 ≤ a.2 := by
  unfold minus at h
  rcases List.mem_append.mp h with h | h
  · split at h
    · rw [List.mem_singleton.mp h]; dsimp; omega
    · cases h
  · split at h
    · rw [List.mem_singleton.mp h]; dsimp; omega
    · cases h
theorem minus_can {a b : Nat × Nat} (hb : b.1 < b.2) : Can (minus a b) := by
  refine ⟨fun r m => (minus_in m).1, ?_⟩
  unfold minus
  rw [List.pairwise_append]
  refine ⟨by split <;> simp, by split <;> simp, fun x hx y hy => ?_⟩
  split at hx
  · split at hy
    · rw [List.mem_singleton.mp hx, List.mem_singleton.mp hy]; dsimp; omega
    · cases hy
  · cases hx
theorem minus_mem {a b : Nat × Nat} (hb : b.1 < b.2) (j : Nat) : inR (minus a b) j ↔ (hasR j a && !hasR j b) = true := by
  unfold minus hasR
  rw [inR_app]
  have t : ∀ x y : Nat, inR (if x < y then [(x, y)] else []) j ↔ x ≤ j ∧ j < y := fun x y => by
    by_cases c : x < y
    · rw [if_pos c, inR_one]
    · rw [if_neg c]
      constructor
      · rintro ⟨r, m, _⟩; cases m
      · intro z; omega
  rw [t, t]
  simp only [Bool.and_eq_true, Bool.not_eq_true', decide_eq_true_eq, decide_eq_false_iff_not]
  omega
theorem minus_len (a b : Nat × Nat) : (minus a b).length ≤ 2 := by
  unfold minus
  rw [List.length_append]
  split <;> split <;> simp
theorem minus_nil {a b : Nat × Nat} (ha : a.1 < a.2) (hb : b.1 < b.2) : (minus a b).length = 0 ↔ b.1 ≤ a.1 ∧ a.2 ≤ b.2 := by
  unfold minus
  rw [List.length_append]
  split <;> split <;> simp <;> omega
theorem flat_can {c : Nat × Nat} (hc : c.1 < c.2) : ∀ {L : List (Nat × Nat)}, Can L → Can (L.flatMap fun r => minus r c)
  | [], _ => by rw [List.flatMap_nil]; exact .nil
  | r :: L, h => by
    have ih := flat_can hc h.tail
    have g := (List.pairwise_cons.mp h.gap).1
    rw [List.flatMap_cons]
    refine ⟨fun x m => ?_, List.pairwise_append.mpr ⟨(minus_can hc).gap, ih.gap, fun x hx y hy => ?_⟩⟩
    · rcases List.mem_append.mp m with m | m
      · exact (minus_in m).1
      · exact ih.ne x m
    · obtain ⟨s, m1, m2⟩ := List.mem_flatMap.mp hy
      have := g s m1
      have := minus_in hx
      have := minus_in m2
      omega
theorem flat_mem {c : Nat × Nat} (hc : c.1 < c.2) (L : List (Nat × Nat)) (j : Nat) : inR (L.flatMap fun r => minus r c) j ↔ inR L j ∧ hasR j c = false := by
  constructor
  · rintro ⟨x, m, h⟩
    obtain ⟨r, m1, m2⟩ := List.mem_flatMap.mp m
    have := (minus_mem hc j).mp ⟨x, m2, h⟩
    simp only [Bool.and_eq_true, Bool.not_eq_true'] at this
    have h2 := this.1
    unfold hasR at h2
    rw [decide_eq_true_eq] at h2
    exact ⟨⟨r, m1, h2⟩, this.2⟩
  · rintro ⟨⟨r, m, h⟩, h2⟩
    obtain ⟨x, m2, h3⟩ := (minus_mem (a := r) hc j).mpr (by
      rw [h2]
      unfold hasR
      rw [decide_eq_true h]; rfl)
    exact ⟨x, List.mem_flatMap.mpr ⟨r, m, m2⟩, h3⟩
end LW

namespace LW
open PySem L2 DL
theorem same6 {d : D} (h : simp1 d = true) (g : d.depth ≤ 5) : Same6 d := same_refl 6 d h (by omega)
theorem same6b (b : Bool) : Same6 (.bool b) := same6 rfl (Nat.zero_le _)
section
variable {p : Bool} {ps : List D}
/-- a nonempty row of segments -/
def Iv (n : Nat) (r : Nat × Nat) : Prop := r.1 < r.2 ∧ r.2 ≤ n
theorem P_simpE (P : Pts p ps) (r : Nat × Nat) : Same6 (E ps r) := same6 (P.simpE r).1 (by have := (P.simpE r).2; omega)
theorem P_simpEs (P : Pts p ps) (R : List (Nat × Nat)) (h : R.length ≤ 1000) : Same6 (.tuple (R.map (E ps))) := same6 (P.simpEs R h).1 (by have := (P.simpEs R h).2; omega)
def one (a b : Nat) : List (Nat × Nat) := if a < b then [(a, b)] else []
theorem one_can (a b : Nat) : Can (one a b) := by
  unfold one
  split
  · exact ⟨fun r m => by rw [List.mem_singleton.mp m]; assumption, List.pairwise_singleton _ _⟩
  · exact .nil
theorem one_mem (a b j : Nat) : inR (one a b) j ↔ a ≤ j ∧ j < b := by
  unfold one
  split
  · exact inR_one
  · constructor
    · rintro ⟨r, m, _⟩; cases m
    · intro z; omega
theorem one_hd (ps : List D) (a b : Nat) : hdD ((one a b).map (E ps)) = if a < b then E ps (a, b) else .none := by
  unfold one
  split <;> rfl
theorem P_hd (P : Pts p ps) (a b : Nat) : Same6 (if a < b then E ps (a, b) else .none) := by
  split
  · exact P_simpE P _
  · exact same6 rfl (Nat.zero_le _)
theorem P_both2 (P : Pts p ps) {a b : Nat × Nat} (ha : Iv ps.length a) (hb : Iv ps.length b) : m__law_both [.val (.list ps), .val (.list [E ps a, E ps b])] = some (.val (if max a.1 b.1 < min a.2 b.2 then E ps (max a.1 b.1, min a.2 b.2) else .none), [none, none]) := by
  have := P_both P (Rs := [a, b]) (R := one (max a.1 b.1) (min a.2 b.2)) (fun r m => by
    rcases List.mem_cons.mp m with rfl | m
    · exact ha
    · rw [List.mem_singleton.mp m]; exact hb) (by simp) (one_can _ _) fun j => by
      rw [one_mem]
      simp only [List.all_cons, List.all_nil, hasR, Bool.and_eq_true, decide_eq_true_eq, and_true]
      have := ha.2
      omega
  rw [one_hd] at this
  exact this
theorem P_both3 (P : Pts p ps) {a b c : Nat × Nat} (ha : Iv ps.length a) (hb : Iv ps.length b) (hc : Iv ps.length c) : m__law_both [.val (.list ps), .val (.list [E ps a, E ps b, E ps c])] = some (.val (if max (max a.1 b.1) c.1 < min (min a.2 b.2) c.2 then E ps (max (max a.1 b.1) c.1, min (min a.2 b.2) c.2) else .none), [none, none]) := by
  have := P_both P (Rs := [a, b, c]) (R := one (max (max a.1 b.1) c.1) (min (min a.2 b.2) c.2)) (fun r m => by
    rcases List.mem_cons.mp m with rfl | m
    · exact ha
    · rcases List.mem_cons.mp m with rfl | m
      · exact hb
      · rw [List.mem_singleton.mp m]; exact hc) (by simp) (one_can _ _) fun j => by
      rw [one_mem]
      simp only [List.all_cons, List.all_nil, hasR, Bool.and_eq_true, decide_eq_true_eq, and_true]
      have := ha.2
      omega
  rw [one_hd] at this
  exact this
theorem any_f {j : Nat} {L : List (Nat × Nat)} (h : ∀ r ∈ L, ¬ (r.1 ≤ j ∧ j < r.2)) : L.any (hasR j) = false := by
  rw [List.any_eq_false]
  intro r m
  unfold hasR
  rw [decide_eq_true_eq]
  exact h r m
theorem any_t {j : Nat} {L : List (Nat × Nat)} {r : Nat × Nat} (m : r ∈ L) (h : r.1 ≤ j ∧ j < r.2) : L.any (hasR j) = true := by
  rw [List.any_eq_true]
  exact ⟨r, m, by unfold hasR; rw [decide_eq_true h]⟩
theorem P_all2 (P : Pts p ps) {a b : Nat × Nat} (ha : Iv ps.length a) (hb : Iv ps.length b) : m__law_all [.val (.list ps), .val (.list [E ps a, E ps b])] = some (.val (E ps (min a.1 b.1, max a.2 b.2)), [none, none]) := by
  obtain ⟨a1, a2⟩ := ha
  obtain ⟨b1, b2⟩ := hb
  refine P_all P (Rs := [a, b]) (fun r m => ?_) (by simp) (by omega) (by omega) ?_ (fun j hj => any_f fun r m => ?_) ?_ (fun j hj _ => any_f fun r m => ?_)
  · rcases List.mem_cons.mp m with rfl | m
    · exact ⟨a1, a2⟩
    · rw [List.mem_singleton.mp m]; exact ⟨b1, b2⟩
  · by_cases h : a.1 ≤ b.1
    · exact any_t (r := a) (by simp) (by omega)
    · exact any_t (r := b) (by simp) (by omega)
  · rcases List.mem_cons.mp m with rfl | m
    · omega
    · rw [List.mem_singleton.mp m]; omega
  · by_cases h : a.2 ≤ b.2
    · exact any_t (r := b) (by simp) (by omega)
    · exact any_t (r := a) (by simp) (by omega)
  · rcases List.mem_cons.mp m with rfl | m
    · omega
    · rw [List.mem_singleton.mp m]; omega
theorem P_all3 (P : Pts p ps) {a b c : Nat × Nat} (ha : Iv ps.length a) (hb : Iv ps.length b) (hc : Iv ps.length c) : m__law_all [.val (.list ps), .val (.list [E ps a, E ps b, E ps c])] = some (.val (E ps (min (min a.1 b.1) c.1, max (max a.2 b.2) c.2)), [none, none]) := by
  obtain ⟨a1, a2⟩ := ha
  obtain ⟨b1, b2⟩ := hb
  obtain ⟨c1, c2⟩ := hc
  have sp : ∀ r ∈ [a, b, c], r = a ∨ r = b ∨ r = c := fun r m => by simpa using m
  refine P_all P (Rs := [a, b, c]) (fun r m => ?_) (by simp) (by omega) (by omega) ?_ (fun j hj => any_f fun r m => ?_) ?_ (fun j hj _ => any_f fun r m => ?_)
  · rcases sp r m with rfl | rfl | rfl
    · exact ⟨a1, a2⟩
    · exact ⟨b1, b2⟩
    · exact ⟨c1, c2⟩
  · by_cases h : a.1 ≤ b.1 ∧ a.1 ≤ c.1
    · exact any_t (r := a) (by simp) (by omega)
    · by_cases h2 : b.1 ≤ c.1
      · exact any_t (r := b) (by simp) (by omega)
      · exact any_t (r := c) (by simp) (by omega)
  · rcases sp r m with rfl | rfl | rfl <;> omega
  · by_cases h : b.2 ≤ a.2 ∧ c.2 ≤ a.2
    · exact any_t (r := a) (by simp) (by omega)
    · by_cases h2 : c.2 ≤ b.2
      · exact any_t (r := b) (by simp) (by omega)
      · exact any_t (r := c) (by simp) (by omega)
  · rcases sp r m with rfl | rfl | rfl <;> omega
theorem P_rest1 (P : Pts p ps) {a b : Nat × Nat} (ha : Iv ps.length a) (hb : Iv ps.length b) : m__law_rest [.val (.list ps), .val (E ps a), .val (.list [E ps b])] = some (.val (.tuple ((minus a b).map (E ps))), [none, none, none]) := by
  refine P_rest P (Rs := [b]) ha (fun r m => by rw [List.mem_singleton.mp m]; exact hb) (by simp) (minus_can hb.1) fun j => ?_
  rw [minus_mem hb.1]
  simp only [List.any_cons, List.any_nil, Bool.or_false]
  constructor
  · intro h
    refine ⟨?_, h⟩
    rw [Bool.and_eq_true] at h
    have h1 := h.1
    unfold hasR at h1
    rw [decide_eq_true_eq] at h1
    have := ha.2
    omega
  · exact fun h => h.2
theorem P_rest2 (P : Pts p ps) {a b c : Nat × Nat} (ha : Iv ps.length a) (hb : Iv ps.length b) (hc : Iv ps.length c) : m__law_rest [.val (.list ps), .val (E ps a), .val (.list [E ps b, E ps c])] = some (.val (.tuple (((minus a b).flatMap fun r => minus r c).map (E ps))), [none, none, none]) := by
  refine P_rest P (Rs := [b, c]) ha (fun r m => by
    rcases List.mem_cons.mp m with rfl | m
    · exact hb
    · rw [List.mem_singleton.mp m]; exact hc) (by simp) (flat_can hc.1 (minus_can hb.1)) fun j => ?_
  rw [flat_mem hc.1, minus_mem hb.1]
  simp only [List.any_cons, List.any_nil, Bool.or_false]
  constructor
  · rintro ⟨h, h2⟩
    rw [Bool.and_eq_true, Bool.not_eq_true'] at h
    have h1 := h.1
    unfold hasR at h1
    rw [decide_eq_true_eq] at h1
    have := ha.2
    refine ⟨by omega, ?_⟩
    rw [h.1, h.2, h2]
    rfl
  · rintro ⟨_, h⟩
    simp only [Bool.and_eq_true, Bool.not_eq_true', Bool.or_eq_false_iff] at h
    exact ⟨by rw [h.1, h.2.1]; rfl, h.2.2⟩
theorem cov_eq (P : Pts p ps) {a b : Nat × Nat} (ha : Iv ps.length a) (hb : Iv ps.length b) : ∃ n : Int, lenD [.tuple ((minus b a).map (E ps))] = some (.int n) ∧ eqD (.int n) (.int 0) = some (decide (a.1 ≤ b.1 ∧ b.2 ≤ a.2)) := by
  refine ⟨_, v_lenT, ?_⟩
  rw [v_eqI, List.length_map]
  congr 1
  have := minus_nil (a := b) (b := a) hb.1 ha.1
  by_cases h : (minus b a).length = 0
  · rw [decide_eq_true (by omega), decide_eq_true (this.mp h)]
  · rw [decide_eq_false (by omega), decide_eq_false fun z => h (this.mpr z)]
theorem P_pair (P : Pts p ps) {a b : Nat × Nat} (ha : Iv ps.length a) (hb : Iv ps.length b) : m__law_pair_right [.val (.list ps), .val (E ps a), .val (E ps b)] = some (.val (.bool true), [none, none, none]) := by
  have a1 : a.1 < ps.length := by have := ha.1; have := ha.2; omega
  have b1 : b.1 < ps.length := by have := hb.1; have := hb.2; omega
  obtain ⟨n, l1, l2⟩ := cov_eq P ha hb
  refine pair_core (P_both2 P ha hb) (P_common P a1 ha.2 b1 hb.2) (P_hd P _ _) (P_overlap P a1 ha.2 b1 hb.2) ?_ (same6b _) (P_join P a1 ha.2 b1 hb.2) (P_all2 P ha hb) (P_simpE P _) (P_left P a1 ha.2 b1 hb.2) (P_rest1 P ha hb) (P_simpEs P _ (Nat.le_trans (minus_len _ _) (by omega))) (P_cover P a1 ha.2 b1 hb.2) (P_rest1 P hb ha) l1 l2 (same6b _)
  by_cases c : max a.1 b.1 < min a.2 b.2
  · rw [if_pos c, decide_eq_true c]; rfl
  · rw [if_neg c, decide_eq_false c]; rfl
theorem P_three (P : Pts p ps) {a b c : Nat × Nat} (ha : Iv ps.length a) (hb : Iv ps.length b) (hc : Iv ps.length c) : m__law_three_right [.val (.list ps), .val (E ps a), .val (E ps b), .val (E ps c)] = some (.val (.bool true), [none, none, none, none]) := by
  have a1 : a.1 < ps.length := by have := ha.1; have := ha.2; omega
  have b1 : b.1 < ps.length := by have := hb.1; have := hb.2; omega
  have c1 : c.1 < ps.length := by have := hc.1; have := hc.2; omega
  have hj : Iv ps.length (min a.1 b.1, max a.2 b.2) := by
    have := ha.1; have := ha.2; have := hb.1; have := hb.2
    exact ⟨by show min a.1 b.1 < max a.2 b.2; omega, by show max a.2 b.2 ≤ _; omega⟩
  have hj1 : min a.1 b.1 < ps.length := by omega
  obtain ⟨n, l1, l2⟩ := cov_eq P hj hc
  have lp := t_loop (P := .list ps) (a := E ps a) (b := E ps b) (c := E ps c) (bo := .val (if max a.1 b.1 < min a.2 b.2 then E ps (max a.1 b.1, min a.2 b.2) else .none)) (j := .val (E ps (min a.1 b.1, max a.2 b.2))) (f := E ps) (g := fun r => (minus r c).map (E ps)) (minus a b) (.own none (.list [])) [] (.inl rfl) (fun r m => by
    have h := minus_in m
    have := ha.2
    exact ⟨P_left P (by omega) (by omega) c1 hc.2, by rw [List.length_map]; exact minus_len _ _⟩) (by have := minus_len a b; simp; omega)
  obtain ⟨r', e, hr⟩ := lp
  have hfm : ((minus a b).flatMap fun r => minus r c).map (E ps) = (minus a b).flatMap fun r => (minus r c).map (E ps) := by rw [List.map_flatMap]
  have flen : ((minus a b).flatMap fun r => minus r c).length ≤ 1000 := by
    have h1 := minus_len a b
    have : ∀ L : List (Nat × Nat), (L.flatMap fun r => minus r c).length ≤ 2 * L.length := fun L => by
      induction L with
      | nil => simp
      | cons x xs ih =>
        rw [List.flatMap_cons, List.length_append, List.length_cons]
        have := minus_len x c
        omega
    have := this (minus a b)
    omega
  rw [List.nil_append, ← hfm] at hr
  have j3 : E ps (min c.1 (min a.1 b.1), max c.2 (max a.2 b.2)) = E ps (min (min a.1 b.1) c.1, max (max a.2 b.2) c.2) := by
    rw [Nat.min_comm, Nat.max_comm]
  have hjoin := P_join P c1 hc.2 hj1 hj.2
  rw [j3] at hjoin
  refine three_core (q := if max (max a.1 b.1) c.1 < min (min a.2 b.2) c.2 then E ps (max (max a.1 b.1) c.1, min (min a.2 b.2) c.2) else .none) (P_both2 P ha hb) (fun hb0 => ?_) (P_all2 P ha hb) hjoin (P_all3 P ha hb hc) (P_simpE P _) (P_cover P hj1 hj.2 c1 hc.2) (P_rest1 P hc hj) l1 l2 (same6b _) (P_rest1 P ha hb) e hr (P_rest2 P ha hb hc) (P_simpEs P _ flen)
  by_cases k : max a.1 b.1 < min a.2 b.2
  · rw [if_pos k] at hb0 ⊢
    exact ⟨P_common P (by omega) (by have := ha.2; omega) c1 hc.2, P_both3 P ha hb hc, P_hd P _ _⟩
  · rw [if_neg k] at hb0
    cases hb0
end
end LW

namespace LW
open PySem L2 DL
/-! distinct keys, put in order -/
structure Dis (p : Bool) (acc : List D) : Prop where
  keys : ∀ x ∈ acc, Key p x
  ne : acc.Pairwise fun x y => x ≠ y
theorem Dis.nil {p : Bool} : Dis p [] := ⟨fun _ m => (nomatch m), .nil⟩
theorem keys_cmp {p : Bool} {acc : List D} (h : ∀ x ∈ acc, Key p x) : cmpOk (.list acc) = true := by
  have := alikeOk_keys h
  unfold alikeOk at this
  simp only [Bool.and_eq_true] at this
  exact this.1.1
theorem nin_keys {p : Bool} {acc : List D} {x : D} (h : ∀ y ∈ acc, Key p y) (hx : Key p x) : ∃ b, ninD x (.list acc) = some b ∧ (b = true ↔ x ∉ acc) := by
  refine ⟨!acc.any fun y => PyData.eqv y x, ?_, ?_⟩
  · have : inD x (.list acc) = some (acc.any fun y => PyData.eqv y x) := by
      have c1 := (key_facts hx hx).2.2.2.2.2.1
      have c2 := keys_cmp h
      cases hx <;> exact if_pos ⟨c1, c2⟩
    unfold ninD
    rw [this]
    rfl
  · rw [Bool.not_eq_true', List.any_eq_false]
    constructor
    · intro g m
      have := g x m
      rw [(key_facts hx hx).2.2.2.1] at this
      simp at this
    · intro g y m e
      rw [(key_facts (h y m) hx).2.2.2.1, decide_eq_true_eq] at e
      have := kk_inj (h y m) hx e
      subst this
      exact g m
theorem Dis.add {p : Bool} {acc : List D} {x : D} (h : Dis p acc) (hx : Key p x) (g : x ∉ acc) : Dis p (acc ++ [x]) := ⟨fun y m => by
  rcases List.mem_append.mp m with m | m
  · exact h.keys y m
  · rw [List.mem_singleton.mp m]; exact hx, List.pairwise_append.mpr ⟨h.ne, List.pairwise_singleton _ _, fun y hy z hz e => by
    rw [List.mem_singleton.mp hz] at e
    subst e
    exact g hy⟩⟩
theorem sort_keys {p : Bool} {acc : List D} (h : Dis p acc) (hl : acc.length ≤ 1000) : ∃ ps, sortC [.list acc] = some (.list ps) ∧ Pts p ps ∧ (∀ x, x ∈ ps ↔ x ∈ acc) ∧ ps.length = acc.length := by
  have mm : ∀ x, x ∈ acc.mergeSort (PySem.W.dataLe false fun d => d) ↔ x ∈ acc := fun x => List.mem_mergeSort
  have T : PySem.W.TotalLe (PySem.W.dataLe false fun d : D => d) := PySem.W.sortLe_total _ false _
  refine ⟨acc.mergeSort (PySem.W.dataLe false fun d => d), ?_, ⟨fun x m => h.keys x ((mm x).mp m), ?_, by rw [List.length_mergeSort]; exact hl⟩, mm, List.length_mergeSort _⟩
  · show (if sortOk acc = true then _ else _) = _
    rw [if_pos]
    unfold sortOk
    have h1 := keys_cmp h.keys
    have h2 : (acc.all fun a => acc.all fun b => PySem.W.alike a b) = true := by
      rw [List.all_eq_true]; intro a ma
      rw [List.all_eq_true]; intro b mb
      exact (key_facts (h.keys a ma) (h.keys b mb)).2.2.2.2.1
    have h3 : (acc.all isTupX || acc.all isFlatX) = true := by
      rw [Bool.or_eq_true, List.all_eq_true, List.all_eq_true]
      cases p with
      | true => left; intro a ma; cases h.keys a ma; rfl
      | false => right; intro a ma; cases h.keys a ma; rfl
    rw [h1, h2, h3, decide_eq_true (by omega)]
    rfl
  · have s1 := List.pairwise_mergeSort (le := PySem.W.dataLe false fun d : D => d) (fun a b c => T.trans a b c) (fun a b => by rcases T.total a b with z | z <;> rw [z] <;> simp) acc
    have s2 : (acc.mergeSort (PySem.W.dataLe false fun d => d)).Pairwise fun x y => x ≠ y := (List.mergeSort_perm acc _).symm.pairwise h.ne fun e => fun z => e z.symm
    refine (s1.and s2).imp_of_mem ?_
    intro x y hx hy ⟨a, b⟩
    have kx := h.keys x ((mm x).mp hx)
    have ky := h.keys y ((mm y).mp hy)
    have a' : (!PySem.W.dataLt y x) = true := a
    rw [(key_facts ky kx).2.2.1, Bool.not_eq_true'] at a'
    cases e : klt x y with
    | true => rfl
    | false => exact absurd (klt_tri kx ky e a') b
end LW

namespace LW
open PySem L2 DL
/-- acc with the ends es added -/
structure Add (p : Bool) (acc es acc' : List D) : Prop where
  dis : Dis p acc'
  sub : ∀ x ∈ acc, x ∈ acc'
  has : ∀ e ∈ es, isNoneD e = false → e ∈ acc'
  len : acc'.length ≤ acc.length + es.length
theorem Add.nil {p : Bool} {acc : List D} (h : Dis p acc) : Add p acc [] acc := ⟨h, fun _ m => m, fun _ m => (nomatch m), by simp⟩
theorem Add.cons {p : Bool} {acc acc1 acc2 es : List D} {e : D} (h : Add p acc [e] acc1) (g : Add p acc1 es acc2) : Add p acc (e :: es) acc2 := ⟨g.dis, fun x m => g.sub x (h.sub x m), fun x m hx => by
  rcases List.mem_cons.mp m with rfl | m
  · exact g.sub _ (h.has _ List.mem_cons_self hx)
  · exact g.has x m hx, by
  have h1 := h.len
  have h2 := g.len
  simp only [List.length_cons, List.length_nil] at h1 ⊢
  omega⟩
theorem Add.app {p : Bool} {acc acc1 acc2 es fs : List D} (h : Add p acc es acc1) (g : Add p acc1 fs acc2) : Add p acc (es ++ fs) acc2 := ⟨g.dis, fun x m => g.sub x (h.sub x m), fun x m hx => by
  rcases List.mem_append.mp m with m | m
  · exact g.sub _ (h.has _ m hx)
  · exact g.has x m hx, by
  have h1 := h.len
  have h2 := g.len
  rw [List.length_append]
  omega⟩
theorem Add.skip {p : Bool} {acc : List D} {e : D} (h : Dis p acc) (g : isNoneD e = true ∨ e ∈ acc) : Add p acc [e] acc := ⟨h, fun _ m => m, fun x m hx => by
  rw [List.mem_singleton.mp m] at hx ⊢
  rcases g with g | g
  · rw [g] at hx; cases hx
  · exact g, by simp⟩
theorem Add.new {p : Bool} {acc : List D} {e : D} (h : Dis p acc) (k : Key p e) (g : e ∉ acc) : Add p acc [e] (acc ++ [e]) := ⟨h.add k g, fun x m => List.mem_append.mpr (.inl m), fun x m _ => by
  rw [List.mem_singleton.mp m]
  exact List.mem_append.mpr (.inr (List.mem_singleton.mpr rfl)), by simp⟩
noncomputable abbrev pB : DS := dThenKill (dIf (dAnd (dCmpT isNN (dVar 3) (dC .none)) (dCmpTV ninD (dVar 3) 1)) (dApp 1 (dVar 3)) dNext) [3]
noncomputable abbrev pO : DS := dThenKill (dSeq (dKill [3]) (dForI (itD (dVar 2)) (dNm 3) pB)) [2, 3]
abbrev pSt (S : D) (acc : List D) (sp : Option SV) : DSt := [some (.val S), some (.own none (.list acc)), sp, none]
theorem p_none {S e : D} {acc ds : List D} {sp : Option SV} (h : isNoneD e = true) : forL (dNm 3) pB (e :: ds) (pSt S acc sp) = forL (dNm 3) pB ds (pSt S acc sp) := by
  simp only [forL, pB, pSt]
  simp [h]
theorem p_in {S e : D} {acc ds : List D} {sp : Option SV} (h : isNoneD e = false) (g : ninD e (.list acc) = some false) : forL (dNm 3) pB (e :: ds) (pSt S acc sp) = forL (dNm 3) pB ds (pSt S acc sp) := by
  simp only [forL, pB, pSt]
  simp [h, g]
theorem p_new {S e : D} {acc ds : List D} {sp : Option SV} (h : isNoneD e = false) (g : ninD e (.list acc) = some true) (hl : acc.length < 16777216) : forL (dNm 3) pB (e :: ds) (pSt S acc sp) = forL (dNm 3) pB ds (pSt S (acc ++ [e]) sp) := by
  simp only [forL, pB, pSt]
  simp [h, g, hl]
theorem p_loop {p : Bool} {S : D} {sp : Option SV} : ∀ (es acc : List D), Dis p acc → (∀ e ∈ es, e = .none ∨ Key p e) → acc.length + es.length ≤ 900 → ∃ acc', forL (dNm 3) pB es (pSt S acc sp) = some (.nx (pSt S acc' sp)) ∧ Add p acc es acc'
  | [], acc, h, _, _ => ⟨acc, rfl, .nil h⟩
  | e :: es, acc, h, he, hl => by
    simp only [List.length_cons] at hl
    have hes : ∀ e ∈ es, e = .none ∨ Key p e := fun x m => he x (List.mem_cons_of_mem _ m)
    rcases he e List.mem_cons_self with rfl | k
    · rw [p_none rfl]
      obtain ⟨acc', e1, a⟩ := p_loop es acc h hes (by omega)
      exact ⟨acc', e1, (Add.skip h (.inl rfl)).cons a⟩
    · have hn := (key_facts k k).2.2.2.2.2.2.2.2
      obtain ⟨b, hb, hb2⟩ := nin_keys h.keys k
      cases b with
      | false =>
        rw [p_in hn hb]
        obtain ⟨acc', e1, a⟩ := p_loop es acc h hes (by omega)
        have hm : e ∈ acc := by
          by_cases m : e ∈ acc
          · exact m
          · have := hb2.mpr m; cases this
        exact ⟨acc', e1, (Add.skip h (.inr hm)).cons a⟩
      | true =>
        have hm := hb2.mp rfl
        rw [p_new hn hb (by omega)]
        obtain ⟨acc', e1, a⟩ := p_loop es (acc ++ [e]) (h.add k hm) hes (by simp only [List.length_append, List.length_cons, List.length_nil]; omega)
        exact ⟨acc', e1, (Add.new h k hm).cons a⟩
theorem pO_step {S : D} {acc acc' es ds : List D} (h : forL (dNm 3) pB es (pSt S acc (some (.val (.tuple es)))) = some (.nx (pSt S acc' (some (.val (.tuple es)))))) : forL (dNm 2) pO (.tuple es :: ds) (pSt S acc none) = forL (dNm 2) pO ds (pSt S acc' none) := by
  simp only [pB, pSt] at h
  simp only [forL, pO, pB, pSt]
  simp [h]
/-- an interval of keys, not empty -/
def Span (p : Bool) (d : D) : Prop := ∃ lo hi, d = .tuple [lo, hi] ∧ Key p lo ∧ (hi = .none ∨ Key p hi ∧ klt lo hi = true)
theorem pO_loop {p : Bool} {S : D} : ∀ (spans acc : List D), Dis p acc → (∀ d ∈ spans, Span p d) → acc.length + 2 * spans.length ≤ 900 → ∃ acc', forL (dNm 2) pO spans (pSt S acc none) = some (.nx (pSt S acc' none)) ∧ Dis p acc' ∧ (∀ x ∈ acc, x ∈ acc') ∧ (∀ lo hi, .tuple [lo, hi] ∈ spans → lo ∈ acc' ∧ (isNoneD hi = false → hi ∈ acc')) ∧ acc'.length ≤ acc.length + 2 * spans.length
  | [], acc, h, _, _ => ⟨acc, rfl, h, fun _ m => m, fun _ _ m => (nomatch m), by simp⟩
  | d :: spans, acc, h, hs, hl => by
    simp only [List.length_cons] at hl
    obtain ⟨lo, hi, rfl, k1, k2⟩ := hs d List.mem_cons_self
    obtain ⟨acc1, e1, a⟩ := p_loop (S := S) (sp := some (.val (.tuple [lo, hi]))) [lo, hi] acc h (fun e m => by
      rcases List.mem_cons.mp m with rfl | m
      · exact .inr k1
      · rw [List.mem_singleton.mp m]
        rcases k2 with k2 | k2
        · exact .inl k2
        · exact .inr k2.1) (by simp; omega)
    rw [pO_step e1]
    have la := a.len
    simp only [List.length_cons, List.length_nil] at la
    obtain ⟨acc2, e2, b1, b2, b3, b4⟩ := pO_loop spans acc1 a.dis (fun x m => hs x (List.mem_cons_of_mem _ m)) (by omega)
    refine ⟨acc2, e2, b1, fun x m => b2 x (a.sub x m), fun lo' hi' m => ?_, by simp only [List.length_cons]; omega⟩
    rcases List.mem_cons.mp m with e | m
    · cases e
      exact ⟨b2 _ (a.has lo (by simp) (key_facts k1 k1).2.2.2.2.2.2.2.2), fun z => b2 _ (a.has hi (by simp) z)⟩
    · exact b3 lo' hi' m
theorem points_core {spans acc ps : List D} (h : forL (dNm 2) pO spans (pSt (.list spans) [] none) = some (.nx (pSt (.list spans) acc none))) (hs : sortC [.list acc] = some (.list ps)) : m__law_points [.val (.list spans)] = some (.own none (.list ps), [none]) := by
  unfold m__law_points F__law_points
  simp only [pO, pB, pSt] at h
  simp [h, hs]
theorem pt_mem {ps : List D} {x : D} (m : x ∈ ps) : ∃ k, k < ps.length ∧ pt ps k = x := by
  obtain ⟨k, hk, e⟩ := List.getElem_of_mem m
  exact ⟨k, hk, by rw [pt_in hk, e]⟩
theorem points {p : Bool} {spans : List D} (hs : ∀ d ∈ spans, Span p d) (hl : spans.length ≤ 400) : ∃ ps, m__law_points [.val (.list spans)] = some (.own none (.list ps), [none]) ∧ Pts p ps ∧ ∀ d ∈ spans, ∃ r, Iv ps.length r ∧ d = E ps r := by
  obtain ⟨acc, e, h1, _, h3, h4⟩ := pO_loop (p := p) (S := .list spans) spans [] .nil hs (by simp; omega)
  simp only [List.length_nil] at h4
  obtain ⟨ps, e2, P, hm, hl2⟩ := sort_keys h1 (by omega)
  refine ⟨ps, points_core e e2, P, fun d m => ?_⟩
  obtain ⟨lo, hi, rfl, k1, k2⟩ := hs d m
  obtain ⟨g1, g2⟩ := h3 lo hi m
  obtain ⟨l, hl3, rfl⟩ := pt_mem ((hm lo).mpr g1)
  rcases k2 with rfl | ⟨k2, k3⟩
  · exact ⟨(l, ps.length), ⟨hl3, Nat.le_refl _⟩, by show PyData.tuple _ = .tuple [_, pt ps ps.length]; rw [pt_out (Nat.le_refl _)]⟩
  · obtain ⟨h, hh, rfl⟩ := pt_mem ((hm hi).mpr (g2 (key_facts k2 k2).2.2.2.2.2.2.2.2))
    rw [P.lt hl3 hh, decide_eq_true_eq] at k3
    exact ⟨(l, h), ⟨k3, by show h ≤ _; omega⟩, rfl⟩
end LW

namespace LW
open PySem L2 DL
inductive KeyN (n : Nat) : Bool → D → Prop where
  | one (a : Str) : Tx n a → KeyN n false (.str a)
  | two (a b : Str) : Tx n a → Tx n b → KeyN n true (.tuple [.str a, .str b])
theorem KeyN.key {n : Nat} {p : Bool} {x : D} (h : KeyN n p x) (hn : n ≤ 40) : Key p x := by
  cases h with
  | one a h => exact .one a (h.mono hn)
  | two a b h g => exact .two a b (h.mono hn) (g.mono hn)
theorem KeyN.mono {m n : Nat} {p : Bool} {x : D} (h : KeyN m p x) (hn : m ≤ n) : KeyN n p x := by
  cases h with
  | one a h => exact .one a (h.mono hn)
  | two a b h g => exact .two a b (h.mono hn) (g.mono hn)
theorem sp_len {n : Nat} {a : Str} (h : Tx n a) (hn : n ≤ 1000) : a.length + (Str.ofString " ").length ≤ 16777216 := by
  have h1 := h.1
  have : (Str.ofString " ").length = 1 := by decide +kernel
  omega
/-- the next key -/
theorem next_key {n : Nat} {p : Bool} {x : D} (h : KeyN n p x) (hn : n ≤ 30) : ∃ y, m_successor_of [.val x] = some (.val y, [none]) ∧ m__law_a_next [.val x] = some (.val y, [none]) ∧ KeyN (n + 1) p y := by
  cases h with
  | one a h =>
    have l := sp_len h (by omega)
    refine ⟨.str (a ++ Str.ofString " "), ?_, ?_, .one _ (h.add Tx.space)⟩
    · unfold m_successor_of F_successor_of; simp [l]
    · unfold m__law_a_next F__law_a_next; simp [l]
  | two a b h g =>
    have l := sp_len g (by omega)
    refine ⟨.tuple [.str a, .str (b ++ Str.ofString " ")], ?_, ?_, .two _ _ (h.mono (by omega)) (g.add Tx.space)⟩
    · unfold m_successor_of F_successor_of; simp [at2, l]
    · unfold m__law_a_next F__law_a_next; simp [at2, l]
def leastD (p : Bool) : D := if p = true then .tuple [.str (Str.ofString ""), .str (Str.ofString "")] else .str (Str.ofString "")
theorem least (p : Bool) : m_least_key [.val (.bool p)] = some (.val (leastD p), [none]) := by
  unfold m_least_key F_least_key leastD
  cases p <;> simp
theorem whole (p : Bool) : m_whole_interval [.val (.bool p)] = some (.val (.tuple [leastD p, .none]), [none]) := by
  unfold m_whole_interval F_whole_interval
  simp [least p]
theorem around {x y : D} (h : m_successor_of [.val x] = some (.val y, [none])) : m_around_key [.val x] = some (.val (.tuple [x, y]), [none]) := by
  unfold m_around_key F_around_key
  simp [h]
noncomputable abbrev kB : DS := (dSeq (dIf (dNot (dTest (dF (dCall (m__law_same 6) [.e (dF (dCall m_has_key [.e (dVar 4), .e (dVar 1)])), .e (dF (dCall m__law_has [.e (dVar 4), .e (dVar 1)]))]))))
    (dRet (dV (dC (.bool false))))
    dNext)
    (dSeq (dSet 5 (dV (dTup (dCons (dIxV 4 (dC (.int 0))) (dCons (dIx (dIxV 2 (dC (.int 0))) (dC (.int 0))) dNil)))))
    (dThenKill (dIf (dOr (dNot (dTest (dF (dCall (m__law_same 6) [.e (dF (dCall m_is_empty [.e (dVar 4)])), .e (dC (.bool false))])))) (dNot (dTest (dF (dCall (m__law_same 6) [.e (dF (dCall m_is_empty [.e (dVar 5)])), .e (dCmp (ordD .LtE) (dIxV 5 (dC (.int 1))) (dIxV 5 (dC (.int 0))))])))))
    (dRet (dV (dC (.bool false))))
    dNext) [4, 5])))
abbrev kSt (p : Bool) (k : D) (spans : List D) (l : D) : DSt := [some (.val (.bool p)), some (.val k), some (.val (.list spans)), some (.val l), none, none]
theorem k_step {p : Bool} {k l lo hi lo0 hi0 : D} {spans ds : List D} {b q : Bool} (h1 : m_has_key [.val (.tuple [lo, hi]), .val k] = some (.val (.bool b), [none, none])) (h2 : m__law_has [.val (.tuple [lo, hi]), .val k] = some (.val (.bool b), [none, none])) (s1 : Same6 (.bool b)) (e0 : atI spans 0 = some (.tuple [lo0, hi0]))
    (h3 : m_is_empty [.val (.tuple [lo, hi])] = some (.val (.bool false), [none])) (s2 : Same6 (.bool false)) (h4 : m_is_empty [.val (.tuple [lo, lo0])] = some (.val (.bool q), [none])) (h5 : ordD .LtE lo0 lo = some q) (s3 : Same6 (.bool q)) :
    forL (dNm 4) kB (.tuple [lo, hi] :: ds) (kSt p k spans l) = forL (dNm 4) kB ds (kSt p k spans l) := by
  simp only [forL, kB, kSt]
  simp [h1, h2, s1, e0, at2, h3, s2, h4, h5, s3]
theorem k_core {p : Bool} {k k' l : D} {spans : List D} (hl : leastD p = l) (s1 : Same6 l) (s2 : Same6 (.tuple [l, .none])) (h1 : m_least_key [.val (.bool p)] = some (.val l, [none])) (h2 : m_whole_interval [.val (.bool p)] = some (.val (.tuple [l, .none]), [none]))
    (h3 : m_successor_of [.val k] = some (.val k', [none])) (h4 : m__law_a_next [.val k] = some (.val k', [none])) (s3 : Same6 k') (h5 : m_around_key [.val k] = some (.val (.tuple [k, k']), [none])) (s4 : Same6 (.tuple [k, k']))
    (h6 : forL (dNm 4) kB spans (kSt p k spans l) = some (.nx (kSt p k spans l))) :
    m__law_keys_right [.val (.bool p), .val k, .val (.list spans)] = some (.val (.bool true), [none, none, none]) := by
  unfold m__law_keys_right F__law_keys_right
  simp only [kB, kSt] at h6
  unfold leastD at hl
  cases p
  · simp only [Bool.false_eq_true, if_false] at hl
    subst hl
    simp [h1, s1, h2, s2, h3, h4, s3, h5, s4, h6]
  · simp only [if_true] at hl
    subst hl
    simp [h1, s1, h2, s2, h3, h4, s3, h5, s4, h6]
theorem span_has {p : Bool} {lo hi x : D} (h : Span p (.tuple [lo, hi])) (hx : Key p x) : ∃ b, m_has_key [.val (.tuple [lo, hi]), .val x] = some (.val (.bool b), [none, none]) ∧ m__law_has [.val (.tuple [lo, hi]), .val x] = some (.val (.bool b), [none, none]) := by
  obtain ⟨lo', hi', e, k1, k2⟩ := h
  cases e
  have h1 := (key_facts k1 hx).2.1
  rcases k2 with rfl | ⟨k2, _⟩
  · exact ⟨_, c_has_key (q := true) h1 rfl (fun z => by cases z), c_law_has (q := true) h1 rfl (fun z => by cases z)⟩
  · have hn := (key_facts k2 k2).2.2.2.2.2.2.2.2
    exact ⟨_, c_has_key h1 hn (fun _ => (key_facts hx k2).1), c_law_has h1 hn (fun _ => (key_facts hx k2).1)⟩
theorem k_loop {p : Bool} {k l : D} {spans : List D} (hk : Key p k) {lo0 hi0 : D} (e0 : atI spans 0 = some (.tuple [lo0, hi0])) (h0 : Key p lo0) : ∀ ds : List D, (∀ d ∈ ds, Span p d) → forL (dNm 4) kB ds (kSt p k spans l) = some (.nx (kSt p k spans l))
  | [], _ => rfl
  | d :: ds, h => by
    have hd := h d List.mem_cons_self
    obtain ⟨lo, hi, rfl, k1, k2⟩ := id hd
    obtain ⟨b, h1, h2⟩ := span_has hd hk
    have h3 : m_is_empty [.val (.tuple [lo, hi])] = some (.val (.bool false), [none]) := by
      rcases k2 with rfl | ⟨k2, k3⟩
      · exact c_is_empty (n := true) (q := true) rfl (fun z => by cases z)
      · rw [c_is_empty (key_facts k2 k2).2.2.2.2.2.2.2.2 fun _ => (key_facts k2 k1).2.1, k3]
        rfl
    have h4 : m_is_empty [.val (.tuple [lo, lo0])] = some (.val (.bool (!klt lo lo0)), [none]) := by
      rw [c_is_empty (key_facts h0 h0).2.2.2.2.2.2.2.2 fun _ => (key_facts h0 k1).2.1]
      simp
    rw [k_step h1 h2 (same6b b) e0 h3 (same6b false) h4 (key_facts h0 k1).2.1 (same6b _)]
    exact k_loop hk e0 h0 ds fun x m => h x (List.mem_cons_of_mem _ m)
theorem key_same {p : Bool} {x : D} (h : Key p x) : Same6 x := same6 (key_simp1 h) (by have := (key_facts h h).2.2.2.2.2.2.1; omega)
theorem key_same2 {p : Bool} {x y : D} (h : Key p x) (hy : Key p y ∨ y = .none) : Same6 (.tuple [x, y]) := by
  have d1 := (key_facts h h).2.2.2.2.2.2.1
  have s1 := key_simp1 h
  have d2 : y.depth ≤ 1 ∧ simp1 y = true := by
    rcases hy with hy | rfl
    · exact ⟨(key_facts hy hy).2.2.2.2.2.2.1, key_simp1 hy⟩
    · exact ⟨Nat.zero_le _, rfl⟩
  refine same6 ?_ ?_
  · show (decide (2 ≤ 1000000) && (simp1 x && (simp1 y && true))) = true
    rw [s1, d2.2]; rfl
  · show Nat.max x.depth (Nat.max y.depth 0) + 1 ≤ 5
    have : Nat.max x.depth (Nat.max y.depth 0) ≤ 1 := Nat.max_le.mpr ⟨d1, Nat.max_le.mpr ⟨d2.1, Nat.zero_le _⟩⟩
    omega
theorem least_key' (p : Bool) : Key p (leastD p) := by
  cases p with
  | true => exact .two _ _ (Tx.nil.mono (by omega)) (Tx.nil.mono (by omega))
  | false => exact .one _ (Tx.nil.mono (by omega))
theorem keys_right {p : Bool} {k : D} {n : Nat} (hk : KeyN n p k) (hn : n ≤ 30) {a b c : D} (ha : Span p a) (hb : Span p b) (hc : Span p c) : m__law_keys_right [.val (.bool p), .val k, .val (.list [a, b, c])] = some (.val (.bool true), [none, none, none]) := by
  obtain ⟨k', h1, h2, h3⟩ := next_key hk hn
  have kk := hk.key (by omega)
  have kk' := h3.key (by omega)
  obtain ⟨lo, hi, rfl, k1, k2⟩ := id ha
  refine k_core rfl (key_same (least_key' p)) (key_same2 (least_key' p) (.inr rfl)) (least p) (whole p) h1 h2 (key_same kk') (around h1) (key_same2 kk (.inl kk')) (k_loop kk (lo0 := lo) (hi0 := hi) rfl k1 _ fun d m => ?_)
  have : d = .tuple [lo, hi] ∨ d = b ∨ d = c := by simpa using m
  rcases this with rfl | rfl | rfl
  · exact ha
  · exact hb
  · exact hc
end LW

namespace LW
open PySem L2 DL
theorem at3 {a b c : D} : atI [a, b, c] 0 = some a ∧ atI [a, b, c] 1 = some b ∧ atI [a, b, c] 2 = some c := ⟨rfl, rfl, rfl⟩
theorem at6 {a b c d e f : D} : atI [a, b, c, d, e, f] 0 = some a ∧ atI [a, b, c, d, e, f] 1 = some b ∧ atI [a, b, c, d, e, f] 2 = some c ∧ atI [a, b, c, d, e, f] 3 = some d ∧ atI [a, b, c, d, e, f] 4 = some e ∧ atI [a, b, c, d, e, f] 5 = some f := ⟨rfl, rfl, rfl, rfl, rfl, rfl⟩
theorem asked_keys {P k S : D} {b : Bool} {ps : List D} (h0 : m__law_points [.val S] = some (.own none (.list ps), [none])) (h : m__law_keys_right [.val (.bool b), .val k, .val S] = some (.val (.bool true), [none, none, none])) :
    m__law_asked_right [.val (.int 12), .val (.bool b), .val k, .val S] = some (.val (.bool true), [none, none, none, none]) := by
  unfold m__law_asked_right F__law_asked_right
  simp [h0, h]
theorem asked_pair {d e : Int} {k : D} {b : Bool} {S ps : List D} {x y z : Int} {a c u : D} (hd : d < 6) (hd12 : ¬ d = 12) (he : d % 6 = e) (ho : atI [PyData.tuple [.int 0, .int 1, .int 2], .tuple [.int 1, .int 0, .int 2], .tuple [.int 0, .int 2, .int 1], .tuple [.int 2, .int 0, .int 1], .tuple [.int 1, .int 2, .int 0], .tuple [.int 2, .int 1, .int 0]] e = some (.tuple [.int x, .int y, .int z]))
    (hx : atI S x = some a) (hy : atI S y = some c) (h0 : m__law_points [.val (.list S)] = some (.own none (.list ps), [none])) (h : m__law_pair_right [.val (.list ps), .val a, .val c] = some (.val (.bool true), [none, none, none])) :
    m__law_asked_right [.val (.int d), .val (.bool b), .val k, .val (.list S)] = some (.val (.bool true), [none, none, none, none]) := by
  unfold m__law_asked_right F__law_asked_right
  simp [h0, h, hd, hd12, he, ho, at3, hx, hy]
theorem asked_three {d e : Int} {k : D} {b : Bool} {S ps : List D} {x y z : Int} {a c u : D} (hd : ¬ d < 6) (hd12 : ¬ d = 12) (he : d % 6 = e) (ho : atI [PyData.tuple [.int 0, .int 1, .int 2], .tuple [.int 1, .int 0, .int 2], .tuple [.int 0, .int 2, .int 1], .tuple [.int 2, .int 0, .int 1], .tuple [.int 1, .int 2, .int 0], .tuple [.int 2, .int 1, .int 0]] e = some (.tuple [.int x, .int y, .int z]))
    (hx : atI S x = some a) (hy : atI S y = some c) (hz : atI S z = some u) (h0 : m__law_points [.val (.list S)] = some (.own none (.list ps), [none])) (h : m__law_three_right [.val (.list ps), .val a, .val c, .val u] = some (.val (.bool true), [none, none, none, none])) :
    m__law_asked_right [.val (.int d), .val (.bool b), .val k, .val (.list S)] = some (.val (.bool true), [none, none, none, none]) := by
  unfold m__law_asked_right F__law_asked_right
  simp [h0, h, hd, hd12, he, ho, at3, hx, hy, hz]
theorem order_at (e : Int) (h0 : 0 ≤ e) (h1 : e < 6) : ∃ x y z : Int, atI [PyData.tuple [.int 0, .int 1, .int 2], .tuple [.int 1, .int 0, .int 2], .tuple [.int 0, .int 2, .int 1], .tuple [.int 2, .int 0, .int 1], .tuple [.int 1, .int 2, .int 0], .tuple [.int 2, .int 1, .int 0]] e = some (.tuple [.int x, .int y, .int z]) ∧ (0 ≤ x ∧ x < 3) ∧ (0 ≤ y ∧ y < 3) ∧ (0 ≤ z ∧ z < 3) := by
  have : e = 0 ∨ e = 1 ∨ e = 2 ∨ e = 3 ∨ e = 4 ∨ e = 5 := by omega
  rcases this with rfl | rfl | rfl | rfl | rfl | rfl
  · exact ⟨0, 1, 2, rfl, by omega, by omega, by omega⟩
  · exact ⟨1, 0, 2, rfl, by omega, by omega, by omega⟩
  · exact ⟨0, 2, 1, rfl, by omega, by omega, by omega⟩
  · exact ⟨2, 0, 1, rfl, by omega, by omega, by omega⟩
  · exact ⟨1, 2, 0, rfl, by omega, by omega, by omega⟩
  · exact ⟨2, 1, 0, rfl, by omega, by omega, by omega⟩
theorem asked {p : Bool} {k : D} {n : Nat} (hk : KeyN n p k) (hn : n ≤ 30) {a b c : D} (ha : Span p a) (hb : Span p b) (hc : Span p c) (d : Int) (h0 : 0 ≤ d) (h1 : d < 13) : m__law_asked_right [.val (.int d), .val (.bool p), .val k, .val (.list [a, b, c])] = some (.val (.bool true), [none, none, none, none]) := by
  have hS : ∀ x ∈ [a, b, c], Span p x := fun x m => by
    have : x = a ∨ x = b ∨ x = c := by simpa using m
    rcases this with rfl | rfl | rfl
    · exact ha
    · exact hb
    · exact hc
  obtain ⟨ps, e0, P, hE⟩ := points hS (by simp)
  have at_ : ∀ i : Int, 0 ≤ i → i < 3 → ∃ r, atI [a, b, c] i = some (E ps r) ∧ Iv ps.length r := fun i g0 g1 => by
    obtain ⟨x, e, m⟩ := atI_in [a, b, c] i g0 g1
    obtain ⟨r, h, rfl⟩ := hE x m
    exact ⟨r, e, h⟩
  by_cases h12 : d = 12
  · subst h12
    exact asked_keys (P := .none) e0 (keys_right hk hn ha hb hc)
  · obtain ⟨x, y, z, ho, hx, hy, hz⟩ := order_at (d % 6) (by omega) (by omega)
    obtain ⟨rx, ex, ix⟩ := at_ x hx.1 hx.2
    obtain ⟨ry, ey, iy⟩ := at_ y hy.1 hy.2
    obtain ⟨rz, ez, iz⟩ := at_ z hz.1 hz.2
    by_cases h6 : d < 6
    · exact asked_pair (u := .none) h6 h12 rfl ho ex ey e0 (P_pair P ix iy)
    · exact asked_three h6 h12 rfl ho ex ey ez e0 (P_three P ix iy iz)
/-! the names -/
noncomputable abbrev nB : DS := dThenKill (dIf (dCmpTV ninD (dVar 4) 3) (dApp 3 (dVar 4)) dNext) [4]
abbrev nSt (p s t : D) (acc : List D) : DSt := [some (.val p), some (.val s), some (.val t), some (.own none (.list acc)), none, none, none]
theorem n_step {p s t e : D} {acc ds : List D} {b : Bool} (g : ninD e (.list acc) = some b) (hl : acc.length < 16777216) : forL (dNm 4) nB (e :: ds) (nSt p s t acc) = forL (dNm 4) nB ds (nSt p s t (if b = true then acc ++ [e] else acc)) := by
  simp only [forL, nB, nSt]
  cases b <;> simp [g, hl]
theorem n_loop {q : Bool} {p s t : D} {Q : D → Prop} : ∀ (es acc : List D), (∀ x ∈ acc, Key q x ∧ Q x) → (∀ x ∈ es, Key q x ∧ Q x) → acc.length + es.length ≤ 900 → ∃ acc', forL (dNm 4) nB es (nSt p s t acc) = some (.nx (nSt p s t acc')) ∧ (∀ x ∈ acc', Key q x ∧ Q x) ∧ acc'.length ≤ acc.length + es.length ∧ acc.length ≤ acc'.length ∧ (es ≠ [] → 1 ≤ acc'.length)
  | [], acc, h, _, _ => ⟨acc, rfl, h, by simp, Nat.le_refl _, fun z => absurd rfl z⟩
  | e :: es, acc, h, he, hl => by
    simp only [List.length_cons] at hl
    obtain ⟨b, hb, hb2⟩ := nin_keys (fun y m => (h y m).1) (he e List.mem_cons_self).1
    rw [n_step hb (by omega)]
    have hes : ∀ x ∈ es, Key q x ∧ Q x := fun x m => he x (List.mem_cons_of_mem _ m)
    cases b with
    | false =>
      obtain ⟨acc', e1, a, c, d, _⟩ := n_loop (p := p) (s := s) (t := t) es acc h hes (by omega)
      refine ⟨acc', e1, a, by simp only [List.length_cons]; omega, d, fun _ => ?_⟩
      have hm : e ∈ acc := by
        by_cases m : e ∈ acc
        · exact m
        · have := hb2.mpr m; cases this
      have := List.length_pos_of_mem hm
      omega
    | true =>
      obtain ⟨acc', e1, a, c, d, _⟩ := n_loop (p := p) (s := s) (t := t) es (acc ++ [e]) (fun x m => by
        rcases List.mem_append.mp m with m | m
        · exact h x m
        · rw [List.mem_singleton.mp m]; exact he e List.mem_cons_self) hes (by simp only [List.length_append, List.length_cons, List.length_nil]; omega)
      simp only [List.length_append, List.length_cons, List.length_nil] at c d
      exact ⟨acc', e1, a, by simp only [List.length_cons]; omega, by omega, fun _ => by omega⟩
end LW

namespace LW
open PySem L2 DL
noncomputable abbrev iB : DS := dThenKill (dIf (dCmpTV ninD (dTup (dCons (dVar 6) (dCons (dVar 4) dNil))) 5) (dApp 5 (dTup (dCons (dVar 6) (dCons (dVar 4) dNil)))) dNext) [4]
noncomputable abbrev oB : DS := dThenKill (dSeq (dKill [4]) (dForI (itD (dSlV 3 dNoP (dPt (dC (.int 3))))) (dNm 4) iB)) [4, 6]
abbrev iSt (p s t : D) (names keys : List D) (term : Option SV) : DSt := [some (.val p), some (.val s), some (.val t), some (.own none (.list names)), none, some (.own none (.list keys)), term]
theorem i_step {p s t e term : D} {names keys ds : List D} {b : Bool} (g : ninD (.tuple [term, e]) (.list keys) = some b) (hl : keys.length < 16777216) : forL (dNm 4) iB (e :: ds) (iSt p s t names keys (some (.val term))) = forL (dNm 4) iB ds (iSt p s t names (if b = true then keys ++ [.tuple [term, e]] else keys) (some (.val term))) := by
  simp only [forL, iB, iSt]
  cases b <;> simp [g, hl]
theorem i_loop {p s t : D} {names : List D} {term : Str} (ht : Tx 8 term) : ∀ (es keys : List D), (∀ x ∈ keys, KeyN 8 true x) → (∀ x ∈ es, KeyN 8 false x) → keys.length + es.length ≤ 900 → ∃ keys', forL (dNm 4) iB es (iSt p s t names keys (some (.val (.str term)))) = some (.nx (iSt p s t names keys' (some (.val (.str term))))) ∧ (∀ x ∈ keys', KeyN 8 true x) ∧ keys'.length ≤ keys.length + es.length ∧ keys.length ≤ keys'.length ∧ (es ≠ [] → 1 ≤ keys'.length)
  | [], keys, h, _, _ => ⟨keys, rfl, h, by simp, Nat.le_refl _, fun z => absurd rfl z⟩
  | e :: es, keys, h, he, hl => by
    simp only [List.length_cons] at hl
    have ke : KeyN 8 true (.tuple [.str term, e]) := by
      cases he e List.mem_cons_self with
      | one a ha => exact .two _ _ ht ha
    obtain ⟨b, hb, hb2⟩ := nin_keys (fun y m => (h y m).key (by omega)) (ke.key (by omega))
    rw [i_step hb (by omega)]
    have hes : ∀ x ∈ es, KeyN 8 false x := fun x m => he x (List.mem_cons_of_mem _ m)
    cases b with
    | false =>
      obtain ⟨keys', e1, a, c, d, _⟩ := i_loop (p := p) (s := s) (t := t) (names := names) ht es keys h hes (by omega)
      refine ⟨keys', e1, a, by simp only [List.length_cons]; omega, d, fun _ => ?_⟩
      have hm : PyData.tuple [.str term, e] ∈ keys := by
        by_cases m : PyData.tuple [.str term, e] ∈ keys
        · exact m
        · have := hb2.mpr m; cases this
      have := List.length_pos_of_mem hm
      omega
    | true =>
      obtain ⟨keys', e1, a, c, d, _⟩ := i_loop (p := p) (s := s) (t := t) (names := names) ht es (keys ++ [.tuple [.str term, e]]) (fun x m => by
        rcases List.mem_append.mp m with m | m
        · exact h x m
        · rw [List.mem_singleton.mp m]; exact ke) hes (by simp only [List.length_append, List.length_cons, List.length_nil]; omega)
      simp only [List.length_append, List.length_cons, List.length_nil] at c d
      exact ⟨keys', e1, a, by simp only [List.length_cons]; omega, by omega, fun _ => by omega⟩
theorem o_step {p s t term : D} {names keys keys' es ds : List D} (he : cutD names none (some 3) = es) (h : forL (dNm 4) iB es (iSt p s t names keys (some (.val term))) = some (.nx (iSt p s t names keys' (some (.val term))))) : forL (dNm 6) oB (term :: ds) (iSt p s t names keys none) = forL (dNm 6) oB ds (iSt p s t names keys' none) := by
  simp only [iB, iSt] at h
  simp only [forL, oB, iB, iSt]
  simp [he, h]
theorem o_loop {p s t : D} {names : List D} (hn : ∀ x ∈ names, KeyN 8 false x) (hne : cutD names none (some 3) ≠ []) (hl3 : (cutD names none (some 3)).length ≤ 10) : ∀ (ts keys : List D), (∀ x ∈ keys, KeyN 8 true x) → (∀ x ∈ ts, KeyN 8 false x) → keys.length + 10 * ts.length ≤ 800 → ∃ keys', forL (dNm 6) oB ts (iSt p s t names keys none) = some (.nx (iSt p s t names keys' none)) ∧ (∀ x ∈ keys', KeyN 8 true x) ∧ keys'.length ≤ keys.length + 10 * ts.length ∧ keys.length ≤ keys'.length ∧ (ts ≠ [] → 1 ≤ keys'.length)
  | [], keys, h, _, _ => ⟨keys, rfl, h, by simp, Nat.le_refl _, fun z => absurd rfl z⟩
  | e :: ts, keys, h, he, hl => by
    simp only [List.length_cons] at hl
    cases he e List.mem_cons_self with
    | one term ht =>
      obtain ⟨k1, e1, a1, b1, c1, d1⟩ := i_loop (p := p) (s := s) (t := t) (names := names) ht (cutD names none (some 3)) keys h (fun x m => hn x (cutD_mem m)) (by omega)
      rw [o_step rfl e1]
      obtain ⟨k2, e2, a2, b2, c2, d2⟩ := o_loop (p := p) (s := s) (t := t) hn hne hl3 ts k1 a1 (fun x m => he x (List.mem_cons_of_mem _ m)) (by omega)
      have := d1 hne
      exact ⟨k2, e2, a2, by simp only [List.length_cons]; omega, by omega, fun _ => by omega⟩
theorem names_core0 {s t : Str} {acc : List D} (l1 : s.length + (Str.ofString " ").length ≤ 16777216) (l2 : s.length + t.length ≤ 16777216) (l3 : t.length + s.length ≤ 16777216) (l4 : (t ++ s).length + s.length ≤ 16777216) (l5 : (t ++ s ++ s).length + t.length ≤ 16777216)
    (h : forL (dNm 4) nB [.str (Str.ofString ""), .str s, .str (s ++ Str.ofString " "), .str (s ++ t), .str t, .str (t ++ s ++ s ++ t)] (nSt (.bool false) (.str s) (.str t) []) = some (.nx (nSt (.bool false) (.str s) (.str t) acc))) :
    m__law_names [.val (.bool false), .val (.str s), .val (.str t)] = some (.own none (.list acc), [none, none, none]) := by
  unfold m__law_names F__law_names
  simp only [nB, nSt] at h
  simp [l1, l2, l3, l4, l5, h]
theorem names_core1 {s t u : Str} {acc keys : List D} (l1 : s.length + (Str.ofString " ").length ≤ 16777216) (l2 : s.length + t.length ≤ 16777216) (l3 : t.length + s.length ≤ 16777216) (l4 : (t ++ s).length + s.length ≤ 16777216) (l5 : (t ++ s ++ s).length + t.length ≤ 16777216) (l6 : t.length + (Str.ofString " ").length ≤ 16777216) (hu : dMul (.str (s ++ t)) (.int 4) = some (.str u))
    (h : forL (dNm 4) nB [.str (Str.ofString ""), .str s, .str (s ++ Str.ofString " "), .str (s ++ t), .str t, .str (t ++ s ++ s ++ t)] (nSt (.bool true) (.str s) (.str t) []) = some (.nx (nSt (.bool true) (.str s) (.str t) acc)))
    (h2 : forL (dNm 6) oB [.str (Str.ofString ""), .str s, .str u, .str (t ++ Str.ofString " ")] (iSt (.bool true) (.str s) (.str t) acc [] none) = some (.nx (iSt (.bool true) (.str s) (.str t) acc keys none))) :
    m__law_names [.val (.bool true), .val (.str s), .val (.str t)] = some (.own none (.list keys), [none, none, none]) := by
  unfold m__law_names F__law_names
  simp only [nB, nSt] at h
  simp only [oB, iB, iSt] at h2
  simp [l1, l2, l3, l4, l5, l6, hu, h, h2]
theorem rep_tx {n m : Nat} {u : Str} (h : Tx n u) : Tx (m * n) (repS u m) := by
  have e : (repS u m).cps.toList = (List.replicate m u.cps.toList).flatten := by unfold repS; simp
  refine ⟨?_, fun c hc => ?_⟩
  · have h1 := h.1
    rw [← cps_len] at h1
    have : (repS u m).length = (List.replicate m u.cps.toList).flatten.length := by rw [← e, cps_len]
    have r : ∀ m : Nat, (List.replicate m u.cps.toList).flatten.length = m * u.cps.toList.length := fun m => by
      induction m with
      | zero => simp
      | succ m ih => rw [List.replicate_succ, List.flatten_cons, List.length_append, ih, Nat.succ_mul, Nat.add_comm]
    rw [this, r]
    exact Nat.mul_le_mul_left m h1
  · rw [e] at hc
    obtain ⟨l, hl, hc⟩ := List.mem_flatten.mp hc
    rw [List.eq_of_mem_replicate hl] at hc
    exact h.2 c hc
theorem names (p : Bool) {s t : Str} (hs : Tx 1 s) (ht : Tx 1 t) : ∃ keys, m__law_names [.val (.bool p), .val (.str s), .val (.str t)] = some (.own none (.list keys), [none, none, none]) ∧ (∀ x ∈ keys, KeyN 8 p x) ∧ 1 ≤ keys.length ∧ keys.length ≤ 60 := by
  have sp : (Str.ofString " ").length = 1 := by decide +kernel
  have a1 := hs.1
  have a2 := ht.1
  have q1 : Tx 2 (t ++ s) := ht.add hs
  have q2 : Tx 3 (t ++ s ++ s) := q1.add hs
  have b1 := q1.1
  have b2 := q2.1
  have hes : ∀ x ∈ [PyData.str (Str.ofString ""), .str s, .str (s ++ Str.ofString " "), .str (s ++ t), .str t, .str (t ++ s ++ s ++ t)], Key false x ∧ KeyN 8 false x := fun x m => by
    have k : KeyN 8 false x := by
      simp only [List.mem_cons, List.not_mem_nil, or_false] at m
      rcases m with rfl | rfl | rfl | rfl | rfl | rfl
      · exact .one _ (Tx.nil.mono (by omega))
      · exact .one _ (hs.mono (by omega))
      · exact .one _ ((hs.add Tx.space).mono (by omega))
      · exact .one _ ((hs.add ht).mono (by omega))
      · exact .one _ (ht.mono (by omega))
      · exact .one _ ((q2.add ht).mono (by omega))
    exact ⟨k.key (by omega), k⟩
  obtain ⟨acc, e, h1, h2, _, h4⟩ := n_loop (q := false) (p := .bool p) (s := .str s) (t := .str t) (Q := KeyN 8 false) _ [] (fun _ m => (nomatch m)) hes (by simp)
  have h4 := h4 (by simp)
  simp only [List.length_nil, List.length_cons] at h2
  cases p with
  | false => exact ⟨acc, names_core0 (by omega) (by omega) (by omega) (by omega) (by omega) e, fun x m => (h1 x m).2, h4, by omega⟩
  | true =>
    have hu : dMul (.str (s ++ t)) (.int 4) = some (.str (repS (s ++ t) 4)) := by
      show (if _ then _ else _) = _
      rw [if_pos ⟨by omega, by omega, by rw [len_app]; omega⟩]
      rfl
    have hcut : (cutD acc none (some 3)).length ≤ 10 ∧ cutD acc none (some 3) ≠ [] := by
      have l : (cutD acc none (some 3)).length = min 3 acc.length := by
        unfold cutD
        rw [show HT.sIx acc.length acc.length (some 3) = min 3 acc.length from HT.sIx_nat _ _ 3]
        rw [List.length_take, List.length_drop]
        show min (min 3 acc.length - 0) (acc.length - 0) = _
        omega
      exact ⟨by omega, fun z => by rw [z] at l; simp only [List.length_nil] at l; omega⟩
    obtain ⟨keys, e2, g1, g2, _, g4⟩ := o_loop (p := .bool true) (s := .str s) (t := .str t) (fun x m => (h1 x m).2) hcut.2 hcut.1 [.str (Str.ofString ""), .str s, .str (repS (s ++ t) 4), .str (t ++ Str.ofString " ")] [] (fun _ m => (nomatch m)) (fun x m => by
      simp only [List.mem_cons, List.not_mem_nil, or_false] at m
      rcases m with rfl | rfl | rfl | rfl
      · exact .one _ (Tx.nil.mono (by omega))
      · exact .one _ (hs.mono (by omega))
      · exact .one _ ((rep_tx (m := 4) (hs.add ht)).mono (by omega))
      · exact .one _ ((ht.add Tx.space).mono (by omega))) (by simp)
    simp only [List.length_nil, List.length_cons] at g2
    exact ⟨keys, names_core1 (by omega) (by omega) (by omega) (by omega) (by omega) (by omega) hu e e2, g1, g4 (by simp), by omega⟩
end LW

namespace LW
open PySem L2 DL
noncomputable abbrev eB : DS := dThenKill (dIf (dCmpTV ninD (dVar 4) 1) (dApp 1 (dVar 4)) dNext) [4]
abbrev eSt (S k : D) (acc : List D) (m : SV) : DSt := [some (.val S), some (.own none (.list acc)), some (.val k), some m, none]
theorem e_step {S k e : D} {acc ds : List D} {m : SV} {b : Bool} (g : ninD e (.list acc) = some b) (hl : acc.length < 16777216) : forL (dNm 4) eB (e :: ds) (eSt S k acc m) = forL (dNm 4) eB ds (eSt S k (if b = true then acc ++ [e] else acc) m) := by
  simp only [forL, eB, eSt]
  cases b <;> simp [g, hl]
theorem e_loop {q : Bool} {S k : D} {m : SV} : ∀ (es acc : List D), Dis q acc → (∀ x ∈ acc, KeyN 10 q x) → (∀ x ∈ es, KeyN 10 q x) → acc.length + es.length ≤ 900 → ∃ acc', forL (dNm 4) eB es (eSt S k acc m) = some (.nx (eSt S k acc' m)) ∧ Dis q acc' ∧ (∀ x ∈ acc', KeyN 10 q x) ∧ acc'.length ≤ acc.length + es.length ∧ acc.length ≤ acc'.length ∧ (es ≠ [] → 1 ≤ acc'.length)
  | [], acc, hd, h, _, _ => ⟨acc, rfl, hd, h, by simp, Nat.le_refl _, fun z => absurd rfl z⟩
  | e :: es, acc, hd, h, he, hl => by
    simp only [List.length_cons] at hl
    have ke := (he e List.mem_cons_self).key (by omega)
    obtain ⟨b, hb, hb2⟩ := nin_keys hd.keys ke
    rw [e_step hb (by omega)]
    have hes : ∀ x ∈ es, KeyN 10 q x := fun x m => he x (List.mem_cons_of_mem _ m)
    cases b with
    | false =>
      obtain ⟨acc', e1, a0, a, c, d, _⟩ := e_loop (S := S) (k := k) (m := m) es acc hd h hes (by omega)
      refine ⟨acc', e1, a0, a, by simp only [List.length_cons]; omega, d, fun _ => ?_⟩
      have hm : e ∈ acc := by
        by_cases m : e ∈ acc
        · exact m
        · have := hb2.mpr m; cases this
      have := List.length_pos_of_mem hm
      omega
    | true =>
      obtain ⟨acc', e1, a0, a, c, d, _⟩ := e_loop (S := S) (k := k) (m := m) es (acc ++ [e]) (hd.add ke (hb2.mp rfl)) (fun x m => by
        rcases List.mem_append.mp m with m | m
        · exact h x m
        · rw [List.mem_singleton.mp m]; exact he e List.mem_cons_self) hes (by simp only [List.length_append, List.length_cons, List.length_nil]; omega)
      simp only [List.length_append, List.length_cons, List.length_nil] at c d
      exact ⟨acc', e1, a0, a, by simp only [List.length_cons]; omega, by omega, fun _ => by omega⟩
noncomputable abbrev lB : DS := (dSeq (dSet 3 (dLst (dCons (dVar 2) (dCons (dF (dCall m__law_a_next [.e (dVar 2)])) dNil))))
    (dSeq (dIf (dTest (dIsi "tuple" (dVar 2)))
    (dApp 3 (dTup (dCons (dBin dAdd (dIxV 2 (dC (.int 0))) (dC (.str (Str.ofString " ")))) (dCons (dC (.str (Str.ofString ""))) dNil))))
    dNext)
    (dThenKill (dSeq (dKill [4]) (dForI (itD (dVar 3)) (dNm 4) eB)) [2, 3, 4])))
abbrev lSt (S : D) (acc : List D) : DSt := [some (.val S), some (.own none (.list acc)), none, none, none]
theorem l_one {S y : D} {a : Str} {acc acc' ds : List D} (h : m__law_a_next [.val (.str a)] = some (.val y, [none])) (g : forL (dNm 4) eB [.str a, y] (eSt S (.str a) acc (.val (.list [.str a, y]))) = some (.nx (eSt S (.str a) acc' (.val (.list [.str a, y]))))) :
    forL (dNm 2) lB (.str a :: ds) (lSt S acc) = forL (dNm 2) lB ds (lSt S acc') := by
  simp only [eB, eSt] at g
  rw [forL]
  simp only [lB, eB, lSt]
  simp [h, g]
theorem l_two {S y z : D} {a b : Str} {acc acc' ds : List D} (h : m__law_a_next [.val (.tuple [.str a, .str b])] = some (.val y, [none])) (hl : a.length + (Str.ofString " ").length ≤ 16777216) (hz : z = .tuple [.str (a ++ Str.ofString " "), .str (Str.ofString "")])
    (g : forL (dNm 4) eB [.tuple [.str a, .str b], y, z] (eSt S (.tuple [.str a, .str b]) acc (.val (.list [.tuple [.str a, .str b], y, z]))) = some (.nx (eSt S (.tuple [.str a, .str b]) acc' (.val (.list [.tuple [.str a, .str b], y, z]))))) :
    forL (dNm 2) lB (.tuple [.str a, .str b] :: ds) (lSt S acc) = forL (dNm 2) lB ds (lSt S acc') := by
  simp only [eB, eSt] at g
  subst hz
  rw [forL]
  simp only [lB, eB, lSt]
  simp [h, at2, hl, g]
theorem l_loop {p : Bool} {S : D} : ∀ (keys acc : List D), Dis p acc → (∀ x ∈ acc, KeyN 10 p x) → (∀ x ∈ keys, KeyN 8 p x) → acc.length + 3 * keys.length ≤ 800 → ∃ acc', forL (dNm 2) lB keys (lSt S acc) = some (.nx (lSt S acc')) ∧ Dis p acc' ∧ (∀ x ∈ acc', KeyN 10 p x) ∧ acc'.length ≤ acc.length + 3 * keys.length ∧ acc.length ≤ acc'.length ∧ (keys ≠ [] → 1 ≤ acc'.length)
  | [], acc, hd, h, _, _ => ⟨acc, rfl, hd, h, by simp, Nat.le_refl _, fun z => absurd rfl z⟩
  | e :: keys, acc, hd, h, he, hl => by
    simp only [List.length_cons] at hl
    have hks : ∀ x ∈ keys, KeyN 8 p x := fun x m => he x (List.mem_cons_of_mem _ m)
    have ke := he e List.mem_cons_self
    obtain ⟨y, _, hy, ky⟩ := next_key ke (by omega)
    cases ke with
    | one a ha =>
      obtain ⟨acc1, e1, a0, a1, b1, c1, d1⟩ := e_loop (S := S) (k := .str a) (m := .val (.list [.str a, y])) [.str a, y] acc hd h (fun x m => by
        rcases List.mem_cons.mp m with rfl | m
        · exact .one _ (ha.mono (by omega))
        · rw [List.mem_singleton.mp m]; exact ky.mono (by omega)) (by simp; omega)
      rw [l_one hy e1]
      simp only [List.length_cons, List.length_nil] at b1
      obtain ⟨acc2, e2, f0, a2, b2, c2, d2⟩ := l_loop (S := S) keys acc1 a0 a1 hks (by omega)
      have := d1 (by simp)
      exact ⟨acc2, e2, f0, a2, by simp only [List.length_cons]; omega, by omega, fun _ => by omega⟩
    | two a b ha hb =>
      obtain ⟨acc1, e1, a0, a1, b1, c1, d1⟩ := e_loop (S := S) (k := .tuple [.str a, .str b]) (m := .val (.list [.tuple [.str a, .str b], y, .tuple [.str (a ++ Str.ofString " "), .str (Str.ofString "")]])) [.tuple [.str a, .str b], y, .tuple [.str (a ++ Str.ofString " "), .str (Str.ofString "")]] acc hd h (fun x m => by
        simp only [List.mem_cons, List.not_mem_nil, or_false] at m
        rcases m with rfl | rfl | rfl
        · exact .two _ _ (ha.mono (by omega)) (hb.mono (by omega))
        · exact ky.mono (by omega)
        · exact .two _ _ ((ha.add Tx.space).mono (by omega)) (Tx.nil.mono (by omega))) (by simp; omega)
      rw [l_two hy (sp_len ha (by omega)) rfl e1]
      simp only [List.length_cons, List.length_nil] at b1
      obtain ⟨acc2, e2, f0, a2, b2, c2, d2⟩ := l_loop (S := S) keys acc1 a0 a1 hks (by omega)
      have := d1 (by simp)
      exact ⟨acc2, e2, f0, a2, by simp only [List.length_cons]; omega, by omega, fun _ => by omega⟩
theorem line_core {keys acc ps : List D} (h : forL (dNm 2) lB keys (lSt (.list keys) []) = some (.nx (lSt (.list keys) acc))) (hs : sortC [.list acc] = some (.list ps)) : m__law_line [.val (.list keys)] = some (.own none (.list ps), [none]) := by
  unfold m__law_line F__law_line
  simp only [lB, eB, lSt] at h
  simp [h, hs]
theorem line {p : Bool} {keys : List D} (hk : ∀ x ∈ keys, KeyN 8 p x) (h1 : 1 ≤ keys.length) (h2 : keys.length ≤ 60) : ∃ ends, m__law_line [.val (.list keys)] = some (.own none (.list ends), [none]) ∧ (∀ x ∈ ends, Key p x) ∧ 1 ≤ ends.length ∧ ends.length ≤ 1000 := by
  obtain ⟨acc, e, a0, a1, b1, _, d1⟩ := l_loop (S := .list keys) keys [] .nil (fun _ m => (nomatch m)) hk (by simp; omega)
  simp only [List.length_nil] at b1
  have d1 := d1 (fun z => by rw [z] at h1; simp at h1)
  obtain ⟨ps, e2, P, _, hl⟩ := sort_keys a0 (by omega)
  exact ⟨ps, line_core e e2, P.keys, by omega, P.few⟩
end LW

namespace LW
open PySem L2 DL
abbrev sSt (E f s low : D) : DSt := [some (.val E), some (.val f), some (.val s), some (.val low), none, none]
theorem s_high {E f s low x : D} {ds acc : List D} {b : Bool} (h : ordD .Lt low x = some b) (hl : acc.length < 16777216) : lcL (dNm 5) (dCmpT (ordD .Lt) (dVar 3) (dVar 5)) (dVar 5) [5] (x :: ds) (sSt E f s low) acc = lcL (dNm 5) (dCmpT (ordD .Lt) (dVar 3) (dVar 5)) (dVar 5) [5] ds (sSt E f s low) (acc ++ if b = true then [x] else []) := by
  rw [lcL]
  cases b <;> simp [h, hl, wipeD]
theorem span_core {ends hs : List D} {first second n i m : Int} {low : D} (hL : lenD [.list ends] = some (.int n)) (hn : 0 < n) (hfi : first % n = i) (hlow : atI ends i = some low)
    (hh : lcL (dNm 5) (dCmpT (ordD .Lt) (dVar 3) (dVar 5)) (dVar 5) [5] ends (sSt (.list ends) (.int first) (.int second) low) [] = some (hs, sSt (.list ends) (.int first) (.int second) low)) (hM : lenD [.list hs] = some (.int m)) :
    (m = 0 ∨ second < 6 → m__law_span [.val (.list ends), .val (.int first), .val (.int second)] = some (.val (.tuple [low, .none]), [none, none, none])) ∧
    (¬ m = 0 → ¬ second < 6 → 0 < m → ∀ j hi, second % m = j → atI hs j = some hi → m__law_span [.val (.list ends), .val (.int first), .val (.int second)] = some (.val (.tuple [low, hi]), [none, none, none])) := by
  simp only [sSt] at hh
  refine ⟨fun z => ?_, fun z1 z2 z3 j hi e1 e2 => ?_⟩
  · unfold m__law_span F__law_span
    by_cases z1 : m = 0
    · simp [hL, -v_lenL, hn, hfi, hlow, wipeD, hh, hM, z1]
    · have z2 : second < 6 := z.resolve_left z1
      simp [hL, -v_lenL, hn, hfi, hlow, wipeD, hh, hM, z1, z2]
  · unfold m__law_span F__law_span
    simp [hL, -v_lenL, hn, hfi, hlow, wipeD, hh, hM, z1, z2, z3, e1, e2]
theorem fil_id (w : D → Bool) (L : List D) : (L.filter w).map (fun x => x) = L.filter w := List.map_id' _
theorem span {p : Bool} {ends : List D} (hk : ∀ x ∈ ends, Key p x) (h1 : 1 ≤ ends.length) (h2 : ends.length ≤ 1000) (first second : Int) : ∃ d, m__law_span [.val (.list ends), .val (.int first), .val (.int second)] = some (.val d, [none, none, none]) ∧ Span p d := by
  have hn : (0 : Int) < (ends.length : Int) := by omega
  obtain ⟨low, e, m⟩ := atI_in ends (first % (ends.length : Int)) (Int.emod_nonneg _ (by omega)) (Int.emod_lt_of_pos _ hn)
  have kl := hk low m
  have hh := lc_fil (tg := dNm 5) (tt := dCmpT (ordD .Lt) (dVar 3) (dVar 5)) (te := dVar 5) (vs := [5]) (st := sSt (.list ends) (.int first) (.int second) low) (f := fun x : D => x) (g := fun x : D => x) (w := fun x => klt low x) ends [] (fun x mx ds acc ha => s_high (key_facts kl (hk x mx)).1 ha) (by simp; omega)
  rw [List.map_id', List.map_id', List.nil_append] at hh
  have core := span_core v_lenL hn rfl e hh v_lenL
  by_cases z : ((ends.filter fun x => klt low x).length : Int) = 0 ∨ second < 6
  · exact ⟨_, core.1 z, low, .none, rfl, kl, .inl rfl⟩
  · have z1 : ¬ ((ends.filter fun x => klt low x).length : Int) = 0 := fun y => z (.inl y)
    have z3 : (0 : Int) < ((ends.filter fun x => klt low x).length : Int) := by omega
    obtain ⟨hi, e2, m2⟩ := atI_in (ends.filter fun x => klt low x) (second % ((ends.filter fun x => klt low x).length : Int)) (Int.emod_nonneg _ (by omega)) (Int.emod_lt_of_pos _ z3)
    obtain ⟨m3, m4⟩ := List.mem_filter.mp m2
    exact ⟨_, core.2 z1 (fun y => z (.inr y)) z3 _ hi rfl e2, low, hi, rfl, kl, .inr ⟨hk hi m3, m4⟩⟩
/-! beside -/
abbrev bSt (k al ah o E : D) (w : Option SV) : DSt := [some (.val k), some (.val (.tuple [al, ah])), some (.val o), some (.val E), w, none, none]
theorem b_high {k al ah o E x : D} {ds acc : List D} {n b : Bool} (hn : isNoneD ah = n) (h : n = false → ordD .Lt ah x = some b) (hl : acc.length < 16777216) :
    lcL (dNm 6) (dAnd (dCmpT isNN (dIxV 1 (dC (.int 1))) (dC .none)) (dCmpT (ordD .Lt) (dIxV 1 (dC (.int 1))) (dVar 6))) (dVar 6) [6] (x :: ds) (bSt k al ah o E none) acc = lcL (dNm 6) (dAnd (dCmpT isNN (dIxV 1 (dC (.int 1))) (dC .none)) (dCmpT (ordD .Lt) (dIxV 1 (dC (.int 1))) (dVar 6))) (dVar 6) [6] ds (bSt k al ah o E none) (acc ++ if (!n && b) = true then [x] else []) := by
  rw [lcL]
  cases n
  · cases b <;> simp [at2, hn, h rfl, hl, wipeD]
  · simp [at2, hn, hl, wipeD]
theorem b_low {k al ah o E x : D} {w : Option SV} {ds acc : List D} {b : Bool} (h : ordD .Lt x al = some b) (hl : acc.length < 16777216) :
    lcL (dNm 6) (dCmpT (ordD .Lt) (dVar 6) (dIxV 1 (dC (.int 0)))) (dVar 6) [6] (x :: ds) (bSt k al ah o E w) acc = lcL (dNm 6) (dCmpT (ordD .Lt) (dVar 6) (dIxV 1 (dC (.int 0)))) (dVar 6) [6] ds (bSt k al ah o E w) (acc ++ if b = true then [x] else []) := by
  rw [lcL]
  cases b <;> simp [at2, h, hl, wipeD]
theorem beside_core {k : Int} {al ah o : D} {ends hs ls : List D} {na : Bool} {m m2 la : Int} (hna : isNoneD ah = na)
    (h1 : lcL (dNm 6) (dAnd (dCmpT isNN (dIxV 1 (dC (.int 1))) (dC .none)) (dCmpT (ordD .Lt) (dIxV 1 (dC (.int 1))) (dVar 6))) (dVar 6) [6] ends (bSt (.int k) al ah o (.list ends) none) [] = some (hs, bSt (.int k) al ah o (.list ends) none))
    (h2 : lcL (dNm 6) (dCmpT (ordD .Lt) (dVar 6) (dIxV 1 (dC (.int 0)))) (dVar 6) [6] ends (bSt (.int k) al ah o (.list ends) (some (.own none (.list hs)))) [] = some (ls, bSt (.int k) al ah o (.list ends) (some (.own none (.list hs)))))
    (hM : lenD [.list hs] = some (.int m)) (hM2 : lenD [.list ls] = some (.int m2)) (hla : lenD [al] = some (.int la)) (hx : 0 < m → ∃ x, atI hs 0 = some x) (hy : 0 < m2 → ∃ y, atI ls (la % m2) = some y) :
    ∃ r, m__law_beside [.val (.int k), .val (.tuple [al, ah]), .val o, .val (.list ends)] = some (.val r, [none, none, none, none]) ∧ (r = .tuple [al, ah] ∨ (na = false ∧ 0 < m ∧ ∃ x, atI hs 0 = some x ∧ r = .tuple [ah, x]) ∨ (na = false ∧ r = .tuple [ah, .none]) ∨ (0 < m2 ∧ ∃ y, atI ls (la % m2) = some y ∧ r = .tuple [y, al]) ∨ r = o) := by
  simp only [bSt] at h1 h2
  unfold m__law_beside F__law_beside
  by_cases k0 : k = 0
  · subst k0
    exact ⟨_, by simp [wipeD, h1, h2], .inl rfl⟩
  · by_cases k1 : k = 1 ∧ na = false
    · obtain ⟨rfl, rfl⟩ := k1
      by_cases z : 0 < m
      · obtain ⟨x, hx⟩ := hx z
        exact ⟨_, by simp [wipeD, h1, h2, at2, hna, -v_lenL, hM, z, hx], .inr (.inl ⟨rfl, z, x, hx, rfl⟩)⟩
      · exact ⟨_, by simp [wipeD, h1, h2, at2, hna, -v_lenL, hM, z], .inr (.inr (.inl ⟨rfl, rfl⟩))⟩
    · have key : ∀ (X : DS) st, dIf (dAnd (dCmpT eqD (dVar 0) (dC (.int 1))) (dCmpT isNN (dIxV 1 (dC (.int 1))) (dC .none))) X dNext (some (.val (.int k)) :: some (.val (.tuple [al, ah])) :: st) = some (.nx (some (.val (.int k)) :: some (.val (.tuple [al, ah])) :: st)) := fun X st => by
        by_cases e : k = 1
        · subst e
          cases na
          · exact absurd ⟨rfl, rfl⟩ k1
          · simp [at2, hna]
        · simp [e]
      by_cases k2 : k = 2 ∧ 0 < m2
      · obtain ⟨rfl, z⟩ := k2
        obtain ⟨y, hy⟩ := hy z
        exact ⟨_, by simp [wipeD, h1, h2, at2, -v_lenL, -v_lenS, -v_lenT, hM2, hla, z, hy], .inr (.inr (.inr (.inl ⟨z, y, hy, rfl⟩)))⟩
      · refine ⟨o, ?_, .inr (.inr (.inr (.inr rfl)))⟩
        by_cases e : k = 2
        · subst e
          have z : ¬ 0 < m2 := fun z => k2 ⟨rfl, z⟩
          simp [wipeD, h1, h2, -v_lenL, hM2, z]
        · by_cases e1 : k = 1
          · subst e1
            have : na = true := by
              cases na
              · exact absurd ⟨rfl, rfl⟩ k1
              · rfl
            subst this
            simp [wipeD, h1, h2, at2, hna]
          · simp [wipeD, h1, h2, k0, e, e1]
theorem beside {p : Bool} {ends : List D} (hk : ∀ x ∈ ends, Key p x) (h2 : ends.length ≤ 1000) (k : Int) {a o : D} (ha : Span p a) (ho : Span p o) : ∃ r, m__law_beside [.val (.int k), .val a, .val o, .val (.list ends)] = some (.val r, [none, none, none, none]) ∧ Span p r := by
  obtain ⟨al, ah, rfl, k1, k2⟩ := id ha
  have hla : ∃ la, lenD [al] = some (.int la) := by cases k1 <;> exact ⟨_, rfl⟩
  obtain ⟨la, hla⟩ := hla
  have c2 : ∀ w, lcL (dNm 6) (dCmpT (ordD .Lt) (dVar 6) (dIxV 1 (dC (.int 0)))) (dVar 6) [6] ends (bSt (.int k) al ah o (.list ends) w) [] = some (ends.filter fun x => klt x al, bSt (.int k) al ah o (.list ends) w) := fun w => by
    have := lc_fil (tg := dNm 6) (tt := dCmpT (ordD .Lt) (dVar 6) (dIxV 1 (dC (.int 0)))) (te := dVar 6) (vs := [6]) (st := bSt (.int k) al ah o (.list ends) w) (f := fun x : D => x) (g := fun x : D => x) (w := fun x => klt x al) ends [] (fun x mx ds acc hacc => b_low (key_facts (hk x mx) k1).1 hacc) (by simp; omega)
    rw [List.map_id', List.map_id', List.nil_append] at this
    exact this
  have nn : ∃ na, isNoneD ah = na ∧ (na = false → Key p ah ∧ klt al ah = true) := by
    rcases k2 with rfl | k2
    · exact ⟨true, rfl, fun z => by cases z⟩
    · exact ⟨false, (key_facts k2.1 k2.1).2.2.2.2.2.2.2.2, fun _ => k2⟩
  obtain ⟨na, hna, kh⟩ := nn
  have c1 : lcL (dNm 6) (dAnd (dCmpT isNN (dIxV 1 (dC (.int 1))) (dC .none)) (dCmpT (ordD .Lt) (dIxV 1 (dC (.int 1))) (dVar 6))) (dVar 6) [6] ends (bSt (.int k) al ah o (.list ends) none) [] = some (ends.filter fun x => !na && klt ah x, bSt (.int k) al ah o (.list ends) none) := by
    have := lc_fil (tg := dNm 6) (tt := dAnd (dCmpT isNN (dIxV 1 (dC (.int 1))) (dC .none)) (dCmpT (ordD .Lt) (dIxV 1 (dC (.int 1))) (dVar 6))) (te := dVar 6) (vs := [6]) (st := bSt (.int k) al ah o (.list ends) none) (f := fun x : D => x) (g := fun x : D => x) (w := fun x => !na && klt ah x) ends [] (fun x mx ds acc hacc => b_high hna (fun z => (key_facts (kh z).1 (hk x mx)).1) hacc) (by simp; omega)
    rw [List.map_id', List.map_id', List.nil_append] at this
    exact this
  have at0 : ∀ L : List D, (0 : Int) < (L.length : Int) → ∃ x, atI L 0 = some x := fun L z => by
    obtain ⟨x, e, _⟩ := atI_in L 0 (by omega) (by omega)
    exact ⟨x, e⟩
  have atm : ∀ L : List D, (0 : Int) < (L.length : Int) → ∃ x, atI L (la % (L.length : Int)) = some x := fun L z => by
    obtain ⟨x, e, _⟩ := atI_in L (la % (L.length : Int)) (Int.emod_nonneg _ (by omega)) (Int.emod_lt_of_pos _ z)
    exact ⟨x, e⟩
  obtain ⟨r, e, h⟩ := beside_core hna c1 (c2 _) v_lenL v_lenL hla (at0 _) (atm _)
  refine ⟨r, e, ?_⟩
  have mem_at : ∀ (L : List D) (i : Int) (x : D), atI L i = some x → x ∈ L := fun L i x h => by
    unfold atI at h
    cases q : ixN L.length i with
    | none => rw [q] at h; cases h
    | some j => rw [q] at h; exact List.mem_of_getElem? h
  rcases h with rfl | ⟨z, _, x, hx, rfl⟩ | ⟨z, rfl⟩ | ⟨_, y, hy, rfl⟩ | rfl
  · exact ha
  · obtain ⟨m1, m2⟩ := List.mem_filter.mp (mem_at _ _ _ hx)
    rw [Bool.and_eq_true] at m2
    exact ⟨ah, x, rfl, (kh z).1, .inr ⟨hk x m1, m2.2⟩⟩
  · exact ⟨ah, .none, rfl, (kh z).1, .inl rfl⟩
  · obtain ⟨m1, m2⟩ := List.mem_filter.mp (mem_at _ _ _ hy)
    exact ⟨y, al, rfl, hk y m1, .inr ⟨k1, m2⟩⟩
  · exact ho
end LW

namespace LW
open PySem L2 DL
theorem two_core {d d' : D} {r a b : Int} {x y : Nat} (h1 : m__law_signs [] = some (.val (.str signsS), [])) (h2 : m__law_draw [.own (some 0) d, .val (.int 8836)] = some (.val (.int r), [some (.own (some 0) d'), none])) (ha : r % 94 = a) (hb : r / 94 = b) (e1 : atI signsS.cps.toList a = some x) (e2 : atI signsS.cps.toList b = some y) :
    m__law_two_signs [.own (some 0) d] = some (.val (.tuple [.str ⟨#[x]⟩, .str ⟨#[y]⟩]), [some (.own (some 0) d')]) := by
  unfold m__law_two_signs F__law_two_signs
  simp [h1, h2, ha, hb, e1, e2]
theorem two {d : D} (T : Tape d) : ∃ x y d', m__law_two_signs [.own (some 0) d] = some (.val (.tuple [.str ⟨#[x]⟩, .str ⟨#[y]⟩]), [some (.own (some 0) d')]) ∧ Tape d' ∧ Sg x ∧ Sg y := by
  obtain ⟨r, d', e, T', r0, r1⟩ := draw T 8836 (by omega) (by omega)
  obtain ⟨x, e1, s1⟩ := sign_at (r % 94) (by omega) (by omega)
  obtain ⟨y, e2, s2⟩ := sign_at (r / 94) (by omega) (by omega)
  exact ⟨x, y, d', two_core signs e rfl rfl e1 e2, T', s1, s2⟩
noncomputable abbrev gB : DS := dThenKill (dIf (dNot (dTest (dF (dCall m__law_asked_right [.e (dVar 13), .e (dVar 4), .e (dIxV 6 (dBin dMod (dCallB intD (dCons (dIxV 9 (dC (.int 2))) dNil)) (dLenV 6))), .e (dF (dLst (dCons (dVar 10) (dCons (dVar 11) (dCons (dVar 12) dNil)))))]))))
    (dRet (dV (dC (.bool false))))
    dNext) [13]
abbrev gSt (S T s t : D) (p : Bool) (w : D) (keys : SV) (ends dg kd a b c : D) (ks : SV) : DSt := [some (.val S), some (.own none T), some (.val s), some (.val t), some (.val (.bool p)), some (.val w), some keys, some (.val ends), some (.own none dg), some ks, some (.val a), some (.val b), some (.val c), none]
theorem g_step {S T s t w ends dg kd a b c key : D} {p : Bool} {keys kinds ds : List D} {d kd2 i n : Int} (h1 : atI kinds 2 = some (.int kd2)) (hL : lenD [.list keys] = some (.int n)) (hn : 0 < n) (hi : kd2 % n = i) (hk : atI keys i = some key) (h : m__law_asked_right [.val (.int d), .val (.bool p), .val key, .val (.list [a, b, c])] = some (.val (.bool true), [none, none, none, none])) :
    forL (dNm 13) gB (.int d :: ds) (gSt S T s t p w (.own none (.list keys)) ends dg kd a b c (.own none (.list kinds))) = forL (dNm 13) gB ds (gSt S T s t p w (.own none (.list keys)) ends dg kd a b c (.own none (.list kinds))) := by
  simp only [forL, gB, gSt]
  simp [h1, hL, -v_lenL, hn, hi, hk, h]
theorem g_step' {S T s t w ends dg kd a b c key : D} {p : Bool} {keys kinds ds : List D} {d kd2 i n : Int} (h1 : atI kinds 2 = some (.int kd2)) (hL : lenD [.list keys] = some (.int n)) (hn : 0 < n) (hi : kd2 % n = i) (hk : atI keys i = some key) (h : m__law_asked_right [.val (.int d), .val (.bool p), .val key, .val (.list [a, b, c])] = some (.val (.bool true), [none, none, none, none])) :
    forL (dNm 13) gB (.int d :: ds) (gSt S T s t p w (.val (.list keys)) ends dg kd a b c (.own none (.list kinds))) = forL (dNm 13) gB ds (gSt S T s t p w (.val (.list keys)) ends dg kd a b c (.own none (.list kinds))) := by
  simp only [forL, gB, gSt]
  simp [h1, hL, -v_lenL, hn, hi, hk, h]
theorem g_loop {S T s t w ends dg kd a b c key : D} {p : Bool} {keys kinds : List D} {kd2 i n : Int} (h1 : atI kinds 2 = some (.int kd2)) (hL : lenD [.list keys] = some (.int n)) (hn : 0 < n) (hi : kd2 % n = i) (hk : atI keys i = some key) : ∀ ds : List D, (∀ x ∈ ds, ∃ d, x = .int d ∧ m__law_asked_right [.val (.int d), .val (.bool p), .val key, .val (.list [a, b, c])] = some (.val (.bool true), [none, none, none, none])) →
    forL (dNm 13) gB ds (gSt S T s t p w (.val (.list keys)) ends dg kd a b c (.own none (.list kinds))) = some (.nx (gSt S T s t p w (.val (.list keys)) ends dg kd a b c (.own none (.list kinds))))
  | [], _ => rfl
  | x :: ds, h => by
    obtain ⟨d, rfl, e⟩ := h x List.mem_cons_self
    rw [g_step' h1 hL hn hi hk e]
    exact g_loop h1 hL hn hi hk ds fun y m => h y (List.mem_cons_of_mem _ m)
end LW

namespace LW
open PySem L2 DL
noncomputable abbrev wB : DS := (dSeq (dSet 6 (dCall m__law_names [.e (dVar 4), .e (dVar 2), .e (dVar 3)]))
    (dSeq (dSet 7 (dCall m__law_line [.e (dVar 6)]))
    (dSeq (dSet 8 (dCall m__law_digits [.v 1, .e (dC (.int 30)), .e (dC (.int 6))]))
    (dSeq (dSet 9 (dCall m__law_digits [.v 1, .e (dC (.int 12)), .e (dC (.int 3))]))
    (dSeq (dSet 10 (dCall m__law_span [.e (dVar 7), .e (dIxV 8 (dC (.int 0))), .e (dIxV 8 (dC (.int 1)))]))
    (dSeq (dSet 11 (dCall m__law_beside [.e (dIxV 9 (dC (.int 0))), .e (dVar 10), .e (dF (dCall m__law_span [.e (dVar 7), .e (dIxV 8 (dC (.int 2))), .e (dIxV 8 (dC (.int 3)))])), .e (dVar 7)]))
    (dSeq (dSet 12 (dCall m__law_beside [.e (dIxV 9 (dC (.int 1))), .e (dVar 11), .e (dF (dCall m__law_span [.e (dVar 7), .e (dIxV 8 (dC (.int 4))), .e (dIxV 8 (dC (.int 5)))])), .e (dVar 7)]))
    (dSeq (dSeq (dKill [13]) (dForI (itD (dF (dCall m__law_round [.v 1, .e (dF (dListR (dC (.int 13))))]))) (dNm 13)
    (dThenKill (dIf (dNot (dTest (dF (dCall m__law_asked_right [.e (dVar 13), .e (dVar 4), .e (dIxV 6 (dBin dMod (dCallB intD (dCons (dIxV 9 (dC (.int 2))) dNil)) (dLenV 6))), .e (dF (dLst (dCons (dVar 10) (dCons (dVar 11) (dCons (dVar 12) dNil)))))]))))
    (dRet (dV (dC (.bool false))))
    dNext) [13])))
    (dSeq (dIf (dNot (dTest (dF (dCall m__law_pair_right [.e (dF (dCall m__law_points [.e (dF (dLst (dCons (dVar 10) (dCons (dVar 11) dNil))))])), .e (dVar 10), .e (dVar 11)]))))
    (dRet (dV (dC (.bool false))))
    dNext)
    (dThenKill (dSet 4 (dV (dNotV (dVar 4)))) [5, 6, 7, 8, 9, 10, 11, 12, 13]))))))))))
abbrev wSt (S T s t : D) (p : Bool) : DSt := [some (.val S), some (.own none T), some (.val s), some (.val t), some (.val (.bool p)), none, none, none, none, none, none, none, none, none]
theorem at6i {a b c d e f : D} : atI [a, b, c, d, e, f] 0 = some a ∧ atI [a, b, c, d, e, f] 1 = some b ∧ atI [a, b, c, d, e, f] 2 = some c ∧ atI [a, b, c, d, e, f] 3 = some d ∧ atI [a, b, c, d, e, f] 4 = some e ∧ atI [a, b, c, d, e, f] 5 = some f := at6
theorem range13 : rangeL (.int 13) = some [.int 0, .int 1, .int 2, .int 3, .int 4, .int 5, .int 6, .int 7, .int 8, .int 9, .int 10, .int 11, .int 12] := by
  have h : rangeL (.int 13) = @ite _ (0 ≤ (13 : Int) ∧ (13 : Int) ≤ 16777216) (Classical.propDecidable _) (some (DL.intsFrom 0 (13 : Int).toNat)) none := rfl
  rw [h, ite_cl, if_pos ⟨by omega, by omega⟩]
  rfl
theorem w_step {S T0 T1 T2 T3 s t w a b c o1 o2 : D} {p : Bool} {keys ends rd ps ds : List D} {d0 d1 d2 d3 d4 d5 e0 e1 e2 : Int}
    (k1 : m__law_names [.val (.bool p), .val s, .val t] = some (.own none (.list keys), [none, none, none]))
    (k2 : m__law_line [.val (.list keys)] = some (.own none (.list ends), [none]))
    (k3 : m__law_digits [.own (some 0) T0, .val (.int 30), .val (.int 6)] = some (.own none (.list [.int d0, .int d1, .int d2, .int d3, .int d4, .int d5]), [some (.own (some 0) T1), none, none]))
    (k4 : m__law_digits [.own (some 0) T1, .val (.int 12), .val (.int 3)] = some (.own none (.list [.int e0, .int e1, .int e2]), [some (.own (some 0) T2), none, none]))
    (k5 : m__law_span [.val (.list ends), .val (.int d0), .val (.int d1)] = some (.val a, [none, none, none]))
    (k6 : m__law_span [.val (.list ends), .val (.int d2), .val (.int d3)] = some (.val o1, [none, none, none]))
    (k7 : m__law_beside [.val (.int e0), .val a, .val o1, .val (.list ends)] = some (.val b, [none, none, none, none]))
    (k8 : m__law_span [.val (.list ends), .val (.int d4), .val (.int d5)] = some (.val o2, [none, none, none]))
    (k9 : m__law_beside [.val (.int e1), .val b, .val o2, .val (.list ends)] = some (.val c, [none, none, none, none]))
    (k10 : m__law_round [.own (some 0) T2, .val (.list [.int 0, .int 1, .int 2, .int 3, .int 4, .int 5, .int 6, .int 7, .int 8, .int 9, .int 10, .int 11, .int 12])] = some (.val (.list rd), [some (.own (some 0) T3), none]))
    (k11 : forL (dNm 13) gB rd (gSt S T3 s t p w (.val (.list keys)) (.list ends) (.list [.int d0, .int d1, .int d2, .int d3, .int d4, .int d5]) .none a b c (.own none (.list [.int e0, .int e1, .int e2]))) = some (.nx (gSt S T3 s t p w (.val (.list keys)) (.list ends) (.list [.int d0, .int d1, .int d2, .int d3, .int d4, .int d5]) .none a b c (.own none (.list [.int e0, .int e1, .int e2])))))
    (k12 : m__law_points [.val (.list [a, b])] = some (.own none (.list ps), [none]))
    (k13 : m__law_pair_right [.val (.list ps), .val a, .val b] = some (.val (.bool true), [none, none, none])) :
    forL (dNm 5) wB (w :: ds) (wSt S T0 s t p) = forL (dNm 5) wB ds (wSt S T3 s t (!p)) := by
  simp only [gB, gSt] at k11
  rw [forL]
  simp only [wB, wSt]
  simp [k1, k2, k3, k4, k5, k6, k7, k8, k9, range13, k10, k11, k12, k13, at6i, at3]
theorem law_core {S T0 T1 T2 T3 s t : D} {r : Int} {p q : Bool} (k0 : m__law_tape [.val S] = some (.own none T0, [none])) (k1 : m__law_two_signs [.own (some 0) T0] = some (.val (.tuple [s, t]), [some (.own (some 0) T1)])) (k2 : m__law_draw [.own (some 0) T1, .val (.int 2)] = some (.val (.int r), [some (.own (some 0) T2), none])) (hp : eqD (.int r) (.int 1) = some p)
    (k3 : forL (dNm 5) wB [.int 0, .int 1] (wSt S T2 s t p) = some (.nx (wSt S T3 s t q))) : m_law [.val S] = some (.val (.bool true), [none]) := by
  have h2 : rng1 (.int 2) = some [.int 0, .int 1] := by
    rw [v_r1, if_pos ⟨by omega, by omega⟩]
    rfl
  unfold m_law F_law
  simp only [wB, wSt] at k3
  simp [k0, k1, k2, -v_eqI, hp, -v_r1, h2, k3]
theorem world {S s t w : D} {a b : Str} (hs : s = .str a) (ht : t = .str b) (ha : Tx 1 a) (hb : Tx 1 b) {T0 : D} (T : Tape T0) (p : Bool) (ds : List D) : ∃ T3, forL (dNm 5) wB (w :: ds) (wSt S T0 s t p) = forL (dNm 5) wB ds (wSt S T3 s t (!p)) ∧ Tape T3 := by
  subst hs ht
  obtain ⟨keys, k1, hk, l1, l2⟩ := names p ha hb
  obtain ⟨ends, k2, he, m1, m2⟩ := line hk l1 l2
  obtain ⟨dg, T1, k3, TT1, n1, _⟩ := digits T 30 6 (by omega) (by decide) (by omega) (by omega)
  obtain ⟨kd, T2, k4, TT2, n2, _⟩ := digits TT1 12 3 (by omega) (by decide) (by omega) (by omega)
  obtain ⟨d0, d1, d2, d3, d4, d5, rfl⟩ : ∃ d0 d1 d2 d3 d4 d5, dg = [d0, d1, d2, d3, d4, d5] := by
    match dg, n1 with
    | [d0, d1, d2, d3, d4, d5], _ => exact ⟨d0, d1, d2, d3, d4, d5, rfl⟩
  obtain ⟨e0, e1, e2, rfl⟩ : ∃ e0 e1 e2, kd = [e0, e1, e2] := by
    match kd, n2 with
    | [e0, e1, e2], _ => exact ⟨e0, e1, e2, rfl⟩
  obtain ⟨A, k5, hA⟩ := span he m1 m2 d0 d1
  obtain ⟨o1, k6, ho1⟩ := span he m1 m2 d2 d3
  obtain ⟨B, k7, hB⟩ := beside he m2 e0 hA ho1
  obtain ⟨o2, k8, ho2⟩ := span he m1 m2 d4 d5
  obtain ⟨C, k9, hC⟩ := beside he m2 e1 hB ho2
  obtain ⟨rd, T3, k10, TT3, hr, _⟩ := round TT2 [.int 0, .int 1, .int 2, .int 3, .int 4, .int 5, .int 6, .int 7, .int 8, .int 9, .int 10, .int 11, .int 12] (by simp) (by simp)
  have hn : (0 : Int) < (keys.length : Int) := by omega
  obtain ⟨key, kk, mk⟩ := atI_in keys (e2 % (keys.length : Int)) (Int.emod_nonneg _ (by omega)) (Int.emod_lt_of_pos _ hn)
  have hAB : ∀ d ∈ [A, B], Span p d := fun d m => by
    rcases List.mem_cons.mp m with rfl | m
    · exact hA
    · rw [List.mem_singleton.mp m]; exact hB
  obtain ⟨ps, k12, P, hE⟩ := points hAB (by simp)
  obtain ⟨ra, ia, ea⟩ := hE A (by simp)
  obtain ⟨rb, ib, eb⟩ := hE B (by simp)
  have k13 := P_pair P ia ib
  rw [← ea, ← eb] at k13
  have k11 := g_loop (S := S) (T := T3) (s := .str a) (t := .str b) (w := w) (ends := .list ends) (dg := .list [.int d0, .int d1, .int d2, .int d3, .int d4, .int d5]) (kd := .none) (a := A) (b := B) (c := C) (p := p) (keys := keys) (kinds := [.int e0, .int e1, .int e2]) (kd2 := e2) rfl v_lenL hn rfl kk rd fun x m => by
    have := hr x m
    simp only [List.mem_cons, List.not_mem_nil, or_false] at this
    rcases this with rfl | rfl | rfl | rfl | rfl | rfl | rfl | rfl | rfl | rfl | rfl | rfl | rfl <;> exact ⟨_, rfl, asked (hk key mk) (by omega) hA hB hC _ (by omega) (by omega)⟩
  exact ⟨T3, w_step k1 k2 k3 k4 k5 k6 k7 k8 k9 k10 k11 k12 k13, TT3⟩
theorem law_holds : DL.Holds m_law := fun ns _ => by
  obtain ⟨T0, k0, TT0⟩ := tape ns
  obtain ⟨x, y, T1, k1, TT1, hx, hy⟩ := two TT0
  obtain ⟨r, T2, k2, TT2, _, _⟩ := draw TT1 2 (by omega) (by omega)
  obtain ⟨T3, w1, TT3⟩ := world (S := .list (ns.map .int)) (w := .int 0) rfl rfl (.one hx) (.one hy) TT2 (decide (r = 1)) [.int 1]
  obtain ⟨T4, w2, TT4⟩ := world (S := .list (ns.map .int)) (w := .int 1) rfl rfl (.one hx) (.one hy) TT3 (!decide (r = 1)) []
  exact ⟨[none], law_core k0 k1 k2 v_eqI (by rw [w1, w2]; rfl)⟩
end LW

/-! that the text does so: printed by gen.py -/
namespace LW
open PySem PySem.Spec PyProof.Rows L2 DL
def topS (i : Nat) : Stmt := PySem.Challenge.pw_stratakv_k00_three_intervals_by_their_ke.main.body.getD i (.Pass ⟨0, 0, 0, 0⟩)
/-- the names that the text leaves to the built-ins -/
structure Free (mg : Str → Option Value) : Prop where
  n_abs : mg "abs" = none
  n_bool : mg "bool" = none
  n_int : mg "int" = none
  n_isinstance : mg "isinstance" = none
  n_len : mg "len" = none
  n_list : mg "list" = none
  n_max : mg "max" = none
  n_min : mg "min" = none
  n_range : mg "range" = none
  n_sorted : mg "sorted" = none
  n_str : mg "str" = none
  n_tuple : mg "tuple" = none
section
variable {P : Program} {w : World} {K : Fg} {mg : Str → Option Value}
abbrev N_least_key : List Str := ["paired"]
theorem sc_least_key : FnScope N_least_key ["paired"] (defScope (topS 1)) := ⟨rfl, rfl, rfl, by decide +kernel, rfl, by decide +kernel, by decide +kernel⟩
theorem ok_least_key (T : Free mg) (D : DefAt K mg "least_key" (topS 1) ["paired"])  : Cal P w K mg 1 "least_key" ["paired"] m_least_key :=
  cal_of (N := N_least_key) (k := 0) (fs := F_least_key) rfl D sc_least_key fun base f cdv A outer s H E hr => have nd := sc_least_key.nd
  (ss_cons (s_if (pt_tru (pf_var 0))
    (ss_one (s_ret (val_pe (pf_tup (paf_cons (pf_str) (paf_cons (pf_str) paf_nil))))))
    ss_nil)
    (ss_one (s_ret (val_pe (pf_str)))))
abbrev N_whole_interval : List Str := ["paired"]
theorem sc_whole_interval : FnScope N_whole_interval ["paired"] (defScope (topS 2)) := ⟨rfl, rfl, rfl, by decide +kernel, rfl, by decide +kernel, by decide +kernel⟩
theorem ok_whole_interval (T : Free mg) (D : DefAt K mg "whole_interval" (topS 2) ["paired"]) (c_least_key : Cal P w K mg 1 "least_key" ["paired"] m_least_key) : Cal P w K mg 2 "whole_interval" ["paired"] m_whole_interval :=
  cal_of (N := N_whole_interval) (k := 1) (fs := F_whole_interval) rfl D sc_whole_interval fun base f cdv A outer s H E hr => have nd := sc_whole_interval.nd
  (ss_one (s_ret (val_pe (pf_tup (paf_cons (frz_pe (pd_cal c_least_key hr (ar_e (pf_var 0) ar_nil))) (paf_cons pf_non paf_nil))))))
abbrev N_successor_of : List Str := ["key"]
theorem sc_successor_of : FnScope N_successor_of ["key"] (defScope (topS 3)) := ⟨rfl, rfl, rfl, by decide +kernel, rfl, by decide +kernel, by decide +kernel⟩
theorem ok_successor_of (T : Free mg) (D : DefAt K mg "successor_of" (topS 3) ["key"])  : Cal P w K mg 1 "successor_of" ["key"] m_successor_of :=
  cal_of (N := N_successor_of) (k := 0) (fs := F_successor_of) rfl D sc_successor_of fun base f cdv A outer s H E hr => have nd := sc_successor_of.nd
  (ss_cons (s_if (pt_tru (pf_isi (pf_var 0) rfl T.n_isinstance rfl T.n_tuple (by decide +kernel)))
    (ss_one (s_ret (val_pe (pf_tup (paf_cons (pf_ixV 0 pf_int) (paf_cons (pf_bin oAdd (pf_ixV 0 pf_int) (pf_str)) paf_nil))))))
    ss_nil)
    (ss_one (s_ret (val_pe (pf_bin oAdd (pf_var 0) (pf_str))))))
abbrev N_around_key : List Str := ["key"]
theorem sc_around_key : FnScope N_around_key ["key"] (defScope (topS 4)) := ⟨rfl, rfl, rfl, by decide +kernel, rfl, by decide +kernel, by decide +kernel⟩
theorem ok_around_key (T : Free mg) (D : DefAt K mg "around_key" (topS 4) ["key"]) (c_successor_of : Cal P w K mg 1 "successor_of" ["key"] m_successor_of) : Cal P w K mg 2 "around_key" ["key"] m_around_key :=
  cal_of (N := N_around_key) (k := 1) (fs := F_around_key) rfl D sc_around_key fun base f cdv A outer s H E hr => have nd := sc_around_key.nd
  (ss_one (s_ret (val_pe (pf_tup (paf_cons (pf_var 0) (paf_cons (frz_pe (pd_cal c_successor_of hr (ar_e (pf_var 0) ar_nil))) paf_nil))))))
abbrev N_has_key : List Str := ["interval", "key", "low", "high"]
theorem sc_has_key : FnScope N_has_key ["interval", "key"] (defScope (topS 5)) := ⟨rfl, rfl, rfl, by decide +kernel, rfl, by decide +kernel, by decide +kernel⟩
theorem ok_has_key (T : Free mg) (D : DefAt K mg "has_key" (topS 5) ["interval", "key"])  : Cal P w K mg 1 "has_key" ["interval", "key"] m_has_key :=
  cal_of (N := N_has_key) (k := 0) (fs := F_has_key) rfl D sc_has_key fun base f cdv A outer s H E hr => have nd := sc_has_key.nd
  (ss_cons (s_asg (pf_var 0) (g_tp 2 rfl (g_cons (g_nm 2 nd) (g_cons (g_nm 3 nd) g_nil))))
    (ss_one (s_ret (val_pe (pf_and (pf_cmp (oOrd (.inr (.inl rfl)) (room64 hr)) (pf_var 2) (pf_var 1)) (pf_one (pf_or (pf_cmp oIs (pf_var 3) pf_non) (pf_one (pf_cmp (oOrd (.inl rfl) (room64 hr)) (pf_var 1) (pf_var 3))))))))))
abbrev N_is_empty : List Str := ["interval", "low", "high"]
theorem sc_is_empty : FnScope N_is_empty ["interval"] (defScope (topS 6)) := ⟨rfl, rfl, rfl, by decide +kernel, rfl, by decide +kernel, by decide +kernel⟩
theorem ok_is_empty (T : Free mg) (D : DefAt K mg "is_empty" (topS 6) ["interval"])  : Cal P w K mg 1 "is_empty" ["interval"] m_is_empty :=
  cal_of (N := N_is_empty) (k := 0) (fs := F_is_empty) rfl D sc_is_empty fun base f cdv A outer s H E hr => have nd := sc_is_empty.nd
  (ss_cons (s_asg (pf_var 0) (g_tp 2 rfl (g_cons (g_nm 1 nd) (g_cons (g_nm 2 nd) g_nil))))
    (ss_one (s_ret (val_pe (pf_and (pf_cmp oIsNot (pf_var 2) pf_non) (pf_one (pf_cmp (oOrd (.inr (.inl rfl)) (room64 hr)) (pf_var 2) (pf_var 1))))))))
abbrev N_lesser_high : List Str := ["a", "b"]
theorem sc_lesser_high : FnScope N_lesser_high ["a", "b"] (defScope (topS 7)) := ⟨rfl, rfl, rfl, by decide +kernel, rfl, by decide +kernel, by decide +kernel⟩
theorem ok_lesser_high (T : Free mg) (D : DefAt K mg "lesser_high" (topS 7) ["a", "b"])  : Cal P w K mg 1 "lesser_high" ["a", "b"] m_lesser_high :=
  cal_of (N := N_lesser_high) (k := 0) (fs := F_lesser_high) rfl D sc_lesser_high fun base f cdv A outer s H E hr => have nd := sc_lesser_high.nd
  (ss_cons (s_if (pt_cmp' oIs (pf_var 0) pf_non)
    (ss_one (s_ret (pd_mov 1)))
    ss_nil)
    (ss_cons (s_if (PW.pt (wor (pt_cmp' oIs (pf_var 1) pf_non) (wor1 (pt_cmp' (oOrd (.inl rfl) (room64 hr)) (pf_var 0) (pf_var 1)))))
    (ss_one (s_ret (pd_mov 0)))
    ss_nil)
    (ss_one (s_ret (pd_mov 1)))))
abbrev N_common_part : List Str := ["a", "b", "part"]
theorem sc_common_part : FnScope N_common_part ["a", "b"] (defScope (topS 8)) := ⟨rfl, rfl, rfl, by decide +kernel, rfl, by decide +kernel, by decide +kernel⟩
theorem ok_common_part (T : Free mg) (D : DefAt K mg "common_part" (topS 8) ["a", "b"]) (c_is_empty : Cal P w K mg 1 "is_empty" ["interval"] m_is_empty) (c_lesser_high : Cal P w K mg 1 "lesser_high" ["a", "b"] m_lesser_high) : Cal P w K mg 2 "common_part" ["a", "b"] m_common_part :=
  cal_of (N := N_common_part) (k := 1) (fs := F_common_part) rfl D sc_common_part fun base f cdv A outer s H E hr => have nd := sc_common_part.nd
  (ss_cons (s_set 2 nd (val_pe (pf_tup (paf_cons (pf_callB rfl T.n_max (paf_cons (pf_ixV 0 pf_int) (paf_cons (pf_ixV 1 pf_int) paf_nil)) (cMaxV rfl (room70 hr)) (by decide +kernel)) (paf_cons (frz_pe (pd_cal c_lesser_high hr (ar_e (pf_ixV 0 pf_int) (ar_e (pf_ixV 1 pf_int) ar_nil)))) paf_nil)))))
    (ss_cons (s_if (pt_tru (frz_pe (pd_cal c_is_empty hr (ar_e (pf_var 2) ar_nil))))
    (ss_one (s_ret (val_pe pf_non)))
    ss_nil)
    (ss_one (s_ret (pd_mov 2)))))
abbrev N_is_overlapping : List Str := ["a", "b"]
theorem sc_is_overlapping : FnScope N_is_overlapping ["a", "b"] (defScope (topS 9)) := ⟨rfl, rfl, rfl, by decide +kernel, rfl, by decide +kernel, by decide +kernel⟩
theorem ok_is_overlapping (T : Free mg) (D : DefAt K mg "is_overlapping" (topS 9) ["a", "b"]) (c_common_part : Cal P w K mg 2 "common_part" ["a", "b"] m_common_part) : Cal P w K mg 3 "is_overlapping" ["a", "b"] m_is_overlapping :=
  cal_of (N := N_is_overlapping) (k := 2) (fs := F_is_overlapping) rfl D sc_is_overlapping fun base f cdv A outer s H E hr => have nd := sc_is_overlapping.nd
  (ss_one (s_ret (val_pe (pf_cmp oIsNot (frz_pe (pd_cal c_common_part hr (ar_e (pf_var 0) (ar_e (pf_var 1) ar_nil)))) pf_non))))
abbrev N_is_covering : List Str := ["a", "b"]
theorem sc_is_covering : FnScope N_is_covering ["a", "b"] (defScope (topS 10)) := ⟨rfl, rfl, rfl, by decide +kernel, rfl, by decide +kernel, by decide +kernel⟩
theorem ok_is_covering (T : Free mg) (D : DefAt K mg "is_covering" (topS 10) ["a", "b"])  : Cal P w K mg 1 "is_covering" ["a", "b"] m_is_covering :=
  cal_of (N := N_is_covering) (k := 0) (fs := F_is_covering) rfl D sc_is_covering fun base f cdv A outer s H E hr => have nd := sc_is_covering.nd
  (ss_cons (s_if (pt_cmp' (oOrd (.inl rfl) (room64 hr)) (pf_ixV 1 pf_int) (pf_ixV 0 pf_int))
    (ss_one (s_ret (val_pe pf_bl)))
    ss_nil)
    (ss_one (s_ret (val_pe (pf_or (pf_cmp oIs (pf_ixV 0 pf_int) pf_non) (pf_one (pf_and (pf_cmp oIsNot (pf_ixV 1 pf_int) pf_non) (pf_one (pf_cmp (oOrd (.inr (.inl rfl)) (room64 hr)) (pf_ixV 1 pf_int) (pf_ixV 0 pf_int))))))))))
abbrev N_join_of : List Str := ["a", "b", "low"]
theorem sc_join_of : FnScope N_join_of ["a", "b"] (defScope (topS 11)) := ⟨rfl, rfl, rfl, by decide +kernel, rfl, by decide +kernel, by decide +kernel⟩
theorem ok_join_of (T : Free mg) (D : DefAt K mg "join_of" (topS 11) ["a", "b"])  : Cal P w K mg 1 "join_of" ["a", "b"] m_join_of :=
  cal_of (N := N_join_of) (k := 0) (fs := F_join_of) rfl D sc_join_of fun base f cdv A outer s H E hr => have nd := sc_join_of.nd
  (ss_cons (s_set 2 nd (val_pe (pf_callB rfl T.n_min (paf_cons (pf_ixV 0 pf_int) (paf_cons (pf_ixV 1 pf_int) paf_nil)) (cMinV rfl (room70 hr)) (by decide +kernel))))
    (ss_cons (s_if (PW.pt (wor (pt_cmp' oIs (pf_ixV 0 pf_int) pf_non) (wor1 (pt_cmp' oIs (pf_ixV 1 pf_int) pf_non))))
    (ss_one (s_ret (val_pe (pf_tup (paf_cons (pf_var 2) (paf_cons pf_non paf_nil))))))
    ss_nil)
    (ss_one (s_ret (val_pe (pf_tup (paf_cons (pf_var 2) (paf_cons (pf_callB rfl T.n_max (paf_cons (pf_ixV 0 pf_int) (paf_cons (pf_ixV 1 pf_int) paf_nil)) (cMaxV rfl (room70 hr)) (by decide +kernel)) paf_nil))))))))
abbrev N_left_of : List Str := ["a", "b", "parts", "part"]
theorem sc_left_of : FnScope N_left_of ["a", "b"] (defScope (topS 12)) := ⟨rfl, rfl, rfl, by decide +kernel, rfl, by decide +kernel, by decide +kernel⟩
theorem ok_left_of (T : Free mg) (D : DefAt K mg "left_of" (topS 12) ["a", "b"]) (c_is_empty : Cal P w K mg 1 "is_empty" ["interval"] m_is_empty) (c_lesser_high : Cal P w K mg 1 "lesser_high" ["a", "b"] m_lesser_high) : Cal P w K mg 2 "left_of" ["a", "b"] m_left_of :=
  cal_of (N := N_left_of) (k := 1) (fs := F_left_of) rfl D sc_left_of fun base f cdv A outer s H E hr => have nd := sc_left_of.nd
  (ss_cons (s_set 2 nd (pd_lst (paf_cons (pf_tup (paf_cons (pf_ixV 0 pf_int) (paf_cons (frz_pe (pd_cal c_lesser_high hr (ar_e (pf_ixV 0 pf_int) (ar_e (pf_ixV 1 pf_int) ar_nil)))) paf_nil))) paf_nil)))
    (ss_cons (s_if (pt_cmp' oIsNot (pf_ixV 1 pf_int) pf_non)
    (ss_one (s_app 2 (pf_tup (paf_cons (pf_callB rfl T.n_max (paf_cons (pf_ixV 0 pf_int) (paf_cons (pf_ixV 1 pf_int) paf_nil)) (cMaxV rfl (room70 hr)) (by decide +kernel)) (paf_cons (pf_ixV 0 pf_int) paf_nil)))))
    ss_nil)
    (ss_one (s_ret (val_pe (pf_callTy rfl T.n_tuple (paf_cons (frz_pe (pd_lc (own := [("part", 3)])  rfl nd (i_d (pf_var 2)) (blkOk_by rfl) (fun _ _ _ _ _ => (gw_nm 3 (by decide) nd)) (fun _ _ _ _ _ => (ts_one (pt_not' (pt_tru (frz_pe (pd_cal c_is_empty hr (ar_e (pf_var 3) ar_nil))))))) (fun _ _ _ _ _ => (pf_var 3)))) paf_nil) cTup (by decide +kernel)))))))
abbrev N__law_a_next : List Str := ["key"]
theorem sc__law_a_next : FnScope N__law_a_next ["key"] (defScope (topS 14)) := ⟨rfl, rfl, rfl, by decide +kernel, rfl, by decide +kernel, by decide +kernel⟩
theorem ok__law_a_next (T : Free mg) (D : DefAt K mg "_law_a_next" (topS 14) ["key"])  : Cal P w K mg 1 "_law_a_next" ["key"] m__law_a_next :=
  cal_of (N := N__law_a_next) (k := 0) (fs := F__law_a_next) rfl D sc__law_a_next fun base f cdv A outer s H E hr => have nd := sc__law_a_next.nd
  (ss_cons (s_if (pt_tru (pf_isi (pf_var 0) rfl T.n_isinstance rfl T.n_tuple (by decide +kernel)))
    (ss_one (s_ret (val_pe (pf_tup (paf_cons (pf_ixV 0 pf_int) (paf_cons (pf_bin oAdd (pf_ixV 0 pf_int) (pf_str)) paf_nil))))))
    ss_nil)
    (ss_one (s_ret (val_pe (pf_bin oAdd (pf_var 0) (pf_str))))))
abbrev N__law_signs : List Str := ["signs"]
theorem sc__law_signs : FnScope N__law_signs [] (defScope (topS 15)) := ⟨rfl, rfl, rfl, by decide +kernel, rfl, by decide +kernel, by decide +kernel⟩
theorem ok__law_signs (T : Free mg) (D : DefAt K mg "_law_signs" (topS 15) [])  : Cal P w K mg 1 "_law_signs" [] m__law_signs :=
  cal_of (N := N__law_signs) (k := 0) (fs := F__law_signs) rfl D sc__law_signs fun base f cdv A outer s H E hr => have nd := sc__law_signs.nd
  (ss_cons (s_set 0 nd (val_pe (pf_str)))
    (ss_one (s_ret (val_pe (pf_bin oAdd (pf_var 0) (pf_str))))))
abbrev N__law_same : List Str := ["told", "wanted", "k"]
theorem sc__law_same : FnScope N__law_same ["told", "wanted"] (defScope (topS 16)) := ⟨rfl, rfl, rfl, by decide +kernel, rfl, by decide +kernel, by decide +kernel⟩
theorem okr__law_same (T : Free mg) (D : DefAt K mg "_law_same" (topS 16) ["told", "wanted"])  : ∀ k : Nat, Cal P w K mg (0 + k) "_law_same" ["told", "wanted"] (m__law_same k)
  | 0 => cal_never D
  | k + 1 =>
    have c__law_same : Cal P w K mg (0 + k) "_law_same" ["told", "wanted"] (m__law_same k) := okr__law_same T D  k
    cal_of (N := N__law_same) (k := 0 + k) (fs := F__law_same (m__law_same k)) rfl D sc__law_same fun base f cdv A outer s H E hr => have nd := sc__law_same.nd
    (ss_cons (s_kill [2] (s_if (pt_tru (pf_isi (pf_var 1) rfl T.n_isinstance rfl T.n_tuple (by decide +kernel)))
    (ss_cons (s_if (PW.pt (wor (pt_not' (pt_tru (pf_isi (pf_var 0) rfl T.n_isinstance rfl T.n_tuple (by decide +kernel)))) (wor1 (pt_cmp' (oNe (room64 hr)) (pf_lenV 0 rfl T.n_len (by decide +kernel)) (pf_lenV 1 rfl T.n_len (by decide +kernel))))))
    (ss_one (s_ret (val_pe pf_bl)))
    ss_nil)
    (ss_cons (s_forI PassesOwn.never rfl (i_r1 rfl T.n_range (pf_lenV 1 rfl T.n_len (by decide +kernel))) (g_nm 2 nd)
    (ss_one (s_kill [2] (s_if (pt_not' (pt_tru (frz_pe (pd_cal c__law_same hr (ar_e (pf_ixV 0 (pf_var 2)) (ar_e (pf_ixV 1 (pf_var 2)) ar_nil))))))
    (ss_one (s_ret (val_pe pf_bl)))
    ss_nil))))
    (ss_one (s_ret (val_pe pf_bl)))))
    ss_nil))
    (ss_cons (s_if (PW.pt (wor (pt_cmp' oIs (pf_var 1) pf_non) (wor1 (pt_cmp' oIs (pf_var 0) pf_non))))
    (ss_one (s_ret (val_pe (pf_and (pf_cmp oIs (pf_var 1) pf_non) (pf_one (pf_cmp oIs (pf_var 0) pf_non))))))
    ss_nil)
    (ss_cons (s_if (pt_tru (pf_isi (pf_var 1) rfl T.n_isinstance rfl T.n_str (by decide +kernel)))
    (ss_one (s_ret (val_pe (pf_and (pf_isi (pf_var 0) rfl T.n_isinstance rfl T.n_str (by decide +kernel)) (pf_one (pf_cmp (oEq (room64 hr)) (pf_var 0) (pf_var 1)))))))
    ss_nil)
    (ss_cons (s_if (PW.pt (wor (pt_cmp' (oNe (room64 hr)) (pf_isi (pf_var 0) rfl T.n_isinstance rfl T.n_bool (by decide +kernel)) (pf_isi (pf_var 1) rfl T.n_isinstance rfl T.n_bool (by decide +kernel))) (wor1 (pt_not' (pt_tru (pf_isi (pf_var 0) rfl T.n_isinstance rfl T.n_int (by decide +kernel)))))))
    (ss_one (s_ret (val_pe pf_bl)))
    ss_nil)
    (ss_one (s_ret (val_pe (pf_cmp (oEq (room64 hr)) (pf_var 0) (pf_var 1)))))))))
theorem ok__law_same (T : Free mg) (D : DefAt K mg "_law_same" (topS 16) ["told", "wanted"])  : Cal P w K mg 6 "_law_same" ["told", "wanted"] (m__law_same 6) := okr__law_same T D  6
abbrev N__law_draw : List Str := ["tape", "many", "place", "number"]
theorem sc__law_draw : FnScope N__law_draw ["tape", "many"] (defScope (topS 17)) := ⟨rfl, rfl, rfl, by decide +kernel, rfl, by decide +kernel, by decide +kernel⟩
theorem ok__law_draw (T : Free mg) (D : DefAt K mg "_law_draw" (topS 17) ["tape", "many"])  : Cal P w K mg 1 "_law_draw" ["tape", "many"] m__law_draw :=
  cal_of (N := N__law_draw) (k := 0) (fs := F__law_draw) rfl D sc__law_draw fun base f cdv A outer s H E hr => have nd := sc__law_draw.nd
  (ss_cons (s_kill [2, 3] (s_if (pt_cmp' (oEq (room64 hr)) (pf_ixV 0 pf_int) pf_int)
    (ss_cons (s_set 2 nd (val_pe (pf_ixV 0 pf_int)))
    (ss_cons (s_set 3 nd (val_pe pf_int))
    (ss_cons (s_if (pt_cmp' (oOrd (.inl rfl) (room64 hr)) (pf_var 2) (pf_callB rfl T.n_len (paf_cons (pf_ixV 0 pf_int) paf_nil) cLen (by decide +kernel)))
    (ss_one (s_set 3 nd (val_pe (pf_callB rfl T.n_abs (paf_cons (pf_callTy rfl T.n_int (paf_cons (pf_ix (pf_ixV 0 pf_int) (pf_var 2)) paf_nil) cInt (by decide +kernel)) paf_nil) cAbs (by decide +kernel)))))
    (ss_cons (s_setIx 0 (pf_bin oMod (pf_callTy rfl T.n_int (paf_cons (pf_bin oAdd (pf_bin oAdd (pf_bin oMul (pf_ixV 0 pf_int) pf_int) (pf_var 2)) pf_int) paf_nil) cInt (by decide +kernel)) pf_int) pf_int)
    (ss_one (s_set 3 nd (val_pe (pf_ixV 0 pf_int))))))
    (ss_cons (s_setIx 0 (pf_bin oAdd (pf_var 2) pf_int) pf_int)
    (ss_cons (s_if (pt_cmp' (oOrd (.inl rfl) (room64 hr)) (pf_var 3) (pf_bin oPow pf_int pf_int))
    (ss_cons (s_set 3 nd (val_pe (pf_bin oMod (pf_callTy rfl T.n_int (paf_cons (pf_bin oAdd (pf_bin oAdd (pf_bin oMul (pf_var 3) pf_int) (pf_bin oMul (pf_var 2) pf_int)) pf_int) paf_nil) cInt (by decide +kernel)) pf_int)))
    (ss_cons (s_set 3 nd (val_pe (pf_bin oMod (pf_callTy rfl T.n_int (paf_cons (pf_bin oMul (pf_var 3) pf_int) paf_nil) cInt (by decide +kernel)) pf_int)))
    (ss_one (s_ret (val_pe (pf_bin oMod (pf_callTy rfl T.n_int (paf_cons (pf_var 3) paf_nil) cInt (by decide +kernel)) (pf_callB rfl T.n_max (paf_cons (pf_var 1) (paf_cons pf_int paf_nil)) (cMaxV rfl (room70 hr)) (by decide +kernel))))))))
    ss_nil)
    (ss_one (s_setIx 0 (pf_var 3) pf_int)))))))
    ss_nil))
    (ss_cons (s_set 3 nd (val_pe (pf_ixV 0 pf_int)))
    (ss_cons (s_setIx 0 (pf_bin oDiv (pf_var 3) (pf_callB rfl T.n_max (paf_cons (pf_var 1) (paf_cons pf_int paf_nil)) (cMaxV rfl (room70 hr)) (by decide +kernel))) pf_int)
    (ss_one (s_ret (val_pe (pf_bin oMod (pf_callTy rfl T.n_int (paf_cons (pf_var 3) paf_nil) cInt (by decide +kernel)) (pf_callB rfl T.n_max (paf_cons (pf_var 1) (paf_cons pf_int paf_nil)) (cMaxV rfl (room70 hr)) (by decide +kernel)))))))))
abbrev N__law_tape : List Str := ["script", "mixed", "cell"]
theorem sc__law_tape : FnScope N__law_tape ["script"] (defScope (topS 18)) := ⟨rfl, rfl, rfl, by decide +kernel, rfl, by decide +kernel, by decide +kernel⟩
theorem ok__law_tape (T : Free mg) (D : DefAt K mg "_law_tape" (topS 18) ["script"])  : Cal P w K mg 1 "_law_tape" ["script"] m__law_tape :=
  cal_of (N := N__law_tape) (k := 0) (fs := F__law_tape) rfl D sc__law_tape fun base f cdv A outer s H E hr => have nd := sc__law_tape.nd
  (ss_cons (s_set 1 nd (val_pe pf_int))
    (ss_cons (s_forI PassesOwn.never rfl (i_d (pf_var 0)) (g_nm 2 nd)
    (ss_one (s_kill [2] (s_set 1 nd (val_pe (pf_bin oMod (pf_callTy rfl T.n_int (paf_cons (pf_bin oAdd (pf_bin oMul (pf_var 1) pf_int) (pf_callB rfl T.n_abs (paf_cons (pf_callTy rfl T.n_int (paf_cons (pf_var 2) paf_nil) cInt (by decide +kernel)) paf_nil) cAbs (by decide +kernel))) paf_nil) cInt (by decide +kernel)) pf_int))))))
    (ss_one (s_ret (pd_lst (paf_cons (frz_pe (pd_callTy rfl T.n_list (paf_cons (pf_var 0) paf_nil) cList (by decide +kernel))) (paf_cons pf_int (paf_cons pf_int (paf_cons (pf_var 1) paf_nil)))))))))
abbrev N__law_digits : List Str := ["tape", "base", "many", "total", "k", "number", "told"]
theorem sc__law_digits : FnScope N__law_digits ["tape", "base", "many"] (defScope (topS 19)) := ⟨rfl, rfl, rfl, by decide +kernel, rfl, by decide +kernel, by decide +kernel⟩
theorem ok__law_digits (T : Free mg) (D : DefAt K mg "_law_digits" (topS 19) ["tape", "base", "many"]) (c__law_draw : Cal P w K mg 1 "_law_draw" ["tape", "many"] m__law_draw) : Cal P w K mg 2 "_law_digits" ["tape", "base", "many"] m__law_digits :=
  cal_of (N := N__law_digits) (k := 1) (fs := F__law_digits) rfl D sc__law_digits fun base f cdv A outer s H E hr => have nd := sc__law_digits.nd
  (ss_cons (s_set 3 nd (val_pe pf_int))
    (ss_cons (s_forI PassesOwn.never rfl (i_r1 rfl T.n_range (pf_var 2)) (g_nm 4 nd)
    (ss_one (s_kill [4] (s_set 3 nd (val_pe (pf_bin oMul (pf_var 3) (pf_var 1)))))))
    (ss_cons (s_set 5 nd (pd_cal c__law_draw hr (ar_v 0 (ar_e (pf_var 3) ar_nil))))
    (ss_cons (s_set 6 nd (pd_lst paf_nil))
    (ss_cons (s_kill [4, 5] (s_pre [4] (s_forI PassesOwn.never rfl (i_r1 rfl T.n_range (pf_var 2)) (g_nm 4 nd)
    (ss_cons (s_app 6 (pf_bin oMod (pf_callTy rfl T.n_int (paf_cons (pf_var 5) paf_nil) cInt (by decide +kernel)) (pf_var 1)))
    (ss_one (s_kill [4] (s_set 5 nd (val_pe (pf_bin oDiv (pf_var 5) (pf_var 1))))))))))
    (ss_one (s_ret (pd_mov 6))))))))
abbrev N__law_round : List Str := ["tape", "menu", "number", "k", "told"]
theorem sc__law_round : FnScope N__law_round ["tape", "menu"] (defScope (topS 20)) := ⟨rfl, rfl, rfl, by decide +kernel, rfl, by decide +kernel, by decide +kernel⟩
theorem ok__law_round (T : Free mg) (D : DefAt K mg "_law_round" (topS 20) ["tape", "menu"]) (c__law_draw : Cal P w K mg 1 "_law_draw" ["tape", "many"] m__law_draw) : Cal P w K mg 2 "_law_round" ["tape", "menu"] m__law_round :=
  cal_of (N := N__law_round) (k := 1) (fs := F__law_round) rfl D sc__law_round fun base f cdv A outer s H E hr => have nd := sc__law_round.nd
  (ss_cons (s_set 2 nd (pd_cal c__law_draw hr (ar_v 0 (ar_e (pf_bin oMul pf_int (pf_lenV 1 rfl T.n_len (by decide +kernel))) ar_nil))))
    (ss_cons (s_set 3 nd (val_pe (pf_bin oDiv (pf_var 2) pf_int)))
    (ss_cons (s_set 4 nd (val_pe (pf_bin oAdd (pf_slV 1 (po_pt (pf_var 3)) po_no) (pf_slV 1 po_no (po_pt (pf_var 3))))))
    (ss_one (s_ret (val_pe (pf_if (pt_cmp' (oEq (room64 hr)) (pf_bin oMod (pf_callTy rfl T.n_int (paf_cons (pf_var 2) paf_nil) cInt (by decide +kernel)) pf_int) pf_int) (pf_slV 4 po_no (po_pt pf_int)) (pf_var 4))))))))
abbrev N__law_two_signs : List Str := ["tape", "signs", "number"]
theorem sc__law_two_signs : FnScope N__law_two_signs ["tape"] (defScope (topS 21)) := ⟨rfl, rfl, rfl, by decide +kernel, rfl, by decide +kernel, by decide +kernel⟩
theorem ok__law_two_signs (T : Free mg) (D : DefAt K mg "_law_two_signs" (topS 21) ["tape"]) (c__law_draw : Cal P w K mg 1 "_law_draw" ["tape", "many"] m__law_draw) (c__law_signs : Cal P w K mg 1 "_law_signs" [] m__law_signs) : Cal P w K mg 2 "_law_two_signs" ["tape"] m__law_two_signs :=
  cal_of (N := N__law_two_signs) (k := 1) (fs := F__law_two_signs) rfl D sc__law_two_signs fun base f cdv A outer s H E hr => have nd := sc__law_two_signs.nd
  (ss_cons (s_set 1 nd (pd_cal0 c__law_signs hr))
    (ss_cons (s_set 2 nd (pd_cal c__law_draw hr (ar_v 0 (ar_e (pf_bin oMul pf_int pf_int) ar_nil))))
    (ss_one (s_ret (val_pe (pf_tup (paf_cons (pf_ixV 1 (pf_bin oMod (pf_callTy rfl T.n_int (paf_cons (pf_var 2) paf_nil) cInt (by decide +kernel)) pf_int)) (paf_cons (pf_ixV 1 (pf_bin oDiv (pf_var 2) pf_int)) paf_nil))))))))
abbrev N__law_names : List Str := ["paired", "s", "t", "names", "name", "keys", "term"]
theorem sc__law_names : FnScope N__law_names ["paired", "s", "t"] (defScope (topS 22)) := ⟨rfl, rfl, rfl, by decide +kernel, rfl, by decide +kernel, by decide +kernel⟩
theorem ok__law_names (T : Free mg) (D : DefAt K mg "_law_names" (topS 22) ["paired", "s", "t"])  : Cal P w K mg 1 "_law_names" ["paired", "s", "t"] m__law_names :=
  cal_of (N := N__law_names) (k := 0) (fs := F__law_names) rfl D sc__law_names fun base f cdv A outer s H E hr => have nd := sc__law_names.nd
  (ss_cons (s_set 3 nd (pd_lst paf_nil))
    (ss_cons (s_forI PassesOwn.never rfl (i_d (frz_pe (pd_lst (paf_cons (pf_str) (paf_cons (pf_var 1) (paf_cons (pf_bin oAdd (pf_var 1) (pf_str)) (paf_cons (pf_bin oAdd (pf_var 1) (pf_var 2)) (paf_cons (pf_var 2) (paf_cons (pf_bin oAdd (pf_bin oAdd (pf_bin oAdd (pf_var 2) (pf_var 1)) (pf_var 1)) (pf_var 2)) paf_nil))))))))) (g_nm 4 nd)
    (ss_one (s_kill [4] (s_if (pt_cmpV 3 (oNotIn (room66 hr)) (pf_var 4))
    (ss_one (s_app 3 (pf_var 4)))
    ss_nil))))
    (ss_cons (s_if (pt_not' (pt_tru (pf_var 0)))
    (ss_one (s_ret (pd_mov 3)))
    ss_nil)
    (ss_cons (s_set 5 nd (pd_lst paf_nil))
    (ss_cons (s_pre [4] (s_forI PassesOwn.never rfl (i_d (frz_pe (pd_lst (paf_cons (pf_str) (paf_cons (pf_var 1) (paf_cons (pf_bin oMul (pf_bin oAdd (pf_var 1) (pf_var 2)) pf_int) (paf_cons (pf_bin oAdd (pf_var 2) (pf_str)) paf_nil))))))) (g_nm 6 nd)
    (ss_one (s_kill [4, 6] (s_pre [4] (s_forI PassesOwn.never rfl (i_d (pf_slV 3 po_no (po_pt pf_int))) (g_nm 4 nd)
    (ss_one (s_kill [4] (s_if (pt_cmpV 5 (oNotIn (room66 hr)) (pf_tup (paf_cons (pf_var 6) (paf_cons (pf_var 4) paf_nil))))
    (ss_one (s_app 5 (pf_tup (paf_cons (pf_var 6) (paf_cons (pf_var 4) paf_nil)))))
    ss_nil)))))))))
    (ss_one (s_ret (pd_mov 5))))))))
abbrev N__law_line : List Str := ["keys", "told", "key", "more", "end"]
theorem sc__law_line : FnScope N__law_line ["keys"] (defScope (topS 23)) := ⟨rfl, rfl, rfl, by decide +kernel, rfl, by decide +kernel, by decide +kernel⟩
theorem ok__law_line (T : Free mg) (D : DefAt K mg "_law_line" (topS 23) ["keys"]) (c__law_a_next : Cal P w K mg 1 "_law_a_next" ["key"] m__law_a_next) : Cal P w K mg 2 "_law_line" ["keys"] m__law_line :=
  cal_of (N := N__law_line) (k := 1) (fs := F__law_line) rfl D sc__law_line fun base f cdv A outer s H E hr => have nd := sc__law_line.nd
  (ss_cons (s_set 1 nd (pd_lst paf_nil))
    (ss_cons (s_forI PassesOwn.never rfl (i_d (pf_var 0)) (g_nm 2 nd)
    (ss_cons (s_set 3 nd (pd_lst (paf_cons (pf_var 2) (paf_cons (frz_pe (pd_cal c__law_a_next hr (ar_e (pf_var 2) ar_nil))) paf_nil))))
    (ss_cons (s_if (pt_tru (pf_isi (pf_var 2) rfl T.n_isinstance rfl T.n_tuple (by decide +kernel)))
    (ss_one (s_app 3 (pf_tup (paf_cons (pf_bin oAdd (pf_ixV 2 pf_int) (pf_str)) (paf_cons (pf_str) paf_nil)))))
    ss_nil)
    (ss_one (s_kill [2, 3, 4] (s_pre [4] (s_forI PassesOwn.never rfl (i_d (pf_var 3)) (g_nm 4 nd)
    (ss_one (s_kill [4] (s_if (pt_cmpV 1 (oNotIn (room66 hr)) (pf_var 4))
    (ss_one (s_app 1 (pf_var 4)))
    ss_nil))))))))))
    (ss_one (s_ret (pd_callB rfl T.n_sorted (paf_cons (pf_var 1) paf_nil) (cSort (room70 hr)) (by decide +kernel))))))
abbrev N__law_span : List Str := ["ends", "first", "second", "low", "highs", "end"]
theorem sc__law_span : FnScope N__law_span ["ends", "first", "second"] (defScope (topS 24)) := ⟨rfl, rfl, rfl, by decide +kernel, rfl, by decide +kernel, by decide +kernel⟩
theorem ok__law_span (T : Free mg) (D : DefAt K mg "_law_span" (topS 24) ["ends", "first", "second"])  : Cal P w K mg 1 "_law_span" ["ends", "first", "second"] m__law_span :=
  cal_of (N := N__law_span) (k := 0) (fs := F__law_span) rfl D sc__law_span fun base f cdv A outer s H E hr => have nd := sc__law_span.nd
  (ss_cons (s_set 3 nd (val_pe (pf_ixV 0 (pf_bin oMod (pf_callTy rfl T.n_int (paf_cons (pf_var 1) paf_nil) cInt (by decide +kernel)) (pf_lenV 0 rfl T.n_len (by decide +kernel))))))
    (ss_cons (s_setLc (own := [("end", 5)]) 4 rfl nd (i_d (pf_var 0)) (blkOk_by rfl) (fun _ _ _ _ _ => (gw_nm 5 (by decide) nd)) (fun _ _ _ _ _ => (ts_one (pt_cmp' (oOrd (.inl rfl) (room64 hr)) (pf_var 3) (pf_var 5)))) (fun _ _ _ _ _ => (pf_var 5)))
    (ss_cons (s_if (PW.pt (wor (pt_cmp' (oEq (room64 hr)) (pf_lenV 4 rfl T.n_len (by decide +kernel)) pf_int) (wor1 (pt_cmp' (oOrd (.inl rfl) (room64 hr)) (pf_var 2) pf_int))))
    (ss_one (s_ret (val_pe (pf_tup (paf_cons (pf_var 3) (paf_cons pf_non paf_nil))))))
    ss_nil)
    (ss_one (s_ret (val_pe (pf_tup (paf_cons (pf_var 3) (paf_cons (pf_ixV 4 (pf_bin oMod (pf_callTy rfl T.n_int (paf_cons (pf_var 2) paf_nil) cInt (by decide +kernel)) (pf_lenV 4 rfl T.n_len (by decide +kernel)))) paf_nil)))))))))
abbrev N__law_beside : List Str := ["kind", "a", "other", "ends", "highs", "lows", "end"]
theorem sc__law_beside : FnScope N__law_beside ["kind", "a", "other", "ends"] (defScope (topS 25)) := ⟨rfl, rfl, rfl, by decide +kernel, rfl, by decide +kernel, by decide +kernel⟩
theorem ok__law_beside (T : Free mg) (D : DefAt K mg "_law_beside" (topS 25) ["kind", "a", "other", "ends"])  : Cal P w K mg 1 "_law_beside" ["kind", "a", "other", "ends"] m__law_beside :=
  cal_of (N := N__law_beside) (k := 0) (fs := F__law_beside) rfl D sc__law_beside fun base f cdv A outer s H E hr => have nd := sc__law_beside.nd
  (ss_cons (s_setLc (own := [("end", 6)]) 4 rfl nd (i_d (pf_var 3)) (blkOk_by rfl) (fun _ _ _ _ _ => (gw_nm 6 (by decide) nd)) (fun _ _ _ _ _ => (ts_one (PW.pt (wand (pt_cmp' oIsNot (pf_ixV 1 pf_int) pf_non) (wand1 (pt_cmp' (oOrd (.inl rfl) (room64 hr)) (pf_ixV 1 pf_int) (pf_var 6))))))) (fun _ _ _ _ _ => (pf_var 6)))
    (ss_cons (s_setLc (own := [("end", 6)]) 5 rfl nd (i_d (pf_var 3)) (blkOk_by rfl) (fun _ _ _ _ _ => (gw_nm 6 (by decide) nd)) (fun _ _ _ _ _ => (ts_one (pt_cmp' (oOrd (.inl rfl) (room64 hr)) (pf_var 6) (pf_ixV 1 pf_int)))) (fun _ _ _ _ _ => (pf_var 6)))
    (ss_cons (s_if (pt_cmp' (oEq (room64 hr)) (pf_var 0) pf_int)
    (ss_one (s_ret (pd_mov 1)))
    ss_nil)
    (ss_cons (s_if (PW.pt (wand (pt_cmp' (oEq (room64 hr)) (pf_var 0) pf_int) (wand1 (pt_cmp' oIsNot (pf_ixV 1 pf_int) pf_non))))
    (ss_one (s_ret (val_pe (pf_tup (paf_cons (pf_ixV 1 pf_int) (paf_cons (pf_if (pt_cmp' (oOrd (.inr (.inr (.inl rfl))) (room64 hr)) (pf_lenV 4 rfl T.n_len (by decide +kernel)) pf_int) (pf_ixV 4 pf_int) pf_non) paf_nil))))))
    ss_nil)
    (ss_cons (s_if (PW.pt (wand (pt_cmp' (oEq (room64 hr)) (pf_var 0) pf_int) (wand1 (pt_cmp' (oOrd (.inr (.inr (.inl rfl))) (room64 hr)) (pf_lenV 5 rfl T.n_len (by decide +kernel)) pf_int))))
    (ss_one (s_ret (val_pe (pf_tup (paf_cons (pf_ixV 5 (pf_bin oMod (pf_callTy rfl T.n_int (paf_cons (pf_callB rfl T.n_len (paf_cons (pf_ixV 1 pf_int) paf_nil) cLen (by decide +kernel)) paf_nil) cInt (by decide +kernel)) (pf_lenV 5 rfl T.n_len (by decide +kernel)))) (paf_cons (pf_ixV 1 pf_int) paf_nil))))))
    ss_nil)
    (ss_one (s_ret (pd_mov 2))))))))
abbrev N__law_points : List Str := ["spans", "told", "span", "end"]
theorem sc__law_points : FnScope N__law_points ["spans"] (defScope (topS 26)) := ⟨rfl, rfl, rfl, by decide +kernel, rfl, by decide +kernel, by decide +kernel⟩
theorem ok__law_points (T : Free mg) (D : DefAt K mg "_law_points" (topS 26) ["spans"])  : Cal P w K mg 1 "_law_points" ["spans"] m__law_points :=
  cal_of (N := N__law_points) (k := 0) (fs := F__law_points) rfl D sc__law_points fun base f cdv A outer s H E hr => have nd := sc__law_points.nd
  (ss_cons (s_set 1 nd (pd_lst paf_nil))
    (ss_cons (s_forI PassesOwn.never rfl (i_d (pf_var 0)) (g_nm 2 nd)
    (ss_one (s_kill [2, 3] (s_pre [3] (s_forI PassesOwn.never rfl (i_d (pf_var 2)) (g_nm 3 nd)
    (ss_one (s_kill [3] (s_if (PW.pt (wand (pt_cmp' oIsNot (pf_var 3) pf_non) (wand1 (pt_cmpV 1 (oNotIn (room66 hr)) (pf_var 3)))))
    (ss_one (s_app 1 (pf_var 3)))
    ss_nil))))))))
    (ss_one (s_ret (pd_callB rfl T.n_sorted (paf_cons (pf_var 1) paf_nil) (cSort (room70 hr)) (by decide +kernel))))))
abbrev N__law_has : List Str := ["span", "point"]
theorem sc__law_has : FnScope N__law_has ["span", "point"] (defScope (topS 27)) := ⟨rfl, rfl, rfl, by decide +kernel, rfl, by decide +kernel, by decide +kernel⟩
theorem ok__law_has (T : Free mg) (D : DefAt K mg "_law_has" (topS 27) ["span", "point"])  : Cal P w K mg 1 "_law_has" ["span", "point"] m__law_has :=
  cal_of (N := N__law_has) (k := 0) (fs := F__law_has) rfl D sc__law_has fun base f cdv A outer s H E hr => have nd := sc__law_has.nd
  (ss_one (s_ret (val_pe (pf_and (pf_cmp (oOrd (.inr (.inl rfl)) (room64 hr)) (pf_ixV 0 pf_int) (pf_var 1)) (pf_one (pf_or (pf_cmp oIs (pf_ixV 0 pf_int) pf_non) (pf_one (pf_cmp (oOrd (.inl rfl) (room64 hr)) (pf_var 1) (pf_ixV 0 pf_int)))))))))
abbrev N__law_rows : List Str := ["points", "wanted", "told", "k", "high"]
theorem sc__law_rows : FnScope N__law_rows ["points", "wanted"] (defScope (topS 28)) := ⟨rfl, rfl, rfl, by decide +kernel, rfl, by decide +kernel, by decide +kernel⟩
theorem ok__law_rows (T : Free mg) (D : DefAt K mg "_law_rows" (topS 28) ["points", "wanted"])  : Cal P w K mg 1 "_law_rows" ["points", "wanted"] m__law_rows :=
  cal_of (N := N__law_rows) (k := 0) (fs := F__law_rows) rfl D sc__law_rows fun base f cdv A outer s H E hr => have nd := sc__law_rows.nd
  (ss_cons (s_set 2 nd (pd_lst paf_nil))
    (ss_cons (s_forI PassesOwn.never rfl (i_r1 rfl T.n_range (pf_lenV 0 rfl T.n_len (by decide +kernel))) (g_nm 3 nd)
    (ss_cons (s_set 4 nd (val_pe (pf_if (pt_cmp' (oOrd (.inl rfl) (room64 hr)) (pf_bin oAdd (pf_var 3) pf_int) (pf_lenV 0 rfl T.n_len (by decide +kernel))) (pf_ixV 0 (pf_bin oAdd (pf_var 3) pf_int)) pf_non)))
    (ss_one (s_kill [3, 4] (s_if (PW.pt (wand (pt_tru (pf_ixV 1 (pf_var 3))) (wand (pt_cmp' (oOrd (.inr (.inr (.inl rfl))) (room64 hr)) (pf_var 3) pf_int) (wand1 (pt_tru (pf_ixV 1 (pf_bin oSub (pf_var 3) pf_int)))))))
    (ss_one (s_setIx 2 (pf_tup (paf_cons (pf_ix (pf_ixV 2 (pf_neg pf_int)) pf_int) (paf_cons (pf_var 4) paf_nil))) (pf_neg pf_int)))
    (ss_one (s_if (pt_tru (pf_ixV 1 (pf_var 3)))
    (ss_one (s_app 2 (pf_tup (paf_cons (pf_ixV 0 (pf_var 3)) (paf_cons (pf_var 4) paf_nil)))))
    ss_nil)))))))
    (ss_one (s_ret (val_pe (pf_callTy rfl T.n_tuple (paf_cons (pf_var 2) paf_nil) cTup (by decide +kernel)))))))
abbrev N__law_both : List Str := ["points", "spans", "wanted", "told", "point", "span"]
theorem sc__law_both : FnScope N__law_both ["points", "spans"] (defScope (topS 29)) := ⟨rfl, rfl, rfl, by decide +kernel, rfl, by decide +kernel, by decide +kernel⟩
theorem ok__law_both (T : Free mg) (D : DefAt K mg "_law_both" (topS 29) ["points", "spans"]) (c__law_has : Cal P w K mg 1 "_law_has" ["span", "point"] m__law_has) (c__law_rows : Cal P w K mg 1 "_law_rows" ["points", "wanted"] m__law_rows) : Cal P w K mg 2 "_law_both" ["points", "spans"] m__law_both :=
  cal_of (N := N__law_both) (k := 1) (fs := F__law_both) rfl D sc__law_both fun base f cdv A outer s H E hr => have nd := sc__law_both.nd
  (ss_cons (s_setLc (own := [("point", 4)]) 2 rfl nd (i_d (pf_var 0)) (blkOk_by rfl) (fun _ _ _ _ _ => (gw_nm 4 (by decide) nd)) (fun _ _ _ _ _ => ts_nil) (fun _ _ _ _ _ => (pf_cmp (oNotIn (room66 hr)) pf_bl (frz_pe (pd_lc (own := [("span", 5)])  rfl nd (i_d (pf_var 1)) (blkOk_by rfl) (fun _ _ _ _ _ => (gw_nm 5 (by decide) nd)) (fun _ _ _ _ _ => ts_nil) (fun _ _ _ _ _ => (frz_pe (pd_cal c__law_has hr (ar_e (pf_var 5) (ar_e (pf_var 4) ar_nil))))))))))
    (ss_cons (s_set 3 nd (pd_cal c__law_rows hr (ar_e (pf_var 0) (ar_e (pf_var 2) ar_nil))))
    (ss_one (s_ret (val_pe (pf_if (pt_cmp' (oOrd (.inr (.inr (.inl rfl))) (room64 hr)) (pf_lenV 3 rfl T.n_len (by decide +kernel)) pf_int) (pf_ixV 3 pf_int) pf_non))))))
abbrev N__law_all : List Str := ["points", "spans", "wanted", "last", "point", "k", "span"]
theorem sc__law_all : FnScope N__law_all ["points", "spans"] (defScope (topS 30)) := ⟨rfl, rfl, rfl, by decide +kernel, rfl, by decide +kernel, by decide +kernel⟩
theorem ok__law_all (T : Free mg) (D : DefAt K mg "_law_all" (topS 30) ["points", "spans"]) (c__law_has : Cal P w K mg 1 "_law_has" ["span", "point"] m__law_has) : Cal P w K mg 2 "_law_all" ["points", "spans"] m__law_all :=
  cal_of (N := N__law_all) (k := 1) (fs := F__law_all) rfl D sc__law_all fun base f cdv A outer s H E hr => have nd := sc__law_all.nd
  (ss_cons (s_set 2 nd (pd_lc (own := [("point", 4)])  rfl nd (i_d (pf_var 0)) (blkOk_by rfl) (fun _ _ _ _ _ => (gw_nm 4 (by decide) nd)) (fun _ _ _ _ _ => ts_nil) (fun _ _ _ _ _ => (pf_cmp (oIn (room66 hr)) pf_bl (frz_pe (pd_lc (own := [("span", 6)])  rfl nd (i_d (pf_var 1)) (blkOk_by rfl) (fun _ _ _ _ _ => (gw_nm 6 (by decide) nd)) (fun _ _ _ _ _ => ts_nil) (fun _ _ _ _ _ => (frz_pe (pd_cal c__law_has hr (ar_e (pf_var 6) (ar_e (pf_var 4) ar_nil)))))))))))
    (ss_cons (s_set 3 nd (val_pe (pf_callB rfl T.n_max (paf_cons (frz_pe (pd_lc (own := [("k", 5)])  rfl nd (i_r1 rfl T.n_range (pf_lenV 0 rfl T.n_len (by decide +kernel))) (blkOk_by rfl) (fun _ _ _ _ _ => (gw_nm 5 (by decide) nd)) (fun _ _ _ _ _ => (ts_one (pt_tru (pf_ixV 2 (pf_var 5))))) (fun _ _ _ _ _ => (pf_var 5)))) paf_nil) (cMaxV rfl (room70 hr)) (by decide +kernel))))
    (ss_one (s_ret (val_pe (pf_tup (paf_cons (pf_ixV 0 (pf_index (room66 hr) (pf_var 2) pf_bl)) (paf_cons (pf_if (pt_cmp' (oOrd (.inl rfl) (room64 hr)) (pf_bin oAdd (pf_var 3) pf_int) (pf_lenV 0 rfl T.n_len (by decide +kernel))) (pf_ixV 0 (pf_bin oAdd (pf_var 3) pf_int)) pf_non) paf_nil))))))))
abbrev N__law_rest : List Str := ["points", "a", "others", "point", "other"]
theorem sc__law_rest : FnScope N__law_rest ["points", "a", "others"] (defScope (topS 31)) := ⟨rfl, rfl, rfl, by decide +kernel, rfl, by decide +kernel, by decide +kernel⟩
theorem ok__law_rest (T : Free mg) (D : DefAt K mg "_law_rest" (topS 31) ["points", "a", "others"]) (c__law_has : Cal P w K mg 1 "_law_has" ["span", "point"] m__law_has) (c__law_rows : Cal P w K mg 1 "_law_rows" ["points", "wanted"] m__law_rows) : Cal P w K mg 2 "_law_rest" ["points", "a", "others"] m__law_rest :=
  cal_of (N := N__law_rest) (k := 1) (fs := F__law_rest) rfl D sc__law_rest fun base f cdv A outer s H E hr => have nd := sc__law_rest.nd
  (ss_one (s_ret (pd_cal c__law_rows hr (ar_e (pf_var 0) (ar_e (frz_pe (pd_lc (own := [("point", 3)])  rfl nd (i_d (pf_var 0)) (blkOk_by rfl) (fun _ _ _ _ _ => (gw_nm 3 (by decide) nd)) (fun _ _ _ _ _ => ts_nil) (fun _ _ _ _ _ => (pf_and (frz_pe (pd_cal c__law_has hr (ar_e (pf_var 1) (ar_e (pf_var 3) ar_nil)))) (pf_one (pf_cmp (oNotIn (room66 hr)) pf_bl (frz_pe (pd_lc (own := [("other", 4)])  rfl nd (i_d (pf_var 2)) (blkOk_by rfl) (fun _ _ _ _ _ => (gw_nm 4 (by decide) nd)) (fun _ _ _ _ _ => ts_nil) (fun _ _ _ _ _ => (frz_pe (pd_cal c__law_has hr (ar_e (pf_var 4) (ar_e (pf_var 3) ar_nil))))))))))))) ar_nil)))))
abbrev N__law_pair_right : List Str := ["points", "a", "b", "both"]
theorem sc__law_pair_right : FnScope N__law_pair_right ["points", "a", "b"] (defScope (topS 32)) := ⟨rfl, rfl, rfl, by decide +kernel, rfl, by decide +kernel, by decide +kernel⟩
theorem ok__law_pair_right (T : Free mg) (D : DefAt K mg "_law_pair_right" (topS 32) ["points", "a", "b"]) (c__law_all : Cal P w K mg 2 "_law_all" ["points", "spans"] m__law_all) (c__law_both : Cal P w K mg 2 "_law_both" ["points", "spans"] m__law_both) (c__law_rest : Cal P w K mg 2 "_law_rest" ["points", "a", "others"] m__law_rest) (c__law_same : Cal P w K mg 6 "_law_same" ["told", "wanted"] (m__law_same 6)) (c_common_part : Cal P w K mg 2 "common_part" ["a", "b"] m_common_part) (c_is_covering : Cal P w K mg 1 "is_covering" ["a", "b"] m_is_covering) (c_is_overlapping : Cal P w K mg 3 "is_overlapping" ["a", "b"] m_is_overlapping) (c_join_of : Cal P w K mg 1 "join_of" ["a", "b"] m_join_of) (c_left_of : Cal P w K mg 2 "left_of" ["a", "b"] m_left_of) : Cal P w K mg 7 "_law_pair_right" ["points", "a", "b"] m__law_pair_right :=
  cal_of (N := N__law_pair_right) (k := 6) (fs := F__law_pair_right) rfl D sc__law_pair_right fun base f cdv A outer s H E hr => have nd := sc__law_pair_right.nd
  (ss_cons (s_set 3 nd (pd_cal c__law_both hr (ar_e (pf_var 0) (ar_e (frz_pe (pd_lst (paf_cons (pf_var 1) (paf_cons (pf_var 2) paf_nil)))) ar_nil))))
    (ss_cons (s_if (PW.pt (wor (pt_not' (pt_tru (frz_pe (pd_cal c__law_same hr (ar_e (frz_pe (pd_cal c_common_part hr (ar_e (pf_var 1) (ar_e (pf_var 2) ar_nil)))) (ar_e (pf_var 3) ar_nil)))))) (wor1 (pt_not' (pt_tru (frz_pe (pd_cal c__law_same hr (ar_e (frz_pe (pd_cal c_is_overlapping hr (ar_e (pf_var 1) (ar_e (pf_var 2) ar_nil)))) (ar_e (pf_cmp oIsNot (pf_var 3) pf_non) ar_nil)))))))))
    (ss_one (s_ret (val_pe pf_bl)))
    ss_nil)
    (ss_cons (s_if (PW.pt (wor (pt_not' (pt_tru (frz_pe (pd_cal c__law_same hr (ar_e (frz_pe (pd_cal c_join_of hr (ar_e (pf_var 1) (ar_e (pf_var 2) ar_nil)))) (ar_e (frz_pe (pd_cal c__law_all hr (ar_e (pf_var 0) (ar_e (frz_pe (pd_lst (paf_cons (pf_var 1) (paf_cons (pf_var 2) paf_nil)))) ar_nil)))) ar_nil)))))) (wor1 (pt_not' (pt_tru (frz_pe (pd_cal c__law_same hr (ar_e (frz_pe (pd_cal c_left_of hr (ar_e (pf_var 1) (ar_e (pf_var 2) ar_nil)))) (ar_e (frz_pe (pd_cal c__law_rest hr (ar_e (pf_var 0) (ar_e (pf_var 1) (ar_e (frz_pe (pd_lst (paf_cons (pf_var 2) paf_nil))) ar_nil))))) ar_nil)))))))))
    (ss_one (s_ret (val_pe pf_bl)))
    ss_nil)
    (ss_one (s_ret (pd_cal c__law_same hr (ar_e (frz_pe (pd_cal c_is_covering hr (ar_e (pf_var 1) (ar_e (pf_var 2) ar_nil)))) (ar_e (pf_cmp (oEq (room64 hr)) (pf_callB rfl T.n_len (paf_cons (frz_pe (pd_cal c__law_rest hr (ar_e (pf_var 0) (ar_e (pf_var 2) (ar_e (frz_pe (pd_lst (paf_cons (pf_var 1) paf_nil))) ar_nil))))) paf_nil) cLen (by decide +kernel)) pf_int) ar_nil))))))))
abbrev N__law_three_right : List Str := ["points", "a", "b", "c", "both", "join", "rest", "part", "told"]
theorem sc__law_three_right : FnScope N__law_three_right ["points", "a", "b", "c"] (defScope (topS 33)) := ⟨rfl, rfl, rfl, by decide +kernel, rfl, by decide +kernel, by decide +kernel⟩
theorem ok__law_three_right (T : Free mg) (D : DefAt K mg "_law_three_right" (topS 33) ["points", "a", "b", "c"]) (c__law_all : Cal P w K mg 2 "_law_all" ["points", "spans"] m__law_all) (c__law_both : Cal P w K mg 2 "_law_both" ["points", "spans"] m__law_both) (c__law_rest : Cal P w K mg 2 "_law_rest" ["points", "a", "others"] m__law_rest) (c__law_same : Cal P w K mg 6 "_law_same" ["told", "wanted"] (m__law_same 6)) (c_common_part : Cal P w K mg 2 "common_part" ["a", "b"] m_common_part) (c_is_covering : Cal P w K mg 1 "is_covering" ["a", "b"] m_is_covering) (c_join_of : Cal P w K mg 1 "join_of" ["a", "b"] m_join_of) (c_left_of : Cal P w K mg 2 "left_of" ["a", "b"] m_left_of) : Cal P w K mg 7 "_law_three_right" ["points", "a", "b", "c"] m__law_three_right :=
  cal_of (N := N__law_three_right) (k := 6) (fs := F__law_three_right) rfl D sc__law_three_right fun base f cdv A outer s H E hr => have nd := sc__law_three_right.nd
  (ss_cons (s_set 4 nd (pd_cal c__law_both hr (ar_e (pf_var 0) (ar_e (frz_pe (pd_lst (paf_cons (pf_var 1) (paf_cons (pf_var 2) paf_nil)))) ar_nil))))
    (ss_cons (s_if (PW.pt (wand (pt_cmp' oIsNot (pf_var 4) pf_non) (wand1 (pt_not' (pt_tru (frz_pe (pd_cal c__law_same hr (ar_e (frz_pe (pd_cal c_common_part hr (ar_e (pf_var 4) (ar_e (pf_var 3) ar_nil)))) (ar_e (frz_pe (pd_cal c__law_both hr (ar_e (pf_var 0) (ar_e (frz_pe (pd_lst (paf_cons (pf_var 1) (paf_cons (pf_var 2) (paf_cons (pf_var 3) paf_nil))))) ar_nil)))) ar_nil)))))))))
    (ss_one (s_ret (val_pe pf_bl)))
    ss_nil)
    (ss_cons (s_set 5 nd (pd_cal c__law_all hr (ar_e (pf_var 0) (ar_e (frz_pe (pd_lst (paf_cons (pf_var 1) (paf_cons (pf_var 2) paf_nil)))) ar_nil))))
    (ss_cons (s_if (pt_not' (pt_tru (frz_pe (pd_cal c__law_same hr (ar_e (frz_pe (pd_cal c_join_of hr (ar_e (pf_var 3) (ar_e (pf_var 5) ar_nil)))) (ar_e (frz_pe (pd_cal c__law_all hr (ar_e (pf_var 0) (ar_e (frz_pe (pd_lst (paf_cons (pf_var 1) (paf_cons (pf_var 2) (paf_cons (pf_var 3) paf_nil))))) ar_nil)))) ar_nil))))))
    (ss_one (s_ret (val_pe pf_bl)))
    ss_nil)
    (ss_cons (s_if (pt_not' (pt_tru (frz_pe (pd_cal c__law_same hr (ar_e (frz_pe (pd_cal c_is_covering hr (ar_e (pf_var 5) (ar_e (pf_var 3) ar_nil)))) (ar_e (pf_cmp (oEq (room64 hr)) (pf_callB rfl T.n_len (paf_cons (frz_pe (pd_cal c__law_rest hr (ar_e (pf_var 0) (ar_e (pf_var 3) (ar_e (frz_pe (pd_lst (paf_cons (pf_var 5) paf_nil))) ar_nil))))) paf_nil) cLen (by decide +kernel)) pf_int) ar_nil))))))
    (ss_one (s_ret (val_pe pf_bl)))
    ss_nil)
    (ss_cons (s_set 6 nd (pd_lst paf_nil))
    (ss_cons (s_forI PassesOwn.never rfl (i_d (frz_pe (pd_cal c__law_rest hr (ar_e (pf_var 0) (ar_e (pf_var 1) (ar_e (frz_pe (pd_lst (paf_cons (pf_var 2) paf_nil))) ar_nil)))))) (g_nm 7 nd)
    (ss_cons (s_set 8 nd (pd_cal c_left_of hr (ar_e (pf_var 7) (ar_e (pf_var 3) ar_nil))))
    (ss_cons (s_if (pt_not' (pt_tru (pf_isi (pf_var 8) rfl T.n_isinstance rfl T.n_tuple (by decide +kernel))))
    (ss_one (s_ret (val_pe pf_bl)))
    ss_nil)
    (ss_one (s_kill [7, 8] (s_set 6 nd (val_pe (pf_bin oAdd (pf_var 6) (frz_pe (pd_callTy rfl T.n_list (paf_cons (pf_var 8) paf_nil) cList (by decide +kernel)))))))))))
    (ss_one (s_ret (pd_cal c__law_same hr (ar_e (pf_callTy rfl T.n_tuple (paf_cons (pf_var 6) paf_nil) cTup (by decide +kernel)) (ar_e (frz_pe (pd_cal c__law_rest hr (ar_e (pf_var 0) (ar_e (pf_var 1) (ar_e (frz_pe (pd_lst (paf_cons (pf_var 2) (paf_cons (pf_var 3) paf_nil)))) ar_nil))))) ar_nil))))))))))))
abbrev N__law_keys_right : List Str := ["paired", "key", "spans", "least", "span", "turned"]
theorem sc__law_keys_right : FnScope N__law_keys_right ["paired", "key", "spans"] (defScope (topS 34)) := ⟨rfl, rfl, rfl, by decide +kernel, rfl, by decide +kernel, by decide +kernel⟩
theorem ok__law_keys_right (T : Free mg) (D : DefAt K mg "_law_keys_right" (topS 34) ["paired", "key", "spans"]) (c__law_a_next : Cal P w K mg 1 "_law_a_next" ["key"] m__law_a_next) (c__law_has : Cal P w K mg 1 "_law_has" ["span", "point"] m__law_has) (c__law_same : Cal P w K mg 6 "_law_same" ["told", "wanted"] (m__law_same 6)) (c_around_key : Cal P w K mg 2 "around_key" ["key"] m_around_key) (c_has_key : Cal P w K mg 1 "has_key" ["interval", "key"] m_has_key) (c_is_empty : Cal P w K mg 1 "is_empty" ["interval"] m_is_empty) (c_least_key : Cal P w K mg 1 "least_key" ["paired"] m_least_key) (c_successor_of : Cal P w K mg 1 "successor_of" ["key"] m_successor_of) (c_whole_interval : Cal P w K mg 2 "whole_interval" ["paired"] m_whole_interval) : Cal P w K mg 7 "_law_keys_right" ["paired", "key", "spans"] m__law_keys_right :=
  cal_of (N := N__law_keys_right) (k := 6) (fs := F__law_keys_right) rfl D sc__law_keys_right fun base f cdv A outer s H E hr => have nd := sc__law_keys_right.nd
  (ss_cons (s_set 3 nd (val_pe (pf_if (pt_tru (pf_var 0)) (pf_tup (paf_cons (pf_str) (paf_cons (pf_str) paf_nil))) (pf_str))))
    (ss_cons (s_if (PW.pt (wor (pt_not' (pt_tru (frz_pe (pd_cal c__law_same hr (ar_e (frz_pe (pd_cal c_least_key hr (ar_e (pf_var 0) ar_nil))) (ar_e (pf_var 3) ar_nil)))))) (wor1 (pt_not' (pt_tru (frz_pe (pd_cal c__law_same hr (ar_e (frz_pe (pd_cal c_whole_interval hr (ar_e (pf_var 0) ar_nil))) (ar_e (pf_tup (paf_cons (pf_var 3) (paf_cons pf_non paf_nil))) ar_nil)))))))))
    (ss_one (s_ret (val_pe pf_bl)))
    ss_nil)
    (ss_cons (s_if (PW.pt (wor (pt_not' (pt_tru (frz_pe (pd_cal c__law_same hr (ar_e (frz_pe (pd_cal c_successor_of hr (ar_e (pf_var 1) ar_nil))) (ar_e (frz_pe (pd_cal c__law_a_next hr (ar_e (pf_var 1) ar_nil))) ar_nil)))))) (wor1 (pt_not' (pt_tru (frz_pe (pd_cal c__law_same hr (ar_e (frz_pe (pd_cal c_around_key hr (ar_e (pf_var 1) ar_nil))) (ar_e (pf_tup (paf_cons (pf_var 1) (paf_cons (frz_pe (pd_cal c__law_a_next hr (ar_e (pf_var 1) ar_nil))) paf_nil))) ar_nil)))))))))
    (ss_one (s_ret (val_pe pf_bl)))
    ss_nil)
    (ss_cons (s_forI PassesOwn.never rfl (i_d (pf_var 2)) (g_nm 4 nd)
    (ss_cons (s_if (pt_not' (pt_tru (frz_pe (pd_cal c__law_same hr (ar_e (frz_pe (pd_cal c_has_key hr (ar_e (pf_var 4) (ar_e (pf_var 1) ar_nil)))) (ar_e (frz_pe (pd_cal c__law_has hr (ar_e (pf_var 4) (ar_e (pf_var 1) ar_nil)))) ar_nil))))))
    (ss_one (s_ret (val_pe pf_bl)))
    ss_nil)
    (ss_cons (s_set 5 nd (val_pe (pf_tup (paf_cons (pf_ixV 4 pf_int) (paf_cons (pf_ix (pf_ixV 2 pf_int) pf_int) paf_nil)))))
    (ss_one (s_kill [4, 5] (s_if (PW.pt (wor (pt_not' (pt_tru (frz_pe (pd_cal c__law_same hr (ar_e (frz_pe (pd_cal c_is_empty hr (ar_e (pf_var 4) ar_nil))) (ar_e pf_bl ar_nil)))))) (wor1 (pt_not' (pt_tru (frz_pe (pd_cal c__law_same hr (ar_e (frz_pe (pd_cal c_is_empty hr (ar_e (pf_var 5) ar_nil))) (ar_e (pf_cmp (oOrd (.inr (.inl rfl)) (room64 hr)) (pf_ixV 5 pf_int) (pf_ixV 5 pf_int)) ar_nil)))))))))
    (ss_one (s_ret (val_pe pf_bl)))
    ss_nil))))))
    (ss_one (s_ret (val_pe pf_bl)))))))
abbrev N__law_asked_right : List Str := ["door", "paired", "key", "spans", "points", "orders", "one"]
theorem sc__law_asked_right : FnScope N__law_asked_right ["door", "paired", "key", "spans"] (defScope (topS 35)) := ⟨rfl, rfl, rfl, by decide +kernel, rfl, by decide +kernel, by decide +kernel⟩
theorem ok__law_asked_right (T : Free mg) (D : DefAt K mg "_law_asked_right" (topS 35) ["door", "paired", "key", "spans"]) (c__law_keys_right : Cal P w K mg 7 "_law_keys_right" ["paired", "key", "spans"] m__law_keys_right) (c__law_pair_right : Cal P w K mg 7 "_law_pair_right" ["points", "a", "b"] m__law_pair_right) (c__law_points : Cal P w K mg 1 "_law_points" ["spans"] m__law_points) (c__law_three_right : Cal P w K mg 7 "_law_three_right" ["points", "a", "b", "c"] m__law_three_right) : Cal P w K mg 8 "_law_asked_right" ["door", "paired", "key", "spans"] m__law_asked_right :=
  cal_of (N := N__law_asked_right) (k := 7) (fs := F__law_asked_right) rfl D sc__law_asked_right fun base f cdv A outer s H E hr => have nd := sc__law_asked_right.nd
  (ss_cons (s_set 4 nd (pd_cal c__law_points hr (ar_e (pf_var 3) ar_nil)))
    (ss_cons (s_if (pt_cmp' (oEq (room64 hr)) (pf_var 0) pf_int)
    (ss_one (s_ret (pd_cal c__law_keys_right hr (ar_e (pf_var 1) (ar_e (pf_var 2) (ar_e (pf_var 3) ar_nil))))))
    ss_nil)
    (ss_cons (s_set 5 nd (pd_lst (paf_cons (pf_tup (paf_cons pf_int (paf_cons pf_int (paf_cons pf_int paf_nil)))) (paf_cons (pf_tup (paf_cons pf_int (paf_cons pf_int (paf_cons pf_int paf_nil)))) (paf_cons (pf_tup (paf_cons pf_int (paf_cons pf_int (paf_cons pf_int paf_nil)))) (paf_cons (pf_tup (paf_cons pf_int (paf_cons pf_int (paf_cons pf_int paf_nil)))) (paf_cons (pf_tup (paf_cons pf_int (paf_cons pf_int (paf_cons pf_int paf_nil)))) (paf_cons (pf_tup (paf_cons pf_int (paf_cons pf_int (paf_cons pf_int paf_nil)))) paf_nil))))))))
    (ss_cons (s_set 6 nd (val_pe (pf_ixV 5 (pf_bin oMod (pf_callTy rfl T.n_int (paf_cons (pf_var 0) paf_nil) cInt (by decide +kernel)) pf_int))))
    (ss_cons (s_if (pt_cmp' (oOrd (.inl rfl) (room64 hr)) (pf_var 0) pf_int)
    (ss_one (s_ret (pd_cal c__law_pair_right hr (ar_e (pf_var 4) (ar_e (pf_ixV 3 (pf_ixV 6 pf_int)) (ar_e (pf_ixV 3 (pf_ixV 6 pf_int)) ar_nil))))))
    ss_nil)
    (ss_one (s_ret (pd_cal c__law_three_right hr (ar_e (pf_var 4) (ar_e (pf_ixV 3 (pf_ixV 6 pf_int)) (ar_e (pf_ixV 3 (pf_ixV 6 pf_int)) (ar_e (pf_ixV 3 (pf_ixV 6 pf_int)) ar_nil))))))))))))
abbrev N_law : List Str := ["script", "tape", "s", "t", "paired", "world", "keys", "ends", "digits", "kinds", "a", "b", "c", "door"]
theorem sc_law : FnScope N_law ["script"] (defScope (topS 36)) := ⟨rfl, rfl, rfl, by decide +kernel, rfl, by decide +kernel, by decide +kernel⟩
theorem ok_law (T : Free mg) (D : DefAt K mg "law" (topS 36) ["script"]) (c__law_asked_right : Cal P w K mg 8 "_law_asked_right" ["door", "paired", "key", "spans"] m__law_asked_right) (c__law_beside : Cal P w K mg 1 "_law_beside" ["kind", "a", "other", "ends"] m__law_beside) (c__law_digits : Cal P w K mg 2 "_law_digits" ["tape", "base", "many"] m__law_digits) (c__law_draw : Cal P w K mg 1 "_law_draw" ["tape", "many"] m__law_draw) (c__law_line : Cal P w K mg 2 "_law_line" ["keys"] m__law_line) (c__law_names : Cal P w K mg 1 "_law_names" ["paired", "s", "t"] m__law_names) (c__law_pair_right : Cal P w K mg 7 "_law_pair_right" ["points", "a", "b"] m__law_pair_right) (c__law_points : Cal P w K mg 1 "_law_points" ["spans"] m__law_points) (c__law_round : Cal P w K mg 2 "_law_round" ["tape", "menu"] m__law_round) (c__law_span : Cal P w K mg 1 "_law_span" ["ends", "first", "second"] m__law_span) (c__law_tape : Cal P w K mg 1 "_law_tape" ["script"] m__law_tape) (c__law_two_signs : Cal P w K mg 2 "_law_two_signs" ["tape"] m__law_two_signs) : Cal P w K mg 9 "law" ["script"] m_law :=
  cal_of (N := N_law) (k := 8) (fs := F_law) rfl D sc_law fun base f cdv A outer s H E hr => have nd := sc_law.nd
  (ss_cons (s_set 1 nd (pd_cal c__law_tape hr (ar_e (pf_var 0) ar_nil)))
    (ss_cons (s_asg (frz_pe (pd_cal c__law_two_signs hr (ar_v 1 ar_nil))) (g_tp 2 rfl (g_cons (g_nm 2 nd) (g_cons (g_nm 3 nd) g_nil))))
    (ss_cons (s_set 4 nd (val_pe (pf_cmp (oEq (room64 hr)) (frz_pe (pd_cal c__law_draw hr (ar_v 1 (ar_e pf_int ar_nil)))) pf_int)))
    (ss_cons (s_kill [4, 5, 6, 7, 8, 9, 10, 11, 12, 13] (s_forI PassesOwn.never rfl (i_r1 rfl T.n_range pf_int) (g_nm 5 nd)
    (ss_cons (s_set 6 nd (pd_cal c__law_names hr (ar_e (pf_var 4) (ar_e (pf_var 2) (ar_e (pf_var 3) ar_nil)))))
    (ss_cons (s_set 7 nd (pd_cal c__law_line hr (ar_e (pf_var 6) ar_nil)))
    (ss_cons (s_set 8 nd (pd_cal c__law_digits hr (ar_v 1 (ar_e pf_int (ar_e pf_int ar_nil)))))
    (ss_cons (s_set 9 nd (pd_cal c__law_digits hr (ar_v 1 (ar_e pf_int (ar_e pf_int ar_nil)))))
    (ss_cons (s_set 10 nd (pd_cal c__law_span hr (ar_e (pf_var 7) (ar_e (pf_ixV 8 pf_int) (ar_e (pf_ixV 8 pf_int) ar_nil)))))
    (ss_cons (s_set 11 nd (pd_cal c__law_beside hr (ar_e (pf_ixV 9 pf_int) (ar_e (pf_var 10) (ar_e (frz_pe (pd_cal c__law_span hr (ar_e (pf_var 7) (ar_e (pf_ixV 8 pf_int) (ar_e (pf_ixV 8 pf_int) ar_nil))))) (ar_e (pf_var 7) ar_nil))))))
    (ss_cons (s_set 12 nd (pd_cal c__law_beside hr (ar_e (pf_ixV 9 pf_int) (ar_e (pf_var 11) (ar_e (frz_pe (pd_cal c__law_span hr (ar_e (pf_var 7) (ar_e (pf_ixV 8 pf_int) (ar_e (pf_ixV 8 pf_int) ar_nil))))) (ar_e (pf_var 7) ar_nil))))))
    (ss_cons (s_pre [13] (s_forI PassesOwn.never rfl (i_d (frz_pe (pd_cal c__law_round hr (ar_v 1 (ar_e (frz_pe (pd_listR rfl rfl T.n_list rfl T.n_range pf_int)) ar_nil))))) (g_nm 13 nd)
    (ss_one (s_kill [13] (s_if (pt_not' (pt_tru (frz_pe (pd_cal c__law_asked_right hr (ar_e (pf_var 13) (ar_e (pf_var 4) (ar_e (pf_ixV 6 (pf_bin oMod (pf_callTy rfl T.n_int (paf_cons (pf_ixV 9 pf_int) paf_nil) cInt (by decide +kernel)) (pf_lenV 6 rfl T.n_len (by decide +kernel)))) (ar_e (frz_pe (pd_lst (paf_cons (pf_var 10) (paf_cons (pf_var 11) (paf_cons (pf_var 12) paf_nil))))) ar_nil))))))))
    (ss_one (s_ret (val_pe pf_bl)))
    ss_nil)))))
    (ss_cons (s_if (pt_not' (pt_tru (frz_pe (pd_cal c__law_pair_right hr (ar_e (frz_pe (pd_cal c__law_points hr (ar_e (frz_pe (pd_lst (paf_cons (pf_var 10) (paf_cons (pf_var 11) paf_nil)))) ar_nil))) (ar_e (pf_var 10) (ar_e (pf_var 11) ar_nil)))))))
    (ss_one (s_ret (val_pe pf_bl)))
    ss_nil)
    (ss_one (s_kill [5, 6, 7, 8, 9, 10, 11, 12, 13] (s_set 4 nd (val_pe (pf_not (pf_var 4)))))))))))))))))
    (ss_one (s_ret (val_pe pf_bl)))))))
/-- the whole text -/
structure All (K : Fg) (mg : Str → Option Value) : Prop where
  free : Free mg
  d_least_key : DefAt K mg "least_key" (topS 1) ["paired"]
  d_whole_interval : DefAt K mg "whole_interval" (topS 2) ["paired"]
  d_successor_of : DefAt K mg "successor_of" (topS 3) ["key"]
  d_around_key : DefAt K mg "around_key" (topS 4) ["key"]
  d_has_key : DefAt K mg "has_key" (topS 5) ["interval", "key"]
  d_is_empty : DefAt K mg "is_empty" (topS 6) ["interval"]
  d_lesser_high : DefAt K mg "lesser_high" (topS 7) ["a", "b"]
  d_common_part : DefAt K mg "common_part" (topS 8) ["a", "b"]
  d_is_overlapping : DefAt K mg "is_overlapping" (topS 9) ["a", "b"]
  d_is_covering : DefAt K mg "is_covering" (topS 10) ["a", "b"]
  d_join_of : DefAt K mg "join_of" (topS 11) ["a", "b"]
  d_left_of : DefAt K mg "left_of" (topS 12) ["a", "b"]
  d__law_a_next : DefAt K mg "_law_a_next" (topS 14) ["key"]
  d__law_signs : DefAt K mg "_law_signs" (topS 15) []
  d__law_same : DefAt K mg "_law_same" (topS 16) ["told", "wanted"]
  d__law_draw : DefAt K mg "_law_draw" (topS 17) ["tape", "many"]
  d__law_tape : DefAt K mg "_law_tape" (topS 18) ["script"]
  d__law_digits : DefAt K mg "_law_digits" (topS 19) ["tape", "base", "many"]
  d__law_round : DefAt K mg "_law_round" (topS 20) ["tape", "menu"]
  d__law_two_signs : DefAt K mg "_law_two_signs" (topS 21) ["tape"]
  d__law_names : DefAt K mg "_law_names" (topS 22) ["paired", "s", "t"]
  d__law_line : DefAt K mg "_law_line" (topS 23) ["keys"]
  d__law_span : DefAt K mg "_law_span" (topS 24) ["ends", "first", "second"]
  d__law_beside : DefAt K mg "_law_beside" (topS 25) ["kind", "a", "other", "ends"]
  d__law_points : DefAt K mg "_law_points" (topS 26) ["spans"]
  d__law_has : DefAt K mg "_law_has" (topS 27) ["span", "point"]
  d__law_rows : DefAt K mg "_law_rows" (topS 28) ["points", "wanted"]
  d__law_both : DefAt K mg "_law_both" (topS 29) ["points", "spans"]
  d__law_all : DefAt K mg "_law_all" (topS 30) ["points", "spans"]
  d__law_rest : DefAt K mg "_law_rest" (topS 31) ["points", "a", "others"]
  d__law_pair_right : DefAt K mg "_law_pair_right" (topS 32) ["points", "a", "b"]
  d__law_three_right : DefAt K mg "_law_three_right" (topS 33) ["points", "a", "b", "c"]
  d__law_keys_right : DefAt K mg "_law_keys_right" (topS 34) ["paired", "key", "spans"]
  d__law_asked_right : DefAt K mg "_law_asked_right" (topS 35) ["door", "paired", "key", "spans"]
  d_law : DefAt K mg "law" (topS 36) ["script"]
theorem all_ok (A : All K mg) : Cal P w K mg 9 "law" ["script"] m_law :=
  have c_least_key := ok_least_key (P := P) (w := w) A.free A.d_least_key 
  have c_whole_interval := ok_whole_interval (P := P) (w := w) A.free A.d_whole_interval c_least_key
  have c_successor_of := ok_successor_of (P := P) (w := w) A.free A.d_successor_of 
  have c_around_key := ok_around_key (P := P) (w := w) A.free A.d_around_key c_successor_of
  have c_has_key := ok_has_key (P := P) (w := w) A.free A.d_has_key 
  have c_is_empty := ok_is_empty (P := P) (w := w) A.free A.d_is_empty 
  have c_lesser_high := ok_lesser_high (P := P) (w := w) A.free A.d_lesser_high 
  have c_common_part := ok_common_part (P := P) (w := w) A.free A.d_common_part c_is_empty c_lesser_high
  have c_is_overlapping := ok_is_overlapping (P := P) (w := w) A.free A.d_is_overlapping c_common_part
  have c_is_covering := ok_is_covering (P := P) (w := w) A.free A.d_is_covering 
  have c_join_of := ok_join_of (P := P) (w := w) A.free A.d_join_of 
  have c_left_of := ok_left_of (P := P) (w := w) A.free A.d_left_of c_is_empty c_lesser_high
  have c__law_a_next := ok__law_a_next (P := P) (w := w) A.free A.d__law_a_next 
  have c__law_signs := ok__law_signs (P := P) (w := w) A.free A.d__law_signs 
  have c__law_same := ok__law_same (P := P) (w := w) A.free A.d__law_same 
  have c__law_draw := ok__law_draw (P := P) (w := w) A.free A.d__law_draw 
  have c__law_tape := ok__law_tape (P := P) (w := w) A.free A.d__law_tape 
  have c__law_digits := ok__law_digits (P := P) (w := w) A.free A.d__law_digits c__law_draw
  have c__law_round := ok__law_round (P := P) (w := w) A.free A.d__law_round c__law_draw
  have c__law_two_signs := ok__law_two_signs (P := P) (w := w) A.free A.d__law_two_signs c__law_draw c__law_signs
  have c__law_names := ok__law_names (P := P) (w := w) A.free A.d__law_names 
  have c__law_line := ok__law_line (P := P) (w := w) A.free A.d__law_line c__law_a_next
  have c__law_span := ok__law_span (P := P) (w := w) A.free A.d__law_span 
  have c__law_beside := ok__law_beside (P := P) (w := w) A.free A.d__law_beside 
  have c__law_points := ok__law_points (P := P) (w := w) A.free A.d__law_points 
  have c__law_has := ok__law_has (P := P) (w := w) A.free A.d__law_has 
  have c__law_rows := ok__law_rows (P := P) (w := w) A.free A.d__law_rows 
  have c__law_both := ok__law_both (P := P) (w := w) A.free A.d__law_both c__law_has c__law_rows
  have c__law_all := ok__law_all (P := P) (w := w) A.free A.d__law_all c__law_has
  have c__law_rest := ok__law_rest (P := P) (w := w) A.free A.d__law_rest c__law_has c__law_rows
  have c__law_pair_right := ok__law_pair_right (P := P) (w := w) A.free A.d__law_pair_right c__law_all c__law_both c__law_rest c__law_same c_common_part c_is_covering c_is_overlapping c_join_of c_left_of
  have c__law_three_right := ok__law_three_right (P := P) (w := w) A.free A.d__law_three_right c__law_all c__law_both c__law_rest c__law_same c_common_part c_is_covering c_join_of c_left_of
  have c__law_keys_right := ok__law_keys_right (P := P) (w := w) A.free A.d__law_keys_right c__law_a_next c__law_has c__law_same c_around_key c_has_key c_is_empty c_least_key c_successor_of c_whole_interval
  have c__law_asked_right := ok__law_asked_right (P := P) (w := w) A.free A.d__law_asked_right c__law_keys_right c__law_pair_right c__law_points c__law_three_right
  have c_law := ok_law (P := P) (w := w) A.free A.d_law c__law_asked_right c__law_beside c__law_digits c__law_draw c__law_line c__law_names c__law_pair_right c__law_points c__law_round c__law_span c__law_tape c__law_two_signs
  c_law
end
end LW

namespace LW
open PySem PySem.Spec PyProof.Rows L2 DL
theorem finish {P : Program} {w : World} {K : Fg} {mg : Str → Option Value} {h : Heap} {fa : Addr} (KX : K.In h) (G : h.Ns mainGlobals mg) (hmg : mg "law" = some (.ref fa))
    (z_abs : PySem.W.nsIn K mainGlobals "abs" = some none)
    (z_bool : PySem.W.nsIn K mainGlobals "bool" = some none)
    (z_int : PySem.W.nsIn K mainGlobals "int" = some none)
    (z_isinstance : PySem.W.nsIn K mainGlobals "isinstance" = some none)
    (z_len : PySem.W.nsIn K mainGlobals "len" = some none)
    (z_list : PySem.W.nsIn K mainGlobals "list" = some none)
    (z_max : PySem.W.nsIn K mainGlobals "max" = some none)
    (z_min : PySem.W.nsIn K mainGlobals "min" = some none)
    (z_range : PySem.W.nsIn K mainGlobals "range" = some none)
    (z_sorted : PySem.W.nsIn K mainGlobals "sorted" = some none)
    (z_str : PySem.W.nsIn K mainGlobals "str" = some none)
    (z_tuple : PySem.W.nsIn K mainGlobals "tuple" = some none)
    (d_least_key : DefAt K mg "least_key" (topS 1) ["paired"])
    (d_whole_interval : DefAt K mg "whole_interval" (topS 2) ["paired"])
    (d_successor_of : DefAt K mg "successor_of" (topS 3) ["key"])
    (d_around_key : DefAt K mg "around_key" (topS 4) ["key"])
    (d_has_key : DefAt K mg "has_key" (topS 5) ["interval", "key"])
    (d_is_empty : DefAt K mg "is_empty" (topS 6) ["interval"])
    (d_lesser_high : DefAt K mg "lesser_high" (topS 7) ["a", "b"])
    (d_common_part : DefAt K mg "common_part" (topS 8) ["a", "b"])
    (d_is_overlapping : DefAt K mg "is_overlapping" (topS 9) ["a", "b"])
    (d_is_covering : DefAt K mg "is_covering" (topS 10) ["a", "b"])
    (d_join_of : DefAt K mg "join_of" (topS 11) ["a", "b"])
    (d_left_of : DefAt K mg "left_of" (topS 12) ["a", "b"])
    (d__law_a_next : DefAt K mg "_law_a_next" (topS 14) ["key"])
    (d__law_signs : DefAt K mg "_law_signs" (topS 15) [])
    (d__law_same : DefAt K mg "_law_same" (topS 16) ["told", "wanted"])
    (d__law_draw : DefAt K mg "_law_draw" (topS 17) ["tape", "many"])
    (d__law_tape : DefAt K mg "_law_tape" (topS 18) ["script"])
    (d__law_digits : DefAt K mg "_law_digits" (topS 19) ["tape", "base", "many"])
    (d__law_round : DefAt K mg "_law_round" (topS 20) ["tape", "menu"])
    (d__law_two_signs : DefAt K mg "_law_two_signs" (topS 21) ["tape"])
    (d__law_names : DefAt K mg "_law_names" (topS 22) ["paired", "s", "t"])
    (d__law_line : DefAt K mg "_law_line" (topS 23) ["keys"])
    (d__law_span : DefAt K mg "_law_span" (topS 24) ["ends", "first", "second"])
    (d__law_beside : DefAt K mg "_law_beside" (topS 25) ["kind", "a", "other", "ends"])
    (d__law_points : DefAt K mg "_law_points" (topS 26) ["spans"])
    (d__law_has : DefAt K mg "_law_has" (topS 27) ["span", "point"])
    (d__law_rows : DefAt K mg "_law_rows" (topS 28) ["points", "wanted"])
    (d__law_both : DefAt K mg "_law_both" (topS 29) ["points", "spans"])
    (d__law_all : DefAt K mg "_law_all" (topS 30) ["points", "spans"])
    (d__law_rest : DefAt K mg "_law_rest" (topS 31) ["points", "a", "others"])
    (d__law_pair_right : DefAt K mg "_law_pair_right" (topS 32) ["points", "a", "b"])
    (d__law_three_right : DefAt K mg "_law_three_right" (topS 33) ["points", "a", "b", "c"])
    (d__law_keys_right : DefAt K mg "_law_keys_right" (topS 34) ["paired", "key", "spans"])
    (d__law_asked_right : DefAt K mg "_law_asked_right" (topS 35) ["door", "paired", "key", "spans"])
    (d_law : DefAt K mg "law" (topS 36) ["script"])
    : ∃ fd : FuncData, (∀ (s : Shared) (u : Value), BindsTo s fd ⟨[u], []⟩ [("script", u)]) ∧ ∀ base : Heap, K.In base → base.Ns mainGlobals mg → FnOk P w K mg base CX0 9 fa fd ["script"] (spD K 1 m_law) :=
  have A : All K mg := ⟨⟨PySem.W.mg_none_of KX G z_abs, PySem.W.mg_none_of KX G z_bool, PySem.W.mg_none_of KX G z_int, PySem.W.mg_none_of KX G z_isinstance, PySem.W.mg_none_of KX G z_len, PySem.W.mg_none_of KX G z_list, PySem.W.mg_none_of KX G z_max, PySem.W.mg_none_of KX G z_min, PySem.W.mg_none_of KX G z_range, PySem.W.mg_none_of KX G z_sorted, PySem.W.mg_none_of KX G z_str, PySem.W.mg_none_of KX G z_tuple⟩, d_least_key, d_whole_interval, d_successor_of, d_around_key, d_has_key, d_is_empty, d_lesser_high, d_common_part, d_is_overlapping, d_is_covering, d_join_of, d_left_of, d__law_a_next, d__law_signs, d__law_same, d__law_draw, d__law_tape, d__law_digits, d__law_round, d__law_two_signs, d__law_names, d__law_line, d__law_span, d__law_beside, d__law_points, d__law_has, d__law_rows, d__law_both, d__law_all, d__law_rest, d__law_pair_right, d__law_three_right, d__law_keys_right, d__law_asked_right, d_law⟩
  law_end hmg (all_ok (P := P) (w := w) A)
end LW

open PySem PySem.W PyProof.Rows in
set_option maxRecDepth 100000 in
set_option maxHeartbeats 0 in
theorem PySem.Challenge.cw_stratakv_k00_three_intervals_by_their_ke_holds : PySem.Challenge.rw_stratakv_k00_three_intervals_by_their_ke.Holds := by
  w_on; o_law; k_head; (case hw => w_witness2)
  k_fill
  refine DL.law_walk (l := PySem.Challenge.rw_stratakv_k00_three_intervals_by_their_ke) (k := 9) (fn := LW.m_law) (x := "script") rfl rfl ⟨rfl, by decide, by decide⟩ (fun w h Y => PySem.W.kIn_of Y) LW.law_holds ?F
  case F =>
    intro w mg fa h KX G hmg
    refine' LW.finish KX G hmg ?z_abs ?z_bool ?z_int ?z_isinstance ?z_len ?z_list ?z_max ?z_min ?z_range ?z_sorted ?z_str ?z_tuple ?d_least_key ?d_whole_interval ?d_successor_of ?d_around_key ?d_has_key ?d_is_empty ?d_lesser_high ?d_common_part ?d_is_overlapping ?d_is_covering ?d_join_of ?d_left_of ?d__law_a_next ?d__law_signs ?d__law_same ?d__law_draw ?d__law_tape ?d__law_digits ?d__law_round ?d__law_two_signs ?d__law_names ?d__law_line ?d__law_span ?d__law_beside ?d__law_points ?d__law_has ?d__law_rows ?d__law_both ?d__law_all ?d__law_rest ?d__law_pair_right ?d__law_three_right ?d__law_keys_right ?d__law_asked_right ?d_law
    (case z_abs => k_is)
    (case z_bool => k_is)
    (case z_int => k_is)
    (case z_isinstance => k_is)
    (case z_len => k_is)
    (case z_list => k_is)
    (case z_max => k_is)
    (case z_min => k_is)
    (case z_range => k_is)
    (case z_sorted => k_is)
    (case z_str => k_is)
    (case z_tuple => k_is)
    (case d_least_key => refine' DL.defAt_mk KX G ?a ?l ?c ?k (fun _ _ _ _ _ _ us hl => match us, hl with | [_], _ => rfl); (case a => k_is); (case l => k_is); (case c => k_is); (case k => k_is))
    (case d_whole_interval => refine' DL.defAt_mk KX G ?a ?l ?c ?k (fun _ _ _ _ _ _ us hl => match us, hl with | [_], _ => rfl); (case a => k_is); (case l => k_is); (case c => k_is); (case k => k_is))
    (case d_successor_of => refine' DL.defAt_mk KX G ?a ?l ?c ?k (fun _ _ _ _ _ _ us hl => match us, hl with | [_], _ => rfl); (case a => k_is); (case l => k_is); (case c => k_is); (case k => k_is))
    (case d_around_key => refine' DL.defAt_mk KX G ?a ?l ?c ?k (fun _ _ _ _ _ _ us hl => match us, hl with | [_], _ => rfl); (case a => k_is); (case l => k_is); (case c => k_is); (case k => k_is))
    (case d_has_key => refine' DL.defAt_mk KX G ?a ?l ?c ?k (fun _ _ _ _ _ _ us hl => match us, hl with | [_, _], _ => rfl); (case a => k_is); (case l => k_is); (case c => k_is); (case k => k_is))
    (case d_is_empty => refine' DL.defAt_mk KX G ?a ?l ?c ?k (fun _ _ _ _ _ _ us hl => match us, hl with | [_], _ => rfl); (case a => k_is); (case l => k_is); (case c => k_is); (case k => k_is))
    (case d_lesser_high => refine' DL.defAt_mk KX G ?a ?l ?c ?k (fun _ _ _ _ _ _ us hl => match us, hl with | [_, _], _ => rfl); (case a => k_is); (case l => k_is); (case c => k_is); (case k => k_is))
    (case d_common_part => refine' DL.defAt_mk KX G ?a ?l ?c ?k (fun _ _ _ _ _ _ us hl => match us, hl with | [_, _], _ => rfl); (case a => k_is); (case l => k_is); (case c => k_is); (case k => k_is))
    (case d_is_overlapping => refine' DL.defAt_mk KX G ?a ?l ?c ?k (fun _ _ _ _ _ _ us hl => match us, hl with | [_, _], _ => rfl); (case a => k_is); (case l => k_is); (case c => k_is); (case k => k_is))
    (case d_is_covering => refine' DL.defAt_mk KX G ?a ?l ?c ?k (fun _ _ _ _ _ _ us hl => match us, hl with | [_, _], _ => rfl); (case a => k_is); (case l => k_is); (case c => k_is); (case k => k_is))
    (case d_join_of => refine' DL.defAt_mk KX G ?a ?l ?c ?k (fun _ _ _ _ _ _ us hl => match us, hl with | [_, _], _ => rfl); (case a => k_is); (case l => k_is); (case c => k_is); (case k => k_is))
    (case d_left_of => refine' DL.defAt_mk KX G ?a ?l ?c ?k (fun _ _ _ _ _ _ us hl => match us, hl with | [_, _], _ => rfl); (case a => k_is); (case l => k_is); (case c => k_is); (case k => k_is))
    (case d__law_a_next => refine' DL.defAt_mk KX G ?a ?l ?c ?k (fun _ _ _ _ _ _ us hl => match us, hl with | [_], _ => rfl); (case a => k_is); (case l => k_is); (case c => k_is); (case k => k_is))
    (case d__law_signs => refine' DL.defAt_mk KX G ?a ?l ?c ?k (fun _ _ _ _ _ _ us hl => match us, hl with | [], _ => rfl); (case a => k_is); (case l => k_is); (case c => k_is); (case k => k_is))
    (case d__law_same => refine' DL.defAt_mk KX G ?a ?l ?c ?k (fun _ _ _ _ _ _ us hl => match us, hl with | [_, _], _ => rfl); (case a => k_is); (case l => k_is); (case c => k_is); (case k => k_is))
    (case d__law_draw => refine' DL.defAt_mk KX G ?a ?l ?c ?k (fun _ _ _ _ _ _ us hl => match us, hl with | [_, _], _ => rfl); (case a => k_is); (case l => k_is); (case c => k_is); (case k => k_is))
    (case d__law_tape => refine' DL.defAt_mk KX G ?a ?l ?c ?k (fun _ _ _ _ _ _ us hl => match us, hl with | [_], _ => rfl); (case a => k_is); (case l => k_is); (case c => k_is); (case k => k_is))
    (case d__law_digits => refine' DL.defAt_mk KX G ?a ?l ?c ?k (fun _ _ _ _ _ _ us hl => match us, hl with | [_, _, _], _ => rfl); (case a => k_is); (case l => k_is); (case c => k_is); (case k => k_is))
    (case d__law_round => refine' DL.defAt_mk KX G ?a ?l ?c ?k (fun _ _ _ _ _ _ us hl => match us, hl with | [_, _], _ => rfl); (case a => k_is); (case l => k_is); (case c => k_is); (case k => k_is))
    (case d__law_two_signs => refine' DL.defAt_mk KX G ?a ?l ?c ?k (fun _ _ _ _ _ _ us hl => match us, hl with | [_], _ => rfl); (case a => k_is); (case l => k_is); (case c => k_is); (case k => k_is))
    (case d__law_names => refine' DL.defAt_mk KX G ?a ?l ?c ?k (fun _ _ _ _ _ _ us hl => match us, hl with | [_, _, _], _ => rfl); (case a => k_is); (case l => k_is); (case c => k_is); (case k => k_is))
    (case d__law_line => refine' DL.defAt_mk KX G ?a ?l ?c ?k (fun _ _ _ _ _ _ us hl => match us, hl with | [_], _ => rfl); (case a => k_is); (case l => k_is); (case c => k_is); (case k => k_is))
    (case d__law_span => refine' DL.defAt_mk KX G ?a ?l ?c ?k (fun _ _ _ _ _ _ us hl => match us, hl with | [_, _, _], _ => rfl); (case a => k_is); (case l => k_is); (case c => k_is); (case k => k_is))
    (case d__law_beside => refine' DL.defAt_mk KX G ?a ?l ?c ?k (fun _ _ _ _ _ _ us hl => match us, hl with | [_, _, _, _], _ => rfl); (case a => k_is); (case l => k_is); (case c => k_is); (case k => k_is))
    (case d__law_points => refine' DL.defAt_mk KX G ?a ?l ?c ?k (fun _ _ _ _ _ _ us hl => match us, hl with | [_], _ => rfl); (case a => k_is); (case l => k_is); (case c => k_is); (case k => k_is))
    (case d__law_has => refine' DL.defAt_mk KX G ?a ?l ?c ?k (fun _ _ _ _ _ _ us hl => match us, hl with | [_, _], _ => rfl); (case a => k_is); (case l => k_is); (case c => k_is); (case k => k_is))
    (case d__law_rows => refine' DL.defAt_mk KX G ?a ?l ?c ?k (fun _ _ _ _ _ _ us hl => match us, hl with | [_, _], _ => rfl); (case a => k_is); (case l => k_is); (case c => k_is); (case k => k_is))
    (case d__law_both => refine' DL.defAt_mk KX G ?a ?l ?c ?k (fun _ _ _ _ _ _ us hl => match us, hl with | [_, _], _ => rfl); (case a => k_is); (case l => k_is); (case c => k_is); (case k => k_is))
    (case d__law_all => refine' DL.defAt_mk KX G ?a ?l ?c ?k (fun _ _ _ _ _ _ us hl => match us, hl with | [_, _], _ => rfl); (case a => k_is); (case l => k_is); (case c => k_is); (case k => k_is))
    (case d__law_rest => refine' DL.defAt_mk KX G ?a ?l ?c ?k (fun _ _ _ _ _ _ us hl => match us, hl with | [_, _, _], _ => rfl); (case a => k_is); (case l => k_is); (case c => k_is); (case k => k_is))
    (case d__law_pair_right => refine' DL.defAt_mk KX G ?a ?l ?c ?k (fun _ _ _ _ _ _ us hl => match us, hl with | [_, _, _], _ => rfl); (case a => k_is); (case l => k_is); (case c => k_is); (case k => k_is))
    (case d__law_three_right => refine' DL.defAt_mk KX G ?a ?l ?c ?k (fun _ _ _ _ _ _ us hl => match us, hl with | [_, _, _, _], _ => rfl); (case a => k_is); (case l => k_is); (case c => k_is); (case k => k_is))
    (case d__law_keys_right => refine' DL.defAt_mk KX G ?a ?l ?c ?k (fun _ _ _ _ _ _ us hl => match us, hl with | [_, _, _], _ => rfl); (case a => k_is); (case l => k_is); (case c => k_is); (case k => k_is))
    (case d__law_asked_right => refine' DL.defAt_mk KX G ?a ?l ?c ?k (fun _ _ _ _ _ _ us hl => match us, hl with | [_, _, _, _], _ => rfl); (case a => k_is); (case l => k_is); (case c => k_is); (case k => k_is))
    (case d_law => refine' DL.defAt_mk KX G ?a ?l ?c ?k (fun _ _ _ _ _ _ us hl => match us, hl with | [_], _ => rfl); (case a => k_is); (case l => k_is); (case c => k_is); (case k => k_is))

