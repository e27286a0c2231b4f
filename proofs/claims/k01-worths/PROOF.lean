import PyProof.Rows.All
import Wide.All
import OpenK.AllK
import Wide.FinOn
import HandS.ForMost
import HandS.IsInst
import HandS.TupLe
import HandS.TupAny
import HandS.Flow
import HandS.Deep
import HandS.Wide
import KE.SortData
import PySem.Challenge.RW_stratakv_k01_worths_by_rows_and_by_parts
import KE.DataMinMax
import HandS.Conv
import HandS.Style
import HandS.DictComp
set_option Elab.async false
set_option linter.all false
set_option maxRecDepth 100000
set_option maxHeartbeats 4000000
/-! DL0: new tuples whose own object is known (it bears no dict of its own): for tuples that can't be keys -/
namespace DL
open PySem PySem.Spec PyProof.Rows L2
/-- a new tuple at any free place -/
def NewT (H : Hp) (xs : List V) (Q : VK) : Prop := ∀ (p : Addr) (ob : Obj), H p = none → ob.dict = none → Q (.ref p) (upd H p (.frz ob (.tup xs)))
theorem newT_run {X : Cx} {pins : List (Addr × Obj)} {σ : L2.St} {H : Hp} {s : Shared} {xs : List V} {its : List Value} {Q : VK} (I : Inv X pins σ H s) (r : Vals xs its) (hz : xs.length ≤ sizeLine) (q : NewT H xs Q) :
    EP X pins σ Q (.ref s.heap.objs.size) { s with heap := s.heap.push { cls := .type "tuple", data := .seq its.toArray } } := by
  have fr : H s.heap.objs.size = none := I.hok.fresh (Nat.le_refl _)
  refine ⟨.ref s.heap.objs.size, upd H s.heap.objs.size (.frz { cls := .type "tuple", data := .seq its.toArray } (.tup xs)), I.laid (t' := s.toks) (fun b ob z => Heap.get?_push_of_some _ z) (Nat.le_refl _) ?_, rfl, q _ _ fr rfl⟩
  exact ⟨Heap.get?_push_size _ rfl, hz, its, r, IsTup.new _ _⟩
section
variable {X : Cx} {es : List Expr} {t : TA} {pos : Pos}
def tTupF (t : TA) : TE := fun σ H Q => t σ H fun xs H1 => xs.length ≤ sizeLine ∧ NewT H1 xs Q
theorem pe_tupF {k} (h : PA X es t) : PE X (.Tuple es k pos) (tTupF t) :=
  ⟨fun pins s σ H Q I hq => wpAny_Tuple_spliced (thn (h.run pos pins s σ H _ I hq) fun us s1 ⟨xs, H1, I1, r, z, q⟩ => ⟨by rw [← r.length]; exact z, newT_run I1 r z q⟩)⟩
def rCatF (K : PySem.W.Frag) : R2 := fun x y H Q => ∃ a b xs ys, x = .ref a ∧ y = .ref b ∧ SqT K H a xs ∧ SqT K H b ys ∧ xs ≠ [] ∧ ys ≠ [] ∧ xs.length + ys.length ≤ sizeLine ∧ NewT H (xs ++ ys) Q
theorem op_catF : OpR X (binaryOp .Add) (rCatF X.K) := fun pins s σ H x y v u Q I rx ry ⟨a, b, xs, ys, ex, ey, ha, hb, nx, ny, hz, q⟩ => by
  subst ex ey
  cases rx
  cases ry
  obtain ⟨us, r1, p1, _⟩ := I.tuple ha
  obtain ⟨ws, r2, p2, _⟩ := I.tuple hb
  have e1 := r1.length
  have e2 := r2.length
  refine HT.cat_tup p1 p2 (fun z => nx (r1.nil_iff.mp z)) (fun z => absurd (r2.nil_iff.mp z) ny) (fun _ => ?_) (by omega)
  exact newT_run I (r1.append r2) (by simp only [List.length_append]; omega) q
def rSlF (K : PySem.W.Frag) : V → Option Int → Option Int → Hp → VK → Prop := fun x lo hi H Q => ∃ a xs, x = .ref a ∧ SqT K H a xs ∧ ¬ (HT.sIx xs.length 0 lo = 0 ∧ HT.sIx xs.length xs.length hi = xs.length) ∧ NewT H (cutV xs lo hi) Q
theorem sl_tupF : SlR X (rSlF X.K) := fun pins s σ H x v vl vu lo hi sl Q I rx hs pl pu ⟨a, xs, ex, hx, hw, q⟩ => by
  subst ex
  cases rx
  obtain ⟨us, r, ht, hz⟩ := I.tuple hx
  have e : us.toArray.size = xs.length := by rw [List.size_toArray, r.length]
  refine ⟨"tuple", _, PyProof.Rows.slot_tuple_getitem.lookup, ht.typeIs, HT.getItem_tuple_cut ht hs pl pu (by rw [e]; exact hw) ?_ (by rw [e]; exact hz)⟩
  rw [e]
  exact newT_run I ((r.drop (HT.sIx xs.length 0 lo)).take (HT.sIx xs.length xs.length hi - HT.sIx xs.length 0 lo)) (Nat.le_trans (cutV_length xs lo hi) hz) q
theorem call_tupF : CallR X (.type "tuple") (fun vs H Q => ∃ p ys, vs = [.ref p] ∧ SqL X.K H p ys ∧ NewT H ys Q) := fun pins s σ H vs us Q I r ⟨p, ys, e, hq, q⟩ => by
  subst e
  obtain ⟨u, rfl, ru⟩ := vals1 r
  cases ru
  obtain ⟨ws, r2, pl, hz⟩ := I.list hq
  have e := r2.length
  refine call_tuple_list pl.isList (fun h2 kp => ?_) (by rw [List.size_toArray]; omega)
  exact newT_run (I.kept (h' := h2) (t' := s.toks) kp) r2 hz q
end
end DL

/-! DL1: data, ownership, the relations -/
namespace DL
open PySem PySem.Spec PyProof.Rows L2

abbrev D := PyData
inductive SV where
  | val (d : D)
  | own (t : Option Nat) (c : D)
abbrev DSt := List (Option SV)
def SV.frz : SV → D
  | .val d => d
  | .own _ c => c
@[simp] theorem frz_val (d : D) : (SV.val d).frz = d := rfl
@[simp] theorem frz_own (t : Option Nat) (c : D) : (SV.own t c).frz = c := rfl

abbrev Fg := PySem.W.Frag

theorem SqT.mono {K : Fg} {F H : Hp} {a : Addr} {xs : List V} (e : Same F H) (h : SqT K F a xs) : SqT K H a xs := by
  rcases h with (h | ⟨o, h⟩) | h
  · exact .inl (.inl (e _ _ h))
  · exact .inl (.inr ⟨o, e _ _ h⟩)
  · exact .inr h
theorem Rd.mono {F H : Hp} {a : Addr} {o : HO} (e : Same F H) (h : Rd F a o) : Rd H a o := by
  rcases h with h | ⟨ob, h⟩
  · exact .inl (e _ _ h)
  · exact .inr ⟨ob, e _ _ h⟩
/-- a text of signs, not too long -/
def okS (x : Str) : Prop := PyData.strOk x = true ∧ x.length ≤ 16777216
def okK : Key → Prop
  | .inl _ => True
  | .inr x => okS x
/-- a key as data -/
def keyD : Key → D
  | .inl i => .int i
  | .inr x => .str x
/-- ints and texts alone: what may be a key -/
def keyL : List D → Bool
  | [] => true
  | .int _ :: ds => keyL ds
  | .str _ :: ds => keyL ds
  | _ :: _ => false
/-- the tuple at a: one that may be a key stands as a tuple, any other one with its own object -/
def TupAt (F : Hp) (a : Addr) (xs : List V) (ds : List D) : Prop := (keyL ds = true ∧ F a = some (.tup xs)) ∨ (keyL ds = false ∧ ∃ o : Obj, o.dict = none ∧ F a = some (.frz o (.tup xs)))
theorem TupAt.mono {F H : Hp} (m : Same F H) {a : Addr} {xs : List V} {ds : List D} (h : TupAt F a xs ds) : TupAt H a xs ds :=
  h.imp (fun z => ⟨z.1, m _ _ z.2⟩) (fun ⟨z, o, z1, z2⟩ => ⟨z, o, z1, m _ _ z2⟩)
theorem TupAt.sq {K : Fg} {F : Hp} {a : Addr} {xs : List V} {ds : List D} (h : TupAt F a xs ds) : SqT K F a xs := by
  rcases h with ⟨_, h⟩ | ⟨_, o, _, h⟩
  · exact .inl (.inl h)
  · exact .inl (.inr ⟨o, h⟩)
mutual
/-- the value v reads as the data d, over frozen objects -/
inductive Rp (K : Fg) (F : Hp) : V → D → Prop
  | non : Rp K F .non .none
  | bl (b : Bool) : Rp K F (.bl b) (.bool b)
  | int (i : Int) : Rp K F (.int i) (.int i)
  | str {x : Str} (h : okS x) : Rp K F (.str x) (.str x)
  | tup {a : Addr} {xs : List V} {ds : List D} : TupAt F a xs ds → RpAll K F xs ds → Rp K F (.ref a) (.tuple ds)
  | obj {a : Addr} {o : HO} {d : D} : Rd F a o → ORp K F o d → Rp K F (.ref a) d
  | kl {a : Addr} {xs : List V} {ds : List D} : SqL K F a xs → RpAll K F xs ds → Rp K F (.ref a) (.list ds)
/-- the object o holds the data d: a list, a dict -/
inductive ORp (K : Fg) (F : Hp) : HO → D → Prop
  | lst {xs : List V} {ds : List D} : RpAll K F xs ds → ORp K F (.lst xs) (.list ds)
  | dK {kvs : List (Key × V)} {es : List (D × D)} : RpKv K F kvs es → ORp K F (.dK kvs) (.dict es)
  | dT {kvs : List (List Key × V)} {es : List (D × D)} : RpKt K F kvs es → ORp K F (.dT kvs) (.dict ((.none, .none) :: es))
inductive RpAll (K : Fg) (F : Hp) : List V → List D → Prop
  | nil : RpAll K F [] []
  | cons {v : V} {vs : List V} {d : D} {ds : List D} : Rp K F v d → RpAll K F vs ds → RpAll K F (v :: vs) (d :: ds)
inductive RpKv (K : Fg) (F : Hp) : List (Key × V) → List (D × D) → Prop
  | nil : RpKv K F [] []
  | cons {k : Key} {v : V} {kvs : List (Key × V)} {d : D} {es : List (D × D)} : okK k → Rp K F v d → RpKv K F kvs es → RpKv K F ((k, v) :: kvs) ((keyD k, d) :: es)
inductive RpKt (K : Fg) (F : Hp) : List (List Key × V) → List (D × D) → Prop
  | nil : RpKt K F [] []
  | cons {k : List Key} {v : V} {kvs : List (List Key × V)} {d : D} {es : List (D × D)} : (∀ x ∈ k, okK x) → Rp K F v d → RpKt K F kvs es → RpKt K F ((k, v) :: kvs) ((.tuple (k.map keyD), d) :: es)
end
mutual
theorem Rp.mono {K : Fg} {F H : Hp} (m : Same F H) : ∀ {v : V} {d : D}, Rp K F v d → Rp K H v d
  | _, _, .non => .non
  | _, _, .bl b => .bl b
  | _, _, .int b => .int b
  | _, _, .str b => .str b
  | _, _, .tup h q => .tup (h.mono m) (RpAll.mono m q)
  | _, _, .obj h q => .obj (Rd.mono m h) (ORp.mono m q)
  | _, _, .kl h q => .kl (m.seq h) (RpAll.mono m q)
theorem ORp.mono {K : Fg} {F H : Hp} (m : Same F H) : ∀ {o : HO} {d : D}, ORp K F o d → ORp K H o d
  | _, _, .lst q => .lst (RpAll.mono m q)
  | _, _, .dK q => .dK (RpKv.mono m q)
  | _, _, .dT q => .dT (RpKt.mono m q)
theorem RpAll.mono {K : Fg} {F H : Hp} (m : Same F H) : ∀ {vs : List V} {ds : List D}, RpAll K F vs ds → RpAll K H vs ds
  | _, _, .nil => .nil
  | _, _, .cons h q => .cons (Rp.mono m h) (RpAll.mono m q)
theorem RpKv.mono {K : Fg} {F H : Hp} (m : Same F H) : ∀ {vs : List (Key × V)} {ds : List (D × D)}, RpKv K F vs ds → RpKv K H vs ds
  | _, _, .nil => .nil
  | _, _, .cons z h q => .cons z (Rp.mono m h) (RpKv.mono m q)
theorem RpKt.mono {K : Fg} {F H : Hp} (m : Same F H) : ∀ {vs : List (List Key × V)} {ds : List (D × D)}, RpKt K F vs ds → RpKt K H vs ds
  | _, _, .nil => .nil
  | _, _, .cons z h q => .cons z (Rp.mono m h) (RpKt.mono m q)
end
theorem RpAll.length {K : Fg} {H : Hp} : ∀ {vs : List V} {ds : List D}, RpAll K H vs ds → vs.length = ds.length
  | _, _, .nil => rfl
  | _, _, .cons h1 h2 => by simp [RpAll.length h2]
theorem RpAll.get {K : Fg} {H : Hp} : ∀ {ds : List D} {vs : List V} {i : Nat} {d : D}, RpAll K H vs ds → ds[i]? = some d → ∃ v, vs[i]? = some v ∧ Rp K H v d
  | _, _, _, _, .nil, e => by simp at e
  | _, _, 0, _, .cons h1 h2, e => by simp at e; subst e; exact ⟨_, rfl, h1⟩
  | _, _, i + 1, _, .cons h1 h2, e => by
    obtain ⟨v, a, b⟩ := RpAll.get (i := i) h2 (by simpa using e)
    exact ⟨v, by simpa using a, b⟩
theorem RpAll.getV {K : Fg} {H : Hp} : ∀ {ds : List D} {vs : List V} {i : Nat} {v : V}, RpAll K H vs ds → vs[i]? = some v → ∃ d, ds[i]? = some d ∧ Rp K H v d
  | _, _, _, _, .nil, e => by simp at e
  | _, _, 0, _, .cons h1 h2, e => by simp at e; subst e; exact ⟨_, rfl, h1⟩
  | _, _, i + 1, _, .cons h1 h2, e => by
    obtain ⟨v, a, b⟩ := RpAll.getV (i := i) h2 (by simpa using e)
    exact ⟨v, by simpa using a, b⟩
theorem RpAll.append {K : Fg} {H : Hp} : ∀ {ds es : List D} {vs ws : List V}, RpAll K H vs ds → RpAll K H ws es → RpAll K H (vs ++ ws) (ds ++ es)
  | _, _, _, _, .nil, g => g
  | _, _, _, _, .cons h1 h2, g => .cons h1 (RpAll.append h2 g)
theorem RpAll.take {K : Fg} {H : Hp} : ∀ {ds : List D} {vs : List V} (n : Nat), RpAll K H vs ds → RpAll K H (vs.take n) (ds.take n)
  | _, _, 0, _ => .nil
  | _, _, _ + 1, .nil => .nil
  | _, _, n + 1, .cons h1 h2 => .cons h1 (RpAll.take n h2)
theorem RpAll.drop {K : Fg} {H : Hp} : ∀ {ds : List D} {vs : List V} (n : Nat), RpAll K H vs ds → RpAll K H (vs.drop n) (ds.drop n)
  | _, _, 0, h => h
  | _, _, _ + 1, .nil => .nil
  | _, _, n + 1, .cons h1 h2 => RpAll.drop n h2
theorem RpAll.set {K : Fg} {H : Hp} {v : V} {d : D} (hv : Rp K H v d) : ∀ {ds : List D} {vs : List V} (n : Nat), RpAll K H vs ds → RpAll K H (vs.set n v) (ds.set n d)
  | _, _, _, .nil => .nil
  | _, _, 0, .cons h1 h2 => .cons hv h2
  | _, _, n + 1, .cons h1 h2 => .cons h1 (RpAll.set hv n h2)
theorem RpAll.one {K : Fg} {H : Hp} {v : V} {d : D} (h : Rp K H v d) : RpAll K H [v] [d] := .cons h .nil

/-- what a slot or a result holds: frozen data, or a list that no one else holds -/
def SvOk (K : Fg) (F H : Hp) (β : Nat → Option Addr) (v : V) : SV → Prop
  | .val d => Rp K F v d
  | .own t c => ∃ a o, v = .ref a ∧ F a = none ∧ H a = some o ∧ ORp K F o c ∧ ∀ j, t = some j → β j = some a
def Own (st : DSt) (σ : L2.St) (a : Addr) : Prop := ∃ (i : Nat) (t : Option Nat) (c : D), st[i]? = some (some (.own t c)) ∧ σ[i]? = some (some (.ref a))
structure StRel (K : Fg) (F H : Hp) (β : Nat → Option Addr) (st : DSt) (σ : L2.St) : Prop where
  le : Same F H
  len : st.length = σ.length
  slot : ∀ (i : Nat) (s : SV), st[i]? = some (some s) → ∃ v, σ[i]? = some (some v) ∧ SvOk K F H β v s
  ne : ∀ (i j : Nat) t xs u ys a, st[i]? = some (some (.own t xs)) → st[j]? = some (some (.own u ys)) → σ[i]? = some (some (.ref a)) → σ[j]? = some (some (.ref a)) → i = j
/-- from one heap to a later one; P: what may have been written -/
structure Stp (F H : Hp) (P : Addr → Prop) (F' H' : Hp) : Prop where
  mono : Same F F'
  keep : ∀ a o, H a = some o → F a = none → ¬ P a → H' a = some o ∧ F' a = none
/-- new objects alone -/
structure Grow (F H F' H' : Hp) : Prop where
  mono : Same F F'
  le : Same F' H'
  keep : Same H H'
  new : ∀ a, F' a ≠ none → F a ≠ none ∨ H a = none
theorem Grow.refl {F H : Hp} (l : Same F H) : Grow F H F H := ⟨Same.refl _, l, Same.refl _, fun a h => .inl h⟩
theorem Grow.stp {F H F' H' : Hp} (g : Grow F H F' H') (P : Addr → Prop) : Stp F H P F' H' :=
  ⟨g.mono, fun a o h f _ => ⟨g.keep a o h, by
    cases q : F' a with
    | none => rfl
    | some u =>
      rcases g.new a (by rw [q]; simp) with z | z
      · exact absurd f z
      · rw [h] at z; cases z⟩⟩
theorem Grow.fnone {F H F' H' : Hp} (g : Grow F H F' H') {a : Addr} {o : HO} (h : H a = some o) (f : F a = none) : F' a = none := ((g.stp fun _ => False).keep a o h f id).2
theorem Grow.trans {F H F1 H1 F2 H2 : Hp} (a : Grow F H F1 H1) (b : Grow F1 H1 F2 H2) : Grow F H F2 H2 :=
  ⟨a.mono.trans b.mono, b.le, a.keep.trans b.keep, fun p h => by
    rcases b.new p h with z | z
    · exact a.new p z
    · exact .inr (a.keep.free z)⟩
/-- a new frozen object -/
theorem Grow.laid {F H : Hp} (l : Same F H) {p : Addr} {o : HO} (hp : H p = none) : Grow F H (upd F p o) (upd H p o) := by
  have fp : F p = none := l.free hp
  refine ⟨fun b u e => ?_, fun b u e => ?_, fun b u e => ?_, fun b e => ?_⟩
  · rw [upd_ne (ne_of_none e fp)]; exact e
  · by_cases hb : b = p
    · subst hb; rw [upd_same] at e ⊢; exact e
    · rw [upd_ne hb] at e ⊢; exact l _ _ e
  · rw [upd_ne (ne_of_none e hp)]; exact e
  · by_cases hb : b = p
    · subst hb; exact .inr hp
    · rw [upd_ne hb] at e; exact .inl e

/-- a new tuple, tracked as its items ask -/
theorem tup_mk {K : Fg} {F H : Hp} {vs : List V} {ds : List D} {Q : VK} (l : Same F H) (r : RpAll K F vs ds) (q : ∀ F' H' v, Grow F H F' H' → Rp K F' v (.tuple ds) → Q v H') :
    (keyL ds = true ∧ ∀ p, H p = none → Q (.ref p) (upd H p (.tup vs))) ∨ (keyL ds = false ∧ NewT H vs Q) := by
  cases h : keyL ds with
  | true => exact .inl ⟨rfl, fun p hp => by
      have g := Grow.laid (o := .tup vs) l hp
      exact q _ _ _ g (.tup (.inl ⟨h, upd_same⟩) (RpAll.mono g.mono r))⟩
  | false => exact .inr ⟨rfl, fun p ob hp ho => by
      have g := Grow.laid (o := .frz ob (.tup vs)) l hp
      exact q _ _ _ g (.tup (.inr ⟨h, ob, ho, upd_same⟩) (RpAll.mono g.mono r))⟩

section
variable {K : Fg} {F H F' H' F1 H1 F2 H2 : Hp} {β : Nat → Option Addr} {st st1 st2 : DSt} {σ σ' : L2.St} {v : V} {a : Addr}
theorem SvOk.grow {s : SV} (h : SvOk K F H β v s) (g : Grow F H F' H') : SvOk K F' H' β v s := by
  cases s with
  | val d => exact Rp.mono g.mono h
  | own t xs =>
    obtain ⟨a, vs, e, f, hh, q, b⟩ := h
    exact ⟨a, vs, e, g.fnone hh f, g.keep _ _ hh, ORp.mono g.mono q, b⟩
theorem StRel.grow (r : StRel K F H β st σ) (g : Grow F H F' H') : StRel K F' H' β st σ :=
  ⟨g.le, r.len, fun i s e => let ⟨v, e1, q⟩ := r.slot i s e; ⟨v, e1, q.grow g⟩, r.ne⟩
theorem StRel.ownH (r : StRel K F H β st σ) (h : Own st σ a) : ∃ o, H a = some o ∧ F a = none := by
  obtain ⟨i, t, xs, e, e1⟩ := h
  obtain ⟨v, e2, b, vs, rfl, f, hh, _⟩ := r.slot i _ e
  rw [e1] at e2
  cases e2
  exact ⟨vs, hh, f⟩
theorem Stp.refl (P : Addr → Prop) : Stp F H P F H := ⟨Same.refl _, fun _ _ h f _ => ⟨h, f⟩⟩
theorem Stp.trans {P P1 : Addr → Prop} (a : Stp F H P F1 H1) (b : Stp F1 H1 P1 F2 H2) (l : ∀ a, P1 a → P a ∨ H a = none) : Stp F H P F2 H2 :=
  ⟨a.mono.trans b.mono, fun p o h f n => by
    obtain ⟨h1, f1⟩ := a.keep p o h f n
    refine b.keep p o h1 f1 fun z => ?_
    rcases l p z with q | q
    · exact n q
    · rw [h] at q; cases q⟩
theorem Stp.weak {P P1 : Addr → Prop} (a : Stp F H P F1 H1) (l : ∀ a, P a → P1 a) : Stp F H P1 F1 H1 := ⟨a.mono, fun p o h f n => a.keep p o h f fun z => n (l p z)⟩
theorem Stp.fresh {P : Addr → Prop} (a : Stp F H P F1 H1) (l : Same F1 H1) {p : Addr} (h : H1 p = none) : P p ∨ H p = none := by
  cases q : H p with
  | none => exact .inr rfl
  | some o =>
    cases q2 : F p with
    | some u =>
      have := l _ _ (a.mono _ _ q2)
      rw [h] at this; cases this
    | none =>
      by_cases hp : P p
      · exact .inl hp
      · have := (a.keep p o q q2 hp).1
        rw [h] at this; cases this
end

/-- a D result -/
structure DOk (K : Fg) (F H : Hp) (β : Nat → Option Addr) (st : DSt) (σ : L2.St) (F' H' : Hp) (st' : DSt) (v : V) (d : D) : Prop where
  rel : StRel K F' H' β st' σ
  stp : Stp F H (Own st σ) F' H'
  sub : ∀ a, Own st' σ a → Own st σ a
  res : Rp K F' v d
/-- an SV result -/
structure EOk (K : Fg) (F H : Hp) (β : Nat → Option Addr) (st : DSt) (σ : L2.St) (F' H' : Hp) (st' : DSt) (v : V) (r : SV) : Prop where
  rel : StRel K F' H' β st' σ
  stp : Stp F H (Own st σ) F' H'
  sub : ∀ a, Own st' σ a → Own st σ a
  res : SvOk K F' H' β v r
  fre : ∀ t xs a, r = .own t xs → v = .ref a → t = none ∧ ¬ Own st' σ a ∧ (Own st σ a ∨ H a = none)
/-- a list of D results -/
structure AOk (K : Fg) (F H : Hp) (β : Nat → Option Addr) (st : DSt) (σ : L2.St) (F' H' : Hp) (st' : DSt) (vs : List V) (ds : List D) : Prop where
  rel : StRel K F' H' β st' σ
  stp : Stp F H (Own st σ) F' H'
  sub : ∀ a, Own st' σ a → Own st σ a
  res : RpAll K F' vs ds
/-- a truth -/
structure BOk (K : Fg) (F H : Hp) (β : Nat → Option Addr) (st : DSt) (σ : L2.St) (F' H' : Hp) (st' : DSt) : Prop where
  rel : StRel K F' H' β st' σ
  stp : Stp F H (Own st σ) F' H'
  sub : ∀ a, Own st' σ a → Own st σ a

abbrev DF := DSt → Option (D × DSt)
abbrev DE := DSt → Option (SV × DSt)
abbrev DB := DSt → Option (Bool × DSt)
abbrev DA := DSt → Option (List D × DSt)
def tF (K : Fg) (f : DF) : TE := fun σ H Q => ∃ F β st d st', StRel K F H β st σ ∧ f st = some (d, st') ∧ ∀ F' H' v, DOk K F H β st σ F' H' st' v d → Q v H'
def tD (K : Fg) (f : DE) : TE := fun σ H Q => ∃ F β st r st', StRel K F H β st σ ∧ f st = some (r, st') ∧ ∀ F' H' v, EOk K F H β st σ F' H' st' v r → Q v H'
def tT (K : Fg) (f : DB) : TT := fun σ H Q => ∃ F β st b st', StRel K F H β st σ ∧ f st = some (b, st') ∧ ∀ F' H', BOk K F H β st σ F' H' st' → Q b H'
def tA (K : Fg) (f : DA) : TA := fun σ H Q => ∃ F β st ds st', StRel K F H β st σ ∧ f st = some (ds, st') ∧ ∀ F' H' vs, AOk K F H β st σ F' H' st' vs ds → Q vs H'

theorem PE.imp {X : Cx} {e : Expr} {t t' : TE} (h : PE X e t) (w : ∀ σ H Q, t' σ H Q → t σ H Q) : PE X e t' := ⟨fun pins s σ H Q I q => h.run pins s σ H Q I (w σ H Q q)⟩
theorem PE.or {X : Cx} {e : Expr} {t t' : TE} (h : PE X e t) (h' : PE X e t') : PE X e (fun σ H Q => t σ H Q ∨ t' σ H Q) := ⟨fun pins s σ H Q I q => q.elim (h.run pins s σ H Q I) (h'.run pins s σ H Q I)⟩
theorem PT.imp {X : Cx} {e : Expr} {t t' : TT} (h : PT X e t) (w : ∀ σ H Q, t' σ H Q → t σ H Q) : PT X e t' := ⟨fun pins s σ H Q I q => h.run pins s σ H Q I (w σ H Q q)⟩
theorem PW.imp {X : Cx} {e : Expr} {t t' : TT} (h : PW X e t) (w : ∀ σ H Q, t' σ H Q → t σ H Q) : PW X e t' := ⟨fun wh pins s σ H Q I q => h.run wh pins s σ H Q I (w σ H Q q)⟩
theorem PA.imp {X : Cx} {e : List Expr} {t t' : TA} (h : PA X e t) (w : ∀ σ H Q, t' σ H Q → t σ H Q) : PA X e t' := ⟨fun pos pins s σ H Q I q => h.run pos pins s σ H Q I (w σ H Q q)⟩
theorem PS.imp {X : Cx} {e : Stmt} {t t' : TS} (h : PS X e t) (w : ∀ D σ H, t' D σ H → t D σ H) : PS X e t' := ⟨fun pins s σ H D I q => h.run pins s σ H D I (w D σ H q)⟩
theorem PSs.imp {X : Cx} {e : List Stmt} {t t' : TS} (h : PSs X e t) (w : ∀ D σ H, t' D σ H → t D σ H) : PSs X e t' := ⟨fun pins s σ H D I q => h.run pins s σ H D I (w D σ H q)⟩
theorem PG.imp {X : Cx} {e : Expr} {t t' : TG} (h : PG X e t) (w : ∀ v σ H Q, t' v σ H Q → t v σ H Q) : PG X e t' := ⟨fun pins s σ H v u Q I r q => h.run pins s σ H v u Q I r (w v σ H Q q)⟩
theorem PI.imp {X : Cx} {tg e : Expr} {t t' : TI} (h : PI X tg e t) (w : ∀ σ H R, t' σ H R → t σ H R) : PI X tg e t' := ⟨fun pins s σ H R I q => h.run pins s σ H R I (w σ H R q)⟩
theorem PI.or {X : Cx} {tg e : Expr} {t t' : TI} (h : PI X tg e t) (h' : PI X tg e t') : PI X tg e (fun σ H R => t σ H R ∨ t' σ H R) := ⟨fun pins s σ H R I q => q.elim (h.run pins s σ H R I) (h'.run pins s σ H R I)⟩

section
variable {K : Fg} {F H F' H' F1 H1 F2 H2 : Hp} {β : Nat → Option Addr} {st st' st1 st2 : DSt} {σ σ' : L2.St} {v w : V} {a : Addr} {d : D} {r : SV}
/-- a temporary of ours becomes frozen -/
theorem EOk.frz (e : EOk K F H β st σ F' H' st' v r) : ∃ F2, DOk K F H β st σ F2 H' st' v r.frz := by
  cases r with
  | val d => exact ⟨F', e.rel, e.stp, e.sub, e.res⟩
  | own t xs =>
    obtain ⟨a, vs, rfl, f, hh, q, b⟩ := e.res
    obtain ⟨rfl, n, w⟩ := e.fre t xs a rfl rfl
    have m : Same F' (upd F' a vs) := fun b u z => by rw [upd_ne (ne_of_none z f)]; exact z
    refine ⟨upd F' a vs, ⟨fun b u z => ?_, e.rel.len, fun i s z => ?_, e.rel.ne⟩, ⟨e.stp.mono.trans m, fun b o z1 z2 z3 => ?_⟩, e.sub, ?_⟩
    · by_cases hb : b = a
      · subst hb; rw [upd_same] at z; cases z; exact hh
      · rw [upd_ne hb] at z; exact e.rel.le _ _ z
    · obtain ⟨v, e1, q1⟩ := e.rel.slot i s z
      refine ⟨v, e1, ?_⟩
      cases s with
      | val d => exact Rp.mono m q1
      | own t2 ys =>
        obtain ⟨a2, ws, rfl, f2, h2, q2, b2⟩ := q1
        have hne : a2 ≠ a := by
          rintro rfl
          exact n ⟨i, t2, ys, z, e1⟩
        exact ⟨a2, ws, rfl, by rw [upd_ne hne]; exact f2, h2, ORp.mono m q2, b2⟩
    · obtain ⟨k1, k2⟩ := e.stp.keep b o z1 z2 z3
      refine ⟨k1, ?_⟩
      have hne : b ≠ a := by
        rintro rfl
        rcases w with w | w
        · exact z3 w
        · rw [z1] at w; cases w
      rw [upd_ne hne]; exact k2
    · exact .obj (.inl upd_same) (ORp.mono m q)
theorem DOk.toE (e : DOk K F H β st σ F' H' st' v d) : EOk K F H β st σ F' H' st' v (.val d) := ⟨e.rel, e.stp, e.sub, e.res, fun _ _ _ z => nomatch z⟩
theorem DOk.refl (r : StRel K F H β st σ) (q : Rp K F v d) : DOk K F H β st σ F H st v d := ⟨r, Stp.refl _, fun _ h => h, q⟩
theorem BOk.refl (r : StRel K F H β st σ) : BOk K F H β st σ F H st := ⟨r, Stp.refl _, fun _ h => h⟩
theorem AOk.refl (r : StRel K F H β st σ) : AOk K F H β st σ F H st [] [] := ⟨r, Stp.refl _, fun _ h => h, .nil⟩
theorem DOk.b (e : DOk K F H β st σ F' H' st' v d) : BOk K F H β st σ F' H' st' := ⟨e.rel, e.stp, e.sub⟩
theorem AOk.b {vs : List V} {ds : List D} (e : AOk K F H β st σ F' H' st' vs ds) : BOk K F H β st σ F' H' st' := ⟨e.rel, e.stp, e.sub⟩
theorem EOk.b (e : EOk K F H β st σ F' H' st' v r) : BOk K F H β st σ F' H' st' := ⟨e.rel, e.stp, e.sub⟩
theorem BOk.trans (e : BOk K F H β st σ F1 H1 st1) (e2 : BOk K F1 H1 β st1 σ F2 H2 st2) : BOk K F H β st σ F2 H2 st2 :=
  ⟨e2.rel, e.stp.trans e2.stp fun a h => .inl (e.sub a h), fun a h => e.sub a (e2.sub a h)⟩
theorem BOk.thenD (e : BOk K F H β st σ F1 H1 st1) (e2 : DOk K F1 H1 β st1 σ F2 H2 st2 v d) : DOk K F H β st σ F2 H2 st2 v d :=
  let b := e.trans e2.b; ⟨b.rel, b.stp, b.sub, e2.res⟩
theorem BOk.thenA {vs : List V} {ds : List D} (e : BOk K F H β st σ F1 H1 st1) (e2 : AOk K F1 H1 β st1 σ F2 H2 st2 vs ds) : AOk K F H β st σ F2 H2 st2 vs ds :=
  let b := e.trans e2.b; ⟨b.rel, b.stp, b.sub, e2.res⟩
theorem BOk.thenE (e : BOk K F H β st σ F1 H1 st1) (e2 : EOk K F1 H1 β st1 σ F2 H2 st2 v r) : EOk K F H β st σ F2 H2 st2 v r :=
  let b := e.trans e2.b; ⟨b.rel, b.stp, b.sub, e2.res, fun t xs a h1 h2 => by
    obtain ⟨z1, z2, z3⟩ := e2.fre t xs a h1 h2
    refine ⟨z1, z2, ?_⟩
    rcases z3 with z3 | z3
    · exact .inl (e.sub a z3)
    · exact e.stp.fresh e.rel.le z3⟩
theorem BOk.grow (e : BOk K F H β st σ F1 H1 st1) (g : Grow F1 H1 F2 H2) : BOk K F H β st σ F2 H2 st1 :=
  e.trans ⟨e.rel.grow g, g.stp _, fun _ h => h⟩
theorem BOk.toD (e : BOk K F H β st σ F1 H1 st1) (q : Rp K F1 v d) : DOk K F H β st σ F1 H1 st1 v d := ⟨e.rel, e.stp, e.sub, q⟩
theorem StRel.b (r : StRel K F H β st σ) (g : Grow F H F' H') : BOk K F H β st σ F' H' st := (BOk.refl r).grow g
end

/-! ### conversions -/
def dF (f : DE) : DF := fun st => match f st with
  | some (r, st') => some (r.frz, st')
  | none => none
def dV (f : DF) : DE := fun st => match f st with
  | some (d, st') => some (.val d, st')
  | none => none
theorem frz_pe {X : Cx} {e : Expr} {f : DE} (h : PE X e (tD X.K f)) : PE X e (tF X.K (dF f)) := PE.imp h fun σ H Q ⟨F, β, st, d, st', r, e1, q⟩ => by
  unfold dF at e1
  split at e1
  · rename_i r' st'' e2
    cases e1
    exact ⟨F, β, st, r', _, r, e2, fun F' H' v ok => let ⟨F2, z⟩ := ok.frz; q _ _ _ z⟩
  · cases e1
theorem val_pe {X : Cx} {e : Expr} {f : DF} (h : PE X e (tF X.K f)) : PE X e (tD X.K (dV f)) := PE.imp h fun σ H Q ⟨F, β, st, d, st', r, e1, q⟩ => by
  unfold dV at e1
  split at e1
  · rename_i d' st'' e2
    cases e1
    exact ⟨F, β, st, d', _, r, e2, fun F' H' v ok => q _ _ _ ok.toE⟩
  · cases e1
end DL

/-! DL2: expressions -/
namespace DL
open PySem PySem.Spec PyProof.Rows L2

theorem bind_some {α β : Type} {o : Option α} {k : α → Option β} {r : β} (h : o.bind k = some r) : ∃ p, o = some p ∧ k p = some r := by
  cases o with
  | none => cases h
  | some p => exact ⟨p, rfl, h⟩
theorem big_eq : (16777216 : Nat) = sizeLine := sizeLine_eq.symm
theorem ite_some {α : Type} {c : Prop} {_ : Decidable c} {x r : α} (h : (if c then some x else none) = some r) : c ∧ x = r := by
  by_cases hc : c
  · rw [if_pos hc] at h; exact ⟨hc, Option.some.inj h⟩
  · rw [if_neg hc] at h; cases h

section
variable {K : Fg} {F H F' H' F1 H1 F2 H2 : Hp} {β : Nat → Option Addr} {st st' st1 st2 : DSt} {σ σ' : L2.St} {v w : V} {a : Addr} {d : D} {r : SV}
/-- a slot's own list becomes frozen -/
theorem StRel.freeze {i : Nat} {c : D} (r : StRel K F H β st σ) (e : st[i]? = some (some (.own none c))) : ∃ v F2, σ[i]? = some (some v) ∧ DOk K F H β st σ F2 H (st.set i (some (.val c))) v c := by
  obtain ⟨v, e1, a, o, rfl, f, hh, q, _⟩ := r.slot i _ e
  have m : Same F (upd F a o) := fun b u z => by rw [upd_ne (ne_of_none z f)]; exact z
  have hi : i < st.length := (List.getElem?_eq_some_iff.mp e).1
  have get : ∀ (j : Nat) t c', (st.set i (some (SV.val c)))[j]? = some (some (.own t c')) → j ≠ i ∧ st[j]? = some (some (.own t c')) := fun j t c' z => by
    by_cases hj : i = j
    · subst hj; rw [List.getElem?_set_self hi] at z; cases z
    · rw [List.getElem?_set_ne hj] at z; exact ⟨Ne.symm hj, z⟩
  refine ⟨.ref a, upd F a o, e1, ⟨fun b u z => ?_, by simpa using r.len, fun j s z => ?_, fun j k t c1 u c2 b z1 z2 z3 z4 => ?_⟩, ⟨m, fun b u z1 z2 z3 => ⟨z1, ?_⟩⟩, fun b ⟨j, t, c', z, z'⟩ => ⟨j, t, c', (get j t c' z).2, z'⟩, .obj (.inl upd_same) (ORp.mono m q)⟩
  · by_cases hb : b = a
    · subst hb; rw [upd_same] at z; cases z; exact hh
    · rw [upd_ne hb] at z; exact r.le _ _ z
  · by_cases hj : i = j
    · subst hj
      rw [List.getElem?_set_self hi] at z
      cases z
      exact ⟨_, e1, .obj (.inl upd_same) (ORp.mono m q)⟩
    · rw [List.getElem?_set_ne hj] at z
      obtain ⟨v2, e2, q2⟩ := r.slot j s z
      refine ⟨v2, e2, ?_⟩
      cases s with
      | val d => exact Rp.mono m q2
      | own t2 c2 =>
        obtain ⟨a2, o2, rfl, f2, h2, q2, b2⟩ := q2
        have hne : a2 ≠ a := by
          rintro rfl
          exact hj (r.ne _ _ _ _ _ _ _ e z e1 e2)
        exact ⟨a2, o2, rfl, by rw [upd_ne hne]; exact f2, h2, ORp.mono m q2, b2⟩
  · exact r.ne _ _ _ _ _ _ _ (get j t c1 z1).2 (get k u c2 z2).2 z3 z4
  · have hne : b ≠ a := by
      rintro rfl
      exact z3 ⟨i, none, c, e, e1⟩
    rw [upd_ne hne]; exact z2
end

/-! ### names, constants -/
def dVar (i : Nat) : DF := fun st => match st[i]? with
  | some (some (.val d)) => some (d, st)
  | some (some (.own none c)) => some (c, st.set i (some (.val c)))
  | _ => none
def dC (d : D) : DF := fun st => some (d, st)
/-- a local's own thing moves out of its slot -/
def dMov (i : Nat) : DE := fun st => match st[i]? with
  | some (some (.val d)) => some (.val d, st)
  | some (some (.own none c)) => some (.own none c, st.set i none)
  | _ => none
section
variable {X : Cx} {e a b : Expr} {es : List Expr} {f g : DF} {ga : DA} {pos : Pos}
theorem pf_var (i : Nat) {x : Str} {pos : Pos} (hN : X.N[i]? = some x := by rfl) (hv : Vis X.env.scope x := by first | exact Or.inl rfl | exact Or.inr (Or.inl rfl) | exact Or.inr (Or.inr rfl)) (hd : (x == ("__debug__" : Str)) = false := by decide)
    (hcd : (x == ("__classdict__" : Str)) = false := by decide) : PE X (.Name x pos) (tF X.K (dVar i)) := PE.imp (pe_var hN hv hd hcd) fun σ H Q ⟨F, β, st, d, st', r, e1, q⟩ => by
  unfold dVar at e1
  split at e1
  · rename_i d' z
    cases e1
    obtain ⟨v, e2, q2⟩ := r.slot i _ z
    exact ⟨v, e2, q _ _ _ (DOk.refl r q2)⟩
  · rename_i c z
    cases e1
    obtain ⟨v, F2, e2, q2⟩ := r.freeze z
    exact ⟨v, e2, q _ _ _ q2⟩
  · cases e1
theorem pd_mov (i : Nat) {x : Str} {pos : Pos} (hN : X.N[i]? = some x := by rfl) (hv : Vis X.env.scope x := by first | exact Or.inl rfl | exact Or.inr (Or.inl rfl) | exact Or.inr (Or.inr rfl)) (hd : (x == ("__debug__" : Str)) = false := by decide)
    (hcd : (x == ("__classdict__" : Str)) = false := by decide) : PE X (.Name x pos) (tD X.K (dMov i)) := PE.imp (pe_var hN hv hd hcd) fun σ H Q ⟨F, β, st, d, st', r, e1, q⟩ => by
  unfold dMov at e1
  split at e1
  · rename_i d' z
    cases e1
    obtain ⟨v, e2, q2⟩ := r.slot i _ z
    exact ⟨v, e2, q _ _ _ (DOk.refl r q2).toE⟩
  · rename_i c z
    cases e1
    obtain ⟨v, e2, q2⟩ := r.slot i _ z
    have hi : i < st.length := (List.getElem?_eq_some_iff.mp z).1
    have get : ∀ (j : Nat) s, (st.set i none)[j]? = some (some s) → j ≠ i ∧ st[j]? = some (some s) := fun j s z' => by
      by_cases hj : i = j
      · subst hj; rw [List.getElem?_set_self hi] at z'; cases z'
      · rw [List.getElem?_set_ne hj] at z'; exact ⟨Ne.symm hj, z'⟩
    refine ⟨v, e2, q F H v ⟨⟨r.le, by simpa using r.len, fun j s z' => r.slot j s (get j s z').2, fun j k t c1 u c2 b z1 z2 z3 z4 => r.ne _ _ _ _ _ _ _ (get j _ z1).2 (get k _ z2).2 z3 z4⟩, Stp.refl _, fun b ⟨j, t, c', z', z2⟩ => ⟨j, t, c', (get j _ z').2, z2⟩, q2, fun t c' a h1 h2 => ?_⟩⟩
    cases h1
    subst h2
    refine ⟨rfl, fun ⟨j, t, c', z', z2⟩ => ?_, .inl ⟨i, none, c, z, e2⟩⟩
    exact (get j _ z').1 (r.ne _ _ _ _ _ _ _ (get j _ z').2 z z2 e2)
  · cases e1
theorem c_pf {v : V} {d : D} (h : PE X e (tC v)) (hd : ∀ K F, Rp K F v d) : PE X e (tF X.K (dC d)) := PE.imp h fun σ H Q ⟨F, β, st, d, st', r, e1, q⟩ => by
  cases e1
  exact q _ _ _ (DOk.refl r (hd _ _))
theorem pf_int {i j pos} : PE X (.Constant (.int i) j pos) (tF X.K (dC (.int i))) := c_pf pe_int fun _ _ => .int _
theorem pf_bl {i j pos} : PE X (.Constant (.bool i) j pos) (tF X.K (dC (.bool i))) := c_pf pe_bl fun _ _ => .bl _
theorem pf_non {j pos} : PE X (.Constant .none j pos) (tF X.K (dC .none)) := c_pf pe_non fun _ _ => .non
theorem pf_str {x j pos} (h : (PyData.strOk x && decide (x.length ≤ 16777216)) = true := by decide +kernel) : PE X (.Constant (.str x) j pos) (tF X.K (dC (.str x))) := c_pf pe_str fun _ _ => .str (by simpa [okS] using h)

/-! ### lists of expressions -/
def dNil : DA := fun st => some ([], st)
def dCons (f : DF) (g : DA) : DA := fun st => (f st).bind fun p => (g p.2).bind fun q => some (p.1 :: q.1, q.2)
theorem paf_nil : PA X [] (tA X.K dNil) := PA.imp pa_nil fun σ H Q ⟨F, β, st, d, st', r, e1, q⟩ => by
  cases e1
  exact q _ _ _ (AOk.refl r)
theorem paf_cons (ha : PE X e (tF X.K f)) (hr : PA X es (tA X.K ga)) (hs : starEach (e :: es) X.env = (false, eval e X.env) :: starEach es X.env := by rfl) : PA X (e :: es) (tA X.K (dCons f ga)) :=
  PA.imp (pa_cons ha hr hs) fun σ H Q ⟨F, β, st, d, st', r, e1, q⟩ => by
    obtain ⟨p, h1, e2⟩ := bind_some e1
    obtain ⟨p2, h2, e3⟩ := bind_some e2
    cases e3
    refine ⟨F, β, st, p.1, p.2, r, h1, fun F1 H1 v1 k1 => ⟨F1, β, p.2, p2.1, p2.2, k1.rel, h2, fun F2 H2 vs k2 => q F2 H2 _ ?_⟩⟩
    have := k1.b.trans k2.b
    exact ⟨this.rel, this.stp, this.sub, .cons (Rp.mono k2.stp.mono k1.res) k2.res⟩
def dTup (g : DA) : DF := fun st => (g st).bind fun p => if p.1.length ≤ 16777216 then some (.tuple p.1, p.2) else none
def dLst (g : DA) : DE := fun st => (g st).bind fun p => if p.1.length ≤ 16777216 then some (.own none (.list p.1), p.2) else none
theorem pf_tup {k} (h : PA X es (tA X.K ga)) : PE X (.Tuple es k pos) (tF X.K (dTup ga)) := PE.imp (PE.or (pe_tup h) (pe_tupF h)) fun σ H Q ⟨F, β, st, d, st', r, e1, q⟩ => by
  obtain ⟨p, h1, e2⟩ := bind_some e1
  obtain ⟨hz, e3⟩ := ite_some e2
  cases e3
  cases hk : keyL p.1 with
  | true =>
    refine .inl ⟨F, β, st, p.1, p.2, r, h1, fun F1 H1 vs k1 => ⟨by rw [k1.res.length, ← big_eq]; exact hz, ?_⟩⟩
    rcases tup_mk k1.rel.le k1.res (fun F' H' v g z => q F' H' v ((k1.b.grow g).toD z)) with z | z
    · exact z.2
    · rw [hk] at z; cases z.1
  | false =>
    refine .inr ⟨F, β, st, p.1, p.2, r, h1, fun F1 H1 vs k1 => ⟨by rw [k1.res.length, ← big_eq]; exact hz, ?_⟩⟩
    rcases tup_mk k1.rel.le k1.res (fun F' H' v g z => q F' H' v ((k1.b.grow g).toD z)) with z | z
    · rw [hk] at z; cases z.1
    · exact z.2
/-- a new object that is the result's own -/
theorem own_new {K : Fg} {F H F1 H1 : Hp} {β : Nat → Option Addr} {st st1 : DSt} {σ : L2.St} {x : Addr} {o : HO} {c : D} (k1 : BOk K F H β st σ F1 H1 st1) (hx : H1 x = none) (hc : ORp K F1 o c) : EOk K F H β st σ F1 (upd H1 x o) st1 (.ref x) (.own none c) := by
  have nF : F1 x = none := k1.rel.le.free hx
  have sm : Same H1 (upd H1 x o) := fun b u z => by rw [upd_ne (ne_of_none z hx)]; exact z
  refine ⟨⟨k1.rel.le.trans sm, k1.rel.len, fun i s z => ?_, k1.rel.ne⟩, ⟨k1.stp.mono, fun b u z1 z2 z3 => ?_⟩, k1.sub, ⟨x, o, rfl, nF, upd_same, hc, fun j z => nomatch z⟩, fun t c' b z1 z2 => ?_⟩
  · obtain ⟨v, e1, q1⟩ := k1.rel.slot i s z
    refine ⟨v, e1, ?_⟩
    cases s with
    | val d => exact q1
    | own t c =>
      obtain ⟨a2, o2, rfl, f2, h2, q2, b2⟩ := q1
      exact ⟨a2, o2, rfl, f2, sm _ _ h2, q2, b2⟩
  · obtain ⟨h, f⟩ := k1.stp.keep b u z1 z2 z3
    exact ⟨sm _ _ h, f⟩
  · cases z1; cases z2
    refine ⟨rfl, fun z => ?_, ?_⟩
    · obtain ⟨o2, h2, _⟩ := k1.rel.ownH z
      rw [hx] at h2; cases h2
    · exact k1.stp.fresh k1.rel.le hx
theorem pd_lst (h : PA X es (tA X.K ga)) : PE X (.List es pos) (tD X.K (dLst ga)) := PE.imp (pe_lst h) fun σ H Q ⟨F, β, st, d, st', r, e1, q⟩ => by
  obtain ⟨p, h1, e2⟩ := bind_some e1
  obtain ⟨hz, e3⟩ := ite_some e2
  cases e3
  refine ⟨F, β, st, p.1, p.2, r, h1, fun F1 H1 vs k1 => ⟨by rw [k1.res.length, ← big_eq]; exact hz, fun x hx => ?_⟩⟩
  exact q _ _ _ (own_new k1.b hx (.lst k1.res))

/-! ### operators by values -/
def rD (K : Fg) (op : D → D → Option D) : R2 := fun x y H Q => ∃ F a b c, Same F H ∧ Rp K F x a ∧ Rp K F y b ∧ op a b = some c ∧ ∀ F' H' v, Grow F H F' H' → Rp K F' v c → Q v H'
def OpD (X : Cx) (f : Value → Value → Sem Value) (op : D → D → Option D) : Prop := OpR X f (rD X.K op)
def dBin (op : D → D → Option D) (f g : DF) : DF := fun st => (f st).bind fun p => (g p.2).bind fun q => (op p.1 q.1).bind fun c => some (c, q.2)
theorem bin_to {K : Fg} {op : D → D → Option D} {f g : DF} {σ : L2.St} {H : Hp} {Q : VK} (h : tF K (dBin op f g) σ H Q) : tOp (rD K op) (tF K f) (tF K g) σ H Q := by
  obtain ⟨F, β, st, d, st', r, e1, q⟩ := h
  obtain ⟨p, h1, e2⟩ := bind_some e1
  obtain ⟨p2, h2, e3⟩ := bind_some e2
  obtain ⟨c, h3, e4⟩ := bind_some e3
  cases e4
  refine ⟨F, β, st, p.1, p.2, r, h1, fun F1 H1 v1 k1 => ⟨F1, β, p.2, p2.1, p2.2, k1.rel, h2, fun F2 H2 v2 k2 => ?_⟩⟩
  exact ⟨F2, p.1, p2.1, d, k2.rel.le, Rp.mono k2.stp.mono k1.res, k2.res, h3, fun F3 H3 v3 g3 q3 => q _ _ _ (((k1.b.trans k2.b).grow g3).toD q3)⟩
theorem pf_bin {o : Operator} {op : D → D → Option D} (ho : OpD X (binaryOp o) op) (ha : PE X a (tF X.K f)) (hb : PE X b (tF X.K g)) : PE X (.BinOp a o b pos) (tF X.K (dBin op f g)) :=
  PE.imp (pe_op ho ha hb) fun σ H Q h => bin_to h

/-! ### comparisons -/
def liftB (op : D → D → Option Bool) : D → D → Option D := fun a b => (op a b).bind fun k => some (.bool k)
def dCmp (op : D → D → Option Bool) (f g : DF) : DF := dBin (liftB op) f g
def dCmpT (op : D → D → Option Bool) (f g : DF) : DB := fun st => (f st).bind fun p => (g p.2).bind fun q => (op p.1 q.1).bind fun c => some (c, q.2)
theorem pf_cmp {o : CmpOp} {op : D → D → Option Bool} (ho : OpD X (compareOp o) (liftB op)) (ha : PE X a (tF X.K f)) (hb : PE X b (tF X.K g)) (hm : behindInMarks o b = false := by first | exact nomark _ | rfl) : PE X (.Compare a [o] [b] pos) (tF X.K (dCmp op f g)) :=
  PE.imp (pe_cmpR ho ha hb hm) fun σ H Q h => bin_to h
theorem Rp.bool {K : Fg} {F : Hp} {v : V} {k : Bool} (h : Rp K F v (.bool k)) : v = .bl k := by
  cases h with
  | bl b => rfl
  | obj h q => cases q
theorem Rp.int_eq {K : Fg} {F : Hp} {v : V} {k : Int} (h : Rp K F v (.int k)) : v = .int k := by
  cases h with
  | int b => rfl
  | obj h q => cases q
theorem Rp.str_eq {K : Fg} {F : Hp} {v : V} {k : Str} (h : Rp K F v (.str k)) : v = .str k ∧ okS k := by
  cases h with
  | str b => exact ⟨rfl, b⟩
  | obj h q => cases q
theorem Rp.none_eq {K : Fg} {F : Hp} {v : V} (h : Rp K F v .none) : v = .non := by
  cases h with
  | non => rfl
  | obj h q => cases q
theorem Rp.list_inv {K : Fg} {F : Hp} {v : V} {xs : List D} (h : Rp K F v (.list xs)) : ∃ a vs, v = .ref a ∧ SqL K F a vs ∧ RpAll K F vs xs := by
  cases h with
  | obj h q => cases q with | lst q => exact ⟨_, _, rfl, .inl h, q⟩
  | kl h q => exact ⟨_, _, rfl, h, q⟩
theorem Rp.tup_inv {K : Fg} {F : Hp} {v : V} {xs : List D} (h : Rp K F v (.tuple xs)) : ∃ a vs, v = .ref a ∧ SqT K F a vs ∧ RpAll K F vs xs := by
  cases h with
  | tup h q => exact ⟨_, _, rfl, h.sq, q⟩
  | obj h q => cases q
theorem Rp.tup_inv' {K : Fg} {F : Hp} {v : V} {xs : List D} (h : Rp K F v (.tuple xs)) : ∃ a vs, v = .ref a ∧ TupAt F a vs xs ∧ RpAll K F vs xs := by
  cases h with
  | tup h q => exact ⟨_, _, rfl, h, q⟩
  | obj h q => cases q
theorem pt_cmp' {o : CmpOp} {op : D → D → Option Bool} (ho : OpD X (compareOp o) (liftB op)) (ha : PE X a (tF X.K f)) (hb : PE X b (tF X.K g)) (hm : behindInMarks o b = false := by first | exact nomark _ | rfl) : PT X (.Compare a [o] [b] pos) (tT X.K (dCmpT op f g)) :=
  PT.imp (pt_cmpR ho ha hb hm) fun σ H Q h => by
    obtain ⟨F, β, st, d, st', r, e1, q⟩ := h
    obtain ⟨p, h1, e2⟩ := bind_some e1
    obtain ⟨p2, h2, e3⟩ := bind_some e2
    obtain ⟨c, h3, e4⟩ := bind_some e3
    cases e4
    refine ⟨F, β, st, p.1, p.2, r, h1, fun F1 H1 v1 k1 => ⟨F1, β, p.2, p2.1, p2.2, k1.rel, h2, fun F2 H2 v2 k2 => ?_⟩⟩
    refine ⟨F2, p.1, p2.1, .bool d, k2.rel.le, Rp.mono k2.stp.mono k1.res, k2.res, by unfold liftB; rw [h3]; rfl, fun F3 H3 v3 g3 q3 => ⟨d, q3.bool, q _ _ ((k1.b.trans k2.b).grow g3)⟩⟩

/-! ### truth -/
def dTru : D → Option Bool
  | .none => some false
  | .bool b => some b
  | .int i => some (i != 0)
  | .str x => some (x.length != 0)
  | .list xs => some (!xs.isEmpty)
  | .tuple xs => some (!xs.isEmpty)
  | .dict _ => none
theorem isEmpty_rp {K : Fg} {F : Hp} {vs : List V} {ds : List D} (h : RpAll K F vs ds) : vs.isEmpty = ds.isEmpty := by
  cases h <;> rfl
theorem truV_of {K : Fg} {F H : Hp} {v : V} {d : D} {k : Bool} (l : Same F H) (h : Rp K F v d) (e : dTru d = some k) : TruV K v H k := by
  cases d with
  | none => rw [h.none_eq]; cases e; rfl
  | bool b => rw [h.bool]; cases e; rfl
  | int i => rw [h.int_eq]; cases e; rfl
  | str x =>
    obtain ⟨rfl, hz⟩ := h.str_eq
    cases e
    refine ⟨by rw [← big_eq]; exact hz.2, ?_⟩
    rw [Bool.eq_iff_iff]
    simp
  | list xs =>
    obtain ⟨a, vs, rfl, h1, h2⟩ := h.list_inv
    cases e
    exact .inl ⟨vs, l.seq h1, by rw [isEmpty_rp h2]⟩
  | tuple xs =>
    obtain ⟨a, vs, rfl, h1, h2⟩ := h.tup_inv
    cases e
    exact .inr (.inl ⟨vs, SqT.mono l h1, by rw [isEmpty_rp h2]⟩)
  | dict es => cases e
def dTest (f : DF) : DB := fun st => (f st).bind fun p => (dTru p.1).bind fun k => some (k, p.2)
theorem pt_tru (ha : PE X a (tF X.K f)) (he : ∀ whole, isTrue a X.env whole = (do let v ← whole; standAt a.pos; holding [v] (truthy v)) := by intro _; rfl) : PT X a (tT X.K (dTest f)) :=
  PT.imp (pt_truth ha he) fun σ H Q h => by
    obtain ⟨F, β, st, d, st', r, e1, q⟩ := h
    obtain ⟨p, h1, e2⟩ := bind_some e1
    obtain ⟨k, h2, e3⟩ := bind_some e2
    cases e3
    exact ⟨F, β, st, p.1, p.2, r, h1, fun F1 H1 v1 k1 => ⟨d, truV_of k1.rel.le k1.res h2, q _ _ k1.b⟩⟩

/-! ### and, or, not; conditional expressions -/
variable {c : Expr} {rest : List Expr} {t u : DB}
def dAnd (t u : DB) : DB := fun st => (t st).bind fun p => if p.1 = true then u p.2 else some (false, p.2)
def dOr (t u : DB) : DB := fun st => (t st).bind fun p => if p.1 = true then some (true, p.2) else u p.2
def dNot (t : DB) : DB := fun st => (t st).bind fun p => some (!p.1, p.2)
theorem wand1 (ha : PT X a (tT X.K t)) : PW X (.BoolOp .And [a] pos) (tT X.K t) := pw_and1 ha
theorem wor1 (ha : PT X a (tT X.K t)) : PW X (.BoolOp .Or [a] pos) (tT X.K t) := pw_or1 ha
theorem wand (ha : PT X a (tT X.K t)) (hb : PW X (.BoolOp .And (b :: rest) pos) (tT X.K u)) : PW X (.BoolOp .And (a :: b :: rest) pos) (tT X.K (dAnd t u)) :=
  PW.imp (pw_and ha hb) fun σ H Q h => by
    obtain ⟨F, β, st, d, st', r, e1, q⟩ := h
    obtain ⟨p, h1, e2⟩ := bind_some e1
    refine ⟨F, β, st, p.1, p.2, r, h1, fun F1 H1 k1 => ?_⟩
    show ite _ _ _
    split
    · rename_i hp
      rw [if_pos hp] at e2
      exact ⟨F1, β, p.2, d, st', k1.rel, e2, fun F2 H2 k2 => q _ _ (k1.trans k2)⟩
    · rename_i hp
      rw [if_neg hp] at e2
      cases e2
      exact q _ _ k1
theorem wor (ha : PT X a (tT X.K t)) (hb : PW X (.BoolOp .Or (b :: rest) pos) (tT X.K u)) : PW X (.BoolOp .Or (a :: b :: rest) pos) (tT X.K (dOr t u)) :=
  PW.imp (pw_or ha hb) fun σ H Q h => by
    obtain ⟨F, β, st, d, st', r, e1, q⟩ := h
    obtain ⟨p, h1, e2⟩ := bind_some e1
    refine ⟨F, β, st, p.1, p.2, r, h1, fun F1 H1 k1 => ?_⟩
    show ite _ _ _
    split
    · rename_i hp
      rw [if_pos hp] at e2
      cases e2
      exact q _ _ k1
    · rename_i hp
      rw [if_neg hp] at e2
      exact ⟨F1, β, p.2, d, st', k1.rel, e2, fun F2 H2 k2 => q _ _ (k1.trans k2)⟩
theorem pt_not' (ha : PT X a (tT X.K t)) : PT X (.UnaryOp .Not a pos) (tT X.K (dNot t)) := PT.imp (pt_not ha) fun σ H Q h => by
  obtain ⟨F, β, st, d, st', r, e1, q⟩ := h
  obtain ⟨p, h1, e2⟩ := bind_some e1
  cases e2
  exact ⟨F, β, st, p.1, p.2, r, h1, fun F1 H1 k1 => q _ _ k1⟩
/-- as values -/
def dAndV (f g : DF) : DF := fun st => (f st).bind fun p => (dTru p.1).bind fun k => if k = true then g p.2 else some (p.1, p.2)
def dOrV (f g : DF) : DF := fun st => (f st).bind fun p => (dTru p.1).bind fun k => if k = true then some (p.1, p.2) else g p.2
def dNotV (f : DF) : DF := fun st => (f st).bind fun p => (dTru p.1).bind fun k => some (.bool (!k), p.2)
theorem pf_one {op} {pos : Pos} (h : PE X a (tF X.K f)) : PE X (.BoolOp op [a] pos) (tF X.K f) := pe_one h
theorem pf_and (ha : PE X a (tF X.K f)) (hb : PE X (.BoolOp .And (b :: rest) pos) (tF X.K g)) : PE X (.BoolOp .And (a :: b :: rest) pos) (tF X.K (dAndV f g)) :=
  PE.imp (pe_andT ha hb) fun σ H Q h => by
    obtain ⟨F, β, st, d, st', r, e1, q⟩ := h
    obtain ⟨p, h1, e2⟩ := bind_some e1
    obtain ⟨k, h2, e3⟩ := bind_some e2
    refine ⟨F, β, st, p.1, p.2, r, h1, fun F1 H1 v1 k1 => ⟨k, truV_of k1.rel.le k1.res h2, ?_⟩⟩
    split
    · rename_i hp
      rw [if_pos hp] at e3
      exact ⟨F1, β, p.2, d, st', k1.rel, e3, fun F2 H2 v2 k2 => q _ _ _ (k1.b.thenD k2)⟩
    · rename_i hp
      rw [if_neg hp] at e3
      cases e3
      exact q _ _ _ k1
theorem pf_or (ha : PE X a (tF X.K f)) (hb : PE X (.BoolOp .Or (b :: rest) pos) (tF X.K g)) : PE X (.BoolOp .Or (a :: b :: rest) pos) (tF X.K (dOrV f g)) :=
  PE.imp (pe_orT ha hb) fun σ H Q h => by
    obtain ⟨F, β, st, d, st', r, e1, q⟩ := h
    obtain ⟨p, h1, e2⟩ := bind_some e1
    obtain ⟨k, h2, e3⟩ := bind_some e2
    refine ⟨F, β, st, p.1, p.2, r, h1, fun F1 H1 v1 k1 => ⟨k, truV_of k1.rel.le k1.res h2, ?_⟩⟩
    split
    · rename_i hp
      rw [if_pos hp] at e3
      cases e3
      exact q _ _ _ k1
    · rename_i hp
      rw [if_neg hp] at e3
      exact ⟨F1, β, p.2, d, st', k1.rel, e3, fun F2 H2 v2 k2 => q _ _ _ (k1.b.thenD k2)⟩
theorem pf_not (ha : PE X a (tF X.K f)) : PE X (.UnaryOp .Not a pos) (tF X.K (dNotV f)) := PE.imp (pe_notT ha) fun σ H Q h => by
  obtain ⟨F, β, st, d, st', r, e1, q⟩ := h
  obtain ⟨p, h1, e2⟩ := bind_some e1
  obtain ⟨k, h2, e3⟩ := bind_some e2
  cases e3
  exact ⟨F, β, st, p.1, p.2, r, h1, fun F1 H1 v1 k1 => ⟨k, truV_of k1.rel.le k1.res h2, q _ _ _ (k1.b.toD (.bl _))⟩⟩
def dIfE (t : DB) (f g : DF) : DF := fun st => (t st).bind fun p => if p.1 = true then f p.2 else g p.2
theorem pf_if {c : Expr} (hc : PT X c (tT X.K t)) (ha : PE X a (tF X.K f)) (hb : PE X b (tF X.K g)) : PE X (.IfExp c a b pos) (tF X.K (dIfE t f g)) := PE.imp (pe_ifExp hc ha hb) fun σ H Q h => by
  obtain ⟨F, β, st, d, st', r, e1, q⟩ := h
  obtain ⟨p, h1, e2⟩ := bind_some e1
  refine ⟨F, β, st, p.1, p.2, r, h1, fun F1 H1 k1 => ?_⟩
  show ite _ _ _
  split
  · rename_i hp
    rw [if_pos hp] at e2
    exact ⟨F1, β, p.2, d, st', k1.rel, e2, fun F2 H2 v2 k2 => q _ _ _ (k1.thenD k2)⟩
  · rename_i hp
    rw [if_neg hp] at e2
    exact ⟨F1, β, p.2, d, st', k1.rel, e2, fun F2 H2 v2 k2 => q _ _ _ (k1.thenD k2)⟩
end
end DL

/-! DL3: operators on data -/
namespace DL
open PySem PySem.Spec PyProof.Rows L2

mutual
/-- no dict in it -/
def plain : D → Bool
  | .none => true
  | .bool _ => true
  | .int _ => true
  | .str _ => true
  | .list xs => plainAll xs
  | .tuple xs => plainAll xs
  | .dict _ => false
def plainAll : List D → Bool
  | [] => true
  | x :: xs => plain x && plainAll xs
end
mutual
theorem Rp.dp {K : Fg} {F : Hp} : ∀ (d : D) (v : V), plain d = true → Rp K F v d → Dp K F v d ∧ d.canLay0 = true
  | .none, _, _, h => by rw [h.none_eq]; exact ⟨.non, rfl⟩
  | .bool b, _, _, h => by rw [h.bool]; exact ⟨.bl b, rfl⟩
  | .int i, _, _, h => by rw [h.int_eq]; exact ⟨.int i, rfl⟩
  | .str x, _, _, h => by
    obtain ⟨rfl, z⟩ := h.str_eq
    exact ⟨.str x, by rw [PyData.canLay0]; exact z.1⟩
  | .list ds, _, p, h => by
    obtain ⟨a, vs, rfl, h1, h2⟩ := h.list_inv
    rw [plain] at p
    obtain ⟨q1, q2⟩ := RpAll.dp ds vs p h2
    exact ⟨.lst h1 q1, by rw [PyData.canLay0]; exact q2⟩
  | .tuple ds, _, p, h => by
    obtain ⟨a, vs, rfl, h1, h2⟩ := h.tup_inv
    rw [plain] at p
    obtain ⟨q1, q2⟩ := RpAll.dp ds vs p h2
    exact ⟨.tup h1 q1, by rw [PyData.canLay0]; exact q2⟩
  | .dict _, _, p, _ => by rw [plain] at p; cases p
theorem RpAll.dp {K : Fg} {F : Hp} : ∀ (ds : List D) (vs : List V), plainAll ds = true → RpAll K F vs ds → DpAll K F vs ds ∧ PyData.canLayAll0 ds = true
  | [], _, _, h => by cases h; exact ⟨.nil, rfl⟩
  | d :: ds, _, p, h => by
    cases h with
    | cons h1 h2 =>
      rw [plainAll, Bool.and_eq_true] at p
      obtain ⟨a1, a2⟩ := Rp.dp d _ p.1 h1
      obtain ⟨b1, b2⟩ := RpAll.dp ds _ p.2 h2
      exact ⟨.cons a1 b1, by rw [PyData.canLayAll0, a2, b2]; rfl⟩
end
mutual
theorem dp_mono {K : Fg} {F H : Hp} (m : Same F H) : ∀ {v : V} {d : D}, Dp K F v d → Dp K H v d
  | _, _, .non => .non
  | _, _, .bl b => .bl b
  | _, _, .int b => .int b
  | _, _, .str b => .str b
  | _, _, .tup h q => .tup (SqT.mono m h) (dpAll_mono m q)
  | _, _, .lst h q => .lst (m.seq h) (dpAll_mono m q)
theorem dpAll_mono {K : Fg} {F H : Hp} (m : Same F H) : ∀ {vs : List V} {ds : List D}, DpAll K F vs ds → DpAll K H vs ds
  | _, _, .nil => .nil
  | _, _, .cons h q => .cons (dp_mono m h) (dpAll_mono m q)
end
/-- ready to be compared -/
def cmpOk (a : D) : Bool := plain a && decide (a.depth ≤ 60)
theorem rd_reads {X : Cx} {pins : List (Addr × Obj)} {s : Shared} {σ : L2.St} {F H : Hp} {v : V} {u : Value} {d : D} (I : Inv X pins σ H s) (l : Same F H) (h : Rp X.K F v d) (r : RelV v u) (c : cmpOk d = true) : ∃ as, Reads s.heap u d as ∧ d.canLay0 = true ∧ d.depth ≤ 60 := by
  unfold cmpOk at c
  rw [Bool.and_eq_true] at c
  obtain ⟨q1, q2⟩ := Rp.dp d v c.1 h
  obtain ⟨as, q3⟩ := Dp.reads I d v u (dp_mono l q1) r
  exact ⟨as, q3, q2, of_decide_eq_true c.2⟩

section
variable {X : Cx}
theorem OpD.imp {f : Value → Value → Sem Value} {r : R2} {op : D → D → Option D} (h : OpR X f r) (w : ∀ x y H Q, rD X.K op x y H Q → r x y H Q) : OpD X f op := fun pins s σ H x y v u Q I rx ry q => h pins s σ H x y v u Q I rx ry (w x y H Q q)
theorem OpR.case {f : Value → Value → Sem Value} {r : R2} (h : ∀ x y H Q, r x y H Q → ∃ r', OpR X f r' ∧ r' x y H Q) : OpR X f r := fun pins s σ H x y v u Q I rx ry q => let ⟨_, a, b⟩ := h x y H Q q; a pins s σ H x y v u Q I rx ry b

/-! ### + -/
def dAdd : D → D → Option D
  | .int a, .int b => some (.int (a + b))
  | .str a, .str b => if a.length + b.length ≤ 16777216 then some (.str (a ++ b)) else none
  | .list a, .list b => if a.length + b.length ≤ 16777216 then some (.list (a ++ b)) else none
  | .tuple a, .tuple b => if a.length + b.length ≤ 16777216 then some (.tuple (a ++ b)) else none
  | .int a, .bool b => some (.int (a + b2i b))
  | _, _ => none
theorem okS_append {a b : Str} (h : okS a) (h' : okS b) (hl : a.length + b.length ≤ 16777216) : okS (a ++ b) := by
  refine ⟨?_, ?_⟩
  · have h1 := h.1
    have h2 := h'.1
    unfold PyData.strOk at *
    have e : (a ++ b).cps = a.cps ++ b.cps := rfl
    rw [e, Array.all_append, h1, h2]
    rfl
  · have e : (a ++ b).length = a.length + b.length := by
      show (a.cps ++ b.cps).size = _
      rw [Array.size_append]
      rfl
    rw [e]; exact hl
/-- lists by what may be read -/
def rCatR (K : Fg) : R2 := fun x y H Q => ∃ l b xs zs, x = .ref l ∧ y = .ref b ∧ SqL K H l xs ∧ SqL K H b zs ∧ xs.length + zs.length ≤ sizeLine ∧ ∀ p, H p = none → Q (.ref p) (upd H p (.lst (xs ++ zs)))
theorem op_catR : OpR X (binaryOp .Add) (rCatR X.K) := fun pins s σ H x y v u Q I rx ry h => by
  obtain ⟨l, b, xs, zs, e1, e2, h1, h2, hz, q⟩ := h
  subst e1 e2
  cases rx
  cases ry
  obtain ⟨i1, r1, p1, k1⟩ := I.list h1
  obtain ⟨i2, r2, p2, k2⟩ := I.list h2
  have c1 := r1.length
  have c2 := r2.length
  obtain ⟨⟨t1, d1, b1, l1⟩, m1, y1, y2, y3, y4⟩ := p1
  obtain ⟨⟨t2, d2, b2, l2⟩, m2, x1, x2, x3, x4⟩ := p2
  simp only at y2 y3 y4 x2 x3 x4
  subst y2 y3 y4 x2 x3 x4
  refine concat_meets ⟨_, y1, rfl⟩ ⟨_, x1, rfl⟩ noFill_list_add seq_list_add PySem.F.slot_list_add PySem.F.entry_list_add (PySem.F.args_list_add_2 _ _) (PyProof.Rows.list_addW l b i1.toArray i2.toArray m1 m2 none none l1 l2 (by simp only [List.size_toArray]; omega)) ⟨y1, x1, ?_⟩
  rw [show i1.toArray ++ i2.toArray = (i1 ++ i2).toArray by simp]
  exact ⟨.ref _, _, I.lnew (t' := s.toks) (r1.append r2) (by simp only [List.length_append]; omega), rfl, q _ I.fresh⟩
theorem oAdd : OpD X (binaryOp .Add) dAdd := OpR.case fun x y H Q ⟨F, a, b, c, l, ha, hb, e, q⟩ => by
  unfold dAdd at e
  split at e
  · cases e
    exact ⟨_, op_add, _, _, ha.int_eq, hb.int_eq, q _ _ _ (Grow.refl l) (.int _)⟩
  · obtain ⟨hz, rfl⟩ := ite_some e
    obtain ⟨e1, o1⟩ := ha.str_eq
    obtain ⟨e2, o2⟩ := hb.str_eq
    exact ⟨_, op_add_str, _, _, e1, e2, by rw [← big_eq]; exact hz, q _ _ _ (Grow.refl l) (.str (okS_append o1 o2 hz))⟩
  · obtain ⟨hz, rfl⟩ := ite_some e
    obtain ⟨a1, vs, rfl, h1, h2⟩ := ha.list_inv
    obtain ⟨a2, ws, rfl, h3, h4⟩ := hb.list_inv
    refine ⟨_, op_catR, _, _, vs, ws, rfl, rfl, l.seq h1, l.seq h3, by rw [← big_eq, h2.length, h4.length]; exact hz, fun p hp => ?_⟩
    have g := Grow.laid (o := .lst (vs ++ ws)) l hp
    exact q _ _ _ g (.obj (.inl upd_same) (.lst ((RpAll.mono g.mono h2).append (RpAll.mono g.mono h4))))
  · obtain ⟨hz, rfl⟩ := ite_some e
    obtain ⟨a1, vs, rfl, h1, h2⟩ := ha.tup_inv
    obtain ⟨a2, ws, rfl, h3, h4⟩ := hb.tup_inv
    have hl : vs.length + ws.length ≤ sizeLine := by rw [← big_eq, h2.length, h4.length]; exact hz
    by_cases z1 : vs = []
    · subst z1
      cases h2
      exact ⟨_, op_catA, _, _, [], ws, rfl, rfl, SqT.mono l h1, SqT.mono l h3, hl, fun _ => q _ _ _ (Grow.refl l) hb, fun n => absurd rfl n, fun n => absurd rfl n⟩
    · by_cases z2 : ws = []
      · subst z2
        cases h4
        rw [List.append_nil] at q
        exact ⟨_, op_catA, _, _, vs, [], rfl, rfl, SqT.mono l h1, SqT.mono l h3, hl, fun n => absurd n z1, fun _ _ => q _ _ _ (Grow.refl l) ha, fun _ n => absurd rfl n⟩
      · rcases tup_mk l (h2.append h4) q with z | z
        · exact ⟨_, op_catA, _, _, vs, ws, rfl, rfl, SqT.mono l h1, SqT.mono l h3, hl, fun n => absurd n z1, fun _ n => absurd n z2, fun _ _ => z.2⟩
        · exact ⟨_, op_catF, _, _, vs, ws, rfl, rfl, SqT.mono l h1, SqT.mono l h3, z1, z2, hl, z.2⟩
  · cases e
    exact ⟨_, op_add_ib, _, _, ha.int_eq, hb.bool, q _ _ _ (Grow.refl l) (.int _)⟩
  · cases e

/-! ### -, *, //, %, ** -/
def dSub : D → D → Option D
  | .int a, .int b => some (.int (a - b))
  | _, _ => none
theorem oSub : OpD X (binaryOp .Sub) dSub := OpR.case fun x y H Q ⟨F, a, b, c, l, ha, hb, e, q⟩ => by
  unfold dSub at e
  split at e
  · cases e
    exact ⟨_, op_sub, _, _, ha.int_eq, hb.int_eq, q _ _ _ (Grow.refl l) (.int _)⟩
  · cases e
def repS (x : Str) (n : Nat) : Str := ⟨(List.replicate n x.cps.toList).flatten.toArray⟩
def mulOk (a b : Int) : Prop := (-(2 ^ 64) < a ∧ a < 2 ^ 64) ∨ (-(2 ^ 64) < b ∧ b < 2 ^ 64) ∨ (a.natAbs.log2 + b.natAbs.log2 < 1000000)
noncomputable instance (a b : Int) : Decidable (mulOk a b) := Classical.propDecidable _
noncomputable def dMul : D → D → Option D
  | .int a, .int b => if mulOk a b then some (.int (a * b)) else none
  | .str x, .int n => if 0 ≤ n ∧ n < 1000 ∧ x.length < 10000 then some (.str (repS x n.toNat)) else none
  | _, _ => none
theorem foldl_cps (x : Array Nat) : ∀ (n : Nat) (acc : Array Nat), ((List.replicate n x).foldl (· ++ ·) acc) = acc ++ (List.replicate n x.toList).flatten.toArray
  | 0, acc => by simp
  | n + 1, acc => by
    rw [List.replicate_succ, List.foldl_cons, foldl_cps x n, List.replicate_succ, List.flatten_cons]
    apply Array.toList_inj.mp
    simp
theorem repS_len {x : Str} {n : Nat} (hn : n < 1000) (hl : x.length < 10000) : (repS x n).length ≤ 16777216 := by
  show (List.replicate n x.cps.toList).flatten.toArray.size ≤ _
  have e : (List.replicate n x.cps.toList).flatten.length = n * x.cps.toList.length := by simp
  have e2 : x.cps.toList.length = x.length := rfl
  rw [List.size_toArray, e, e2]
  have := Nat.mul_le_mul (Nat.le_of_lt hn) (Nat.le_of_lt hl)
  omega
theorem okS_rep {x : Str} (h : okS x) {n : Nat} (hn : n < 1000) (hl : x.length < 10000) : okS (repS x n) := by
  refine ⟨?_, ?_⟩
  · have h1 := h.1
    unfold PyData.strOk repS at *
    rw [← Array.all_toList, List.all_eq_true] at *
    intro c hc
    simp only [List.mem_flatten, List.mem_replicate] at hc
    obtain ⟨l, ⟨_, rfl⟩, hc⟩ := hc
    exact h1 c hc
  · exact repS_len hn hl
def rMulS : R2 := fun x y H Q => ∃ a n, x = .str a ∧ y = .int n ∧ (0 ≤ n ∧ n < 1000 ∧ a.length < 10000) ∧ Q (.str (repS a n.toNat)) H
theorem op_mulS : OpR X (binaryOp .Mult) rMulS := fun pins s σ H x y v u Q I rx ry h => by
  obtain ⟨a, n, rfl, rfl, ⟨h0, h1, h2⟩, q⟩ := h
  obtain ⟨t, rfl⟩ := rx
  obtain ⟨t', rfl⟩ := ry
  have eqr : (⟨(List.replicate n.toNat a.cps).foldl (· ++ ·) #[]⟩ : Str) = repS a n.toNat := by
    unfold repS
    rw [foldl_cps]
    simp
  refine PySem.P.mul_str (by rw [decide_eq_false (by omega), decide_eq_false (by omega)]; rfl) (fun z _ z2 => ?_) (fun z _ => ?_) ?_
  · have : (2 ^ 63 - 1 : Int) / n ≥ 10000 := by
      apply Int.le_ediv_of_mul_le (by omega)
      omega
    omega
  · have e1 : a.length * n.toNat ≤ 10000 * 1000 := Nat.mul_le_mul (by omega) (by omega)
    unfold Builtin.Str.tooLong
    simp
    rw [sizeLine_eq]
    omega
  · by_cases c1 : n < 1
    · rw [if_pos c1]
      have z : n.toNat = 0 := by omega
      have q0 : Q (.str Str.empty) H := by rw [z] at q; exact q
      exact ⟨by decide, .str Str.empty, H, I.tok _, ⟨_, rfl⟩, q0⟩
    · rw [if_neg c1]
      by_cases c2 : (n == 1 || a.length == 0) = true
      · rw [if_pos c2]
        have z : repS a n.toNat = a := by
          unfold repS
          rw [Bool.or_eq_true, beq_iff_eq, beq_iff_eq] at c2
          rcases c2 with c2 | c2
          · subst c2
            simp
          · have c3 : a.cps = #[] := Array.eq_empty_of_size_eq_zero c2
            cases a
            simp only at c3
            subst c3
            simp
        exact ⟨.str _, H, I, ⟨t, by rw [z]⟩, q⟩
      · rw [if_neg c2, eqr]
        exact ⟨by rw [← big_eq]; exact repS_len (by omega) h2, .str (repS a n.toNat), H, I.tok _, ⟨_, rfl⟩, q⟩
theorem oMul : OpD X (binaryOp .Mult) dMul := OpR.case fun x y H Q ⟨F, a, b, c, l, ha, hb, e, q⟩ => by
  unfold dMul at e
  split at e
  · rename_i i j
    obtain ⟨hz, rfl⟩ := ite_some e
    by_cases h1 : CMul i j
    · exact ⟨_, op_mul, _, _, ha.int_eq, hb.int_eq, h1, q _ _ _ (Grow.refl l) (.int _)⟩
    · refine ⟨_, op_mulW, _, _, ha.int_eq, hb.int_eq, ?_, q _ _ _ (Grow.refl l) (.int _)⟩
      rcases hz with hz | hz | hz
      · exact absurd (.inl hz) h1
      · exact absurd (.inr hz) h1
      · exact hz
  · obtain ⟨hz, rfl⟩ := ite_some e
    obtain ⟨e1, o1⟩ := ha.str_eq
    exact ⟨_, op_mulS, _, _, e1, hb.int_eq, hz, q _ _ _ (Grow.refl l) (.str (okS_rep o1 (by omega) hz.2.2))⟩
  · cases e
end
end DL

/-! DL4: more operators, comparisons, subscripts -/
namespace DL
open PySem PySem.Spec PyProof.Rows L2
section
variable {X : Cx}
noncomputable def dDiv : D → D → Option D
  | .int a, .int b => @ite _ (0 < b ∧ b < 1073741824) (Classical.propDecidable _) (some (.int (a / b))) none
  | _, _ => none
noncomputable def dMod : D → D → Option D
  | .int a, .int b => @ite _ (0 < b) (Classical.propDecidable _) (some (.int (a % b))) none
  | _, _ => none
noncomputable def dPow : D → D → Option D
  | .int a, .int b => @ite _ (0 ≤ b ∧ b ≤ 1000000 ∧ a.natAbs < 2 ^ 64) (Classical.propDecidable _) (some (.int (a ^ b.toNat))) none
  | _, _ => none
theorem oDiv : OpD X (binaryOp .FloorDiv) dDiv := OpR.case fun x y H Q ⟨F, a, b, c, l, ha, hb, e, q⟩ => by
  unfold dDiv at e
  split at e
  · obtain ⟨hz, rfl⟩ := ite_some e
    exact ⟨_, op_fdiv, _, _, ha.int_eq, hb.int_eq, hz, q _ _ _ (Grow.refl l) (.int _)⟩
  · cases e
theorem oMod : OpD X (binaryOp .Mod) dMod := OpR.case fun x y H Q ⟨F, a, b, c, l, ha, hb, e, q⟩ => by
  unfold dMod at e
  split at e
  · obtain ⟨hz, rfl⟩ := ite_some e
    exact ⟨_, op_mod, _, _, ha.int_eq, hb.int_eq, hz, q _ _ _ (Grow.refl l) (.int _)⟩
  · cases e
theorem oPow : OpD X (binaryOp .Pow) dPow := OpR.case fun x y H Q ⟨F, a, b, c, l, ha, hb, e, q⟩ => by
  unfold dPow at e
  split at e
  · obtain ⟨hz, rfl⟩ := ite_some e
    exact ⟨_, op_pow, _, _, ha.int_eq, hb.int_eq, hz, q _ _ _ (Grow.refl l) (.int _)⟩
  · cases e
def dNeg : D → Option D
  | .int a => some (.int (-a))
  | _ => none
def dUn (op : D → Option D) (f : DF) : DF := fun st => (f st).bind fun p => (op p.1).bind fun c => some (c, p.2)
theorem pf_neg {a : Expr} {f : DF} {pos : Pos} (ha : PE X a (tF X.K f)) : PE X (.UnaryOp .USub a pos) (tF X.K (dUn dNeg f)) := PE.imp (pe_un un_neg ha) fun σ H Q ⟨F, β, st, d, st', r, e1, q⟩ => by
  obtain ⟨p, h1, e2⟩ := bind_some e1
  obtain ⟨c, h2, e3⟩ := bind_some e2
  cases e3
  refine ⟨F, β, st, p.1, p.2, r, h1, fun F1 H1 v1 k1 => ?_⟩
  have k2 := k1.res
  revert h2 k2
  generalize p.1 = d'
  intro h2 k2
  unfold dNeg at h2
  split at h2
  · cases h2
    exact ⟨_, k2.int_eq, q _ _ _ (k1.b.toD (.int _))⟩
  · cases h2

/-! ### == and != -/
def eqD (a b : D) : Option Bool := if cmpOk a = true ∧ cmpOk b = true then some (PyData.eqv a b) else none
def neD (a b : D) : Option Bool := if cmpOk a = true ∧ cmpOk b = true then some (!PyData.eqv a b) else none
theorem liftB_inv {op : D → D → Option Bool} {a b c : D} (h : liftB op a b = some c) : ∃ k, op a b = some k ∧ c = .bool k := by
  unfold liftB at h
  obtain ⟨k, h1, h2⟩ := bind_some h
  cases h2
  exact ⟨k, h1, rfl⟩
theorem oEq (hu : X.A.units + 64 < cLine) : OpD X (compareOp .Eq) (liftB eqD) := fun pins s σ H x y v u Q I rx ry ⟨F, a, b, c, l, ha, hb, e, q⟩ => by
  obtain ⟨k, h1, rfl⟩ := liftB_inv e
  unfold eqD at h1
  obtain ⟨hz, rfl⟩ := ite_some h1
  obtain ⟨as, r1, y1, d1⟩ := rd_reads I l ha rx hz.1
  obtain ⟨bs, r2, y2, d2⟩ := rd_reads I l hb ry hz.2
  have s1 : SeqAt.shaped a = true := by unfold SeqAt.shaped; rw [y1, decide_eq_true (by omega)]; rfl
  have s2 : SeqAt.shaped b = true := by unfold SeqAt.shaped; rw [y2, decide_eq_true (by omega)]; rfl
  exact SeqAt.compareEq_shaped r1 r2 s1 s2 hu ⟨.bl _, H, I, rfl, q _ _ _ (Grow.refl l) (.bl _)⟩
theorem oNe (hu : X.A.units + 64 < cLine) : OpD X (compareOp .NotEq) (liftB neD) := fun pins s σ H x y v u Q I rx ry ⟨F, a, b, c, l, ha, hb, e, q⟩ => by
  obtain ⟨k, h1, rfl⟩ := liftB_inv e
  unfold neD at h1
  obtain ⟨hz, rfl⟩ := ite_some h1
  obtain ⟨as, r1, y1, d1⟩ := rd_reads I l ha rx hz.1
  obtain ⟨bs, r2, y2, d2⟩ := rd_reads I l hb ry hz.2
  have s1 : SeqAt.shaped a = true := by unfold SeqAt.shaped; rw [y1, decide_eq_true (by omega)]; rfl
  have s2 : SeqAt.shaped b = true := by unfold SeqAt.shaped; rw [y2, decide_eq_true (by omega)]; rfl
  exact SeqAt.compareNe_shaped r1 r2 s1 s2 hu ⟨.bl _, H, I, rfl, q _ _ _ (Grow.refl l) (.bl _)⟩

/-! ### is None -/
def isNoneD : D → Bool
  | .none => true
  | _ => false
def isN : D → D → Option Bool
  | a, .none => some (isNoneD a)
  | _, _ => none
def isNN : D → D → Option Bool
  | a, .none => some (!isNoneD a)
  | _, _ => none
theorem isN_val {K : Fg} {F : Hp} {v : V} {a : D} (h : Rp K F v a) : decide (v = .non) = isNoneD a := by
  cases h with
  | obj h q => cases q <;> rfl
  | kl h q => rfl
  | _ => rfl
theorem oIs : OpD X (compareOp .Is) (liftB isN) := OpR.case fun x y H Q ⟨F, a, b, c, l, ha, hb, e, q⟩ => by
  obtain ⟨k, h1, rfl⟩ := liftB_inv e
  unfold isN at h1
  split at h1
  · cases h1
    refine ⟨_, op_isN, hb.none_eq, ?_⟩
    rw [isN_val ha]
    exact q _ _ _ (Grow.refl l) (.bl _)
  · cases h1
theorem oIsNot : OpD X (compareOp .IsNot) (liftB isNN) := OpR.case fun x y H Q ⟨F, a, b, c, l, ha, hb, e, q⟩ => by
  obtain ⟨k, h1, rfl⟩ := liftB_inv e
  unfold isNN at h1
  split at h1
  · cases h1
    refine ⟨_, op_notN, hb.none_eq, ?_⟩
    rw [isN_val ha]
    exact q _ _ _ (Grow.refl l) (.bl _)
  · cases h1

/-! ### <, <=, >, >= -/
open PySem.W in
/-- o says: Lt, LtE, Gt, GtE -/
theorem dec_cl' {c : Prop} [i : Decidable c] : @decide c (Classical.propDecidable c) = decide c := by
  have : Classical.propDecidable c = i := Subsingleton.elim _ _
  rw [this]
noncomputable def ordI (o : CmpOp) (i j : Int) : Bool := match o with
  | .Lt => @decide (i < j) (Classical.propDecidable _) | .LtE => @decide (i ≤ j) (Classical.propDecidable _) | .Gt => @decide (j < i) (Classical.propDecidable _) | .GtE => @decide (j ≤ i) (Classical.propDecidable _) | _ => false
def ordS (o : CmpOp) (x y : List Nat) : Bool := match o with
  | .Lt => decide (x < y) | .LtE => !decide (y < x) | .Gt => decide (y < x) | .GtE => !decide (x < y) | _ => false
def ordN (o : CmpOp) (i j : Nat) : Bool := match o with
  | .Lt => decide (i < j) | .LtE => decide (i ≤ j) | .Gt => decide (j < i) | .GtE => decide (j ≤ i) | _ => false
mutual
noncomputable def ordV (o : CmpOp) : D → D → Bool
  | .int i, .int j => ordI o i j
  | .str x, .str y => ordS o x.cps.toList y.cps.toList
  | .tuple xs, .tuple ys => ordAllV o xs ys
  | _, _ => false
noncomputable def ordAllV (o : CmpOp) : List D → List D → Bool
  | [], [] => ordN o 0 0
  | [], _ :: _ => ordN o 0 1
  | _ :: _, [] => ordN o 1 0
  | x :: xs, y :: ys => if PyData.eqv x y = true then ordAllV o xs ys else ordV o x y
end
mutual
/-- can be compared by < and its like: ints, texts, tuples of such place by place -/
def ordOk : D → D → Bool
  | .int _, .int _ => true
  | .str _, .str _ => true
  | .tuple xs, .tuple ys => ordOkAll xs ys
  | _, _ => false
def ordOkAll : List D → List D → Bool
  | x :: xs, y :: ys => ordOk x y && ordOkAll xs ys
  | _, _ => true
end
noncomputable def ordD (o : CmpOp) (a b : D) : Option Bool := if cmpOk a = true ∧ cmpOk b = true ∧ ordOk a b = true then some (ordV o a b) else none
abbrev isOrd (o : CmpOp) : Prop := o = .Lt ∨ o = .LtE ∨ o = .Gt ∨ o = .GtE
theorem lexAt_ord {o : CmpOp} : ∀ (xs ys : List D) (e r : Nat → Bool) (i : Nat), (∀ j, j < min xs.length ys.length → e (i + j) = PyData.eqv (xs.getD j .none) (ys.getD j .none)) → (∀ j, j < min xs.length ys.length → r (i + j) = ordV o (xs.getD j .none) (ys.getD j .none)) → isOrd o →
    Ob.lexAt e r (ordN o xs.length ys.length) i (min xs.length ys.length) = ordAllV o xs ys
  | [], [], e, r, i, h1, h2, _ => by simp [Ob.lexAt, ordAllV]
  | [], y :: ys, e, r, i, h1, h2, ho => by
    simp only [List.length_nil, Nat.zero_min, Ob.lexAt, ordAllV]
    rcases ho with rfl | rfl | rfl | rfl <;> simp [ordN]
  | x :: xs, [], e, r, i, h1, h2, ho => by
    simp only [List.length_nil, Nat.min_zero, Ob.lexAt, ordAllV]
    rcases ho with rfl | rfl | rfl | rfl <;> simp [ordN]
  | x :: xs, y :: ys, e, r, i, h1, h2, ho => by
    have em : min (x :: xs).length (y :: ys).length = min xs.length ys.length + 1 := by simp only [List.length_cons]; omega
    have en : ordN o (x :: xs).length (y :: ys).length = ordN o xs.length ys.length := by
      rcases ho with rfl | rfl | rfl | rfl <;> simp [ordN]
    rw [em, en, Ob.lexAt_succ]
    have z1 := h1 0 (by omega)
    have z2 := h2 0 (by omega)
    simp only [Nat.add_zero, List.getD_cons_zero] at z1 z2
    rw [z1, z2, ordAllV]
    have ih := lexAt_ord xs ys e r (i + 1) (fun j hj => by
      have := h1 (j + 1) (by omega)
      rw [List.getD_cons_succ, List.getD_cons_succ] at this
      rw [← this]; congr 1; omega) (fun j hj => by
      have := h2 (j + 1) (by omega)
      rw [List.getD_cons_succ, List.getD_cons_succ] at this
      rw [← this]; congr 1; omega) ho
    rw [ih]
theorem ordOkAll_at : ∀ (xs ys : List D) (j : Nat), ordOkAll xs ys = true → j < min xs.length ys.length → ordOk (xs.getD j .none) (ys.getD j .none) = true
  | [], _, j, _, h => by simp at h
  | _ :: _, [], j, _, h => by simp at h
  | x :: xs, y :: ys, 0, h, _ => by
    rw [ordOkAll, Bool.and_eq_true] at h
    exact h.1
  | x :: xs, y :: ys, j + 1, h, hj => by
    rw [ordOkAll, Bool.and_eq_true] at h
    rw [List.getD_cons_succ, List.getD_cons_succ]
    exact ordOkAll_at xs ys j h.2 (by simp only [List.length_cons] at hj; omega)
theorem readsAll_at {h : Heap} : ∀ (xs : List D) (vs : List Value) (as : List Addr) (j : Nat), ReadsAll h vs xs as → j < xs.length → ∃ v as', vs[j]? = some v ∧ Reads h v (xs.getD j .none) as'
  | [], _, _, j, _, h => by simp at h
  | x :: xs, _, _, 0, r, _ => by
    cases r with
    | cons r1 r2 => exact ⟨_, _, rfl, r1⟩
  | x :: xs, _, _, j + 1, r, hj => by
    cases r with
    | cons r1 r2 =>
      obtain ⟨v, as', e1, e2⟩ := readsAll_at xs _ _ j r2 (by simpa using hj)
      exact ⟨v, as', by simpa using e1, by rw [List.getD_cons_succ]; exact e2⟩
theorem depthAll_at : ∀ (xs : List D) (j : Nat), (xs.getD j .none).depth ≤ PyData.depthAll xs
  | [], j => by simp [PyData.depth]
  | x :: xs, 0 => by rw [List.getD_cons_zero, PyData.depthAll]; exact Nat.le_max_left _ _
  | x :: xs, j + 1 => by
    rw [List.getD_cons_succ, PyData.depthAll]
    exact Nat.le_trans (depthAll_at xs j) (Nat.le_max_right _ _)
theorem layAll_at : ∀ (xs : List D) (j : Nat), PyData.canLayAll0 xs = true → (xs.getD j .none).canLay0 = true
  | [], j, _ => by simp [PyData.canLay0]
  | x :: xs, 0, h => by
    rw [PyData.canLayAll0, Bool.and_eq_true] at h
    exact h.1
  | x :: xs, j + 1, h => by
    rw [PyData.canLayAll0, Bool.and_eq_true] at h
    rw [List.getD_cons_succ]
    exact layAll_at xs j h.2
theorem rcOp_tuples {o : CmpOp} (ho : isOrd o) {A : Around} {s : Shared} {l b : Addr} {items items2 : Array Value} {e r : Nat → Bool} (hl : s.heap.IsTuple l items) (hb : s.heap.IsTuple b items2) (hu : A.units < cLine)
    (he : ∀ j (h1 : j < items.size) (h2 : j < items2.size), SeqAt.EqAt A.in1 s items[j] items2[j] (e j)) (hr : ∀ j (h1 : j < items.size) (h2 : j < items2.size), e j = false → Ob.RcOp o A.in1 s items[j] items2[j] (r j)) :
    Ob.RcOp o A s (.ref l) (.ref b) (Ob.lexAt e r (ordN o items.size items2.size) 0 (min items.size items2.size)) := by
  rcases ho with rfl | rfl | rfl | rfl
  · exact Ob.RcOp.tuples_lt hl hb hu he hr
  · exact Ob.RcOp.tuples_le hl hb hu he hr
  · exact Ob.RcOp.tuples_gt hl hb hu he hr
  · exact Ob.RcOp.tuples_ge hl hb hu he hr
theorem rcOp_ord {o : CmpOp} (ho : isOrd o) : ∀ (n : Nat) (a b : D) (A : Around) (s : Shared) (v u : Value) (as bs : List Addr), a.depth ≤ n → Reads s.heap v a as → Reads s.heap u b bs → a.canLay0 = true → b.canLay0 = true → ordOk a b = true → A.units + n < cLine → Ob.RcOp o A s v u (ordV o a b) := by
  intro n
  induction n with
  | zero =>
    intro a b A s v u as bs hd ra rb la lb k hu
    cases a with
    | int i =>
      cases b with
      | int j =>
        cases ra; cases rb
        rcases ho with rfl | rfl | rfl | rfl
        · rw [show ordV .Lt (.int i) (.int j) = _ from dec_cl']
          exact Ob.RcOp.lt_int _ _ _ _
        · rw [show ordV .LtE (.int i) (.int j) = _ from dec_cl']
          exact Ob.RcOp.le_int _ _ _ _
        · rw [show ordV .Gt (.int i) (.int j) = _ from dec_cl']
          exact Ob.RcOp.gt_int _ _ _ _
        · rw [show ordV .GtE (.int i) (.int j) = _ from dec_cl']
          exact Ob.RcOp.ge_int _ _ _ _
      | _ => simp [ordOk] at k
    | str x =>
      cases b with
      | str y =>
        cases ra; cases rb
        intro prog w E Q h
        rcases ho with rfl | rfl | rfl | rfl
        · exact lt_str h
        · exact PySem.P.le_str h
        · exact PySem.P.gt_str h
        · exact PySem.P.ge_str h
      | _ => simp [ordOk] at k
    | tuple xs => simp [PyData.depth] at hd
    | _ => simp [ordOk] at k
  | succ n ih =>
    intro a b A s v u as bs hd ra rb la lb k hu
    cases a with
    | int i =>
      cases b with
      | int j =>
        cases ra; cases rb
        rcases ho with rfl | rfl | rfl | rfl
        · rw [show ordV .Lt (.int i) (.int j) = _ from dec_cl']
          exact Ob.RcOp.lt_int _ _ _ _
        · rw [show ordV .LtE (.int i) (.int j) = _ from dec_cl']
          exact Ob.RcOp.le_int _ _ _ _
        · rw [show ordV .Gt (.int i) (.int j) = _ from dec_cl']
          exact Ob.RcOp.gt_int _ _ _ _
        · rw [show ordV .GtE (.int i) (.int j) = _ from dec_cl']
          exact Ob.RcOp.ge_int _ _ _ _
      | _ => simp [ordOk] at k
    | str x =>
      cases b with
      | str y =>
        cases ra; cases rb
        intro prog w E Q h
        rcases ho with rfl | rfl | rfl | rfl
        · exact lt_str h
        · exact PySem.P.le_str h
        · exact PySem.P.gt_str h
        · exact PySem.P.ge_str h
      | _ => simp [ordOk] at k
    | tuple xs =>
      cases b with
      | tuple ys =>
        rw [ordOk] at k
        rw [PyData.canLay0] at la lb
        rw [PyData.depth] at hd
        cases ra with
        | @tuple l o1 vs m1 _ as1 h1 h2 h3 h4 =>
          cases rb with
          | @tuple l' o2 ws m2 _ bs1 g1 g2 g3 g4 =>
            have n1 : vs.size = xs.length := by simpa using SeqAt.ReadsAll.length _ _ _ h4
            have n2 : ws.size = ys.length := by simpa using SeqAt.ReadsAll.length _ _ _ g4
            have key := rcOp_tuples (o := o) ho (A := A) (s := s) (l := l) (b := l') (items := vs) (items2 := ws) (e := fun j => PyData.eqv (xs.getD j .none) (ys.getD j .none)) (r := fun j => ordV o (xs.getD j .none) (ys.getD j .none))
              ⟨_, h1, h2, _, h3⟩ ⟨_, g1, g2, _, g3⟩ (by omega) (fun j j1 j2 => by
                obtain ⟨v1, c1, e1, r1⟩ := readsAll_at xs _ _ j h4 (by omega)
                obtain ⟨v2, c2, e2, r2⟩ := readsAll_at ys _ _ j g4 (by omega)
                have e1' : vs[j] = v1 := by simpa [j1] using e1
                have e2' : ws[j] = v2 := by simpa [j2] using e2
                rw [e1', e2']
                have hde := depthAll_at xs j
                refine SeqAt.eqAt_reads _ _ A.in1 s _ _ _ _ r1 r2 (layAll_at xs j la) (layAll_at ys j lb) ?_
                have := Nat.min_le_left (xs.getD j .none).depth (ys.getD j .none).depth
                show A.units + 1 + _ < cLine
                omega) (fun j j1 j2 _ => by
                obtain ⟨v1, c1, e1, r1⟩ := readsAll_at xs _ _ j h4 (by omega)
                obtain ⟨v2, c2, e2, r2⟩ := readsAll_at ys _ _ j g4 (by omega)
                have e1' : vs[j] = v1 := by simpa [j1] using e1
                have e2' : ws[j] = v2 := by simpa [j2] using e2
                rw [e1', e2']
                have hde := depthAll_at xs j
                exact ih _ _ A.in1 s _ _ _ _ (by omega) r1 r2 (layAll_at xs j la) (layAll_at ys j lb) (ordOkAll_at xs ys j k (by omega)) (by show A.units + 1 + n < cLine; omega))
            rw [n1, n2, lexAt_ord xs ys _ _ 0 (fun j _ => by simp) (fun j _ => by simp) ho] at key
            rw [ordV]
            exact key
      | _ => simp [ordOk] at k
    | _ => simp [ordOk] at k
theorem oOrd {o : CmpOp} (ho : isOrd o) (hu : X.A.units + 64 < cLine) : OpD X (compareOp o) (liftB (ordD o)) := fun pins s σ H x y v u Q I rx ry ⟨F, a, b, c, l, ha, hb, e, q⟩ => by
  obtain ⟨k, h1, rfl⟩ := liftB_inv e
  unfold ordD at h1
  obtain ⟨hz, rfl⟩ := ite_some h1
  obtain ⟨as, r1, y1, d1⟩ := rd_reads I l ha rx hz.1
  obtain ⟨bs, r2, y2, d2⟩ := rd_reads I l hb ry hz.2.1
  have := rcOp_ord ho 60 a b X.A s v u as bs d1 r1 r2 y1 y2 hz.2.2 (by omega) X.prog X.w X.xe (EP X pins σ Q) ⟨.bl _, H, I, rfl, q _ _ _ (Grow.refl l) (.bl _)⟩
  rcases ho with rfl | rfl | rfl | rfl <;> exact this

/-! ### in, not in -/
def inD : D → D → Option Bool
  | a, .list xs => if cmpOk a = true ∧ cmpOk (.list xs) = true then some (xs.any fun y => PyData.eqv y a) else none
  | a, .tuple xs => if cmpOk a = true ∧ cmpOk (.tuple xs) = true then some (xs.any fun y => PyData.eqv y a) else none
  | .str x, .str y => some (!(Builtin.Str.occurrences y x 0 y.length 1).isEmpty)
  | _, _ => none
def ninD (a b : D) : Option Bool := (inD a b).map not
theorem cmp_room {a b : D} {n : Nat} (h : a.depth ≤ 60) (hu : n + 65 < cLine) : n + 1 + min b.depth a.depth < cLine := by
  have := Nat.min_le_right b.depth a.depth
  omega
theorem cmp_roomA {a : D} {b n m : Nat} (h : a.depth ≤ 60) (hu : n + 66 < cLine) : n + 1 + min b a.depth < cLine := by
  have := Nat.min_le_right b a.depth
  omega
theorem oIn (hu : X.A.units + 66 < cLine) : OpD X (compareOp .In) (liftB inD) := fun pins s σ H x y v u Q I rx ry ⟨F, a, b, c, l, ha, hb, e, q⟩ => by
  obtain ⟨k, h1, rfl⟩ := liftB_inv e
  unfold inD at h1
  split at h1
  · obtain ⟨hz, rfl⟩ := ite_some h1
    obtain ⟨as, r1, y1, d1⟩ := rd_reads I l ha rx hz.1
    obtain ⟨bs, r2, y2, d2⟩ := rd_reads I l hb ry hz.2
    exact SeqAt.in_list_reads r2 r1 y2 y1 (cmp_roomA (m := 0) d1 hu) ⟨.bl _, H, I, rfl, q _ _ _ (Grow.refl l) (.bl _)⟩
  · obtain ⟨hz, rfl⟩ := ite_some h1
    obtain ⟨as, r1, y1, d1⟩ := rd_reads I l ha rx hz.1
    obtain ⟨bs, r2, y2, d2⟩ := rd_reads I l hb ry hz.2
    exact SeqAt.in_tuple_reads r2 r1 y2 y1 (cmp_roomA (m := 0) d1 hu) ⟨.bl _, H, I, rfl, q _ _ _ (Grow.refl l) (.bl _)⟩
  · cases h1
    exact op_in_str pins s σ H _ _ v u Q I rx ry ⟨_, _, ha.str_eq.1, hb.str_eq.1, q _ _ _ (Grow.refl l) (.bl _)⟩
  · cases h1
theorem oNotIn (hu : X.A.units + 66 < cLine) : OpD X (compareOp .NotIn) (liftB ninD) := fun pins s σ H x y v u Q I rx ry ⟨F, a, b, c, l, ha, hb, e, q⟩ => by
  obtain ⟨k, h1, rfl⟩ := liftB_inv e
  unfold ninD inD at h1
  split at h1
  · by_cases hz : cmpOk a = true ∧ cmpOk (.list ‹_›) = true
    · rw [if_pos hz] at h1
      cases h1
      obtain ⟨as, r1, y1, d1⟩ := rd_reads I l ha rx hz.1
      obtain ⟨bs, r2, y2, d2⟩ := rd_reads I l hb ry hz.2
      exact SeqAt.notIn_list_reads r2 r1 y2 y1 (cmp_roomA (m := 0) d1 hu) ⟨.bl _, H, I, rfl, q _ _ _ (Grow.refl l) (.bl _)⟩
    · rw [if_neg hz] at h1; cases h1
  · by_cases hz : cmpOk a = true ∧ cmpOk (.tuple ‹_›) = true
    · rw [if_pos hz] at h1
      cases h1
      obtain ⟨as, r1, y1, d1⟩ := rd_reads I l ha rx hz.1
      obtain ⟨bs, r2, y2, d2⟩ := rd_reads I l hb ry hz.2
      exact SeqAt.notIn_tuple_reads r2 r1 y2 y1 (cmp_roomA (m := 0) d1 hu) ⟨.bl _, H, I, rfl, q _ _ _ (Grow.refl l) (.bl _)⟩
    · rw [if_neg hz] at h1; cases h1
  · cases h1
    exact op_notin_str pins s σ H _ _ v u Q I rx ry ⟨_, _, ha.str_eq.1, hb.str_eq.1, q _ _ _ (Grow.refl l) (.bl _)⟩
  · cases h1
end
end DL

/-! DL5: subscripts, slices, calls of built-ins -/
namespace DL
open PySem PySem.Spec PyProof.Rows L2
section
variable {K : Fg} {F H F' H' : Hp} {β : Nat → Option Addr} {st st' : DSt} {σ σ' : L2.St} {v w : V} {a : Addr} {d : D}
theorem tF_mono {f : DF} {Q Q' : VK} (h : tF K f σ H Q) (w : ∀ v H', Q v H' → Q' v H') : tF K f σ H Q' :=
  let ⟨F, β, st, d, st', r, e, q⟩ := h; ⟨F, β, st, d, st', r, e, fun F' H' v k => w _ _ (q F' H' v k)⟩
theorem tOp_mono {r r' : R2} {f g : DF} {Q : VK} (h : tOp r (tF K f) (tF K g) σ H Q) (w : ∀ x y H Q, r x y H Q → r' x y H Q) : tOp r' (tF K f) (tF K g) σ H Q :=
  tF_mono h fun _ _ h2 => tF_mono h2 fun _ _ h3 => w _ _ _ _ h3
/-- what stands in a slot, not taken -/
def peek (st : DSt) (i : Nat) : Option D := match st[i]? with
  | some (some s) => some s.frz
  | _ => none
/-- an item of what the slot holds -/
theorem StRel.peek_at {i : Nat} {c : D} (r : StRel K F H β st σ) (e : peek st i = some c) : ∃ v, σ[i]? = some (some v) ∧ Rp K H v c ∧ (Rp K F v c ∨ ∃ a o, v = .ref a ∧ H a = some o ∧ ORp K F o c) := by
  unfold peek at e
  split at e
  · rename_i s z
    cases e
    obtain ⟨v, e1, q⟩ := r.slot i s z
    refine ⟨v, e1, ?_⟩
    cases s with
    | val d => exact ⟨Rp.mono r.le q, .inl q⟩
    | own t c =>
      obtain ⟨a, o, rfl, f, hh, q, _⟩ := q
      exact ⟨.obj (.inl hh) (ORp.mono r.le q), .inr ⟨a, o, rfl, hh, q⟩⟩
  · cases e
end
theorem atI_rp {K : Fg} {F : Hp} {vs : List V} {xs : List D} {i : Int} {d : D} (h : RpAll K F vs xs) (e : atI xs i = some d) : ∃ v, atI vs i = some v ∧ Rp K F v d := by
  unfold atI at *
  rw [h.length]
  cases q : ixN xs.length i with
  | none => rw [q] at e; cases e
  | some j =>
    rw [q] at e
    obtain ⟨v, e1, e2⟩ := h.get (i := j) e
    exact ⟨v, e1, e2⟩
theorem okS_one {x : Str} {c : Nat} (h : okS x) (hc : c ∈ x.cps.toList) : okS ⟨#[c]⟩ := by
  have h1 := h.1
  unfold PyData.strOk at h1
  rw [← Array.all_toList, List.all_eq_true] at h1
  refine ⟨?_, by show (#[c] : Array Nat).size ≤ _; simp⟩
  unfold PyData.strOk
  simp only [List.all_toArray, List.all_cons, List.all_nil, Bool.and_true]
  exact h1 c hc
theorem atI_mem {α : Type} {xs : List α} {i : Int} {c : α} (e : atI xs i = some c) : c ∈ xs := by
  unfold atI at e
  cases q : ixN xs.length i with
  | none => rw [q] at e; cases e
  | some j => rw [q] at e; exact List.mem_of_getElem? e
def ixD : D → D → Option D
  | .list xs, .int i => atI xs i
  | .tuple xs, .int i => atI xs i
  | .str x, .int i => (atI x.cps.toList i).bind fun c => some (.str ⟨#[c]⟩)
  | _, _ => none
def cutD {α : Type} (xs : List α) (lo hi : Option Int) : List α := (xs.drop (HT.sIx xs.length 0 lo)).take (HT.sIx xs.length xs.length hi - HT.sIx xs.length 0 lo)
def slD : D → Option Int → Option Int → Option D
  | .list xs, lo, hi => some (.list (cutD xs lo hi))
  | .tuple xs, lo, hi => some (.tuple (cutD xs lo hi))
  | .str x, lo, hi => some (.str (cutS x lo hi))
  | _, _, _ => none
theorem cut_rp {K : Fg} {F : Hp} {vs : List V} {xs : List D} {lo hi : Option Int} (h : RpAll K F vs xs) : RpAll K F (cutV vs lo hi) (cutD xs lo hi) := by
  unfold cutV cutD
  rw [h.length]
  exact (h.drop _).take _
theorem okS_cut {x : Str} {lo hi : Option Int} (h : okS x) : okS (cutS x lo hi) := by
  refine ⟨?_, Nat.le_trans (cutS_length x lo hi) h.2⟩
  have h1 := h.1
  unfold PyData.strOk at *
  unfold cutS
  rw [← Array.all_toList, List.all_eq_true] at *
  intro c hc
  refine h1 c ?_
  have : c ∈ ((x.cps.toList.drop (HT.sIx x.length 0 lo)).take (HT.sIx x.length x.length hi - HT.sIx x.length 0 lo)) := by simpa using hc
  exact List.mem_of_mem_drop (List.mem_of_mem_take this)

section
variable {X : Cx} {e a b o : Expr} {es : List Expr} {f g : DF} {ga : DA} {pos p2 : Pos}
theorem ix_rule {K : Fg} {x y : V} {H : Hp} {Q : VK} (h : rD K ixD x y H Q) : rIx K x y H Q := by
  obtain ⟨F, a, b, c, l, ha, hb, e, q⟩ := h
  unfold ixD at e
  split at e
  · obtain ⟨p, vs, rfl, h1, h2⟩ := ha.list_inv
    obtain ⟨v, e1, e2⟩ := atI_rp h2 e
    exact .inl ⟨p, vs, _, v, rfl, hb.int_eq, l.seq h1, e1, q _ _ _ (Grow.refl l) e2⟩
  · obtain ⟨p, vs, rfl, h1, h2⟩ := ha.tup_inv
    obtain ⟨v, e1, e2⟩ := atI_rp h2 e
    exact .inr (.inl ⟨p, vs, _, v, rfl, hb.int_eq, SqT.mono l h1, e1, q _ _ _ (Grow.refl l) e2⟩)
  · obtain ⟨z, e1, e2⟩ := bind_some e
    cases e2
    obtain ⟨h1, h2⟩ := ha.str_eq
    exact .inr (.inr ⟨_, _, z, h1, hb.int_eq, by rw [← big_eq]; exact h2.2, e1, q _ _ _ (Grow.refl l) (.str (okS_one h2 (atI_mem e1)))⟩)
  · cases e
def dIx (f g : DF) : DF := dBin ixD f g
theorem pf_ix (ha : PE X a (tF X.K f)) (hb : PE X b (tF X.K g)) (hs : PlainIx b := by exact fun _ _ => rfl) : PE X (.Subscript a b pos) (tF X.K (dIx f g)) :=
  PE.imp (pe_ix ix_seq ha hb hs) fun σ H Q h => tOp_mono (bin_to h) fun _ _ _ _ => ix_rule
/-- x[e], x a name: what the slot holds is looked at, not taken -/
def dIxV (i : Nat) (g : DF) : DF := fun st => (peek st i).bind fun _ => (g st).bind fun q => (peek q.2 i).bind fun c => (ixD c q.1).bind fun r => some (r, q.2)
theorem pf_ixV (i : Nat) {x : Str} {p : Pos} (hb : PE X b (tF X.K g)) (hs : PlainIx b := by exact fun _ _ => rfl) (hN : X.N[i]? = some x := by rfl) (hv : Vis X.env.scope x := by first | exact Or.inl rfl | exact Or.inr (Or.inl rfl) | exact Or.inr (Or.inr rfl))
    (hd : (x == ("__debug__" : Str)) = false := by decide) (hcd : (x == ("__classdict__" : Str)) = false := by decide) : PE X (.Subscript (.Name x p) b pos) (tF X.K (dIxV i g)) :=
  PE.imp (pe_ix ix_seq (pe_var hN hv hd hcd) hb hs) fun σ H Q ⟨F, β, st, d, st', r, e1, q⟩ => by
    obtain ⟨c0, h0, e1⟩ := bind_some e1
    obtain ⟨k, h1, e2⟩ := bind_some e1
    obtain ⟨c, h2, e3⟩ := bind_some e2
    obtain ⟨w, h3, e4⟩ := bind_some e3
    cases e4
    unfold peek at h2
    obtain ⟨s, z, rfl⟩ : ∃ s, k.2[i]? = some (some s) ∧ s.frz = c := by
      split at h2
      · cases h2; exact ⟨_, by assumption, rfl⟩
      · cases h2
    -- the name's value is the same ahead and behind
    have key : ∀ v, σ[i]? = some (some v) → tF X.K g σ H (fun y H2 => rIx X.K v y H2 Q) := fun v hv => ⟨F, β, st, k.1, k.2, r, h1, fun F1 H1 y k1 => by
      obtain ⟨v2, e5, q5⟩ := k1.rel.slot i s z
      rw [hv] at e5
      cases e5
      cases s with
      | val d0 => exact ix_rule ⟨F1, _, _, _, k1.rel.le, q5, k1.res, h3, fun F3 H3 v3 g3 q3 => q _ _ _ ((k1.b.grow g3).toD q3)⟩
      | own t c =>
        obtain ⟨p, o, rfl, f0, hh, q6, _⟩ := q5
        have h3' : ixD c k.1 = some d := h3
        cases q6 with
        | @lst vs ds q7 =>
          have z3 := h3'
          unfold ixD at z3
          split at z3
          · rename_i xs j hx hk
            cases hx
            obtain ⟨v5, e5, e6⟩ := atI_rp q7 z3
            have h5 := k1.res
            rw [hk] at h5
            exact .inl ⟨p, vs, j, v5, rfl, h5.int_eq, .inl (.inl hh), e5, q _ _ _ (k1.b.toD e6)⟩
          · rename_i hx _; cases hx
          · rename_i hx _; cases hx
          · cases z3
        | dK q7 => unfold ixD at h3'; cases h3'
        | dT q7 => unfold ixD at h3'; cases h3'⟩
    obtain ⟨v0, hv0, _⟩ := r.peek_at h0
    exact ⟨v0, hv0, key v0 hv0⟩
/-! ### slices -/
abbrev DO := DSt → Option (Option Int × DSt)
def tO (K : Fg) (f : DO) : TO := fun σ H Q => ∃ F β st i st', StRel K F H β st σ ∧ f st = some (i, st') ∧ ∀ F' H', BOk K F H β st σ F' H' st' → Q i H'
def dNoP : DO := fun st => some (none, st)
def intOf : D → Option Int
  | .int i => some i
  | _ => none
def dPt (f : DF) : DO := fun st => (f st).bind fun p => (intOf p.1).bind fun i => some (some i, p.2)
theorem PO.imp {e : Option Expr} {t t' : TO} (h : PO X e t) (w : ∀ σ H Q, t' σ H Q → t σ H Q) : PO X e t' := ⟨fun pins s σ H Q I q => h.run pins s σ H Q I (w σ H Q q)⟩
theorem po_no : PO X none (tO X.K dNoP) := PO.imp po_none fun σ H Q ⟨F, β, st, d, st', r, e1, q⟩ => by
  cases e1
  exact q _ _ (BOk.refl r)
theorem intOf_eq {d : D} {i : Int} (h : intOf d = some i) : d = .int i := by
  cases d <;> first | (cases h; rfl) | cases h
theorem po_pt (ha : PE X a (tF X.K f)) : PO X (some a) (tO X.K (dPt f)) := PO.imp (po_some ha) fun σ H Q ⟨F, β, st, d, st', r, e1, q⟩ => by
  obtain ⟨p, h1, e2⟩ := bind_some e1
  obtain ⟨i, h2, e3⟩ := bind_some e2
  cases e3
  refine ⟨F, β, st, p.1, p.2, r, h1, fun F1 H1 v1 k1 => ?_⟩
  have k2 := k1.res
  rw [intOf_eq h2] at k2
  exact ⟨i, k2.int_eq, q _ _ k1.b⟩
theorem SlR.case {r : V → Option Int → Option Int → Hp → VK → Prop} (h : ∀ x lo hi H Q, r x lo hi H Q → ∃ r', SlR X r' ∧ r' x lo hi H Q) : SlR X r := fun pins s σ H x v vl vu lo hi sl Q I rx hs pl pu q => let ⟨_, a, b⟩ := h x lo hi H Q q; a pins s σ H x v vl vu lo hi sl Q I rx hs pl pu b
def rSl (K : Fg) : V → Option Int → Option Int → Hp → VK → Prop := fun x lo hi H Q => ∃ F a c, Same F H ∧ Rp K F x a ∧ slD a lo hi = some c ∧ ∀ F' H' v, Grow F H F' H' → Rp K F' v c → Q v H'
theorem cut_whole {α : Type} {xs : List α} {lo hi : Option Int} (h : HT.sIx xs.length 0 lo = 0 ∧ HT.sIx xs.length xs.length hi = xs.length) : cutD xs lo hi = xs := by
  unfold cutD
  rw [h.1, h.2]
  simp
theorem oSl : SlR X (rSl X.K) := SlR.case fun x lo hi H Q ⟨F, a, c, l, ha, e, q⟩ => by
  unfold slD at e
  split at e
  · cases e
    obtain ⟨p, vs, rfl, h1, h2⟩ := ha.list_inv
    refine ⟨_, sl_list, p, vs, rfl, l.seq h1, fun u hu => ?_⟩
    have g := Grow.laid (o := .lst (cutV vs lo hi)) l hu
    exact q _ _ _ g (.obj (.inl upd_same) (.lst (RpAll.mono g.mono (cut_rp h2))))
  · cases e
    obtain ⟨p, vs, rfl, h1, h2⟩ := ha.tup_inv
    by_cases w : HT.sIx vs.length 0 lo = 0 ∧ HT.sIx vs.length vs.length hi = vs.length
    · refine ⟨_, sl_tupA, p, vs, rfl, SqT.mono l h1, fun z => ?_, fun z => absurd w z⟩
      rw [h2.length] at z
      rw [cut_whole z] at q
      exact q _ _ _ (Grow.refl l) ha
    · rcases tup_mk l (cut_rp (lo := lo) (hi := hi) h2) q with z | z
      · exact ⟨_, sl_tupA, p, vs, rfl, SqT.mono l h1, fun z => absurd z w, fun _ => z.2⟩
      · exact ⟨_, sl_tupF, p, vs, rfl, SqT.mono l h1, w, z.2⟩
  · cases e
    obtain ⟨h1, h2⟩ := ha.str_eq
    exact ⟨_, sl_str, _, h1, by rw [← big_eq]; exact h2.2, q _ _ _ (Grow.refl l) (.str (okS_cut h2))⟩
  · cases e
def dSl (f : DF) (lo hi : DO) : DF := fun st => (f st).bind fun p => (lo p.2).bind fun a => (hi a.2).bind fun b => (slD p.1 a.1 b.1).bind fun c => some (c, b.2)
variable {lo hi : Option Expr} {dl dh : DO}
theorem pf_sl (he : PE X e (tF X.K f)) (hl : PO X lo (tO X.K dl)) (hh : PO X hi (tO X.K dh)) : PE X (.Subscript e (.Slice lo hi none p2) pos) (tF X.K (dSl f dl dh)) :=
  PE.imp (pe_slice oSl he hl hh) fun σ H Q ⟨F, β, st, d, st', r, e1, q⟩ => by
    obtain ⟨p, h1, e2⟩ := bind_some e1
    obtain ⟨p2, h2, e3⟩ := bind_some e2
    obtain ⟨p3, h3, e4⟩ := bind_some e3
    obtain ⟨c, h4, e5⟩ := bind_some e4
    cases e5
    refine ⟨F, β, st, p.1, p.2, r, h1, fun F1 H1 v1 k1 => ⟨F1, β, p.2, p2.1, p2.2, k1.rel, h2, fun F2 H2 k2 => ⟨F2, β, p2.2, p3.1, p3.2, k2.rel, h3, fun F3 H3 k3 => ?_⟩⟩⟩
    exact ⟨F3, p.1, d, k3.rel.le, Rp.mono k3.stp.mono (Rp.mono k2.stp.mono k1.res), h4, fun F4 H4 v4 g4 q4 => q _ _ _ ((((k1.b.trans k2).trans k3).grow g4).toD q4)⟩
/-- x[lo:hi], x a name -/
def dSlV (i : Nat) (lo hi : DO) : DF := fun st => (peek st i).bind fun _ => (lo st).bind fun a => (hi a.2).bind fun b => (peek b.2 i).bind fun x => (slD x a.1 b.1).bind fun c => some (c, b.2)
theorem pf_slV (i : Nat) {x : Str} {p : Pos} (hl : PO X lo (tO X.K dl)) (hh : PO X hi (tO X.K dh)) (hN : X.N[i]? = some x := by rfl) (hv : Vis X.env.scope x := by first | exact Or.inl rfl | exact Or.inr (Or.inl rfl) | exact Or.inr (Or.inr rfl))
    (hd : (x == ("__debug__" : Str)) = false := by decide) (hcd : (x == ("__classdict__" : Str)) = false := by decide) : PE X (.Subscript (.Name x p) (.Slice lo hi none p2) pos) (tF X.K (dSlV i dl dh)) :=
  PE.imp (pe_slice (r := fun x lo hi H Q => rSl X.K x lo hi H Q ∨ rSlL X.K x lo hi H Q) (SlR.or oSl sl_list) (pe_var hN hv hd hcd) hl hh) fun σ H Q ⟨F, β, st, d, st', r, e1, q⟩ => by
    obtain ⟨c0, h0, e1⟩ := bind_some e1
    obtain ⟨p2, h2, e3⟩ := bind_some e1
    obtain ⟨p3, h3, e4⟩ := bind_some e3
    obtain ⟨y, h5, e4⟩ := bind_some e4
    obtain ⟨c, h4, e5⟩ := bind_some e4
    cases e5
    obtain ⟨v0, hv0, _⟩ := r.peek_at h0
    refine ⟨v0, hv0, ⟨F, β, st, p2.1, p2.2, r, h2, fun F2 H2 k2 => ⟨F2, β, p2.2, p3.1, p3.2, k2.rel, h3, fun F3 H3 k3 => ?_⟩⟩⟩
    obtain ⟨v, e6, _, h7⟩ := k3.rel.peek_at h5
    rw [hv0] at e6
    cases e6
    rcases h7 with h7 | ⟨a, o, rfl, hh, h7⟩
    · exact .inl ⟨F3, y, d, k3.rel.le, h7, h4, fun F4 H4 v4 g4 q4 => q _ _ _ (((k2.trans k3).grow g4).toD q4)⟩
    · cases h7 with
      | @lst vs ds q7 =>
        cases h4
        refine .inr ⟨a, vs, rfl, .inl (.inl hh), fun u hu => ?_⟩
        have g := Grow.laid (o := .lst (cutV vs p2.1 p3.1)) k3.rel.le hu
        exact q _ _ _ (((k2.trans k3).grow g).toD (.obj (.inl upd_same) (.lst (RpAll.mono g.mono (cut_rp q7)))))
      | dK q7 => cases h4
      | dT q7 => cases h4
end
end DL

/-! DL6: calls of built-ins -/
namespace DL
open PySem PySem.Spec PyProof.Rows L2
/-- what a built-in asks and gives, by data -/
def rC (K : Fg) (op : List D → Option D) : List V → Hp → VK → Prop := fun xs H Q => ∃ F ds c, Same F H ∧ RpAll K F xs ds ∧ op ds = some c ∧ ∀ F' H' v, Grow F H F' H' → Rp K F' v c → Q v H'
/-- one that gives a new list, dict -/
def rCO (K : Fg) (op : List D → Option D) : List V → Hp → VK → Prop := fun xs H Q => ∃ F ds c, Same F H ∧ RpAll K F xs ds ∧ op ds = some c ∧ ∀ p o, H p = none → ORp K F o c → Q (.ref p) (upd H p o)
def dCallB (op : List D → Option D) (g : DA) : DF := fun st => (g st).bind fun p => (op p.1).bind fun c => some (c, p.2)
def dCallO (op : List D → Option D) (g : DA) : DE := fun st => (g st).bind fun p => (op p.1).bind fun c => some (.own none c, p.2)
section
variable {X : Cx} {e a b o : Expr} {es : List Expr} {f g : DF} {ga : DA} {pos p : Pos} {x : Str}
theorem cb_to {K : Fg} {op : List D → Option D} {σ : L2.St} {H : Hp} {Q : VK} (h : tF K (dCallB op ga) σ H Q) : tCB (rC K op) (tA K ga) σ H Q := by
  obtain ⟨F, β, st, d, st', r, e1, q⟩ := h
  obtain ⟨k, h1, e2⟩ := bind_some e1
  obtain ⟨c, h2, e3⟩ := bind_some e2
  cases e3
  exact ⟨F, β, st, k.1, k.2, r, h1, fun F1 H1 vs k1 => ⟨F1, k.1, d, k1.rel.le, k1.res, h2, fun F3 H3 v3 g3 q3 => q _ _ _ ((k1.b.grow g3).toD q3)⟩⟩
theorem co_to {K : Fg} {op : List D → Option D} {σ : L2.St} {H : Hp} {Q : VK} (h : tD K (dCallO op ga) σ H Q) : tCB (rCO K op) (tA K ga) σ H Q := by
  obtain ⟨F, β, st, d, st', r, e1, q⟩ := h
  obtain ⟨k, h1, e2⟩ := bind_some e1
  obtain ⟨c, h2, e3⟩ := bind_some e2
  cases e3
  exact ⟨F, β, st, k.1, k.2, r, h1, fun F1 H1 vs k1 => ⟨F1, k.1, c, k1.rel.le, k1.res, h2, fun p o hp ho => q _ _ _ (own_new k1.b hp ho)⟩⟩
section
variable {op : List D → Option D} {id T : String} (hg : Gl X x) (hm : X.mg x = none) (ha : PA X (e :: es) (tA X.K ga))
include hg hm ha
theorem pf_callB (hc : CallR X (.builtin id) (rC X.K op)) (hv : bootBuiltins x = some (.builtin id)) (hn : x ≠ "__name__" := by decide) (hdb : (x == ("__debug__" : Str)) = false := by decide) (he : starEach (e :: es) X.env = (false, eval e X.env) :: starEach es X.env := by rfl) (hpl : (backTo pos (starEach es X.env)).any (·.1) = false := by rfl) :
    PE X (.Call (.Name x p) (e :: es) [] pos) (tF X.K (dCallB op ga)) := PE.imp (pe_callB hc hg hm hv ha hn hdb he hpl) fun _ _ _ h => cb_to h
theorem pf_callTy (hc : CallR X (.type T) (rC X.K op)) (hv : bootBuiltins x = some (.type T)) (hn : x ≠ "__name__" := by decide) (hdb : (x == ("__debug__" : Str)) = false := by decide) (he : starEach (e :: es) X.env = (false, eval e X.env) :: starEach es X.env := by rfl) (hpl : (backTo pos (starEach es X.env)).any (·.1) = false := by rfl) :
    PE X (.Call (.Name x p) (e :: es) [] pos) (tF X.K (dCallB op ga)) := PE.imp (pe_callTy hc hg hm hv ha hn hdb he hpl) fun _ _ _ h => cb_to h
theorem pd_callB (hc : CallR X (.builtin id) (rCO X.K op)) (hv : bootBuiltins x = some (.builtin id)) (hn : x ≠ "__name__" := by decide) (hdb : (x == ("__debug__" : Str)) = false := by decide) (he : starEach (e :: es) X.env = (false, eval e X.env) :: starEach es X.env := by rfl) (hpl : (backTo pos (starEach es X.env)).any (·.1) = false := by rfl) :
    PE X (.Call (.Name x p) (e :: es) [] pos) (tD X.K (dCallO op ga)) := PE.imp (pe_callB hc hg hm hv ha hn hdb he hpl) fun _ _ _ h => co_to h
theorem pd_callTy (hc : CallR X (.type T) (rCO X.K op)) (hv : bootBuiltins x = some (.type T)) (hn : x ≠ "__name__" := by decide) (hdb : (x == ("__debug__" : Str)) = false := by decide) (he : starEach (e :: es) X.env = (false, eval e X.env) :: starEach es X.env := by rfl) (hpl : (backTo pos (starEach es X.env)).any (·.1) = false := by rfl) :
    PE X (.Call (.Name x p) (e :: es) [] pos) (tD X.K (dCallO op ga)) := PE.imp (pe_callTy hc hg hm hv ha hn hdb he hpl) fun _ _ _ h => co_to h
end
theorem CallR.case {f : Value} {r : List V → Hp → VK → Prop} (h : ∀ xs H Q, r xs H Q → ∃ r', CallR X f r' ∧ r' xs H Q) : CallR X f r := fun pins s σ H xs us Q I rr q => let ⟨_, a, b⟩ := h xs H Q q; a pins s σ H xs us Q I rr b
theorem RpAll.one_inv {K : Fg} {F : Hp} {xs : List V} {d : D} (h : RpAll K F xs [d]) : ∃ v, xs = [v] ∧ Rp K F v d := by
  cases h with
  | cons h1 h2 => cases h2; exact ⟨_, rfl, h1⟩
theorem RpAll.two_inv {K : Fg} {F : Hp} {xs : List V} {d d2 : D} (h : RpAll K F xs [d, d2]) : ∃ v w, xs = [v, w] ∧ Rp K F v d ∧ Rp K F w d2 := by
  cases h with
  | cons h1 h2 =>
    obtain ⟨w, rfl, h3⟩ := h2.one_inv
    exact ⟨_, _, rfl, h1, h3⟩

/-! len -/
def lenD : List D → Option D
  | [.list xs] => some (.int xs.length)
  | [.tuple xs] => some (.int xs.length)
  | [.str x] => some (.int x.length)
  | _ => none
theorem len_rule {K : Fg} {v : V} {H : Hp} {d c : D} (h : Rp K H v d) (e : lenD [d] = some c) : ∃ n, LenV K v H n ∧ c = .int n := by
  unfold lenD at e
  split at e
  · rename_i xs z
    cases z
    cases e
    obtain ⟨p, vs, rfl, h1, h2⟩ := h.list_inv
    exact ⟨_, .inl ⟨vs, h1, h2.length.symm⟩, rfl⟩
  · rename_i xs z
    cases z
    cases e
    obtain ⟨p, vs, rfl, h1, h2⟩ := h.tup_inv
    exact ⟨_, .inr ⟨vs, h1, h2.length.symm⟩, rfl⟩
  · rename_i xs z
    cases z
    cases e
    obtain ⟨rfl, h2⟩ := h.str_eq
    exact ⟨_, ⟨by rw [← big_eq]; exact h2.2, rfl⟩, rfl⟩
  · cases e
theorem one_arg {op : List D → Option D} (h : ∀ ds c, op ds = some c → ∃ d, ds = [d]) {ds : List D} {c : D} (e : op ds = some c) : ∃ d, ds = [d] := h ds c e
theorem cLen : CallR X (.builtin "len") (rC X.K lenD) := CallR.case fun xs H Q ⟨F, ds, c, l, ha, e, q⟩ => by
  obtain ⟨d, rfl⟩ : ∃ d, ds = [d] := by
    unfold lenD at e
    split at e <;> first | exact ⟨_, rfl⟩ | cases e
  obtain ⟨v, rfl, h1⟩ := ha.one_inv
  obtain ⟨n, h2, rfl⟩ := len_rule (Rp.mono l h1) e
  exact ⟨_, call_len, v, n, rfl, h2, q _ _ _ (Grow.refl l) (.int _)⟩
/-- len(x), x a name -/
def dLenV (i : Nat) : DF := fun st => (peek st i).bind fun c => (lenD [c]).bind fun n => some (n, st)
theorem pf_lenV (i : Nat) {y : Str} {p2 : Pos} (hg : Gl X x) (hm : X.mg x = none) (hv : bootBuiltins x = some (.builtin "len")) (hN : X.N[i]? = some y := by rfl) (hy : Vis X.env.scope y := by first | exact Or.inl rfl | exact Or.inr (Or.inl rfl) | exact Or.inr (Or.inr rfl))
    (hd : (y == ("__debug__" : Str)) = false := by decide) (hcd : (y == ("__classdict__" : Str)) = false := by decide) (hn : x ≠ "__name__" := by decide) (hdb : (x == ("__debug__" : Str)) = false := by decide)
    (he : starEach [Expr.Name y p2] X.env = (false, eval (Expr.Name y p2) X.env) :: starEach [] X.env := by rfl) (hpl : (backTo pos (starEach [] X.env)).any (·.1) = false := by rfl) :
    PE X (.Call (.Name x p) [.Name y p2] [] pos) (tF X.K (dLenV i)) :=
  PE.imp (pe_callB call_len hg hm hv (pa_cons (pe_var hN hy hd hcd) pa_nil he) hn hdb he hpl) fun σ H Q ⟨F, β, st, d, st', r, e1, q⟩ => by
    obtain ⟨c, h1, e2⟩ := bind_some e1
    obtain ⟨n, h2, e3⟩ := bind_some e2
    cases e3
    obtain ⟨v, h3, h4, _⟩ := r.peek_at h1
    obtain ⟨k, h5, rfl⟩ := len_rule h4 h2
    exact ⟨v, h3, v, k, rfl, h5, q _ _ _ (DOk.refl r (.int _))⟩

/-! abs, int, max and min of two ints, ord -/
def absD : List D → Option D
  | [.int i] => some (.int (if i < 0 then -i else i))
  | _ => none
def intD : List D → Option D
  | [.int i] => some (.int i)
  | [.bool b] => some (.int (if b = true then 1 else 0))
  | _ => none
def max2 : List D → Option D
  | [.int i, .int j] => some (.int (if j > i then j else i))
  | _ => none
def min2 : List D → Option D
  | [.int i, .int j] => some (.int (if j < i then j else i))
  | _ => none
def ordC : List D → Option D
  | [.str x] => if x.length = 1 then some (.int (x.cps.getD 0 0 : Nat)) else none
  | _ => none
theorem cAbs : CallR X (.builtin "abs") (rC X.K absD) := CallR.case fun xs H Q ⟨F, ds, c, l, ha, e, q⟩ => by
  unfold absD at e
  split at e
  · cases e
    obtain ⟨v, rfl, h1⟩ := ha.one_inv
    exact ⟨_, call_abs, _, by rw [h1.int_eq], q _ _ _ (Grow.refl l) (.int _)⟩
  · cases e
theorem cInt : CallR X (.type "int") (rC X.K intD) := CallR.case fun xs H Q ⟨F, ds, c, l, ha, e, q⟩ => by
  unfold intD at e
  split at e
  · cases e
    obtain ⟨v, rfl, h1⟩ := ha.one_inv
    exact ⟨_, call_int1, .inl ⟨_, by rw [h1.int_eq], q _ _ _ (Grow.refl l) (.int _)⟩⟩
  · cases e
    obtain ⟨v, rfl, h1⟩ := ha.one_inv
    exact ⟨_, call_int1, .inr ⟨_, by rw [h1.bool], q _ _ _ (Grow.refl l) (.int _)⟩⟩
  · cases e
theorem cMax2 (hc : X.calm = true) : CallR X (.builtin "max") (rC X.K max2) := CallR.case fun xs H Q ⟨F, ds, c, l, ha, e, q⟩ => by
  unfold max2 at e
  split at e
  · cases e
    obtain ⟨v, w, rfl, h1, h2⟩ := ha.two_inv
    exact ⟨_, call_max2 hc, _, _, by rw [h1.int_eq, h2.int_eq], q _ _ _ (Grow.refl l) (.int _)⟩
  · cases e
theorem cMin2 (hc : X.calm = true) : CallR X (.builtin "min") (rC X.K min2) := CallR.case fun xs H Q ⟨F, ds, c, l, ha, e, q⟩ => by
  unfold min2 at e
  split at e
  · cases e
    obtain ⟨v, w, rfl, h1, h2⟩ := ha.two_inv
    exact ⟨_, call_min2 hc, _, _, by rw [h1.int_eq, h2.int_eq], q _ _ _ (Grow.refl l) (.int _)⟩
  · cases e
theorem cOrd : CallR X (.builtin "ord") (rC X.K ordC) := CallR.case fun xs H Q ⟨F, ds, c, l, ha, e, q⟩ => by
  unfold ordC at e
  split at e
  · obtain ⟨hz, rfl⟩ := ite_some e
    obtain ⟨v, rfl, h1⟩ := ha.one_inv
    exact ⟨_, call_ord, _, by rw [h1.str_eq.1], hz, q _ _ _ (Grow.refl l) (.int _)⟩
  · cases e

/-! list, tuple, sorted -/
def listC : List D → Option D
  | [.list xs] => some (.list xs)
  | [.tuple xs] => some (.list xs)
  | _ => none
def tupC : List D → Option D
  | [.list xs] => some (.tuple xs)
  | [.tuple xs] => some (.tuple xs)
  | _ => none
theorem cList : CallR X (.type "list") (rCO X.K listC) := CallR.case fun xs H Q ⟨F, ds, c, l, ha, e, q⟩ => by
  unfold listC at e
  split at e
  · cases e
    obtain ⟨v, rfl, h1⟩ := ha.one_inv
    obtain ⟨p, vs, rfl, h1, h2⟩ := h1.list_inv
    exact ⟨_, call_list_of, p, vs, rfl, .inl (l.seq h1), fun u hu => q u _ hu (.lst h2)⟩
  · cases e
    obtain ⟨v, rfl, h1⟩ := ha.one_inv
    obtain ⟨p, vs, rfl, h1, h2⟩ := h1.tup_inv
    exact ⟨_, call_list_of, p, vs, rfl, .inr (SqT.mono l h1), fun u hu => q u _ hu (.lst h2)⟩
  · cases e
theorem cTup : CallR X (.type "tuple") (rC X.K tupC) := CallR.case fun xs H Q ⟨F, ds, c, l, ha, e, q⟩ => by
  unfold tupC at e
  split at e
  · cases e
    obtain ⟨v, rfl, h1⟩ := ha.one_inv
    obtain ⟨p, vs, rfl, h1, h2⟩ := h1.list_inv
    rcases tup_mk l h2 q with z | z
    · exact ⟨_, call_tuple_of, p, vs, rfl, .inl ⟨l.seq h1, z.2⟩⟩
    · exact ⟨_, call_tupF, p, vs, rfl, l.seq h1, z.2⟩
  · cases e
    obtain ⟨v, rfl, h1⟩ := ha.one_inv
    obtain ⟨p, vs, rfl, h2, h3⟩ := id h1.tup_inv
    exact ⟨_, call_tuple_of, p, vs, rfl, .inr ⟨SqT.mono l h2, q _ _ _ (Grow.refl l) h1⟩⟩
  · cases e
def isTupX : D → Bool
  | .tuple (_ :: _) => true
  | _ => false
def isFlatX : D → Bool
  | .none => false
  | .tuple _ => false
  | _ => true
def sortOk (ds : List D) : Bool := cmpOk (.list ds) && (ds.all fun a => ds.all fun b => PySem.W.alike a b) && (ds.all isTupX || ds.all isFlatX) && decide (ds.length ≤ 16777216)
def sortC : List D → Option D
  | [.list ds] => if sortOk ds = true then some (.list (ds.mergeSort (PySem.W.dataLe false fun d => d))) else none
  | _ => none
theorem each_of {X : Cx} {pins : List (Addr × Obj)} {s : Shared} {σ : L2.St} {F H : Hp} (I : Inv X pins σ H s) (l : Same F H) : ∀ {vs : List V} {ds : List D} {us : List Value}, RpAll X.K F vs ds → Vals vs us → plainAll ds = true →
    PySem.W.EachIs (fun u d => ∃ v, RelV v u ∧ Rp X.K F v d) us ds ∧ PySem.W.EachIs (fun u d => ∃ as, Reads s.heap u d as) us ds
  | _, _, _, .nil, .nil, _ => ⟨.nil, .nil⟩
  | _, _, _, .cons h1 h2, .cons r1 r2, p => by
    rw [plainAll, Bool.and_eq_true] at p
    obtain ⟨a, b⟩ := each_of I l h2 r2 p.2
    obtain ⟨as, q⟩ := Dp.reads I _ _ _ (dp_mono l (Rp.dp _ _ p.1 h1).1) r1
    exact ⟨.cons ⟨_, r1, h1⟩ a, .cons ⟨as, q⟩ b⟩
theorem of_each {K : Fg} {F : Hp} : ∀ {us : List Value} {ds : List D}, PySem.W.EachIs (fun u d => ∃ v, RelV v u ∧ Rp K F v d) us ds → ∃ vs, Vals vs us ∧ RpAll K F vs ds
  | _, _, .nil => ⟨[], .nil, .nil⟩
  | _, _, .cons ⟨v, r, h⟩ t => by
    obtain ⟨vs, a, b⟩ := of_each t
    exact ⟨v :: vs, .cons r a, .cons h b⟩
theorem depth_mem : ∀ {ds : List D} {d : D}, d ∈ ds → d.depth ≤ PyData.depthAll ds
  | x :: xs, d, h => by
    rw [PyData.depthAll]
    rcases List.mem_cons.mp h with rfl | h
    · exact Nat.le_max_left _ _
    · exact Nat.le_trans (depth_mem h) (Nat.le_max_right _ _)
theorem cSort (hu : X.A.units + 70 < cLine) : CallR X (.builtin "sorted") (rCO X.K sortC) := fun pins s σ H xs us Q I r ⟨F, ds, c, l, ha, e, q⟩ => by
  unfold sortC at e
  split at e
  · rename_i ds
    obtain ⟨hz, rfl⟩ := ite_some e
    obtain ⟨v, rfl, h1⟩ := ha.one_inv
    obtain ⟨p, vs, rfl, h1, h2⟩ := h1.list_inv
    rw [Vals.ref1 r]
    unfold sortOk cmpOk at hz
    simp only [Bool.and_eq_true, Bool.or_eq_true, decide_eq_true_eq, List.all_eq_true] at hz
    obtain ⟨⟨⟨⟨pl, dp⟩, al⟩, so⟩, ln⟩ := hz
    rw [plain] at pl
    rw [PyData.depth] at dp
    obtain ⟨its, rv, hl, _⟩ := I.list (a := p) (xs := vs) (l.seq h1)
    obtain ⟨e1, e2⟩ := each_of I l h2 rv pl
    refine PySem.W.sorted_data (β := D) (enc := fun d => d) hl.isList e1 e2 ?_ ?_ (by rw [← big_eq]; exact ln) (fun d hd => ?_) fun out ho hout => ?_
    · intro d hd d' hd'
      rw [List.map_id'] at hd hd'
      exact al d hd d' hd'
    · rw [List.map_id']
      rcases so with so | so
      · refine .inl fun d hd => ?_
        have := so d hd
        unfold isTupX at this
        split at this
        · exact ⟨_, _, rfl⟩
        · cases this
      · refine .inr fun d hd => ?_
        have := so d hd
        unfold isFlatX at this
        split at this
        · cases this
        · cases this
        · rename_i n1 n2
          exact ⟨fun z => n1 z, fun ys z => n2 ys z⟩
    · have := depth_mem hd
      show X.A.units + 2 + d.depth < cLine
      omega
    · obtain ⟨ws, r3, h3⟩ := of_each hout
      obtain ⟨ep, he⟩ := PyProof.Rows.sortedAll_at s.heap its out.toArray
      have hw : ws.length ≤ sizeLine := by
        rw [r3.length, ho, ← big_eq]; exact ln
      have hn : H (s.heap.objs.size + 1) = none := I.hok.fresh (Nat.le_succ _)
      exact ⟨.ref _, upd H (s.heap.objs.size + 1) (.lst ws), I.laid (t' := s.toks) (fun _ _ => PyProof.Rows.sortedAll_old) (Nat.le_succ _) ⟨hw, out, ep, r3, he⟩, rfl, q _ _ hn (.lst h3)⟩
  · cases e

/-! isinstance -/
def isiD (ty : String) (d : D) : Option Bool := match d with
  | .none => kitB "NoneType" ty
  | .bool _ => kitB "bool" ty
  | .int _ => kitB "int" ty
  | .str _ => kitB "str" ty
  | .list _ => kitB "list" ty
  | .tuple _ => kitB "tuple" ty
  | .dict _ => none
def dIsi (ty : String) (f : DF) : DF := fun st => (f st).bind fun p => (isiD ty p.1).bind fun k => some (.bool k, p.2)
theorem tyX_of {K : Fg} {F H : Hp} {v : V} {d : D} {ty : String} {k : Bool} (l : Same F H) (h : Rp K F v d) (e : isiD ty d = some k) : ∃ t, TyX K H v t ∧ PySem.W.kitOne K t (.type ty) = some k := by
  cases d with
  | none => rw [h.none_eq]; exact ⟨_, .base .non, kit_ty e⟩
  | bool b => rw [h.bool]; exact ⟨_, .base (.bl b), kit_ty e⟩
  | int i => rw [h.int_eq]; exact ⟨_, .base (.int i), kit_ty e⟩
  | str x => rw [h.str_eq.1]; exact ⟨_, .base (.str x), kit_ty e⟩
  | list xs =>
    obtain ⟨a, vs, rfl, h1, h2⟩ := h.list_inv
    rcases h1 with (h1 | ⟨o, h1⟩) | ⟨o, its, n, hk, hc, _⟩
    · exact ⟨_, .base (.lst (l _ _ h1)), kit_ty e⟩
    · exact ⟨_, .base (.frz (l _ _ h1)), kit_ty e⟩
    · exact ⟨_, .kList hk hc, kit_ty e⟩
  | tuple xs =>
    obtain ⟨a, vs, rfl, h1, h2⟩ := h.tup_inv
    rcases h1 with (h1 | ⟨o, h1⟩) | ⟨o, its, n, hk, hc, _⟩
    · exact ⟨_, .base (.tup (l _ _ h1)), kit_ty e⟩
    · exact ⟨_, .fTuple (l _ _ h1), kit_ty e⟩
    · exact ⟨_, .kTuple hk hc, kit_ty e⟩
  | dict es => cases e
theorem pf_isi {ty : String} {y : Str} {p2 : Pos} (ha : PE X a (tF X.K f)) (hg : Gl X "isinstance") (hm : X.mg "isinstance" = none) (hg2 : Gl X y) (hm2 : X.mg y = none) (hv2 : bootBuiltins y = some (.type ty))
    (hn2 : y ≠ "__name__" := by decide) (hd2 : (y == ("__debug__" : Str)) = false := by decide)
    (h1 : starEach [a, Expr.Name y p2] X.env = (false, eval a X.env) :: starEach [Expr.Name y p2] X.env := by rfl) (h2 : starEach [Expr.Name y p2] X.env = (false, eval (Expr.Name y p2) X.env) :: starEach [] X.env := by rfl)
    (hpl : (backTo pos (starEach [Expr.Name y p2] X.env)).any (·.1) = false := by rfl) :
    PE X (.Call (.Name "isinstance" p) [a, .Name y p2] [] pos) (tF X.K (dIsi ty f)) :=
  PE.imp (pe_callB call_isi hg hm (by decide +kernel) (pa_cons ha (pa_cons (pe_bltn (v := .ty ty) hg2 hm2 hv2 rfl hn2 hd2) pa_nil h2) h1) (by decide) (by decide) h1 hpl) fun σ H Q ⟨F, β, st, d, st', r, e1, q⟩ => by
    obtain ⟨k, h1, e2⟩ := bind_some e1
    obtain ⟨c, h2, e3⟩ := bind_some e2
    cases e3
    refine ⟨F, β, st, k.1, k.2, r, h1, fun F1 H1 v k1 => ?_⟩
    obtain ⟨t, t1, t2⟩ := tyX_of k1.rel.le k1.res h2
    exact ⟨v, .ty ty, t, .type ty, c, rfl, .ty ty, t1, t2, q _ _ _ (k1.b.toD (.bl _))⟩

/-! methods of texts -/
def okSb (x : Str) : Bool := PyData.strOk x && decide (x.length ≤ 16777216)
theorem okSb_ok {x : Str} (h : okSb x = true) : okS x := by
  unfold okSb at h
  rw [Bool.and_eq_true, decide_eq_true_eq] at h
  exact h
theorem strs_rp {K : Fg} {F : Hp} : ∀ {ys : List Str}, ys.all okSb = true → RpAll K F (ys.map V.str) (ys.map PyData.str)
  | [], _ => .nil
  | y :: ys, h => by
    rw [List.all_cons, Bool.and_eq_true] at h
    exact .cons (.str (okSb_ok h.1)) (strs_rp h.2)
/-- x.split(sep) -/
def splitD : D → D → Option D
  | .str a, .str b => if (b.length == 0) = false ∧ a.length + 2 ≤ 16777216 ∧ (Txt.split a b).all okSb = true then some (.list ((Txt.split a b).map .str)) else none
  | _, _ => none
def dMetO (op : D → D → Option D) (f g : DF) : DE := fun st => (f st).bind fun p => (g p.2).bind fun q => (op p.1 q.1).bind fun c => some (.own none c, q.2)
theorem pd_split {apos : Pos} (ho : PE X o (tF X.K f)) (he : PE X e (tF X.K g)) (hs : starEach [e] X.env = [(false, eval e X.env)] := by rfl) (hbase : attributeBase o "split" X.env (eval o X.env) = eval o X.env := by rfl) (hline : (apos.endLine == pos.line) = true := by rfl) :
    PE X (.Call (.Attribute o "split" apos) [e] [] pos) (tD X.K (dMetO splitD f g)) :=
  PE.imp (pe_split ho he hs hbase hline) fun σ H Q ⟨F, β, st, d, st', r, e1, q⟩ => by
    obtain ⟨k, h1, e2⟩ := bind_some e1
    obtain ⟨k2, h2, e3⟩ := bind_some e2
    obtain ⟨c, h3, e4⟩ := bind_some e3
    cases e4
    unfold splitD at h3
    split at h3
    · rename_i a b z1 z2
      obtain ⟨⟨c1, c2, c3⟩, rfl⟩ := ite_some h3
      refine ⟨F, β, st, k.1, k.2, r, h1, fun F1 H1 v k1 => ⟨?_, F1, β, k.2, k2.1, k2.2, k1.rel, h2, fun F2 H2 v2 k3 => ?_⟩⟩
      · have := k1.res
        rw [z1] at this
        exact ⟨_, this.str_eq.1⟩
      · have w1 := k1.res
        rw [z1] at w1
        have w2 := k3.res
        rw [z2] at w2
        refine ⟨a, b, w1.str_eq.1, by rw [w2.str_eq.1], c1, by rw [← big_eq]; exact c2, fun p hp => ?_⟩
        exact q _ _ _ (own_new (k1.b.trans k3.b) hp (.lst (strs_rp c3)))
    · cases h3
/-- the texts of a list -/
def strsOf : List D → Option (List Str)
  | [] => some []
  | .str x :: ds => (strsOf ds).bind fun ys => some (x :: ys)
  | _ :: _ => none
theorem strsOf_rp {K : Fg} {F : Hp} : ∀ {vs : List V} {ds : List D} {ys : List Str}, RpAll K F vs ds → strsOf ds = some ys → vs = ys.map V.str
  | _, _, _, .nil, e => by cases e; rfl
  | _, .str x :: ds, _, .cons h1 h2, e => by
    obtain ⟨ys, e1, e2⟩ := bind_some e
    cases e2
    rw [h1.str_eq.1, strsOf_rp h2 e1]
    rfl
  | _, .none :: _, _, .cons _ _, e => by cases e
  | _, .bool _ :: _, _, .cons _ _, e => by cases e
  | _, .int _ :: _, _, .cons _ _, e => by cases e
  | _, .list _ :: _, _, .cons _ _, e => by cases e
  | _, .tuple _ :: _, _, .cons _ _, e => by cases e
  | _, .dict _ :: _, _, .cons _ _, e => by cases e
def joinD : D → D → Option D
  | .str a, .list ds => (strsOf ds).bind fun ys => if (ys.map (·.length)).sum + ys.length * a.length ≤ 16777216 ∧ okSb (Txt.join a ys) = true then some (.str (Txt.join a ys)) else none
  | .str a, .tuple ds => (strsOf ds).bind fun ys => if (ys.map (·.length)).sum + ys.length * a.length ≤ 16777216 ∧ okSb (Txt.join a ys) = true then some (.str (Txt.join a ys)) else none
  | _, _ => none
theorem pf_join {apos : Pos} (ho : PE X o (tF X.K f)) (he : PE X e (tF X.K g)) (hs : starEach [e] X.env = [(false, eval e X.env)] := by rfl) (hbase : attributeBase o "join" X.env (eval o X.env) = eval o X.env := by rfl) (hline : (apos.endLine == pos.line) = true := by rfl) :
    PE X (.Call (.Attribute o "join" apos) [e] [] pos) (tF X.K (dBin joinD f g)) :=
  PE.imp (pe_join ho he hs hbase hline) fun σ H Q ⟨F, β, st, d, st', r, e1, q⟩ => by
    obtain ⟨k, h1, e2⟩ := bind_some e1
    obtain ⟨k2, h2, e3⟩ := bind_some e2
    obtain ⟨c, h3, e4⟩ := bind_some e3
    cases e4
    have key : ∃ a ys, k.1 = .str a ∧ ((∃ ds, k2.1 = .list ds ∧ strsOf ds = some ys) ∨ (∃ ds, k2.1 = .tuple ds ∧ strsOf ds = some ys)) ∧ (ys.map (·.length)).sum + ys.length * a.length ≤ 16777216 ∧ okSb (Txt.join a ys) = true ∧ d = .str (Txt.join a ys) := by
      unfold joinD at h3
      split at h3
      · rename_i a ds z1 z2
        obtain ⟨ys, y1, y2⟩ := bind_some h3
        obtain ⟨y3, y4⟩ := ite_some y2
        exact ⟨a, ys, z1, .inl ⟨ds, z2, y1⟩, y3.1, y3.2, y4.symm⟩
      · rename_i a ds z1 z2
        obtain ⟨ys, y1, y2⟩ := bind_some h3
        obtain ⟨y3, y4⟩ := ite_some y2
        exact ⟨a, ys, z1, .inr ⟨ds, z2, y1⟩, y3.1, y3.2, y4.symm⟩
      · cases h3
    obtain ⟨a, ys, z1, z2, c1, c2, rfl⟩ := key
    refine ⟨F, β, st, k.1, k.2, r, h1, fun F1 H1 v k1 => ⟨?_, F1, β, k.2, k2.1, k2.2, k1.rel, h2, fun F2 H2 v2 k3 => ?_⟩⟩
    · have := k1.res
      rw [z1] at this
      exact ⟨_, this.str_eq.1⟩
    · have w1 := k1.res
      rw [z1] at w1
      have w2 := k3.res
      have fin := q _ _ _ ((k1.b.trans k3.b).toD (.str (okSb_ok c2)))
      rcases z2 with ⟨ds, z2, z3⟩ | ⟨ds, z2, z3⟩
      · rw [z2] at w2
        obtain ⟨p, vs, rfl, m1, m2⟩ := w2.list_inv
        rw [strsOf_rp m2 z3] at m1
        exact ⟨a, p, ys, w1.str_eq.1, rfl, .inl (k3.rel.le.seq m1), c1, fin⟩
      · rw [z2] at w2
        obtain ⟨p, vs, rfl, m1, m2⟩ := w2.tup_inv
        rw [strsOf_rp m2 z3] at m1
        exact ⟨a, p, ys, w1.str_eq.1, rfl, .inr (SqT.mono k3.rel.le m1), c1, fin⟩
end
end DL

/-! DL7: statements -/
namespace DL
open PySem PySem.Spec PyProof.Rows L2
inductive Out where
  | nx (st : DSt)
  | rt (r : SV) (st : DSt)
  | bk (st : DSt)
  | ct (st : DSt)
abbrev DS := DSt → Option Out
structure SOk (K : Fg) (F H : Hp) (β : Nat → Option Addr) (st : DSt) (σ : L2.St) (F' H' : Hp) (st' : DSt) (σ' : L2.St) : Prop where
  rel : StRel K F' H' β st' σ'
  stp : Stp F H (Own st σ) F' H'
  sub : ∀ a, Own st' σ' a → Own st σ a ∨ H a = none
structure ROk (K : Fg) (F H : Hp) (β : Nat → Option Addr) (st : DSt) (σ : L2.St) (F' H' : Hp) (st' : DSt) (σ' : L2.St) (v : V) (r : SV) : Prop where
  s : SOk K F H β st σ F' H' st' σ'
  res : SvOk K F' H' β v r
  fre : ∀ t c a, r = .own t c → v = .ref a → t = none ∧ ¬ Own st' σ' a ∧ (Own st σ a ∨ H a = none)
def OutOk (K : Fg) (F H : Hp) (β : Nat → Option Addr) (st : DSt) (σ : L2.St) (o : Out) (D : Ends) : Prop := match o with
  | .nx st' => ∀ F' H' σ', SOk K F H β st σ F' H' st' σ' → D.nx σ' H'
  | .bk st' => ∀ F' H' σ', SOk K F H β st σ F' H' st' σ' → D.bk σ' H'
  | .ct st' => ∀ F' H' σ', SOk K F H β st σ F' H' st' σ' → D.ct σ' H'
  | .rt r st' => ∀ F' H' σ' v, ROk K F H β st σ F' H' st' σ' v r → D.rt v H'
def tS (K : Fg) (f : DS) : TS := fun D σ H => ∃ F β st o, StRel K F H β st σ ∧ f st = some o ∧ OutOk K F H β st σ o D

section
variable {K : Fg} {F H F' H' F1 H1 F2 H2 : Hp} {β : Nat → Option Addr} {st st' st1 st2 : DSt} {σ σ' σ1 σ2 : L2.St} {v w : V} {a : Addr} {d : D} {r : SV}
theorem SOk.refl (r : StRel K F H β st σ) : SOk K F H β st σ F H st σ := ⟨r, Stp.refl _, fun _ h => .inl h⟩
theorem BOk.s (k : BOk K F H β st σ F1 H1 st1) : SOk K F H β st σ F1 H1 st1 σ := ⟨k.rel, k.stp, fun a h => .inl (k.sub a h)⟩
theorem SOk.trans (k : SOk K F H β st σ F1 H1 st1 σ1) (k2 : SOk K F1 H1 β st1 σ1 F2 H2 st2 σ2) : SOk K F H β st σ F2 H2 st2 σ2 :=
  ⟨k2.rel, k.stp.trans k2.stp k.sub, fun a h => by
    rcases k2.sub a h with z | z
    · exact k.sub a z
    · exact k.stp.fresh k.rel.le z⟩
theorem SOk.thenR (k : SOk K F H β st σ F1 H1 st1 σ1) (k2 : ROk K F1 H1 β st1 σ1 F2 H2 st2 σ2 v r) : ROk K F H β st σ F2 H2 st2 σ2 v r :=
  ⟨k.trans k2.s, k2.res, fun t c a h1 h2 => by
    obtain ⟨z1, z2, z3⟩ := k2.fre t c a h1 h2
    refine ⟨z1, z2, ?_⟩
    rcases z3 with z3 | z3
    · exact k.sub a z3
    · exact k.stp.fresh k.rel.le z3⟩
theorem OutOk.after {o : Out} {D : Ends} (h : OutOk K F H β st σ o D) (k : SOk K F H β st σ F1 H1 st1 σ1) : OutOk K F1 H1 β st1 σ1 o D := by
  cases o with
  | nx s => exact fun F' H' σ' z => h F' H' σ' (k.trans z)
  | bk s => exact fun F' H' σ' z => h F' H' σ' (k.trans z)
  | ct s => exact fun F' H' σ' z => h F' H' σ' (k.trans z)
  | rt r s => exact fun F' H' σ' v z => h F' H' σ' v (k.thenR z)
/-- a slot is set -/
theorem StRel.put {i : Nat} (k : StRel K F H β st σ) (q : SvOk K F H β v r) (fr : ∀ t c a, r = .own t c → v = .ref a → ¬ Own st σ a) : StRel K F H β (st.set i (some r)) (σ.set i (some v)) := by
  have get : ∀ (j : Nat) s, (st.set i (some r))[j]? = some (some s) → (j = i ∧ s = r ∧ i < st.length) ∨ (j ≠ i ∧ st[j]? = some (some s)) := fun j s z => by
    by_cases hj : i = j
    · subst hj
      by_cases hi : i < st.length
      · rw [List.getElem?_set_self hi] at z
        cases z
        exact .inl ⟨rfl, rfl, hi⟩
      · rw [List.getElem?_eq_none (by simpa using hi)] at z
        cases z
    · rw [List.getElem?_set_ne hj] at z
      exact .inr ⟨Ne.symm hj, z⟩
  refine ⟨k.le, by simp [k.len], fun j s z => ?_, fun j l t c u c2 a z1 z2 z3 z4 => ?_⟩
  · rcases get j s z with ⟨rfl, rfl, hi⟩ | ⟨hj, z⟩
    · exact ⟨v, by rw [List.getElem?_set_self (by rw [← k.len]; exact hi)], q⟩
    · rw [List.getElem?_set_ne (Ne.symm hj)]
      exact k.slot j s z
  · have getv : ∀ (j : Nat), j ≠ i → (σ.set i (some v))[j]? = σ[j]? := fun j hj => List.getElem?_set_ne (Ne.symm hj)
    rcases get j _ z1 with ⟨rfl, e1, hi⟩ | ⟨hj, y1⟩
    · rcases get l _ z2 with ⟨rfl, e2, _⟩ | ⟨hl, y2⟩
      · rfl
      · rw [getv l hl] at z4
        rw [List.getElem?_set_self (by rw [← k.len]; exact hi)] at z3
        exact absurd ⟨l, u, c2, y2, z4⟩ (fr t c a e1.symm (Option.some.inj (Option.some.inj z3)))
    · rcases get l _ z2 with ⟨rfl, e2, hi⟩ | ⟨hl, y2⟩
      · rw [getv j hj] at z3
        rw [List.getElem?_set_self (by rw [← k.len]; exact hi)] at z4
        exact absurd ⟨j, t, c, y1, z3⟩ (fr u c2 a e2.symm (Option.some.inj (Option.some.inj z4)))
      · rw [getv j hj] at z3
        rw [getv l hl] at z4
        exact k.ne _ _ _ _ _ _ _ y1 y2 z3 z4
theorem own_put {i : Nat} (h : Own (st.set i (some r)) (σ.set i (some v)) a) (hl : st.length = σ.length) : Own st σ a ∨ (∃ t c, r = .own t c ∧ v = .ref a) := by
  obtain ⟨j, t, c, z1, z2⟩ := h
  by_cases hj : i = j
  · subst hj
    by_cases hi : i < st.length
    · rw [List.getElem?_set_self hi] at z1
      rw [List.getElem?_set_self (by omega)] at z2
      cases z1
      cases z2
      exact .inr ⟨t, c, rfl, rfl⟩
    · rw [List.getElem?_eq_none (by simpa using hi)] at z1
      cases z1
  · rw [List.getElem?_set_ne hj] at z1 z2
    exact .inl ⟨j, t, c, z1, z2⟩
/-- a name is set to a result -/
theorem EOk.put (i : Nat) (k : EOk K F H β st σ F1 H1 st1 v r) : SOk K F H β st σ F1 H1 (st1.set i (some r)) (σ.set i (some v)) := by
  refine ⟨k.rel.put k.res fun t c a h1 h2 => (k.fre t c a h1 h2).2.1, k.stp, fun a h => ?_⟩
  rcases own_put h k.rel.len with z | ⟨t, c, h1, h2⟩
  · exact .inl (k.sub a z)
  · exact (k.fre t c a h1 h2).2.2
theorem StRel.putD (i : Nat) (k : StRel K F H β st σ) (q : Rp K F v d) : SOk K F H β st σ F H (st.set i (some (.val d))) (σ.set i (some v)) :=
  (DOk.refl k q).toE.put i
/-- a slot is forgotten -/
theorem StRel.kill (i : Nat) (k : StRel K F H β st σ) : SOk K F H β st σ F H (st.set i none) σ := by
  have get : ∀ (j : Nat) s, (st.set i none)[j]? = some (some s) → j ≠ i ∧ st[j]? = some (some s) := fun j s z => by
    by_cases hj : i = j
    · subst hj
      by_cases hi : i < st.length
      · rw [List.getElem?_set_self hi] at z
        cases z
      · rw [List.getElem?_eq_none (by simpa using hi)] at z
        cases z
    · rw [List.getElem?_set_ne hj] at z
      exact ⟨Ne.symm hj, z⟩
  refine ⟨⟨k.le, by simp [k.len], fun j s z => k.slot j s (get j s z).2, fun j l t c u c2 a z1 z2 z3 z4 => k.ne _ _ _ _ _ _ _ (get j _ z1).2 (get l _ z2).2 z3 z4⟩, Stp.refl _, fun a ⟨j, t, c, z1, z2⟩ => .inl ⟨j, t, c, (get j _ z1).2, z2⟩⟩
/-- what a slot owns is written -/
theorem StRel.write {i : Nat} {t : Option Nat} {c c' : D} {p : Addr} {o' : HO} (k : StRel K F H β st σ) (e : st[i]? = some (some (.own t c))) (e2 : σ[i]? = some (some (.ref p))) (q : ORp K F o' c') :
    BOk K F H β st σ F (upd H p o') (st.set i (some (.own t c'))) := by
  obtain ⟨v, e3, a, o, rfl, f, hh, _, b⟩ := k.slot i _ e
  rw [e2] at e3
  cases e3
  have hi : i < st.length := (List.getElem?_eq_some_iff.mp e).1
  have get : ∀ (j : Nat) s, (st.set i (some (SV.own t c')))[j]? = some (some s) → (j = i ∧ s = .own t c') ∨ (j ≠ i ∧ st[j]? = some (some s)) := fun j s z => by
    by_cases hj : i = j
    · subst hj
      rw [List.getElem?_set_self hi] at z
      cases z
      exact .inl ⟨rfl, rfl⟩
    · rw [List.getElem?_set_ne hj] at z
      exact .inr ⟨Ne.symm hj, z⟩
  have ow : ∀ (j : Nat) u x, (st.set i (some (SV.own t c')))[j]? = some (some (.own u x)) → ∃ x', st[j]? = some (some (.own u x')) := fun j u x z => by
    rcases get j _ z with ⟨rfl, z2⟩ | ⟨_, z2⟩
    · cases z2; exact ⟨c, e⟩
    · exact ⟨x, z2⟩
  refine ⟨⟨fun b u z => ?_, by simp [k.len], fun j s z => ?_, fun j l t1 c1 u c2 a' z1 z2 z3 z4 => ?_⟩, ⟨Same.refl _, fun b u z1 z2 z3 => ⟨?_, z2⟩⟩, fun b ⟨j, u, x, z1, z2⟩ => ?_⟩
  · rw [upd_ne (ne_of_none z f)]; exact k.le _ _ z
  · rcases get j s z with ⟨rfl, rfl⟩ | ⟨hj, z2⟩
    · exact ⟨_, e2, p, o', rfl, f, upd_same, q, b⟩
    · obtain ⟨v, e4, q4⟩ := k.slot j s z2
      refine ⟨v, e4, ?_⟩
      cases s with
      | val d => exact q4
      | own u x =>
        obtain ⟨a2, o2, rfl, f2, h2, q2, b2⟩ := q4
        have hne : a2 ≠ p := by
          rintro rfl
          exact hj (k.ne _ _ _ _ _ _ _ z2 e e4 e2)
        exact ⟨a2, o2, rfl, f2, by rw [upd_ne hne]; exact h2, q2, b2⟩
  · obtain ⟨x1, y1⟩ := ow j _ _ z1
    obtain ⟨x2, y2⟩ := ow l _ _ z2
    exact k.ne _ _ _ _ _ _ _ y1 y2 z3 z4
  · have hne : b ≠ p := by
      rintro rfl
      exact z3 ⟨i, t, c, e, e2⟩
    rw [upd_ne hne]; exact z1
  · obtain ⟨x', y⟩ := ow j _ _ z1
    exact ⟨j, u, x', y, z2⟩
end

/-! ### blocks -/
def dNext : DS := fun st => some (.nx st)
def dSeq (f g : DS) : DS := fun st => (f st).bind fun o => match o with
  | .nx s => g s
  | o => some o
def dKill (is : List Nat) : DS := fun st => some (.nx (is.foldl (fun s i => s.set i none) st))
/-- f, then the slots are forgotten -/
def dThenKill (f : DS) (is : List Nat) : DS := dSeq f (dKill is)
def dBk : DS := fun st => some (.bk st)
def dCt : DS := fun st => some (.ct st)
def dRet (f : DE) : DS := fun st => (f st).bind fun p => some (.rt p.1 p.2)
def dRetN : DS := fun st => some (.rt (.val .none) st)
def dDrop (f : DF) : DS := fun st => (f st).bind fun p => some (.nx p.2)
def dIf (t : DB) (f g : DS) : DS := fun st => (t st).bind fun p => if p.1 = true then f p.2 else g p.2
def dSet (i : Nat) (f : DE) : DS := fun st => (f st).bind fun p => some (.nx (p.2.set i (some p.1)))
section
variable {X : Cx} {e : Expr} {s1 : Stmt} {rest : List Stmt} {f g : DS} {fe : DE} {ff : DF} {t : DB} {pos pos' : Pos}
theorem kills (K : Fg) {F H : Hp} {β : Nat → Option Addr} {σ : L2.St} : ∀ (is : List Nat) (st : DSt), StRel K F H β st σ → SOk K F H β st σ F H (is.foldl (fun s i => s.set i none) st) σ
  | [], st, k => SOk.refl k
  | i :: is, st, k => (k.kill i).trans (kills K is _ (k.kill i).rel)
theorem ss_nil : PSs X [] (tS X.K dNext) := PSs.imp pss_nil fun D σ H ⟨F, β, st, o, r, e, q⟩ => by
  cases e
  exact q F H σ (SOk.refl r)
theorem seq_to {K : Fg} {D : Ends} {σ : L2.St} {H : Hp} (h : tS K (dSeq f g) D σ H) : tSeq (tS K f) (tS K g) D σ H := by
  obtain ⟨F, β, st, o, r, e, q⟩ := h
  obtain ⟨o1, h1, e2⟩ := bind_some e
  refine ⟨F, β, st, o1, r, h1, ?_⟩
  cases o1 with
  | nx s =>
    exact fun F1 H1 σ1 k => ⟨F1, β, s, o, k.rel, e2, q.after k⟩
  | rt rr s => cases e2; exact q
  | bk s => cases e2; exact q
  | ct s => cases e2; exact q
theorem ss_cons (h1 : PS X s1 (tS X.K f)) (h2 : PSs X rest (tS X.K g)) : PSs X (s1 :: rest) (tS X.K (dSeq f g)) := PSs.imp (pss_cons h1 h2) fun D σ H h => seq_to h
theorem ss_one (h1 : PS X s1 (tS X.K f)) : PSs X [s1] (tS X.K f) := pss_one h1
/-- behind a statement slots are forgotten -/
theorem s_kill (is : List Nat) (h1 : PS X s1 (tS X.K f)) : PS X s1 (tS X.K (dThenKill f is)) := PS.imp h1 fun D σ H ⟨F, β, st, o, r, e, q⟩ => by
  obtain ⟨o1, h1, e2⟩ := bind_some e
  refine ⟨F, β, st, o1, r, h1, ?_⟩
  cases o1 with
  | nx s =>
    cases e2
    exact fun F1 H1 σ1 k => q F1 H1 σ1 (k.trans (kills X.K is s k.rel))
  | rt rr s => cases e2; exact q
  | bk s => cases e2; exact q
  | ct s => cases e2; exact q
/-- ahead of a block slots are forgotten -/
theorem ss_kill (is : List Nat) (h1 : PSs X rest (tS X.K f)) : PSs X rest (tS X.K (dSeq (dKill is) f)) := PSs.imp h1 fun D σ H ⟨F, β, st, o, r, e, q⟩ => by
  obtain ⟨o1, h1, e2⟩ := bind_some e
  cases h1
  have k := kills X.K is st r
  exact ⟨F, β, _, o, k.rel, e2, q.after k⟩
theorem s_pass : PS X (.Pass pos) (tS X.K dNext) := PS.imp ps_pass fun D σ H ⟨F, β, st, o, r, e, q⟩ => by
  cases e
  exact q F H σ (SOk.refl r)
theorem s_break : PS X (.Break pos) (tS X.K dBk) := PS.imp ps_break fun D σ H ⟨F, β, st, o, r, e, q⟩ => by
  cases e
  exact q F H σ (SOk.refl r)
theorem s_continue : PS X (.Continue pos) (tS X.K dCt) := PS.imp ps_continue fun D σ H ⟨F, β, st, o, r, e, q⟩ => by
  cases e
  exact q F H σ (SOk.refl r)
theorem EOk.ret {K : Fg} {F H F1 H1 : Hp} {β : Nat → Option Addr} {st st1 : DSt} {σ : L2.St} {v : V} {r : SV} (k : EOk K F H β st σ F1 H1 st1 v r) : ROk K F H β st σ F1 H1 st1 σ v r := ⟨k.b.s, k.res, k.fre⟩
theorem s_ret (he : PE X e (tD X.K fe)) : PS X (.Return (some e) pos) (tS X.K (dRet fe)) := PS.imp (ps_ret he) fun D σ H ⟨F, β, st, o, r, e, q⟩ => by
  obtain ⟨p, h1, e2⟩ := bind_some e
  cases e2
  exact ⟨F, β, st, p.1, p.2, r, h1, fun F1 H1 v k => q F1 H1 σ v k.ret⟩
theorem s_retN : PS X (.Return none pos) (tS X.K dRetN) := PS.imp ps_retN fun D σ H ⟨F, β, st, o, r, e, q⟩ => by
  cases e
  exact q F H σ .non (DOk.refl r .non).toE.ret
theorem s_expr (he : PE X e (tF X.K ff)) (hs : swapsWith e none pos.line X.env = pure false := by rfl) : PS X (.Expr e pos) (tS X.K (dDrop ff)) := PS.imp (ps_expr he hs) fun D σ H ⟨F, β, st, o, r, e, q⟩ => by
  obtain ⟨p, h1, e2⟩ := bind_some e
  cases e2
  exact ⟨F, β, st, p.1, p.2, r, h1, fun F1 H1 v k => q F1 H1 σ k.b.s⟩
theorem s_if {a b : List Stmt} (hc : PT X e (tT X.K t)) (ha : PSs X a (tS X.K f)) (hb : PSs X b (tS X.K g)) : PS X (.If e a b pos) (tS X.K (dIf t f g)) := PS.imp (ps_if hc ha hb) fun D σ H ⟨F, β, st, o, r, e, q⟩ => by
  obtain ⟨p, h1, e2⟩ := bind_some e
  refine ⟨F, β, st, p.1, p.2, r, h1, fun F1 H1 k => ?_⟩
  show ite _ _ _
  split
  · rename_i hp
    rw [if_pos hp] at e2
    exact ⟨F1, β, p.2, o, k.rel, e2, q.after k.s⟩
  · rename_i hp
    rw [if_neg hp] at e2
    exact ⟨F1, β, p.2, o, k.rel, e2, q.after k.s⟩
theorem s_set (i : Nat) {x : Str} (hN : X.N.Nodup) (he : PE X e (tD X.K fe)) (hi : X.N[i]? = some x := by rfl) (hx : Loc X.env.scope x := by first | exact Or.inl rfl | exact Or.inr rfl) (hs : swapsWith e (some (.Name x pos')) pos.line X.env = pure false := by rfl)
    (hf : X.fn x = true ∨ X.env.scope.names.lookup x = some .local := by first | exact .inl rfl | exact .inr rfl | assumption) : PS X (.Assign [.Name x pos'] e pos) (tS X.K (dSet i fe)) := PS.imp (ps_set hN hi hx he hs hf) fun D σ H ⟨F, β, st, o, r, e, q⟩ => by
  obtain ⟨p, h1, e2⟩ := bind_some e
  cases e2
  exact ⟨F, β, st, p.1, p.2, r, h1, fun F1 H1 v k => q F1 H1 _ (k.put i)⟩
end

/-! ### targets -/
abbrev DG := D → DSt → Option DSt
abbrev DGs := List D → DSt → Option DSt
def tG (K : Fg) (g : DG) : TG := fun v σ H Q => ∃ F β st d st', StRel K F H β st σ ∧ Rp K F v d ∧ g d st = some st' ∧ ∀ F' H' σ', SOk K F H β st σ F' H' st' σ' → Q σ' H'
def tGs (K : Fg) (g : DGs) : TGs := fun vs σ H Q => ∃ F β st ds st', StRel K F H β st σ ∧ RpAll K F vs ds ∧ g ds st = some st' ∧ ∀ F' H' σ', SOk K F H β st σ F' H' st' σ' → Q σ' H'
theorem PGs.imp {X : Cx} {e : List Expr} {t t' : TGs} (h : PGs X e t) (w : ∀ v σ H Q, t' v σ H Q → t v σ H Q) : PGs X e t' := ⟨fun pins s σ H v u Q I r q => h.run pins s σ H v u Q I r (w v σ H Q q)⟩
def dNm (i : Nat) : DG := fun d st => some (st.set i (some (.val d)))
def dGN : DGs := fun ds st => match ds with
  | [] => some st
  | _ => none
def dGC (g : DG) (gs : DGs) : DGs := fun ds st => match ds with
  | d :: ds => (g d st).bind fun s => gs ds s
  | [] => none
def dTp (n : Nat) (gs : DGs) : DG := fun d st => match d with
  | .tuple ds => if ds.length = n then gs ds st else none
  | _ => none
def dAsg (f : DF) (g : DG) : DS := fun st => (f st).bind fun p => (g p.1 p.2).bind fun s => some (.nx s)
section
variable {X : Cx} {e tg : Expr} {es : List Expr} {g : DG} {gs : DGs} {ff : DF} {pos : Pos}
theorem g_nm (i : Nat) {x : Str} (hN : X.N.Nodup) (hi : X.N[i]? = some x := by rfl) (hx : Loc X.env.scope x := by first | exact Or.inl rfl | exact Or.inr rfl) (hf : X.fn x = true ∨ X.env.scope.names.lookup x = some .local := by first | exact .inl rfl | exact .inr rfl | assumption) : PG X (.Name x pos) (tG X.K (dNm i)) :=
  PG.imp (pg_name hN hi hx hf) fun v σ H Q ⟨F, β, st, d, st', r, h, e, q⟩ => by
    cases e
    exact q F H _ (r.putD i h)
theorem g_nil : PGs X [] (tGs X.K dGN) := PGs.imp pgs_nil fun vs σ H Q ⟨F, β, st, ds, st', r, h, e, q⟩ => by
  unfold dGN at e
  split at e
  · cases e
    cases h
    exact ⟨rfl, q F H _ (SOk.refl r)⟩
  · cases e
theorem g_cons (h1 : PG X e (tG X.K g)) (h2 : PGs X es (tGs X.K gs)) (hs : (assignEach (e :: es) X.env).map (·.2) = assign e X.env :: (assignEach es X.env).map (·.2) := by rfl) : PGs X (e :: es) (tGs X.K (dGC g gs)) :=
  PGs.imp (pgs_cons h1 h2 hs) fun vs σ H Q ⟨F, β, st, ds, st', r, h, e, q⟩ => by
    unfold dGC at e
    split at e
    · obtain ⟨s1, e1, e2⟩ := bind_some e
      cases h with
      | cons h3 h4 =>
        exact ⟨_, _, rfl, F, β, st, _, s1, r, h3, e1, fun F1 H1 σ1 k => ⟨F1, β, s1, _, st', k.rel, RpAll.mono k.stp.mono h4, e2, fun F2 H2 σ2 k2 => q F2 H2 σ2 (k.trans k2)⟩⟩
    · cases e
theorem g_tp (n : Nat) {k : Nat} (hc : X.calm = true) (h : PGs X es (tGs X.K gs)) (hn : (assignEach es X.env).length = n := by rfl) (hst : (assignEach es X.env).findIdx? (·.1) = none := by rfl) : PG X (.Tuple es k pos) (tG X.K (dTp n gs)) :=
  PG.imp (pg_tup hc h hn hst) fun v σ H Q ⟨F, β, st, d, st', r, h, e, q⟩ => by
    unfold dTp at e
    split at e
    · rename_i ds
      by_cases hz : ds.length = n
      · rw [if_pos hz] at e
        obtain ⟨a, vs, rfl, h1, h2⟩ := h.tup_inv
        exact ⟨a, vs, rfl, SqT.mono r.le h1, by rw [h2.length]; exact hz, F, β, st, ds, st', r, h2, e, q⟩
      · rw [if_neg hz] at e; cases e
    · cases e
theorem s_asg (he : PE X e (tF X.K ff)) (hg : PG X tg (tG X.K g)) (hs : swapsWithSole [tg] e pos.line X.env = pure false := by rfl) (hw : swappedStores [tg] e X.env = pure none := by rfl)
    (h1 : (assignEach [tg] X.env).map (·.2) = [assign tg X.env] := by rfl) : PS X (.Assign [tg] e pos) (tS X.K (dAsg ff g)) := PS.imp (ps_asg he hg hs hw h1) fun D σ H ⟨F, β, st, o, r, e, q⟩ => by
  obtain ⟨p, e1, e2⟩ := bind_some e
  obtain ⟨s, e3, e4⟩ := bind_some e2
  cases e4
  exact ⟨F, β, st, p.1, p.2, r, e1, fun F1 H1 v k => ⟨F1, β, p.2, p.1, s, k.rel, k.res, e3, fun F2 H2 σ2 k2 => q F2 H2 σ2 (k.b.s.trans k2)⟩⟩
end

/-! ### x[e] = v, x.append(e) -/
/-- what the slot owns, a list -/
def ownList (st : DSt) (i : Nat) : Option (Option Nat × List D) := match st[i]? with
  | some (some (.own t (.list xs))) => some (t, xs)
  | _ => none
theorem ownList_inv {st : DSt} {i : Nat} {p : Option Nat × List D} (h : ownList st i = some p) : st[i]? = some (some (.own p.1 (.list p.2))) := by
  unfold ownList at h
  split at h
  · cases h; assumption
  · cases h
theorem StRel.list {K : Fg} {F H : Hp} {β : Nat → Option Addr} {st : DSt} {σ : L2.St} {i : Nat} {p : Option Nat × List D} (k : StRel K F H β st σ) (h : ownList st i = some p) : ∃ a vs, σ[i]? = some (some (.ref a)) ∧ H a = some (.lst vs) ∧ RpAll K F vs p.2 := by
  obtain ⟨v, e1, a, o, rfl, f, hh, q, _⟩ := k.slot i _ (ownList_inv h)
  cases q with
  | lst q => exact ⟨a, _, e1, hh, q⟩
def dSetIx (i : Nat) (g h : DF) : DS := fun st => (h st).bind fun p => (ownList p.2 i).bind fun _ => (g p.2).bind fun q => (intOf q.1).bind fun k => (ownList q.2 i).bind fun w => (ixN w.2.length k).bind fun j => some (.nx (q.2.set i (some (.own w.1 (.list (w.2.set j p.1))))))
def dApp (i : Nat) (f : DF) : DS := fun st => (ownList st i).bind fun _ => (f st).bind fun p => (ownList p.2 i).bind fun w => if w.2.length < 16777216 then some (.nx (p.2.set i (some (.own w.1 (.list (w.2 ++ [p.1])))))) else none
section
variable {X : Cx} {e ie : Expr} {fg fh ff : DF} {pos pos2 p2 apos : Pos} {x : Str}
theorem s_setIx (i : Nat) (hv : PE X e (tF X.K fh)) (hi : PE X ie (tF X.K fg)) (hN : X.N[i]? = some x := by rfl) (hx : Vis X.env.scope x := by first | exact Or.inl rfl | exact Or.inr (Or.inl rfl) | exact Or.inr (Or.inr rfl)) (hd : (x == ("__debug__" : Str)) = false := by decide) (hcd : (x == ("__classdict__" : Str)) = false := by decide)
    (ha : ∀ v, assign (.Subscript (.Name x p2) ie pos2) X.env v = (do
      let ov ← holding [v] (eval (.Name x p2) X.env)
      let iv ← holding [v, ov] (eval ie X.env)
      standAt pos2
      holding [v, ov, iv] (setItem ov iv v)
      release [v, ov, iv] []) := by intro _; rfl)
    (hs : swapsWithSole [Expr.Subscript (.Name x p2) ie pos2] e pos.line X.env = pure false := by rfl) (hw : swappedStores [Expr.Subscript (.Name x p2) ie pos2] e X.env = pure none := by rfl)
    (h1 : (assignEach [Expr.Subscript (.Name x p2) ie pos2] X.env).map (·.2) = [assign (Expr.Subscript (.Name x p2) ie pos2) X.env] := by rfl) :
    PS X (.Assign [.Subscript (.Name x p2) ie pos2] e pos) (tS X.K (dSetIx i fg fh)) :=
  PS.imp (ps_asg hv (pg_sub (pe_var hN hx hd hcd) hi set_list ha) hs hw h1) fun D σ H ⟨F, β, st, o, r, e, q⟩ => by
    obtain ⟨p, e1, e2⟩ := bind_some e
    obtain ⟨w0, e0, e2⟩ := bind_some e2
    obtain ⟨p3, e3, e4⟩ := bind_some e2
    obtain ⟨k, e5, e6⟩ := bind_some e4
    obtain ⟨w, e7, e8⟩ := bind_some e6
    obtain ⟨j, e9, e10⟩ := bind_some e8
    cases e10
    refine ⟨F, β, st, p.1, p.2, r, e1, fun F1 H1 v k1 => ?_⟩
    have key : ∀ a, σ[i]? = some (some (V.ref a)) → tF X.K fg σ H1 (fun iv H3 => rSetL (.ref a) iv v H3 fun H4 => D.nx σ H4) := fun a ea => ⟨F1, β, p.2, p3.1, p3.2, k1.rel, e3, fun F2 H2 y k2 => by
      obtain ⟨a2, vs, z1, z2, z3⟩ := k2.rel.list e7
      rw [ea] at z1
      cases z1
      have hy := k2.res
      rw [intOf_eq e5] at hy
      refine ⟨a, vs, k, j, rfl, hy.int_eq, z2, by rw [z3.length]; exact e9, ?_⟩
      exact q _ _ _ ((k1.b.trans k2.b).trans (k2.rel.write (ownList_inv e7) ea (.lst (z3.set (Rp.mono k2.stp.mono k1.res) j)))).s⟩
    obtain ⟨a, vs0, ea, _⟩ := k1.rel.list e0
    exact ⟨_, ea, key a ea⟩
theorem s_app (i : Nat) (he : PE X e (tF X.K ff)) (hN : X.N[i]? = some x := by rfl) (hx : Vis X.env.scope x := by first | exact Or.inl rfl | exact Or.inr (Or.inl rfl) | exact Or.inr (Or.inr rfl)) (hd : (x == ("__debug__" : Str)) = false := by decide) (hcd : (x == ("__classdict__" : Str)) = false := by decide)
    (hbase : attributeBase (.Name x p2) "append" X.env (eval (.Name x p2) X.env) = eval (.Name x p2) X.env := by rfl)
    (hfew : ((backTo pos2 (starEach [e] X.env)).all (fun x => !x.1) && (backToKw pos2 (keywordEach [] X.env)).all (fun x => x.1.isSome)
      && decide (([e] : List Expr).length + ([] : List Keyword).length + (if ([] : List Keyword).isEmpty then 0 else 1) < 30)) = true := by rfl)
    (hline : (apos.endLine == pos2.line) = true := by rfl) (hst : starEach [e] X.env = (false, eval e X.env) :: starEach [] X.env := by rfl) (hplain : (backTo pos2 (starEach [] X.env)).any (·.1) = false := by rfl)
    (hs : swapsWith (.Call (.Attribute (.Name x p2) "append" apos) [e] [] pos2) none pos.line X.env = pure false := by rfl) :
    PS X (.Expr (.Call (.Attribute (.Name x p2) "append" apos) [e] [] pos2) pos) (tS X.K (dApp i ff)) :=
  PS.imp (ps_expr (pe_bm PySem.F.plainAttrs_list PySem.F.slot_list_append PySem.F.type_list_append mt_append (pe_var hN hx hd hcd) (pa_cons he pa_nil hst) hbase hfew hline hst hplain) hs) fun D σ H ⟨F, β, st, o, r, e, q⟩ => by
    obtain ⟨w0, e0, e2⟩ := bind_some e
    obtain ⟨p, e1, e3⟩ := bind_some e2
    obtain ⟨w, e4, e5⟩ := bind_some e3
    obtain ⟨hz, e6⟩ := ite_some e5
    subst e6
    obtain ⟨a, vs0, ea, h0, _⟩ := r.list e0
    refine ⟨_, ea, .inl ⟨rfl, vs0, .inl (.inl h0)⟩, F, β, st, p.1, p.2, r, e1, fun F1 H1 v k1 => ?_⟩
    obtain ⟨a2, vs, z1, z2, z3⟩ := k1.rel.list e4
    rw [ea] at z1
    cases z1
    refine ⟨a, vs, v, rfl, rfl, z2, by rw [z3.length, ← big_eq]; exact hz, ?_⟩
    exact q _ _ _ (k1.b.trans (k1.rel.write (ownList_inv e4) ea (.lst (z3.append (.one k1.res))))).s
end
end DL

/-! DL8: loops, comprehensions -/
namespace DL
open PySem PySem.Spec PyProof.Rows L2
def itemsD : D → Option (List D)
  | .list xs => some xs
  | .tuple xs => some xs
  | .str x => some (x.cps.toList.map fun c => .str ⟨#[c]⟩)
  | _ => none
def forL (tg : DG) (body : DS) : List D → DSt → Option Out
  | [], st => some (.nx st)
  | d :: ds, st => (tg d st).bind fun s1 => (body s1).bind fun o => match o with
    | .nx s2 => forL tg body ds s2
    | .ct s2 => forL tg body ds s2
    | .bk s2 => some (.nx s2)
    | .rt r s2 => some (.rt r s2)
/-- the iterator J gives the items ds, frozen in F -/
structure Gives (K : Fg) (F0 : Hp) (J : It) (ds : List D) : Prop where
  go : ∀ F H i, Same F0 F → Same F H → i < ds.length → J.go i H
  yld : ∀ F H i x H', Same F0 F → Same F H → i < ds.length → J.yld i H x H' → H' = H ∧ ∃ d, ds[i]? = some d ∧ Rp K F x d
  stop : ∀ F H, Same F0 F → Same F H → J.stop ds.length H
theorem gives_list {K : Fg} {F : Hp} {a : Addr} {vs : List V} {ds : List D} (h : SqL K F a vs) (q : RpAll K F vs ds) : Gives K F (Itl K a) ds := by
  refine ⟨fun F1 H i m l hi => ?_, fun F1 H i x H' m l hi y => ?_, fun F1 H m l => ?_⟩
  · have : i < vs.length := by rw [q.length]; exact hi
    exact ⟨vs, vs[i], l.seq (m.seq h), by simp [this]⟩
  · obtain ⟨e, y⟩ := y
    refine ⟨e, ?_⟩
    subst e
    have hx := y vs (l.seq (m.seq h))
    obtain ⟨d, e1, e2⟩ := q.getV hx
    exact ⟨d, e1, Rp.mono m e2⟩
  · exact ⟨vs, l.seq (m.seq h), by rw [q.length]; exact Nat.le_refl _⟩
theorem gives_tup {K : Fg} {F : Hp} {a : Addr} {vs : List V} {ds : List D} (h : SqT K F a vs) (q : RpAll K F vs ds) : Gives K F (Itt K a) ds := by
  refine ⟨fun F1 H i m l hi => ?_, fun F1 H i x H' m l hi y => ?_, fun F1 H m l => ?_⟩
  · have : i < vs.length := by rw [q.length]; exact hi
    exact ⟨vs, vs[i], SqT.mono l (SqT.mono m h), by simp [this]⟩
  · obtain ⟨e, y⟩ := y
    refine ⟨e, ?_⟩
    subst e
    have hx := y vs (SqT.mono l (SqT.mono m h))
    obtain ⟨d, e1, e2⟩ := q.getV hx
    exact ⟨d, e1, Rp.mono m e2⟩
  · exact ⟨vs, SqT.mono l (SqT.mono m h), by rw [q.length]; exact Nat.le_refl _⟩
theorem gives_str {K : Fg} {F : Hp} {x : Str} (h : okS x) : Gives K F (Its x) (x.cps.toList.map fun c => .str ⟨#[c]⟩) := by
  refine ⟨fun F1 H i m l hi => ?_, fun F1 H i v H' m l hi y => ?_, fun F1 H m l => ?_⟩
  · show i < x.cps.size
    simpa using hi
  · obtain ⟨e, c, e1, e2⟩ := y
    have e1' : x.cps.toList[i]? = some c := by simpa using e1
    refine ⟨e, .str ⟨#[c]⟩, by rw [List.getElem?_map, e1']; rfl, ?_⟩
    rw [e2]
    exact .str (okS_one h (List.mem_of_getElem? e1'))
  · show x.cps.size ≤ _
    simp
/-- the ints lo, lo + 1, .. -/
def intsFrom (lo : Int) : Nat → List D
  | 0 => []
  | n + 1 => .int lo :: intsFrom (lo + 1) n
theorem intsFrom_length : ∀ (n : Nat) (lo : Int), (intsFrom lo n).length = n
  | 0, _ => rfl
  | n + 1, lo => by simp [intsFrom, intsFrom_length n]
theorem intsFrom_get : ∀ (n : Nat) (lo : Int) (i : Nat), i < n → (intsFrom lo n)[i]? = some (.int (lo + i))
  | n + 1, lo, 0, _ => by simp [intsFrom]
  | n + 1, lo, i + 1, h => by
    simp only [intsFrom, List.getElem?_cons_succ]
    rw [intsFrom_get n (lo + 1) i (by omega)]
    congr 2
    omega
theorem gives_range {K : Fg} {F : Hp} {lo : Int} {n : Nat} : Gives K F (Itr lo n) (intsFrom lo n) := by
  refine ⟨fun F1 H i m l hi => ?_, fun F1 H i v H' m l hi y => ?_, fun F1 H m l => ?_⟩
  · rw [intsFrom_length] at hi; exact hi
  · rw [intsFrom_length] at hi
    obtain ⟨e1, e2⟩ := y
    refine ⟨e1, _, intsFrom_get n lo i hi, ?_⟩
    rw [e2]
    exact .int _
  · rw [intsFrom_length]; exact Nat.le_refl _

section
variable {X : Cx} {K : Fg}
theorem for_core {J : It} {ds : List D} {F0 H0 : Hp} {β : Nat → Option Addr} {st0 : DSt} {σ0 : L2.St} {o : Out} {D : Ends} {tg : DG} {body : DS} (k0 : StRel K F0 H0 β st0 σ0) (g : Gives K F0 J ds) (e : forL tg body ds st0 = some o) (q : OutOk K F0 H0 β st0 σ0 o D) :
    ∃ W : Nat → Nat → L2.St → Hp → Prop, (∃ m, W 0 m σ0 H0) ∧ ∀ i m σ H, W i m σ H →
      (J.stop i H ∧ D.nx σ H) ∨ (J.go i H ∧ ∃ N : L2.St → Hp → Prop, (∀ σ' H', N σ' H' → ∃ m', m' < m ∧ W (i + 1) m' σ' H') ∧ ∀ x H', J.yld i H x H' → tG K tg x σ H' fun σ2 H2 => tS K body { D with nx := N, ct := N, bk := D.nx } σ2 H2) := by
  refine ⟨fun i m σ H => m = ds.length - i ∧ i ≤ ds.length ∧ ∃ F st, SOk K F0 H0 β st0 σ0 F H st σ ∧ forL tg body (ds.drop i) st = some o, ⟨_, rfl, Nat.zero_le _, F0, st0, SOk.refl k0, by simpa using e⟩, ?_⟩
  rintro i m σ H ⟨rfl, hi, F, st, k, e2⟩
  by_cases hlt : i < ds.length
  · refine .inr ⟨g.go F H i k.stp.mono k.rel.le hlt, fun σ' H' => ∃ F' st', SOk K F0 H0 β st0 σ0 F' H' st' σ' ∧ forL tg body (ds.drop (i + 1)) st' = some o, fun σ' H' ⟨F', st', k', e'⟩ => ⟨ds.length - (i + 1), by omega, rfl, hlt, F', st', k', e'⟩, fun x H' y => ?_⟩
    obtain ⟨rfl, d, ed, rd⟩ := g.yld F H i x H' k.stp.mono k.rel.le hlt y
    rw [List.drop_eq_getElem_cons hlt] at e2
    have ed' : ds[i] = d := by
      rw [List.getElem?_eq_getElem hlt] at ed
      exact Option.some.inj ed
    rw [ed'] at e2
    obtain ⟨s1, e3, e4⟩ := bind_some e2
    obtain ⟨o1, e5, e6⟩ := bind_some e4
    refine ⟨F, β, st, d, s1, k.rel, rd, e3, fun F1 H1 σ1 k1 => ⟨F1, β, s1, o1, k1.rel, e5, ?_⟩⟩
    cases o1 with
    | nx s2 => exact fun F2 H2 σ2 k2 => ⟨F2, s2, (k.trans k1).trans k2, e6⟩
    | ct s2 => exact fun F2 H2 σ2 k2 => ⟨F2, s2, (k.trans k1).trans k2, e6⟩
    | bk s2 =>
      cases e6
      exact fun F2 H2 σ2 k2 => q F2 H2 σ2 ((k.trans k1).trans k2)
    | rt r s2 =>
      cases e6
      exact fun F2 H2 σ2 v k2 => q F2 H2 σ2 v ((k.trans k1).thenR k2)
  · have e3 : i = ds.length := by omega
    subst e3
    rw [List.drop_length] at e2
    cases e2
    exact .inl ⟨g.stop F H k.stp.mono k.rel.le, q F H σ k⟩
/-- walking data -/
def iD (K : Fg) (f : DF) : TI := fun σ H R => iList K (tF K f) σ H R ∨ iTup K (tF K f) σ H R ∨ iStr (tF K f) σ H R
variable {e tg a b : Expr} {f g : DF} {pos p : Pos}
theorem i_data (he : PE X e (tF X.K f)) : PI X tg e (iD X.K f) := PI.or (pi_list he) (PI.or (pi_tup he) (pi_str he))
theorem iD_of {f : DF} {σ : L2.St} {H F : Hp} {β : Nat → Option Addr} {st : DSt} {c : D} {st' : DSt} {ds : List D} {R : It → Hp → Prop} (k : StRel K F H β st σ) (e : f st = some (c, st')) (hi : itemsD c = some ds)
    (h : ∀ F' H' J, BOk K F H β st σ F' H' st' → Gives K F' J ds → R J H') : iD K f σ H R := by
  cases c with
  | list xs =>
    cases hi
    refine .inl ⟨F, β, st, _, st', k, e, fun F1 H1 v k1 => ?_⟩
    obtain ⟨p, vs, rfl, h1, h2⟩ := k1.res.list_inv
    exact ⟨p, rfl, ⟨vs, k1.rel.le.seq h1⟩, h _ _ _ k1.b (gives_list h1 h2)⟩
  | tuple xs =>
    cases hi
    refine .inr (.inl ⟨F, β, st, _, st', k, e, fun F1 H1 v k1 => ?_⟩)
    obtain ⟨p, vs, rfl, h1, h2⟩ := k1.res.tup_inv
    exact ⟨p, rfl, ⟨vs, SqT.mono k1.rel.le h1⟩, h _ _ _ k1.b (gives_tup h1 h2)⟩
  | str x =>
    cases hi
    refine .inr (.inr ⟨F, β, st, _, st', k, e, fun F1 H1 v k1 => ?_⟩)
    obtain ⟨rfl, h2⟩ := k1.res.str_eq
    exact ⟨x, rfl, h _ _ _ k1.b (gives_str h2)⟩
  | _ => cases hi
def dFor (it : DF) (tg : DG) (body : DS) : DS := fun st => (it st).bind fun p => (itemsD p.1).bind fun ds => forL tg body ds p.2
theorem s_for {body : List Stmt} {dg : DG} {db : DS} (hp : PassesOwn (model X.prog X.w) X.A X.env X.xe) (hc : X.calm = true) (hi : PE X e (tF X.K f)) (hg : PG X tg (tG X.K dg)) (hb : PSs X body (tS X.K db)) (hs : ∀ x, foldedSetIterable e X.env x = pure x := by intro _; rfl) :
    PS X (.For tg e body [] pos) (tS X.K (dFor f dg db)) := PS.imp (ps_for hp hc (i_data hi) hg hb hs) fun D σ H ⟨F, β, st, o, r, e1, q⟩ => by
  obtain ⟨c, h1, e2⟩ := bind_some e1
  obtain ⟨ds, h2, e3⟩ := bind_some e2
  exact iD_of (K := X.K) r h1 h2 fun F1 H1 J k g1 => for_core k.rel g1 e3 (q.after k.s)
/-- range(n), range(a, b) -/
noncomputable def rng1 (d : D) : Option (List D) := (intOf d).bind fun n => @ite _ (-(2 ^ 62) ≤ n ∧ n < 2 ^ 62) (Classical.propDecidable _) (some (intsFrom 0 n.toNat)) none
noncomputable def rng2 (d d2 : D) : Option (List D) := (intOf d).bind fun m => (intOf d2).bind fun n => @ite _ (-(2 ^ 62) ≤ m ∧ m < 2 ^ 62 ∧ -(2 ^ 62) ≤ n ∧ n < 2 ^ 62) (Classical.propDecidable _) (some (intsFrom m (n - m).toNat)) none
noncomputable def itR1 (f : DF) : DSt → Option (List D × DSt) := fun st => (f st).bind fun p => (rng1 p.1).bind fun ds => some (ds, p.2)
noncomputable def itR2 (f g : DF) : DSt → Option (List D × DSt) := fun st => (f st).bind fun p => (g p.2).bind fun q => (rng2 p.1 q.1).bind fun ds => some (ds, q.2)
/-- a walk over items that are told -/
def tI (K : Fg) (it : DSt → Option (List D × DSt)) : TI := fun σ H R => ∃ F β st ds st', StRel K F H β st σ ∧ it st = some (ds, st') ∧ ∀ F' H' J, BOk K F H β st σ F' H' st' → Gives K F' J ds → R J H'
theorem i_r1 (hg : Gl X "range") (hm : X.mg "range" = none) (ha : PE X a (tF X.K f)) (hs : starEach [a] X.env = [(false, eval a X.env)] := by rfl) : PI X tg (.Call (.Name "range" p) [a] [] pos) (tI X.K (itR1 f)) :=
  PI.imp (pi_range1 hg hm (pa_cons ha pa_nil hs) hs) fun σ H R ⟨F, β, st, ds, st', r, e1, q⟩ => by
    obtain ⟨c, h1, e2⟩ := bind_some e1
    obtain ⟨ds', h2, e3⟩ := bind_some e2
    cases e3
    obtain ⟨n, h3, e4⟩ := bind_some h2
    obtain ⟨hz, rfl⟩ := ite_some e4
    refine ⟨F, β, st, c.1, c.2, r, h1, fun F1 H1 v k => ?_⟩
    have k2 := k.res
    rw [intOf_eq h3] at k2
    exact ⟨n, by rw [k2.int_eq], hz.1, hz.2, q _ _ _ k.b gives_range⟩
theorem i_r2 (hg : Gl X "range") (hm : X.mg "range" = none) (ha : PE X a (tF X.K f)) (hb : PE X b (tF X.K g)) (hs : starEach [a, b] X.env = [(false, eval a X.env), (false, eval b X.env)] := by rfl) (hs2 : starEach [b] X.env = [(false, eval b X.env)] := by rfl) : PI X tg (.Call (.Name "range" p) [a, b] [] pos) (tI X.K (itR2 f g)) :=
  PI.imp (pi_range2 hg hm (pa_cons ha (pa_cons hb pa_nil hs2) (by rw [hs, hs2])) hs hs2) fun σ H R ⟨F, β, st, ds, st', r, e1, q⟩ => by
    obtain ⟨c, h1, e2⟩ := bind_some e1
    obtain ⟨c2, h2, e2⟩ := bind_some e2
    obtain ⟨ds', h3, e3⟩ := bind_some e2
    cases e3
    obtain ⟨m, h4, e4⟩ := bind_some h3
    obtain ⟨n, h5, e5⟩ := bind_some e4
    obtain ⟨hz, rfl⟩ := ite_some e5
    refine ⟨F, β, st, c.1, c.2, r, h1, fun F1 H1 v k => ⟨F1, β, c.2, c2.1, c2.2, k.rel, h2, fun F2 H2 w k2 => ?_⟩⟩
    have z1 := k.res
    rw [intOf_eq h4] at z1
    have z2 := k2.res
    rw [intOf_eq h5] at z2
    exact ⟨m, n, by rw [z1.int_eq, z2.int_eq], hz, q _ _ _ (k.b.trans k2.b) gives_range⟩
def itD (f : DF) : DSt → Option (List D × DSt) := fun st => (f st).bind fun p => (itemsD p.1).bind fun ds => some (ds, p.2)
theorem i_d (he : PE X e (tF X.K f)) : PI X tg e (tI X.K (itD f)) := PI.imp (i_data he) fun σ H R ⟨F, β, st, ds, st', r, e1, q⟩ => by
  obtain ⟨c, h1, e2⟩ := bind_some e1
  obtain ⟨ds', h2, e3⟩ := bind_some e2
  cases e3
  exact iD_of (K := X.K) r h1 h2 fun F1 H1 J k g1 => q F1 H1 J k g1
def dForI (it : DSt → Option (List D × DSt)) (tg : DG) (body : DS) : DS := fun st => (it st).bind fun p => forL tg body p.1 p.2
theorem s_forI {body : List Stmt} {dg : DG} {db : DS} {it : DSt → Option (List D × DSt)} (hp : PassesOwn (model X.prog X.w) X.A X.env X.xe) (hc : X.calm = true) (hi : PI X tg e (tI X.K it)) (hg : PG X tg (tG X.K dg)) (hb : PSs X body (tS X.K db)) (hs : ∀ x, foldedSetIterable e X.env x = pure x := by intro _; rfl) :
    PS X (.For tg e body [] pos) (tS X.K (dForI it dg db)) := PS.imp (ps_for hp hc hi hg hb hs) fun D σ H ⟨F, β, st, o, r, e1, q⟩ => by
  obtain ⟨c, h1, e2⟩ := bind_some e1
  exact ⟨F, β, st, c.1, c.2, r, h1, fun F1 H1 J k g1 => for_core k.rel g1 e2 (q.after k.s)⟩

/-! ### list comprehensions -/
/-- the slots of the block's own names are forgotten -/
def wipeD (st : DSt) (vs : List Nat) : DSt := vs.foldl (fun s i => s.set i none) st
def lcL (tg : DG) (tt : DB) (te : DF) (vs : List Nat) : List D → DSt → List D → Option (List D × DSt)
  | [], st, acc => some (acc, st)
  | d :: ds, st, acc => (tg d st).bind fun s1 => (tt s1).bind fun p => if p.1 = true then (te p.2).bind fun q => if acc.length < 16777216 then lcL tg tt te vs ds (wipeD q.2 vs) (acc ++ [q.1]) else none else lcL tg tt te vs ds (wipeD p.2 vs) acc
structure GOk (K : Fg) (F H : Hp) (β : Nat → Option Addr) (st : DSt) (σ : L2.St) (F' H' : Hp) (st' : DSt) (σ' : L2.St) : Prop where
  rel : StRel K F' H' β st' σ'
  stp : Stp F H (Own st σ) F' H'
  sub : ∀ a, Own st' σ' a → Own st σ a
theorem GOk.refl {K : Fg} {F H : Hp} {β : Nat → Option Addr} {st : DSt} {σ : L2.St} (r : StRel K F H β st σ) : GOk K F H β st σ F H st σ := ⟨r, Stp.refl _, fun _ h => h⟩
theorem GOk.trans {K : Fg} {F H F1 H1 F2 H2 : Hp} {β : Nat → Option Addr} {st st1 st2 : DSt} {σ σ1 σ2 : L2.St} (k : GOk K F H β st σ F1 H1 st1 σ1) (k2 : GOk K F1 H1 β st1 σ1 F2 H2 st2 σ2) : GOk K F H β st σ F2 H2 st2 σ2 :=
  ⟨k2.rel, k.stp.trans k2.stp fun a h => .inl (k.sub a h), fun a h => k.sub a (k2.sub a h)⟩
theorem BOk.toG {K : Fg} {F H F1 H1 : Hp} {β : Nat → Option Addr} {st st1 : DSt} {σ : L2.St} (k : BOk K F H β st σ F1 H1 st1) : GOk K F H β st σ F1 H1 st1 σ := ⟨k.rel, k.stp, k.sub⟩
def tGw (K : Fg) (g : DG) (vs : List Nat) : TG := fun v σ H Q => ∃ F β st d st', StRel K F H β st σ ∧ Rp K F v d ∧ g d st = some st' ∧ ∀ F' H' σ', wipe σ' vs = wipe σ vs → GOk K F H β st σ F' H' st' σ' → Q σ' H'
def tGsw (K : Fg) (g : DGs) (vs : List Nat) : TGs := fun ws σ H Q => ∃ F β st ds st', StRel K F H β st σ ∧ RpAll K F ws ds ∧ g ds st = some st' ∧ ∀ F' H' σ', wipe σ' vs = wipe σ vs → GOk K F H β st σ F' H' st' σ' → Q σ' H'
end
theorem wipe_in {σ : L2.St} {i : Nat} : ∀ {vs : List Nat}, i ∈ vs → (wipe σ vs)[i]? = if i < σ.length then some none else none
  | v :: vs, h => by
    show ((wipe σ vs).set v none)[i]? = _
    by_cases e : v = i
    · subst e
      by_cases hl : v < σ.length
      · rw [if_pos hl, List.getElem?_set_self (by rw [wipe_length]; exact hl)]
      · rw [if_neg hl, List.getElem?_eq_none (by rw [List.length_set, wipe_length]; omega)]
    · rw [List.getElem?_set_ne e]
      rcases List.mem_cons.mp h with z | z
      · exact absurd z.symm e
      · exact wipe_in z
theorem wipe_same {σ σ' : L2.St} {vs : List Nat} (hl : σ'.length = σ.length) (h : ∀ i, i ∉ vs → σ'[i]? = σ[i]?) : wipe σ' vs = wipe σ vs := by
  apply List.ext_getElem?
  intro i
  by_cases hi : i ∈ vs
  · rw [wipe_in hi, wipe_in hi, hl]
  · rw [L2.wipe_out hi, L2.wipe_out hi, h i hi]
theorem same_wipe {σ σ' : L2.St} {vs : List Nat} (h : wipe σ' vs = wipe σ vs) : σ'.length = σ.length ∧ ∀ i, i ∉ vs → σ'[i]? = σ[i]? := by
  refine ⟨by rw [← wipe_length σ' vs, h, wipe_length], fun i hi => ?_⟩
  rw [← L2.wipe_out (σ := σ') hi, h, L2.wipe_out hi]
theorem wipe_set {σ : L2.St} {i : Nat} {x : Option V} {vs : List Nat} (h : i ∈ vs) : wipe (σ.set i x) vs = wipe σ vs :=
  wipe_same (by simp) fun j hj => List.getElem?_set_ne (fun e => hj (by rw [← e]; exact h))
theorem wipe_wipe {σ : L2.St} {vs : List Nat} : wipe (wipe σ vs) vs = wipe σ vs := wipe_same (wipe_length _ _) fun j hj => L2.wipe_out hj
theorem wipeD_in : ∀ (vs : List Nat) (st : DSt) (i : Nat) (s : SV), (wipeD st vs)[i]? = some (some s) → i ∉ vs ∧ st[i]? = some (some s)
  | [], st, i, s, h => ⟨by simp, h⟩
  | v :: vs, st, i, s, h => by
    obtain ⟨h1, h2⟩ := wipeD_in vs (st.set v none) i s h
    by_cases e : v = i
    · subst e
      by_cases hl : v < st.length
      · rw [List.getElem?_set_self hl] at h2; cases h2
      · rw [List.getElem?_eq_none (by simpa using hl)] at h2; cases h2
    · rw [List.getElem?_set_ne e] at h2
      exact ⟨by simp only [List.mem_cons, not_or]; exact ⟨fun z => e z.symm, h1⟩, h2⟩
theorem wipeD_len : ∀ (vs : List Nat) (st : DSt), (wipeD st vs).length = st.length
  | [], st => rfl
  | v :: vs, st => by
    show (wipeD (st.set v none) vs).length = _
    rw [wipeD_len vs, List.length_set]
section
variable {K : Fg} {F H F' H' F1 H1 : Hp} {β : Nat → Option Addr} {st st' st1 : DSt} {σ σ' : L2.St} {a : Addr}
/-- the same slots, another frame that agrees where they hold something -/
theorem StRel.agree (k : StRel K F H β st σ) (hl : σ'.length = σ.length) (h : ∀ (i : Nat) (s : SV), st[i]? = some (some s) → σ'[i]? = σ[i]?) : StRel K F H β st σ' :=
  ⟨k.le, by rw [k.len, hl], fun i s e => by rw [h i s e]; exact k.slot i s e, fun i j t xs u ys a z1 z2 z3 z4 => by
    rw [h i _ z1] at z3
    rw [h j _ z2] at z4
    exact k.ne _ _ _ _ _ _ _ z1 z2 z3 z4⟩
theorem own_agree (h : ∀ (i : Nat) (s : SV), st[i]? = some (some s) → σ'[i]? = σ[i]?) (o : Own st σ' a) : Own st σ a := by
  obtain ⟨i, t, c, z1, z2⟩ := o
  rw [h i _ z1] at z2
  exact ⟨i, t, c, z1, z2⟩
/-- an object beside the slots and the frozen is written -/
theorem StRel.beside (k : StRel K F H β st σ) {p : Addr} {o : HO} (f : F p = none) (n : ¬ Own st σ p) : StRel K F (upd H p o) β st σ :=
  ⟨fun b u z => by rw [upd_ne (ne_of_none z f)]; exact k.le _ _ z, k.len, fun i s e => by
    obtain ⟨v, e1, q⟩ := k.slot i s e
    refine ⟨v, e1, ?_⟩
    cases s with
    | val d => exact q
    | own t c =>
      obtain ⟨a2, o2, rfl, f2, h2, q2, b2⟩ := q
      have hne : a2 ≠ p := by
        rintro rfl
        exact n ⟨i, t, c, e, e1⟩
      exact ⟨a2, o2, rfl, f2, by rw [upd_ne hne]; exact h2, q2, b2⟩, k.ne⟩
end
section
variable {X : Cx} {e tg : Expr} {es : List Expr} {g : DG} {gs : DGs} {pos : Pos} {vs : List Nat}
theorem gw_nm (i : Nat) {x : Str} (hv : i ∈ vs) (hN : X.N.Nodup) (hi : X.N[i]? = some x := by rfl) (hx : Loc X.env.scope x := by first | exact Or.inl rfl | exact Or.inr rfl) (hf : X.fn x = true ∨ X.env.scope.names.lookup x = some .local := by first | exact .inl rfl | exact .inr rfl | assumption) : PG X (.Name x pos) (tGw X.K (dNm i) vs) :=
  PG.imp (pg_name hN hi hx hf) fun v σ H Q ⟨F, β, st, d, st', r, h, e, q⟩ => by
    cases e
    exact q F H _ (wipe_set hv) ⟨(r.putD i h).rel, (r.putD i h).stp, fun a z => (own_put z r.len).elim id fun ⟨_, _, z, _⟩ => nomatch z⟩
theorem gw_nil : PGs X [] (tGsw X.K dGN vs) := PGs.imp pgs_nil fun ws σ H Q ⟨F, β, st, ds, st', r, h, e, q⟩ => by
  unfold dGN at e
  split at e
  · cases e
    cases h
    exact ⟨rfl, q F H _ rfl (GOk.refl r)⟩
  · cases e
theorem gw_cons (h1 : PG X e (tGw X.K g vs)) (h2 : PGs X es (tGsw X.K gs vs)) (hs : (assignEach (e :: es) X.env).map (·.2) = assign e X.env :: (assignEach es X.env).map (·.2) := by rfl) : PGs X (e :: es) (tGsw X.K (dGC g gs) vs) :=
  PGs.imp (pgs_cons h1 h2 hs) fun ws σ H Q ⟨F, β, st, ds, st', r, h, e, q⟩ => by
    unfold dGC at e
    split at e
    · obtain ⟨s1, e1, e2⟩ := bind_some e
      cases h with
      | cons h3 h4 =>
        exact ⟨_, _, rfl, F, β, st, _, s1, r, h3, e1, fun F1 H1 σ1 w1 k => ⟨F1, β, s1, _, st', k.rel, RpAll.mono k.stp.mono h4, e2, fun F2 H2 σ2 w2 k2 => q F2 H2 σ2 (w2.trans w1) (k.trans k2)⟩⟩
    · cases e
theorem gw_tp (n : Nat) {k : Nat} (hc : X.calm = true) (h : PGs X es (tGsw X.K gs vs)) (hn : (assignEach es X.env).length = n := by rfl) (hst : (assignEach es X.env).findIdx? (·.1) = none := by rfl) : PG X (.Tuple es k pos) (tGw X.K (dTp n gs) vs) :=
  PG.imp (pg_tup hc h hn hst) fun v σ H Q ⟨F, β, st, d, st', r, h, e, q⟩ => by
    unfold dTp at e
    split at e
    · rename_i ds
      by_cases hz : ds.length = n
      · rw [if_pos hz] at e
        obtain ⟨a, ws, rfl, h1, h2⟩ := h.tup_inv
        exact ⟨a, ws, rfl, SqT.mono r.le h1, by rw [h2.length]; exact hz, F, β, st, ds, st', r, h2, e, q⟩
      · rw [if_neg hz] at e; cases e
    · cases e
def dYes : DB := fun st => some (true, st)
theorem ts_nil : PTs X [] (tT X.K dYes) := ⟨fun pins s σ H Q I ⟨F, β, st, b, st', r, e, q⟩ => by
  cases e
  exact pts_nil.run pins s σ H Q I (q F H (BOk.refl r))⟩
theorem ts_one {c : Expr} {t : DB} (h : PT X c (tT X.K t)) : PTs X [c] (tT X.K t) := pts_one h
end
def dLc (it : DSt → Option (List D × DSt)) (tg : DG) (tt : DB) (te : DF) (vs : List Nat) : DE := fun st => (it st).bind fun p => (lcL tg tt te vs p.1 (wipeD p.2 vs) []).bind fun q => some (.own none (.list q.1), q.2)
theorem lc_to {K : Fg} {it : DSt → Option (List D × DSt)} {tg : DG} {tt : DB} {te : DF} {vs : List Nat} {σ : L2.St} {H : Hp} {Q : VK} (h : tD K (dLc it tg tt te vs) σ H Q) : tLc (tI K it) (tGw K tg vs) (tT K tt) (tF K te) vs σ H Q := by
  obtain ⟨F0, β, st0, r, st', k0, e, q⟩ := h
  obtain ⟨p, e1, e2⟩ := bind_some e
  obtain ⟨p2, e3, e4⟩ := bind_some e2
  cases e4
  refine ⟨F0, β, st0, p.1, p.2, k0, e1, fun F1 H1 J k1 g1 A hA => ?_⟩
  have fA : F1 A = none := k1.rel.le.free hA
  have nA : ¬ Own p.2 σ A := fun z => by
    obtain ⟨o, h2, _⟩ := k1.rel.ownH z
    rw [hA] at h2; cases h2
  -- W: the list so far stands at A
  refine ⟨fun i m H => m = p.1.length - i ∧ i ≤ p.1.length ∧ ∃ F st acc va, StRel K F H β st σ ∧ (∀ i s, st[i]? = some (some s) → i ∉ vs) ∧ Same F1 F ∧ (∀ a o, H1 a = some o → F1 a = none → ¬ Own p.2 σ a → H a = some o ∧ F a = none) ∧ (∀ a, Own st σ a → Own p.2 σ a) ∧ H A = some (.lst va) ∧ F A = none ∧ RpAll K F va acc ∧ ¬ Own st σ A ∧
    lcL tg tt te vs (p.1.drop i) st acc = some p2, ⟨_, rfl, Nat.zero_le _, F1, wipeD p.2 vs, [], [], ?_, fun i s z => (wipeD_in vs _ i s z).1, Same.refl _, fun a o h1 h2 h3 => ⟨by rw [upd_ne (ne_of_none h1 hA)]; exact h1, h2⟩, fun a ⟨i, t, c, z1, z2⟩ => ⟨i, t, c, (wipeD_in vs _ i _ z1).2, z2⟩, upd_same, fA, .nil, fun ⟨i, t, c, z1, z2⟩ => nA ⟨i, t, c, (wipeD_in vs _ i _ z1).2, z2⟩, by simpa using e3⟩, ?_⟩
  · exact ((kills K vs p.2 k1.rel).rel).beside fA fun ⟨i, t, c, z1, z2⟩ => nA ⟨i, t, c, (wipeD_in vs _ i _ z1).2, z2⟩
  · rintro i m H ⟨rfl, hi, F, st, acc, va, k, hv, mF, kp, sb, hD, fD, ra, nD, e5⟩
    by_cases hlt : i < p.1.length
    · refine .inr ⟨g1.go F H i mF k.le hlt, fun H' => ∃ F st acc va, StRel K F H' β st σ ∧ (∀ i s, st[i]? = some (some s) → i ∉ vs) ∧ Same F1 F ∧ (∀ a o, H1 a = some o → F1 a = none → ¬ Own p.2 σ a → H' a = some o ∧ F a = none) ∧ (∀ a, Own st σ a → Own p.2 σ a) ∧ H' A = some (.lst va) ∧ F A = none ∧ RpAll K F va acc ∧ ¬ Own st σ A ∧
        lcL tg tt te vs (p.1.drop (i + 1)) st acc = some p2, fun H' z => ⟨p.1.length - (i + 1), by omega, rfl, hlt, z⟩, fun x H' y => ?_⟩
      obtain ⟨rfl, d, ed, rd⟩ := g1.yld F H i x H' mF k.le hlt y
      rw [List.drop_eq_getElem_cons hlt] at e5
      have ed' : p.1[i] = d := by
        rw [List.getElem?_eq_getElem hlt] at ed
        exact Option.some.inj ed
      rw [ed'] at e5
      obtain ⟨s1, e6, e7⟩ := bind_some e5
      obtain ⟨p3, e8, e9⟩ := bind_some e7
      have ag : ∀ i s, st[i]? = some (some s) → (wipe σ vs)[i]? = σ[i]? := fun i s z => L2.wipe_out (hv i s z)
      have kw := k.agree (wipe_length σ vs) ag
      have ow : ∀ a, Own st (wipe σ vs) a → Own st σ a := fun a z => own_agree ag z
      refine ⟨F, β, st, d, s1, kw, rd, e6, fun F2 H2 σ2 w2 k2 => ⟨w2.trans wipe_wipe, F2, β, s1, p3.1, p3.2, k2.rel, e8, fun F3 H3 k3 => ?_⟩⟩
      have k23 := k2.trans k3.toG
      obtain ⟨len2, out2⟩ := same_wipe (w2.trans wipe_wipe)
      -- a state at σ2, its block slots forgotten, is one at σ
      have home : ∀ {F' H' : Hp} {sx : DSt}, StRel K F' H' β sx σ2 → StRel K F' H' β (wipeD sx vs) σ := fun {F' H' sx} z => ((kills K vs sx z).rel).agree len2.symm fun i s z2 => (out2 i (wipeD_in vs _ i s z2).1).symm
      have homeO : ∀ {sx : DSt} {a : Addr}, Own (wipeD sx vs) σ a → Own sx σ2 a := fun {sx a} ⟨i, t, c, z1, z2⟩ => ⟨i, t, c, (wipeD_in vs _ i _ z1).2, by rw [out2 i (wipeD_in vs _ i _ z1).1]; exact z2⟩
      -- what holds behind any further step
      have fin : ∀ {F' H'' : Hp} {sx : DSt}, GOk K F H' β st (wipe σ vs) F' H'' sx σ2 → Same F1 F' ∧ (∀ a o, H1 a = some o → F1 a = none → ¬ Own p.2 σ a → H'' a = some o ∧ F' a = none) ∧ (∀ a, Own (wipeD sx vs) σ a → Own p.2 σ a) ∧ H'' A = some (.lst va) ∧ F' A = none ∧ ¬ Own (wipeD sx vs) σ A := fun {F' H'' sx} z => by
        have hA' := z.stp.keep A _ hD fD (fun w => nD (ow _ w))
        refine ⟨mF.trans z.stp.mono, fun a o h1 h2 h3 => ?_, fun a w => sb a (ow a (z.sub a (homeO w))), hA'.1, hA'.2, fun w => nD (ow A (z.sub A (homeO w)))⟩
        obtain ⟨x1, x2⟩ := kp a o h1 h2 h3
        exact z.stp.keep a o x1 x2 fun w => h3 (sb a (ow a w))
      show ite _ _ _
      split
      · rename_i hp
        rw [if_pos hp] at e9
        obtain ⟨p4, e10, e11⟩ := bind_some e9
        refine ⟨F3, β, p3.2, p4.1, p4.2, k3.rel, e10, fun F4 H4 y k4 => ?_⟩
        have hz : acc.length < 16777216 := by
          by_cases hz : acc.length < 16777216
          · exact hz
          · rw [if_neg hz] at e11; cases e11
        rw [if_pos hz] at e11
        obtain ⟨f1, f2, f3, f4, f5, f6⟩ := fin (k23.trans k4.b.toG)
        have m4 := (k23.trans k4.b.toG).stp.mono
        refine ⟨va, f4, by rw [ra.length, ← big_eq]; exact hz, F4, _, acc ++ [p4.1], va ++ [y], (home k4.rel).beside f5 f6, fun i s z => (wipeD_in vs _ i s z).1, f1, fun a o h1 h2 h3 => ?_, f3, upd_same, f5, (RpAll.mono m4 ra).append (.one k4.res), f6, e11⟩
        rw [upd_ne (ne_of_none h1 hA)]
        exact f2 a o h1 h2 h3
      · rename_i hp
        rw [if_neg hp] at e9
        obtain ⟨f1, f2, f3, f4, f5, f6⟩ := fin k23
        exact ⟨F3, _, acc, va, home k3.rel, fun i s z => (wipeD_in vs _ i s z).1, f1, f2, f3, f4, f5, RpAll.mono k23.stp.mono ra, f6, e9⟩
    · have e6 : i = p.1.length := by omega
      subst e6
      rw [List.drop_length] at e5
      cases e5
      refine .inl ⟨g1.stop F H mF k.le, q F H _ ⟨k, ⟨k1.stp.mono.trans mF, fun a o h1 h2 h3 => ?_⟩, fun a z => k1.sub a (sb a z), ⟨A, .lst va, rfl, fD, hD, .lst ra, fun j z => nomatch z⟩, fun t c a h1 h2 => ?_⟩⟩
      · obtain ⟨x1, x2⟩ := k1.stp.keep a o h1 h2 h3
        exact kp a o x1 x2 fun z => h3 (k1.sub a z)
      · cases h1
        cases h2
        exact ⟨rfl, nD, k1.stp.fresh k1.rel.le hA⟩
section
variable {X : Cx} {elt tg iter : Expr} {ifs : List Expr} {scope : Scope} {own : List (Str × Nat)} {pos : Pos} {it : DSt → Option (List D × DSt)} {g : DG} {tt : DB} {te : DF}
theorem pd_lc (hc : X.calm = true) (hN : X.N.Nodup) (hi : PI X tg iter (tI X.K it)) (ok : BlkOk X.N X.env.scope scope own)
    (hg : ∀ (s : Shared) (H : Hp) (C : Addr) (cl : List (Str × Addr)) (fp : List Addr), PG (X.blk s H scope (compEnvC scope cl C X.env) fp) tg (tGw X.K g (own.map (·.2)))) (ht : ∀ (s : Shared) (H : Hp) (C : Addr) (cl : List (Str × Addr)) (fp : List Addr), PTs (X.blk s H scope (compEnvC scope cl C X.env) fp) ifs (tT X.K tt))
    (he : ∀ (s : Shared) (H : Hp) (C : Addr) (cl : List (Str × Addr)) (fp : List Addr), PE (X.blk s H scope (compEnvC scope cl C X.env) fp) elt (tF X.K te)) (hs : ∀ x, foldedSetIterable iter X.env x = pure x := by intro _; rfl) :
    PE X (.ListComp elt [⟨tg, iter, ifs, 0⟩] scope pos) (tD X.K (dLc it g tt te (own.map (·.2)))) := PE.imp (pe_lc hc hN hi ok hg ht he hs) fun _ _ _ h => lc_to h
/-- name = [..] on one line -/
theorem s_setLc (i : Nat) {y : Str} {py spos : Pos} (hc : X.calm = true) (hN : X.N.Nodup) (hi : PI X tg iter (tI X.K it)) (ok : BlkOk X.N X.env.scope scope own)
    (hg : ∀ (s : Shared) (H : Hp) (C : Addr) (cl : List (Str × Addr)) (fp : List Addr), PG (X.blk s H scope (compEnvC scope cl C X.env) fp) tg (tGw X.K g (own.map (·.2)))) (ht : ∀ (s : Shared) (H : Hp) (C : Addr) (cl : List (Str × Addr)) (fp : List Addr), PTs (X.blk s H scope (compEnvC scope cl C X.env) fp) ifs (tT X.K tt))
    (he : ∀ (s : Shared) (H : Hp) (C : Addr) (cl : List (Str × Addr)) (fp : List Addr), PE (X.blk s H scope (compEnvC scope cl C X.env) fp) elt (tF X.K te)) 
    (hy : X.N[i]? = some y := by rfl) (hyl : X.env.scope.names.lookup y = some .local := by rfl) (hsw : swapsWith (.ListComp elt [⟨tg, iter, ifs, 0⟩] scope pos) (some (.Name y py)) spos.line X.env = pure true := by exact sw_true rfl rfl rfl (by decide +kernel))
    (hs : ∀ x, foldedSetIterable iter X.env x = pure x := by intro _; rfl) :
    PS X (.Assign [.Name y py] (.ListComp elt [⟨tg, iter, ifs, 0⟩] scope pos) spos) (tS X.K (dSet i (dLc it g tt te (own.map (·.2))))) := PS.imp (ps_setLc hc hN hy hyl hsw hi ok hg ht he hs) fun D σ H ⟨F, β, st, o, r, e, q⟩ => by
  obtain ⟨p, h1, e2⟩ := bind_some e
  cases e2
  exact lc_to ⟨F, β, st, p.1, p.2, r, h1, fun F1 H1 v k => q F1 H1 _ (k.put i)⟩
end
end DL

/-! DL9: defs: what they promise, their calls, their bodies -/
namespace DL
open PySem PySem.Spec PyProof.Rows L2
/-- what a def does: its arguments (a list that is handed over to be changed bears its place), the result and what these lists are then -/
abbrev Fn := List SV → Option (SV × DSt)
def Tagged (args : List SV) : Prop := ∀ (i : Nat) t c, args[i]? = some (SV.own t c) → t = some i
structure COk (K : Fg) (F H : Hp) (β : Nat → Option Addr) (args : List SV) (vs : List V) (F' H' : Hp) (outs : DSt) (v : V) (r : SV) : Prop where
  rel : StRel K F' H' β outs (vs.map some)
  stp : Stp F H (Own (args.map some) (vs.map some)) F' H'
  res : SvOk K F' H' β v r
  fre : ∀ t c a, r = .own t c → v = .ref a → t = none ∧ ¬ Own outs (vs.map some) a ∧ (Own (args.map some) (vs.map some) a ∨ H a = none)
  own : ∀ (i : Nat) t c, outs[i]? = some (some (SV.own t c)) → t = some i
def spD (K : Fg) (n : Nat) (f : Fn) : Sp := fun vs H Q _ => vs.length = n ∧ ∃ F β args r outs, StRel K F H β (args.map some) (vs.map some) ∧ Tagged args ∧ f args = some (r, outs) ∧ ∀ F' H' v, COk K F H β args vs F' H' outs v r → Q v H'

/-! ### a body -/
def outsOf : List SV → Nat → DSt → Option DSt
  | [], _, _ => some []
  | .val _ :: as, j, st => (outsOf as (j + 1) st).bind fun o => some (none :: o)
  | .own _ _ :: as, j, st => match st[j]? with
    | some (some (.own (some k) c)) => if k = j then (outsOf as (j + 1) st).bind fun o => some (some (.own (some j) c) :: o) else none
    | _ => none
/-- the def of n names whose body does f -/
def defSem (n : Nat) (f : DS) : Fn := fun args => (f (args.map some ++ List.replicate (n - args.length) none)).bind fun o => match o with
  | .rt r st => (outsOf args 0 st).bind fun outs => some (r, outs)
  | .nx st => (outsOf args 0 st).bind fun outs => some (.val .none, outs)
  | _ => none
theorem outsOf_at : ∀ (as : List SV) (j : Nat) (st outs : DSt), outsOf as j st = some outs → outs.length = as.length ∧ ∀ (i : Nat) s, outs[i]? = some (some s) → ∃ c t c', s = .own (some (j + i)) c ∧ st[j + i]? = some (some s) ∧ as[i]? = some (.own t c')
  | [], j, st, outs, h => by
    cases h
    exact ⟨rfl, fun i s z => by simp at z⟩
  | .val d :: as, j, st, outs, h => by
    obtain ⟨o, h1, h2⟩ := bind_some h
    cases h2
    obtain ⟨l, q⟩ := outsOf_at as (j + 1) st o h1
    refine ⟨by simp [l], fun i s z => ?_⟩
    cases i with
    | zero => simp at z
    | succ i =>
      obtain ⟨c, t, c', z1, z2, z3⟩ := q i s (by simpa using z)
      have e : j + 1 + i = j + (i + 1) := by omega
      rw [e] at z1 z2
      exact ⟨c, t, c', z1, z2, by simpa using z3⟩
  | .own t0 c0 :: as, j, st, outs, h => by
    unfold outsOf at h
    split at h
    · rename_i k c e0
      split at h
      · rename_i hk
        subst hk
        obtain ⟨o, h1, h2⟩ := bind_some h
        cases h2
        obtain ⟨l, q⟩ := outsOf_at as (k + 1) st o h1
        refine ⟨by simp [l], fun i s z => ?_⟩
        cases i with
        | zero =>
          simp at z
          subst z
          exact ⟨c, t0, c0, rfl, e0, rfl⟩
        | succ i =>
          obtain ⟨c, t, c', z1, z2, z3⟩ := q i s (by simpa using z)
          have e : k + 1 + i = k + (i + 1) := by omega
          rw [e] at z1 z2
          exact ⟨c, t, c', z1, z2, by simpa using z3⟩
      · cases h
    · cases h
section
variable {P : Program} {w : World} {K : Fg} {mg : Str → Option Value} {base : Heap}
theorem start_get {vs : List V} {n i : Nat} : (vs.map some ++ List.replicate (n - vs.length) (none : Option V))[i]? = if i < vs.length then (vs.map some)[i]? else (List.replicate (n - vs.length) none)[i - vs.length]? := by
  rw [List.getElem?_append]
  simp
/-- behind a body: what the callers see -/
theorem fin_call {F H F' H' : Hp} {β : Nat → Option Addr} {args : List SV} {vs : List V} {n : Nat} {st' : DSt} {σ' : L2.St} {outs : DSt} {v : V} {r : SV} (k0 : StRel K F H β (args.map some) (vs.map some)) (tg : Tagged args)
    (k : ROk K F H β (args.map some ++ List.replicate (n - args.length) none) (vs.map some ++ List.replicate (n - vs.length) none) F' H' st' σ' v r) (e : outsOf args 0 st' = some outs) : COk K F H β args vs F' H' outs v r := by
  obtain ⟨ol, oa⟩ := outsOf_at args 0 st' outs e
  have la : args.length = vs.length := by simpa using k0.len
  have ownS : ∀ a, Own (args.map some ++ List.replicate (n - args.length) none) (vs.map some ++ List.replicate (n - vs.length) none) a → Own (args.map some) (vs.map some) a := fun a ⟨i, t, c, z1, z2⟩ => by
    rw [List.getElem?_append] at z1 z2
    by_cases hi : i < args.length
    · rw [if_pos (by simpa using hi)] at z1
      rw [if_pos (by simpa [← la] using hi)] at z2
      exact ⟨i, t, c, z1, z2⟩
    · rw [if_neg (by simpa using hi)] at z1
      rw [List.getElem?_replicate] at z1
      split at z1 <;> cases z1
  -- an out is the argument's own list, at its address
  have at_ : ∀ (i : Nat) s, outs[i]? = some (some s) → ∃ a c, s = .own (some i) c ∧ vs[i]? = some (.ref a) ∧ β i = some a ∧ σ'[i]? = some (some (.ref a)) ∧ SvOk K F' H' β (.ref a) s ∧ Own (args.map some) (vs.map some) a := fun i s z => by
    obtain ⟨c, t, c', z1, z2, z3⟩ := oa i s z
    rw [Nat.zero_add] at z1 z2
    subst z1
    have z4 : (args.map some)[i]? = some (some (SV.own t c')) := by rw [List.getElem?_map, z3]; rfl
    obtain ⟨v1, y1, a, o, rfl, f, hh, q, b⟩ := k0.slot i _ z4
    have bi := b i (tg i t c' z3)
    obtain ⟨v2, y2, y3⟩ := k.s.rel.slot i _ z2
    obtain ⟨a2, o2, rfl, f2, hh2, q2, b2⟩ := id y3
    have e2 := b2 i rfl
    rw [bi] at e2
    cases e2
    have y1' : vs[i]? = some (.ref a) := by
      rw [List.getElem?_map] at y1
      cases q3 : vs[i]? with
      | none => rw [q3] at y1; cases y1
      | some u => rw [q3] at y1; cases y1; rfl
    exact ⟨a, c, rfl, y1', bi, y2, y3, i, t, c', z4, y1⟩
  have ownO : ∀ a, Own outs (vs.map some) a → Own st' σ' a := fun a ⟨i, t, c, z1, z2⟩ => by
    obtain ⟨a2, c2, y1, y2, y3, y4, y5, _⟩ := at_ i _ z1
    rw [List.getElem?_map, y2] at z2
    cases z2
    obtain ⟨c4, t4, c5, x1, x2, _⟩ := oa i _ z1
    rw [Nat.zero_add] at x2
    exact ⟨i, t, c, x2, y4⟩
  refine ⟨⟨k.s.rel.le, by rw [ol, List.length_map, la], fun i s z => ?_, fun i j t c u c2 a z1 z2 z3 z4 => ?_⟩, ⟨k.s.stp.mono, fun a o h1 h2 h3 => k.s.stp.keep a o h1 h2 fun z => h3 (ownS a z)⟩, k.res, fun t c a h1 h2 => ?_, fun i t c z => ?_⟩
  · obtain ⟨a, c, y1, y2, y3, y4, y5, _⟩ := at_ i s z
    exact ⟨.ref a, by rw [List.getElem?_map, y2]; rfl, y5⟩
  · obtain ⟨c4, t4, c5, x1, x2, _⟩ := oa i _ z1
    obtain ⟨c6, t6, c7, x3, x4, _⟩ := oa j _ z2
    rw [Nat.zero_add] at x2 x4
    obtain ⟨a1, _, _, y2, _, y4, _⟩ := at_ i _ z1
    obtain ⟨a2, _, _, w2, _, w4, _⟩ := at_ j _ z2
    rw [List.getElem?_map, y2] at z3
    rw [List.getElem?_map, w2] at z4
    cases z3
    cases z4
    exact k.s.rel.ne _ _ _ _ _ _ _ x2 x4 y4 w4
  · obtain ⟨x1, x2, x3⟩ := k.fre t c a h1 h2
    exact ⟨x1, fun z => x2 (ownO a z), x3.imp (ownS a) id⟩
  · obtain ⟨a, c2, y1, _⟩ := at_ i _ z
    cases y1
    rfl
/-- THE RULE: a def whose body is shown to do f keeps the promise of f -/
theorem def_ok {x qual : Str} {st : Stmt} {f : Addr} {fd : FuncData} {N ps : List Str} {k : Nat} {fs : DS} (F : Fun K x qual st f fd) (S : FnScope N ps (defScope st))
    (hbody : ∀ (cdv : Value) (A : Around) (outer : List Env) (s : Shared) (H : Hp) (E : XK), Room k (A.deeper (envOfC qual (defScope st) s.heap.objs.size f cdv)) →
      PSs (cxOf CX0 P w K mg base N qual (defScope st) f cdv A outer s H E).nox (defBody st) (tS K fs)) : FnOk P w K mg base CX0 (k + 1) f fd ps (spD K ps.length (defSem N.length fs)) := by
  refine F.ok S (fun vs H Q E h => h.1) fun cdv A outer s H vs Q E hr h => ⟨_, hbody cdv A outer s H E hr, ?_⟩
  obtain ⟨hl, F0, β, args, r, outs, k0, tg, e, q⟩ := h
  have la : args.length = vs.length := by simpa using k0.len
  obtain ⟨o, e1, e2⟩ := bind_some e
  have k1 : StRel K F0 H β (args.map some ++ List.replicate (N.length - args.length) none) (L2.start N vs) := by
    unfold L2.start
    refine ⟨k0.le, by simp [la], fun i s z => ?_, fun i j t c u c2 a z1 z2 z3 z4 => ?_⟩
    · rw [List.getElem?_append] at z ⊢
      by_cases hi : i < args.length
      · rw [if_pos (by simpa using hi)] at z
        rw [if_pos (by simpa [← la] using hi)]
        exact k0.slot i s z
      · rw [if_neg (by simpa using hi), List.getElem?_replicate] at z
        split at z <;> cases z
    · have get : ∀ (i : Nat) (s : SV), (args.map some ++ List.replicate (N.length - args.length) none)[i]? = some (some s) → (args.map some)[i]? = some (some s) ∧ i < vs.length := fun i s z => by
        rw [List.getElem?_append] at z
        by_cases hi : i < args.length
        · rw [if_pos (by simpa using hi)] at z
          exact ⟨z, by omega⟩
        · rw [if_neg (by simpa using hi), List.getElem?_replicate] at z
          split at z <;> cases z
      obtain ⟨y1, l1⟩ := get i _ z1
      obtain ⟨y2, l2⟩ := get j _ z2
      rw [List.getElem?_append, if_pos (by simpa using l1)] at z3
      rw [List.getElem?_append, if_pos (by simpa using l2)] at z4
      exact k0.ne _ _ _ _ _ _ _ y1 y2 z3 z4
  refine ⟨F0, β, _, o, k1, e1, ?_⟩
  cases o with
  | nx st' =>
    obtain ⟨outs', e3, e4⟩ := bind_some e2
    cases e4
    exact fun F' H' σ' kk => q F' H' .non (fin_call k0 tg ⟨kk, .non, fun _ _ _ z => nomatch z⟩ e3)
  | rt r' st' =>
    obtain ⟨outs', e3, e4⟩ := bind_some e2
    cases e4
    exact fun F' H' σ' v kk => q F' H' v (fin_call k0 tg kk e3)
  | bk _ => cases e2
  | ct _ => cases e2
end

/-! ### calls -/
inductive Arg where
  | e (f : DF)
  | v (i : Nat)
def evA : List Arg → DSt → Option (List (D ⊕ Nat) × DSt)
  | [], st => some ([], st)
  | .e f :: as, st => (f st).bind fun p => (evA as p.2).bind fun q => some (.inl p.1 :: q.1, q.2)
  | .v i :: as, st => (peek st i).bind fun _ => (evA as st).bind fun q => some (.inr i :: q.1, q.2)
def mkArgs (st : DSt) : Nat → List (D ⊕ Nat) → Option (List SV)
  | _, [] => some []
  | j, .inl d :: us => (mkArgs st (j + 1) us).bind fun as => some (.val d :: as)
  | j, .inr i :: us => match st[i]? with
    | some (some (.own _ c)) => (mkArgs st (j + 1) us).bind fun as => some (.own (some j) c :: as)
    | _ => none
def putBack : List (D ⊕ Nat) → DSt → DSt → Option DSt
  | [], _, st => some st
  | .inl _ :: us, _ :: outs, st => putBack us outs st
  | .inr i :: us, some (.own _ c) :: outs, st => match st[i]? with
    | some (some (.own t _)) => putBack us outs (st.set i (some (.own t c)))
    | _ => none
  | _, _, _ => none
/-- no slot is handed over twice -/
def noDup : List (D ⊕ Nat) → Bool
  | [] => true
  | .inl _ :: us => noDup us
  | .inr i :: us => (us.all fun u => match u with | .inl _ => true | .inr j => decide (j ≠ i)) && noDup us
def dCall (f : Fn) (as : List Arg) : DE := fun st => (evA as st).bind fun p => if noDup p.1 = true then (mkArgs p.2 0 p.1).bind fun args => (f args).bind fun q => (putBack p.1 q.2 p.2).bind fun s => some (q.1, s) else none
/-- the values of the arguments -/
def ArgRel (K : Fg) (F : Hp) (σ : L2.St) : List V → List (D ⊕ Nat) → Prop
  | [], [] => True
  | v :: vs, .inl d :: us => Rp K F v d ∧ ArgRel K F σ vs us
  | v :: vs, .inr i :: us => σ[i]? = some (some v) ∧ ArgRel K F σ vs us
  | _, _ => False
def tR (K : Fg) (as : List Arg) : TA := fun σ H Q => ∃ F β st us st', StRel K F H β st σ ∧ evA as st = some (us, st') ∧ ∀ F' H' vs, BOk K F H β st σ F' H' st' → ArgRel K F' σ vs us → Q vs H'
section
variable {X : Cx} {e : Expr} {es : List Expr} {f : DF} {as : List Arg} {pos : Pos}
theorem ar_nil : PA X [] (tR X.K []) := PA.imp pa_nil fun σ H Q ⟨F, β, st, us, st', r, e1, q⟩ => by
  cases e1
  exact q F H [] (BOk.refl r) trivial
theorem ArgRel.mono {K : Fg} {F F' : Hp} {σ : L2.St} (m : Same F F') : ∀ {vs : List V} {us : List (D ⊕ Nat)}, ArgRel K F σ vs us → ArgRel K F' σ vs us
  | [], [], _ => trivial
  | _ :: _, .inl _ :: _, h => ⟨Rp.mono m h.1, ArgRel.mono m h.2⟩
  | _ :: _, .inr _ :: _, h => ⟨h.1, ArgRel.mono m h.2⟩
  | [], .inl _ :: _, h => h.elim
  | [], .inr _ :: _, h => h.elim
  | _ :: _, [], h => h.elim
theorem ar_e (he : PE X e (tF X.K f)) (hr : PA X es (tR X.K as)) (hs : starEach (e :: es) X.env = (false, eval e X.env) :: starEach es X.env := by rfl) : PA X (e :: es) (tR X.K (.e f :: as)) :=
  PA.imp (pa_cons he hr hs) fun σ H Q ⟨F, β, st, us, st', r, e1, q⟩ => by
    obtain ⟨p, h1, e2⟩ := bind_some e1
    obtain ⟨p2, h2, e3⟩ := bind_some e2
    cases e3
    exact ⟨F, β, st, p.1, p.2, r, h1, fun F1 H1 v k1 => ⟨F1, β, p.2, p2.1, p2.2, k1.rel, h2, fun F2 H2 vs k2 a2 => q F2 H2 _ (k1.b.trans k2) ⟨Rp.mono k2.stp.mono k1.res, a2⟩⟩⟩
theorem ar_v (i : Nat) {x : Str} {p : Pos} (hr : PA X es (tR X.K as)) (hN : X.N[i]? = some x := by rfl) (hv : Vis X.env.scope x := by first | exact Or.inl rfl | exact Or.inr (Or.inl rfl) | exact Or.inr (Or.inr rfl)) (hd : (x == ("__debug__" : Str)) = false := by decide) (hcd : (x == ("__classdict__" : Str)) = false := by decide)
    (hs : starEach (Expr.Name x p :: es) X.env = (false, eval (Expr.Name x p) X.env) :: starEach es X.env := by rfl) : PA X (.Name x p :: es) (tR X.K (.v i :: as)) :=
  PA.imp (pa_cons (pe_var hN hv hd hcd) hr hs) fun σ H Q ⟨F, β, st, us, st', r, e1, q⟩ => by
    obtain ⟨c, h1, e2⟩ := bind_some e1
    obtain ⟨p2, h2, e3⟩ := bind_some e2
    cases e3
    obtain ⟨v, hv, _⟩ := r.peek_at h1
    exact ⟨v, hv, F, β, st, p2.1, p2.2, r, h2, fun F2 H2 vs k2 a2 => q F2 H2 _ k2 ⟨hv, a2⟩⟩
end
theorem mkArgs_at {K : Fg} {F H : Hp} {β : Nat → Option Addr} {st : DSt} {σ : L2.St} (k : StRel K F H β st σ) : ∀ (us : List (D ⊕ Nat)) (j : Nat) (args : List SV) (vs : List V), mkArgs st j us = some args → ArgRel K F σ vs us →
    args.length = us.length ∧ vs.length = us.length ∧ ∀ (i : Nat) s, args[i]? = some s → (∃ d v, s = .val d ∧ us[i]? = some (.inl d) ∧ vs[i]? = some v ∧ Rp K F v d) ∨ (∃ l t c a o, s = .own (some (j + i)) c ∧ us[i]? = some (.inr l) ∧ st[l]? = some (some (.own t c)) ∧ σ[l]? = some (some (.ref a)) ∧ vs[i]? = some (.ref a) ∧ F a = none ∧ H a = some o ∧ ORp K F o c)
  | [], j, args, vs, h, r => by
    cases h
    cases vs with
    | nil => exact ⟨rfl, rfl, fun i s z => by simp at z⟩
    | cons _ _ => exact r.elim
  | .inl d :: us, j, args, vs, h, r => by
    obtain ⟨as, h1, h2⟩ := bind_some h
    cases h2
    cases vs with
    | nil => exact r.elim
    | cons v vs =>
      obtain ⟨l1, l2, q⟩ := mkArgs_at k us (j + 1) as vs h1 r.2
      refine ⟨by simp [l1], by simp [l2], fun i s z => ?_⟩
      cases i with
      | zero =>
        simp at z
        subst z
        exact .inl ⟨d, v, rfl, rfl, rfl, r.1⟩
      | succ i =>
        rcases q i s (by simpa using z) with ⟨d, v, z1, z2, z3, z4⟩ | ⟨l, t, c, a, o, z1, z2, z3⟩
        · exact .inl ⟨d, v, z1, by simpa using z2, by simpa using z3, z4⟩
        · have e : j + 1 + i = j + (i + 1) := by omega
          rw [e] at z1
          exact .inr ⟨l, t, c, a, o, z1, by simpa using z2, by simpa using z3⟩
  | .inr l :: us, j, args, vs, h, r => by
    unfold mkArgs at h
    split at h
    · rename_i t c e0
      obtain ⟨as, h1, h2⟩ := bind_some h
      cases h2
      cases vs with
      | nil => exact r.elim
      | cons v vs =>
        obtain ⟨l1, l2, q⟩ := mkArgs_at k us (j + 1) as vs h1 r.2
        refine ⟨by simp [l1], by simp [l2], fun i s z => ?_⟩
        cases i with
        | zero =>
          simp at z
          subst z
          obtain ⟨v', e1, a, o, rfl, f, hh, q, b⟩ := k.slot l _ e0
          have e2 : σ[l]? = some (some v) := r.1
          rw [e1] at e2
          cases e2
          exact .inr ⟨l, t, c, a, o, rfl, rfl, e0, e1, rfl, f, hh, q⟩
        | succ i =>
          rcases q i s (by simpa using z) with ⟨d, v, z1, z2, z3, z4⟩ | ⟨l, t, c, a, o, z1, z2, z3⟩
          · exact .inl ⟨d, v, z1, by simpa using z2, by simpa using z3, z4⟩
          · have e : j + 1 + i = j + (i + 1) := by omega
            rw [e] at z1
            exact .inr ⟨l, t, c, a, o, z1, by simpa using z2, by simpa using z3⟩
    · cases h
theorem noDup_ne : ∀ (us : List (D ⊕ Nat)) (i j l : Nat), noDup us = true → us[i]? = some (.inr l) → us[j]? = some (.inr l) → i = j
  | [], i, j, l, _, h, _ => by simp at h
  | .inl d :: us, 0, j, l, _, h, _ => by simp at h
  | .inl d :: us, i + 1, 0, l, _, _, h => by simp at h
  | .inl d :: us, i + 1, j + 1, l, n, h, h' => by
    have := noDup_ne us i j l n (by simpa using h) (by simpa using h')
    omega
  | .inr m :: us, 0, 0, l, _, _, _ => rfl
  | .inr m :: us, 0, j + 1, l, n, h, h' => by
    simp at h
    subst h
    unfold noDup at n
    rw [Bool.and_eq_true, List.all_eq_true] at n
    have := n.1 _ (List.mem_of_getElem? (show us[j]? = _ by simpa using h'))
    simp at this
  | .inr m :: us, i + 1, 0, l, n, h', h => by
    simp at h
    subst h
    unfold noDup at n
    rw [Bool.and_eq_true, List.all_eq_true] at n
    have := n.1 _ (List.mem_of_getElem? (show us[i]? = _ by simpa using h'))
    simp at this
  | .inr m :: us, i + 1, j + 1, l, n, h, h' => by
    unfold noDup at n
    rw [Bool.and_eq_true] at n
    have := noDup_ne us i j l n.2 (by simpa using h) (by simpa using h')
    omega
/-- what putBack leaves in a slot -/
theorem putBack_at : ∀ (us : List (D ⊕ Nat)) (outs st st2 : DSt), putBack us outs st = some st2 → noDup us = true → st2.length = st.length ∧ ∀ (l : Nat) s, st2[l]? = some (some s) → (st[l]? = some (some s) ∧ ∀ (i : Nat), us[i]? ≠ some (.inr l)) ∨ (∃ (i : Nat) (t : Option Nat) (c c' : D) (u : Option Nat), s = .own t c' ∧ st[l]? = some (some (.own t c)) ∧ us[i]? = some (.inr l) ∧ outs[i]? = some (some (.own u c')))
  | [], outs, st, st2, h, _ => by
    cases h
    exact ⟨rfl, fun l s z => .inl ⟨z, fun i => by simp⟩⟩
  | .inl d :: us, outs, st, st2, h, n => by
    cases outs with
    | nil => unfold putBack at h; cases h
    | cons o outs =>
      unfold putBack at h
      obtain ⟨l1, q⟩ := putBack_at us outs st st2 h n
      refine ⟨l1, fun l s z => ?_⟩
      rcases q l s z with ⟨z1, z2⟩ | ⟨i, t, c, c', u, z1, z2, z3, z4⟩
      · refine .inl ⟨z1, fun i => ?_⟩
        cases i with
        | zero => simp
        | succ i => simpa using z2 i
      · exact .inr ⟨i + 1, t, c, c', u, z1, z2, by simpa using z3, by simpa using z4⟩
  | .inr m :: us, [], st, st2, h, n => by simp [putBack] at h
  | .inr m :: us, none :: outs, st, st2, h, n => by simp [putBack] at h
  | .inr m :: us, some (.val d) :: outs, st, st2, h, n => by simp [putBack] at h
  | .inr m :: us, some (.own u0 c0) :: outs, st, st2, h, n => by
      rw [putBack] at h
      split at h
      · rename_i t0 x0 e0
        have n2 : noDup us = true := by
          unfold noDup at n
          rw [Bool.and_eq_true] at n
          exact n.2
        obtain ⟨l1, q⟩ := putBack_at us _ _ st2 h n2
        have hm : m < st.length := (List.getElem?_eq_some_iff.mp e0).1
        refine ⟨by rw [l1, List.length_set], fun l s z => ?_⟩
        rcases q l s z with ⟨z1, z2⟩ | ⟨i, t, c, c', u, z1, z2, z3, z4⟩
        · by_cases hl : m = l
          · subst hl
            rw [List.getElem?_set_self hm] at z1
            cases z1
            exact .inr ⟨0, t0, x0, c0, u0, rfl, e0, rfl, rfl⟩
          · rw [List.getElem?_set_ne hl] at z1
            refine .inl ⟨z1, fun i => ?_⟩
            cases i with
            | zero => simpa using fun e => hl e
            | succ i => simpa using z2 i
        · have hl : m ≠ l := by
            rintro rfl
            have := noDup_ne (.inr m :: us) 0 (i + 1) m n rfl (by simpa using z3)
            omega
          rw [List.getElem?_set_ne hl] at z2
          exact .inr ⟨i + 1, t, c, c', u, z1, z2, by simpa using z3, by simpa using z4⟩
      · cases h
theorem putBack_outs : ∀ (us : List (D ⊕ Nat)) (outs st st2 : DSt), putBack us outs st = some st2 → ∀ (i l : Nat), us[i]? = some (.inr l) → ∃ (u : Option Nat) (c : D), outs[i]? = some (some (.own u c))
  | [], outs, st, st2, h, i, l, e => by simp at e
  | .inl d :: us, [], st, st2, h, i, l, e => by simp [putBack] at h
  | .inl d :: us, o :: outs, st, st2, h, i, l, e => by
    rw [putBack] at h
    cases i with
    | zero => simp at e
    | succ i => simpa using putBack_outs us outs st st2 h i l (by simpa using e)
  | .inr m :: us, [], st, st2, h, i, l, e => by simp [putBack] at h
  | .inr m :: us, none :: outs, st, st2, h, i, l, e => by simp [putBack] at h
  | .inr m :: us, some (.val d) :: outs, st, st2, h, i, l, e => by simp [putBack] at h
  | .inr m :: us, some (.own u0 c0) :: outs, st, st2, h, i, l, e => by
    rw [putBack] at h
    split at h
    · cases i with
      | zero => exact ⟨u0, c0, rfl⟩
      | succ i => simpa using putBack_outs us outs _ st2 h i l (by simpa using e)
    · cases h

/-- what a call leaves -/
theorem after_call {K : Fg} {F H F' H' : Hp} {β β' : Nat → Option Addr} {st st2 outs : DSt} {σ : L2.St} {us : List (D ⊕ Nat)} {args : List SV} {vs : List V} {v : V} {r : SV} (k : StRel K F H β st σ) (nd : noDup us = true) (em : mkArgs st 0 us = some args) (ar : ArgRel K F σ vs us)
    (c : COk K F H β' args vs F' H' outs v r) (ep : putBack us outs st = some st2) : EOk K F H β st σ F' H' st2 v r := by
  obtain ⟨la, lv, at_⟩ := mkArgs_at k us 0 args vs em ar
  obtain ⟨l2, pb⟩ := putBack_at us outs st st2 ep nd
  -- what the callee may have written is owned by our slots
  have ownA : ∀ a, Own (args.map some) (vs.map some) a → ∃ (i l : Nat) (t : Option Nat) (x : D), us[i]? = some (.inr l) ∧ st[l]? = some (some (.own t x)) ∧ σ[l]? = some (some (.ref a)) ∧ vs[i]? = some (.ref a) := fun a ⟨i, t, x, z1, z2⟩ => by
    rw [List.getElem?_map] at z1 z2
    cases q1 : args[i]? with
    | none => rw [q1] at z1; cases z1
    | some s =>
      rw [q1] at z1
      cases z1
      rcases at_ i _ q1 with ⟨d, w, y, _⟩ | ⟨l, t', c', a', o, y1, y2, y3, y4, y5, _⟩
      · cases y
      · rw [y5] at z2
        cases z2
        exact ⟨i, l, t', c', y2, y3, y4, y5⟩
  have ownS : ∀ a, Own (args.map some) (vs.map some) a → Own st σ a := fun a z => by
    obtain ⟨i, l, t, x, _, y1, y2, _⟩ := ownA a z
    exact ⟨l, t, x, y1, y2⟩
  have sub : ∀ a, Own st2 σ a → Own st σ a := fun a ⟨l, t, x, z1, z2⟩ => by
    rcases pb l _ z1 with ⟨y, _⟩ | ⟨i, t', c', c'', u, y1, y2, _⟩
    · exact ⟨l, t, x, y, z2⟩
    · exact ⟨l, t', c', y2, z2⟩
  have own2 : ∀ (l : Nat) (t : Option Nat) (x : D), st2[l]? = some (some (.own t x)) → ∃ x', st[l]? = some (some (.own t x')) := fun l t x z => by
    rcases pb l _ z with ⟨y, _⟩ | ⟨i, t', c', c'', u, y1, y2, _⟩
    · exact ⟨x, y⟩
    · cases y1; exact ⟨c', y2⟩
  refine ⟨⟨c.rel.le, by rw [l2]; exact k.len, fun l s z => ?_, fun i j t x u y a z1 z2 z3 z4 => ?_⟩, c.stp.weak ownS, sub, ?_, fun t x a h1 h2 => ?_⟩
  · rcases pb l s z with ⟨y, ny⟩ | ⟨i, t, x, x', u, rfl, y2, y3, y4⟩
    · obtain ⟨w, e1, q⟩ := k.slot l s y
      refine ⟨w, e1, ?_⟩
      cases s with
      | val d => exact Rp.mono c.stp.mono q
      | own t x =>
        obtain ⟨a, o, rfl, f, hh, q1, b⟩ := q
        have n : ¬ Own (args.map some) (vs.map some) a := fun z => by
          obtain ⟨i, l', t', x', g1, g2, g3, _⟩ := ownA a z
          have : l = l' := k.ne _ _ _ _ _ _ _ y g2 e1 g3
          subst this
          exact ny i g1
        obtain ⟨h1, h2⟩ := c.stp.keep a o hh f n
        exact ⟨a, o, rfl, h2, h1, ORp.mono c.stp.mono q1, b⟩
    · obtain ⟨w, e1, q⟩ := k.slot l _ y2
      obtain ⟨a, o, rfl, f, hh, q1, b⟩ := q
      obtain ⟨w2, e2, q2⟩ := c.rel.slot i _ y4
      have hl : i < args.length := by rw [la]; exact (List.getElem?_eq_some_iff.mp y3).1
      rcases at_ i _ (List.getElem?_eq_getElem hl) with ⟨d, w3, _, g2, _⟩ | ⟨l3, t3, c3, a3, o3, _, g2, g3, g4, g5, _⟩
      · rw [y3] at g2; cases g2
      · rw [y3] at g2
        cases g2
        rw [e1] at g4
        cases g4
        rw [List.getElem?_map, g5] at e2
        cases e2
        obtain ⟨a4, o4, z4, f4, h4, q4, _⟩ := q2
        cases z4
        exact ⟨_, e1, a, o4, rfl, f4, h4, q4, b⟩
  · obtain ⟨x', y1⟩ := own2 i t x z1
    obtain ⟨y', y2⟩ := own2 j u y z2
    exact k.ne _ _ _ _ _ _ _ y1 y2 z3 z4
  · cases r with
    | val d => exact c.res
    | own t x =>
      obtain ⟨a, o, e1, f, hh, q, b⟩ := c.res
      obtain ⟨rfl, _⟩ := c.fre t x a rfl e1
      exact ⟨a, o, e1, f, hh, q, fun j z => nomatch z⟩
  · obtain ⟨y1, y2, y3⟩ := c.fre t x a h1 h2
    -- a list that was handed over comes back
    have back : Own (args.map some) (vs.map some) a → False := fun z => by
      obtain ⟨i, l, t', x', g1, g2, g3, g4⟩ := ownA a z
      obtain ⟨u, x2, g5⟩ := putBack_outs us outs st st2 ep i l g1
      exact y2 ⟨i, u, x2, g5, by rw [List.getElem?_map, g4]; rfl⟩
    refine ⟨y1, fun z => ?_, ?_⟩
    · obtain ⟨l, t', x', z1, z2⟩ := z
      rcases pb l _ z1 with ⟨g1, ng⟩ | ⟨i, t2, c2, c3, u, g1, g2, g3, g4⟩
      · -- a slot that was not handed over: its list was tracked, so it is not new; and it is no argument's
        rcases y3 with y3 | y3
        · exact back y3
        · obtain ⟨o, h1, _⟩ := k.ownH ⟨l, t', x', g1, z2⟩
          rw [y3] at h1; cases h1
      · have hl : i < args.length := by rw [la]; exact (List.getElem?_eq_some_iff.mp g3).1
        rcases at_ i _ (List.getElem?_eq_getElem hl) with ⟨d, w3, _, k2, _⟩ | ⟨l3, t3, c4, a3, o3, _, k2, k3, k4, k5, _⟩
        · rw [g3] at k2; cases k2
        · rw [g3] at k2
          cases k2
          rw [z2] at k4
          cases k4
          exact y2 ⟨i, u, c3, g4, by rw [List.getElem?_map, k5]; rfl⟩
    · rcases y3 with y3 | y3
      · exact .inl (ownS a y3)
      · exact .inr y3

section
variable {X : Cx} {k : Nat} {fa : Addr} {fd : FuncData} {ps : List Str} {fn : Fn} {x : Str} {p pos : Pos} {e : Expr} {es : List Expr} {as : List Arg} {n : Nat}
theorem call_to {K : Fg} {σ : L2.St} {H : Hp} {Q : VK} {E : XK} (hn : as.length = n) (h : tD K (dCall fn as) σ H Q) : tCall (spD K n fn) [] E (tR K as) σ H Q := by
  obtain ⟨F, β, st, r, st', k0, e, q⟩ := h
  obtain ⟨p, e1, e2⟩ := bind_some e
  by_cases nd : noDup p.1 = true
  · rw [if_pos nd] at e2
    obtain ⟨args, e3, e4⟩ := bind_some e2
    obtain ⟨p2, e5, e6⟩ := bind_some e4
    obtain ⟨s2, e7, e8⟩ := bind_some e6
    cases e8
    refine ⟨F, β, st, p.1, p.2, k0, e1, fun F1 H1 vs k1 ar => ?_⟩
    show spD K n fn (vs ++ []) H1 Q E
    rw [List.append_nil]
    obtain ⟨la, lv, at_⟩ := mkArgs_at k1.rel p.1 0 args vs e3 ar
    have lp : p.1.length = as.length := by
      have : ∀ (as : List Arg) (st : DSt) (p : List (D ⊕ Nat) × DSt), evA as st = some p → p.1.length = as.length := by
        intro as
        induction as with
        | nil => intro st p h; cases h; rfl
        | cons a as ih =>
          intro st p h
          cases a with
          | e f =>
            obtain ⟨p1, _, h2⟩ := bind_some h
            obtain ⟨p2, h3, h4⟩ := bind_some h2
            cases h4
            simp [ih _ _ h3]
          | v i =>
            obtain ⟨c, _, h2⟩ := bind_some h
            obtain ⟨p2, h3, h4⟩ := bind_some h2
            cases h4
            simp [ih _ _ h3]
      exact this as st p e1
    -- the callee's places
    refine ⟨by omega, F1, fun i => match vs[i]? with | some (.ref a) => some a | _ => none, args, p2.1, p2.2, ⟨k1.rel.le, by simp [la, lv], fun i s z => ?_, fun i j t c u c2 a z1 z2 z3 z4 => ?_⟩, fun i t c z => ?_, e5, fun F2 H2 v c => q F2 H2 v (k1.thenE (after_call k1.rel nd e3 ar c e7))⟩
    · rw [List.getElem?_map] at z ⊢
      cases q1 : args[i]? with
      | none => rw [q1] at z; cases z
      | some s' =>
        rw [q1] at z
        cases z
        rcases at_ i _ q1 with ⟨d, w, rfl, y2, y3, y4⟩ | ⟨l, t, c, a, o, rfl, y2, y3, y4, y5, y6, y7, y8⟩
        · exact ⟨w, by rw [y3]; rfl, y4⟩
        · refine ⟨.ref a, by rw [y5]; rfl, a, o, rfl, y6, y7, y8, fun j hj => ?_⟩
          cases hj
          rw [Nat.zero_add]
          show (match vs[i]? with | some (.ref a) => some a | _ => none) = some a
          rw [y5]
    · rw [List.getElem?_map] at z1 z2 z3 z4
      cases q1 : args[i]? with
      | none => rw [q1] at z1; cases z1
      | some s1 =>
        cases q2 : args[j]? with
        | none => rw [q2] at z2; cases z2
        | some s2 =>
          rw [q1] at z1
          rw [q2] at z2
          cases z1
          cases z2
          rcases at_ i _ q1 with ⟨d, w, y, _⟩ | ⟨l, t', c', a', o, y1, y2, y3, y4, y5, _⟩
          · cases y
          · rcases at_ j _ q2 with ⟨d, w, y, _⟩ | ⟨l2, t2, c3, a2, o2, g1, g2, g3, g4, g5, _⟩
            · cases y
            · rw [y5] at z3
              rw [g5] at z4
              cases z3
              cases z4
              have := k1.rel.ne _ _ _ _ _ _ _ y3 g3 y4 g4
              subst this
              exact noDup_ne p.1 i j l nd y2 g2
    · rcases at_ i _ z with ⟨d, w, y, _⟩ | ⟨l, t', c', a', o, y1, _⟩
      · cases y
      · cases y1
        rw [Nat.zero_add]
  · rw [if_neg nd] at e2; cases e2
theorem pd_call (G : FnOk X.prog X.w X.K X.mg X.base CX0 k fa fd ps (spD X.K n fn)) (hr : Room k X.A) (hg : Gl X x) (hm : X.mg x = some (.ref fa)) (hk : PySem.W.keepIn X.K (.ref fa) = true) (hb : Binds X.K fd ps [])
    (ha : PA X (e :: es) (tR X.K as)) (hn : as.length = n := by rfl) (hdb : (x == ("__debug__" : Str)) = false := by decide) (he : starEach (e :: es) X.env = (false, eval e X.env) :: starEach es X.env := by rfl) (hpl : (backTo pos (starEach es X.env)).any (·.1) = false := by rfl) :
    PE X (.Call (.Name x p) (e :: es) [] pos) (tD X.K (dCall fn as)) := PE.imp (pe_call (E := E0) G hr hg hm hk hb .nil pass0 ha hdb he hpl) fun _ _ _ h => call_to hn h
theorem pd_call0 (G : FnOk X.prog X.w X.K X.mg X.base CX0 k fa fd ps (spD X.K 0 fn)) (hr : Room k X.A) (hg : Gl X x) (hm : X.mg x = some (.ref fa)) (hk : PySem.W.keepIn X.K (.ref fa) = true) (hb : Binds X.K fd ps []) (hdb : (x == ("__debug__" : Str)) = false := by decide) :
    PE X (.Call (.Name x p) [] [] pos) (tD X.K (dCall fn [])) := PE.imp (pe_call0 (E := E0) G hr hg hm hk hb .nil pass0 hdb) fun σ H Q h => by
  obtain ⟨F, β, st, us, st', r, e1, q⟩ := call_to (n := 0) (E := E0) rfl h
  cases e1
  exact q F H [] (BOk.refl r) trivial
end
end DL

/-! DL10: the defs of a text, the law's end -/
namespace DL
open PySem PySem.Spec PyProof.Rows L2
theorem room66 {k : Nat} {A : Around} (r : Room k A) : A.units + 66 < cLine := by have := r.un; omega
theorem room64 {k : Nat} {A : Around} (r : Room k A) : A.units + 64 < cLine := by have := r.un; omega
theorem room70 {k : Nat} {A : Around} (r : Room k A) : A.units + 70 < cLine := by have := r.un; omega
/-- a def of the text, as it stands behind the top -/
structure DefAt (K : Fg) (mg : Str → Option Value) (x : Str) (st : Stmt) (ps : List Str) : Prop where
  ex : ∃ fa fd, Fun K x x st fa fd ∧ mg x = some (.ref fa) ∧ Binds K fd ps [] ∧ ∀ us : List Value, us.length = ps.length → bindArgs fd ⟨us, []⟩ = pure (ps.zip us)
/-- a def that keeps its promise -/
structure Cal (P : Program) (w : World) (K : Fg) (mg : Str → Option Value) (k : Nat) (x : Str) (ps : List Str) (fn : Fn) : Prop where
  ex : ∃ fa fd, (∀ base, FnOk P w K mg base CX0 k fa fd ps (spD K ps.length fn)) ∧ mg x = some (.ref fa) ∧ PySem.W.keepIn K (.ref fa) = true ∧ Binds K fd ps [] ∧ ∀ us : List Value, us.length = ps.length → bindArgs fd ⟨us, []⟩ = pure (ps.zip us)
section
variable {P : Program} {w : World} {K : Fg} {mg : Str → Option Value}
theorem Cal.mono {j k : Nat} {x : Str} {ps : List Str} {fn : Fn} (c : Cal P w K mg j x ps fn) (h : j ≤ k) : Cal P w K mg k x ps fn := by
  obtain ⟨fa, fd, F, a⟩ := c.ex
  exact ⟨fa, fd, fun base => (F base).mono h, a⟩
theorem cal_of {x : Str} {st : Stmt} {N ps : List Str} {k n : Nat} {fs : DS} (hn : N.length = n) (D : DefAt K mg x st ps) (S : FnScope N ps (defScope st))
    (hbody : ∀ (base : Heap) (f : Addr) (cdv : Value) (A : Around) (outer : List Env) (s : Shared) (H : Hp) (E : XK), Room k (A.deeper (envOfC x (defScope st) s.heap.objs.size f cdv)) →
      PSs (cxOf CX0 P w K mg base N x (defScope st) f cdv A outer s H E).nox (defBody st) (tS K fs)) : Cal P w K mg (k + 1) x ps (defSem n fs) := by
  subst hn
  obtain ⟨fa, fd, F, hm, hb⟩ := D.ex
  exact ⟨fa, fd, fun base => def_ok F S (fun cdv A outer s H E hr => hbody base fa cdv A outer s H E hr), hm, F.kp, hb⟩
/-- no promise at all -/
theorem cal_never {x : Str} {st : Stmt} {ps : List Str} {k : Nat} (D : DefAt K mg x st ps) : Cal P w K mg k x ps (fun _ => none) := by
  obtain ⟨fa, fd, F, hm, hb⟩ := D.ex
  exact ⟨fa, fd, fun base => ⟨fun vs H Q E h => h.1, fun A outer s H args us vs Q E _ _ _ _ h => by
    obtain ⟨_, _, _, _, _, _, _, _, e, _⟩ := h
    cases e⟩, hm, F.kp, hb⟩
theorem defAt_mk {h : Heap} {x : Str} {st : Stmt} {ps : List Str} {f : Addr} {oc : Value} {od an : Option Addr} {osl : Array (Option Value)} {kV doc pm cdv ct : Value} (KX : K.In h) (G : h.Ns mainGlobals mg) (a : PySem.W.nsIn K mainGlobals x = some (some (.ref f)))
    (l : K.lookup f = some ⟨oc, od, .func (PySem.W.fnOf x x (defArgs st) (defBody st) (defScope st) .none kV doc pm an cdv ct), osl⟩) (c : PySem.W.codeIn K cdv x = true) (k : PySem.W.keepIn K (.ref f) = true)
    (hb : ∀ (kV doc pm : Value) (an : Option Addr) (cdv ct : Value) (us : List Value), us.length = ps.length → bindArgs (PySem.W.fnOf x x (defArgs st) (defBody st) (defScope st) .none kV doc pm an cdv ct) ⟨us, []⟩ = pure (ps.zip us)) : DefAt K mg x st ps :=
  have F := fun_mk (st := st) l c k
  ⟨f, _, F, PySem.W.mg_of KX G a, F.binds hb, hb _ _ _ _ _ _⟩
end
section
variable {X : Cx} {k j : Nat} {ps : List Str} {fn : Fn} {x : Str} {p pos : Pos} {e : Expr} {es : List Expr} {as : List Arg}
theorem pd_cal (C : Cal X.prog X.w X.K X.mg k x ps fn) (hr : Room j X.A) (ha : PA X (e :: es) (tR X.K as)) (hk : k ≤ j := by omega) (hg : Gl X x := by rfl) (hn : as.length = ps.length := by rfl) (hdb : (x == ("__debug__" : Str)) = false := by decide) (he : starEach (e :: es) X.env = (false, eval e X.env) :: starEach es X.env := by rfl) (hpl : (backTo pos (starEach es X.env)).any (·.1) = false := by rfl) :
    PE X (.Call (.Name x p) (e :: es) [] pos) (tD X.K (dCall fn as)) := by
  obtain ⟨fa, fd, F, hm, hkp, hb, _⟩ := C.ex
  exact pd_call (F X.base) (hr.mono hk) hg hm hkp hb ha hn hdb he hpl
theorem pd_cal0 (C : Cal X.prog X.w X.K X.mg k x [] fn) (hr : Room j X.A) (hk : k ≤ j := by omega) (hg : Gl X x := by rfl) (hdb : (x == ("__debug__" : Str)) = false := by decide) :
    PE X (.Call (.Name x p) [] [] pos) (tD X.K (dCall fn [])) := by
  obtain ⟨fa, fd, F, hm, hkp, hb, _⟩ := C.ex
  exact pd_call0 (F X.base) (hr.mono hk) hg hm hkp hb hdb
/-- slots are forgotten ahead of a statement -/
theorem s_pre {st : Stmt} {f : DS} (is : List Nat) (h1 : PS X st (tS X.K f)) : PS X st (tS X.K (dSeq (dKill is) f)) := PS.imp h1 fun D σ H ⟨F, β, st, o, r, e, q⟩ => by
  obtain ⟨o1, h1, e2⟩ := bind_some e
  cases h1
  have k := kills X.K is st r
  exact ⟨F, β, _, o, k.rel, e2, q.after k⟩
/-- x op= e -/
def dAug (i : Nat) (op : D → D → Option D) (f : DF) : DS := fun st => (dVar i st).bind fun p => (f p.2).bind fun q => (op p.1 q.1).bind fun c => some (.nx (q.2.set i (some (.val c))))
def augAdd : D → D → Option D
  | .int a, .int b => some (.int (a + b))
  | .str a, .str b => if a.length + b.length ≤ 16777216 then some (.str (a ++ b)) else none
  | _, _ => none
def augSub : D → D → Option D
  | .int a, .int b => some (.int (a - b))
  | _, _ => none
theorem oAugAdd : OpD X (inplaceOp .Add) augAdd := OpR.case fun x y H Q ⟨F, a, b, c, l, ha, hb, e, q⟩ => by
  unfold augAdd at e
  split at e
  · cases e
    exact ⟨_, iop_add, _, _, ha.int_eq, hb.int_eq, q _ _ _ (Grow.refl l) (.int _)⟩
  · obtain ⟨hz, rfl⟩ := ite_some e
    obtain ⟨e1, o1⟩ := ha.str_eq
    obtain ⟨e2, o2⟩ := hb.str_eq
    exact ⟨_, iop_add_str, _, _, e1, e2, by rw [← big_eq]; exact hz, q _ _ _ (Grow.refl l) (.str (okS_append o1 o2 hz))⟩
  · cases e
theorem oAugSub : OpD X (inplaceOp .Sub) augSub := OpR.case fun x y H Q ⟨F, a, b, c, l, ha, hb, e, q⟩ => by
  unfold augSub at e
  split at e
  · cases e
    exact ⟨_, iop_sub, _, _, ha.int_eq, hb.int_eq, q _ _ _ (Grow.refl l) (.int _)⟩
  · cases e
theorem s_aug (i : Nat) {op : Operator} {f : DF} {o : D → D → Option D} {pos' : Pos} (hN : X.N.Nodup) (ho : OpD X (inplaceOp op) o) (he : PE X e (tF X.K f)) (hi : X.N[i]? = some x := by rfl) (hx : Loc X.env.scope x := by first | exact Or.inl rfl | exact Or.inr rfl)
    (hf : X.fn x = true ∨ X.env.scope.names.lookup x = some .local := by first | exact .inl rfl | exact .inr rfl | assumption) : PS X (.AugAssign (.Name x pos') op e pos) (tS X.K (dAug i o f)) :=
  PS.imp (ps_aug (ti := rD X.K o) hN hi hx he ho hf) fun D σ H ⟨F, β, st, o1, r, e, q⟩ => by
    obtain ⟨p, h1, e2⟩ := bind_some e
    obtain ⟨p2, h2, e3⟩ := bind_some e2
    obtain ⟨c, h3, e4⟩ := bind_some e3
    cases e4
    unfold dVar at h1
    have key : ∃ v F1, σ[i]? = some (some v) ∧ DOk X.K F H β st σ F1 H p.2 v p.1 := by
      split at h1
      · rename_i d' z
        cases h1
        obtain ⟨v, e2, q2⟩ := r.slot i _ z
        exact ⟨v, F, e2, DOk.refl r q2⟩
      · rename_i c z
        cases h1
        obtain ⟨v, F2, e2, q2⟩ := r.freeze z
        exact ⟨v, F2, e2, q2⟩
      · cases h1
    obtain ⟨v, F1, hv, k1⟩ := key
    refine ⟨v, hv, F1, β, p.2, p2.1, p2.2, k1.rel, h2, fun F2 H2 y k2 => ?_⟩
    exact ⟨F2, p.1, p2.1, c, k2.rel.le, Rp.mono k2.stp.mono k1.res, k2.res, h3, fun F3 H3 v3 g3 q3 => q _ _ _ ((((k1.b.trans k2.b).grow g3).toD q3).toE.put i)⟩
end
/-! ### the law -/
def spLaw (K : Fg) : Sp := fun vs H Q _ => ∃ (a : Addr) (ns : List Int), vs = [.ref a] ∧ SqL K H a (ns.map V.int) ∧ ns.length ≤ 63 ∧ ∀ H', Q (.bl true) H'
theorem ints_rp {K : Fg} {F : Hp} : ∀ ns : List Int, RpAll K F (ns.map V.int) (ns.map PyData.int)
  | [] => .nil
  | n :: ns => .cons (.int n) (ints_rp ns)
/-- the law's def comes back with True whatever the script -/
def Holds (fn : Fn) : Prop := ∀ ns : List Int, ns.length ≤ 63 → ∃ outs, fn [.val (.list (ns.map .int))] = some (.val (.bool true), outs)
theorem law_of {P : Program} {w : World} {K : Fg} {mg : Str → Option Value} {base : Heap} {k : Nat} {fa : Addr} {fd : FuncData} {ps : List Str} {fn : Fn} (h : Holds fn) (F : FnOk P w K mg base CX0 k fa fd ps (spD K 1 fn)) : FnOk P w K mg base CX0 k fa fd ps (spLaw K) :=
  F.imp fun vs H Q E ⟨a, ns, e, hs, hl, q⟩ => by
    obtain ⟨outs, h1⟩ := h ns hl
    subst e
    refine ⟨rfl, H, fun _ => none, [.val (.list (ns.map .int))], _, outs, ⟨Same.refl _, rfl, fun i s z => ?_, fun i j t c u c2 a z1 => ?_⟩, fun i t c z => ?_, h1, fun F' H' v c => ?_⟩
    · cases i with
      | zero =>
        cases z
        exact ⟨_, rfl, .kl hs (ints_rp ns)⟩
      | succ i => simp at z
    · cases i with
      | zero => cases z1
      | succ i => simp at z1
    · cases i with
      | zero => cases z
      | succ i => simp at z
    · have := c.res
      rw [Rp.bool this]
      exact q _
theorem law_end {P : Program} {w : World} {K : Fg} {mg : Str → Option Value} {k : Nat} {fa : Addr} {x p : Str} {fn : Fn} (hm : mg x = some (.ref fa)) (C : Cal P w K mg k x [p] fn) :
    ∃ fd : FuncData, (∀ (s : Shared) (u : Value), BindsTo s fd ⟨[u], []⟩ [(p, u)]) ∧ ∀ base : Heap, K.In base → base.Ns mainGlobals mg → FnOk P w K mg base CX0 k fa fd [p] (spD K 1 fn) := by
  obtain ⟨fa', fd, F, hm', _, _, hb⟩ := C.ex
  rw [hm] at hm'
  cases hm'
  exact ⟨fd, fun s u => .of_eq (hb [u] rfl), fun base _ _ => F base⟩
/-- the end: from the law's def -/
theorem law_walk {l : PySem.W.OpenLaw} {q : Program} {loose : List Str} {XP : (Str → Option Value) → Heap → Prop} {YP : World → Heap → Prop} {d : DefRec} {K : Params → Fg} {k : Nat} {x : Str} {fn : Fn} (hn : l.most = some 63) (hdf : d.params.defaults = []) (hr : Room k callerA)
    (hY : ∀ (w : World) (h : Heap), YP w h → (K w.params).In h) (hl : Holds fn)
    (F : ∀ (w : World) (mg : Str → Option Value) (fa : Addr) (h : Heap), (K w.params).In h → h.Ns mainGlobals mg → mg d.name = some (.ref fa) →
      ∃ fd : FuncData, (∀ (s : Shared) (u : Value), BindsTo s fd ⟨[u], []⟩ [(x, u)]) ∧ ∀ base : Heap, (K w.params).In base → base.Ns mainGlobals mg → FnOk l.prog w (K w.params) mg base CX0 k fa fd [x] (spD (K w.params) 1 fn)) :
    PySem.W.WalkO q loose XP YP l.row.toRowW d [] (fun f vs => PySem.call f vs) :=
  L2.walk_of (n := 63) (k := k) (x := x) (CX := fun _ => CX0) (sp := fun w => spLaw (K w.params)) hn (by decide) hdf hr hY (fun w mg fa h KX G hm => let ⟨fd, hb, hF⟩ := F w mg fa h KX G hm; ⟨fd, hb, fun base h1 h2 => law_of hl (hF base h1 h2)⟩)
    (fun _ _ a ns hl _ hS => ⟨a, ns, rfl, hS, hl, fun _ => rfl⟩) fun _ _ _ _ _ z => z
end DL

/-! DL11: to run the terms by simp -/
namespace DL
open PySem PySem.Spec PyProof.Rows L2
@[simp ↓] theorem obind_match {α β : Type} {a : Option α} {f : α → Option β} : a.bind f = match a with
  | some x => f x
  | none => none := by cases a <;> rfl
section
variable {f g : DF} {e : DE} {ga : DA} {s t : DS} {b c : DB} {st : DSt} {i j : Nat} {d : D} {x y : D}
@[simp] theorem e_var : dVar i st = match st[i]? with
  | some (some (.val d)) => some (d, st)
  | some (some (.own none c)) => some (c, st.set i (some (.val c)))
  | _ => none := id rfl
@[simp] theorem e_c : dC d st = some (d, st) := id rfl
@[simp] theorem e_mov : dMov i st = match st[i]? with
  | some (some (.val d)) => some (.val d, st)
  | some (some (.own none c)) => some (.own none c, st.set i none)
  | _ => none := id rfl
@[simp] theorem e_nil : dNil st = some ([], st) := id rfl
@[simp] theorem e_cons : dCons f ga st = (f st).bind fun p => (ga p.2).bind fun q => some (p.1 :: q.1, q.2) := id rfl
@[simp] theorem e_tup : dTup ga st = (ga st).bind fun p => if p.1.length ≤ 16777216 then some (.tuple p.1, p.2) else none := id rfl
@[simp] theorem e_lst : dLst ga st = (ga st).bind fun p => if p.1.length ≤ 16777216 then some (.own none (.list p.1), p.2) else none := id rfl
@[simp] theorem e_bin {op} : dBin op f g st = (f st).bind fun p => (g p.2).bind fun q => (op p.1 q.1).bind fun c => some (c, q.2) := id rfl
@[simp] theorem e_un {op} : dUn op f st = (f st).bind fun p => (op p.1).bind fun c => some (c, p.2) := id rfl
@[simp] theorem e_cmp {op} : dCmp op f g st = (f st).bind fun p => (g p.2).bind fun q => (op p.1 q.1).bind fun c => some (.bool c, q.2) := by
  show (f st).bind _ = _
  congr 1; funext p
  congr 1; funext q
  unfold liftB
  cases op p.1 q.1 <;> rfl
@[simp] theorem e_cmpT {op} : dCmpT op f g st = (f st).bind fun p => (g p.2).bind fun q => (op p.1 q.1).bind fun c => some (c, q.2) := id rfl
@[simp] theorem e_test : dTest f st = (f st).bind fun p => (dTru p.1).bind fun k => some (k, p.2) := id rfl
@[simp] theorem e_and : dAnd b c st = (b st).bind fun p => if p.1 = true then c p.2 else some (false, p.2) := id rfl
@[simp] theorem e_or : dOr b c st = (b st).bind fun p => if p.1 = true then some (true, p.2) else c p.2 := id rfl
@[simp] theorem e_not : dNot b st = (b st).bind fun p => some (!p.1, p.2) := id rfl
@[simp] theorem e_andV : dAndV f g st = (f st).bind fun p => (dTru p.1).bind fun k => if k = true then g p.2 else some (p.1, p.2) := id rfl
@[simp] theorem e_orV : dOrV f g st = (f st).bind fun p => (dTru p.1).bind fun k => if k = true then some (p.1, p.2) else g p.2 := id rfl
@[simp] theorem e_notV : dNotV f st = (f st).bind fun p => (dTru p.1).bind fun k => some (.bool (!k), p.2) := id rfl
@[simp] theorem e_ifE : dIfE b f g st = (b st).bind fun p => if p.1 = true then f p.2 else g p.2 := id rfl
@[simp] theorem e_dV : dV f st = (f st).bind fun p => some (.val p.1, p.2) := by unfold dV; cases f st <;> rfl
@[simp] theorem e_dF : dF e st = (e st).bind fun p => some (p.1.frz, p.2) := by unfold dF; cases e st <;> rfl
@[simp] theorem e_ix : dIx f g st = (f st).bind fun p => (g p.2).bind fun q => (ixD p.1 q.1).bind fun c => some (c, q.2) := id rfl
@[simp] theorem e_ixV : dIxV i g st = (peek st i).bind fun _ => (g st).bind fun q => (peek q.2 i).bind fun c => (ixD c q.1).bind fun r => some (r, q.2) := id rfl
@[simp] theorem e_noP : dNoP st = some (none, st) := id rfl
@[simp] theorem e_pt : dPt f st = (f st).bind fun p => (intOf p.1).bind fun i => some (some i, p.2) := id rfl
@[simp] theorem e_sl {lo hi : DO} : dSl f lo hi st = (f st).bind fun p => (lo p.2).bind fun a => (hi a.2).bind fun b => (slD p.1 a.1 b.1).bind fun c => some (c, b.2) := id rfl
@[simp] theorem e_slV {lo hi : DO} : dSlV i lo hi st = (peek st i).bind fun _ => (lo st).bind fun a => (hi a.2).bind fun b => (peek b.2 i).bind fun x => (slD x a.1 b.1).bind fun c => some (c, b.2) := id rfl
@[simp] theorem e_callB {op} : dCallB op ga st = (ga st).bind fun p => (op p.1).bind fun c => some (c, p.2) := id rfl
@[simp] theorem e_callO {op} : dCallO op ga st = (ga st).bind fun p => (op p.1).bind fun c => some (.own none c, p.2) := id rfl
@[simp] theorem e_lenV : dLenV i st = (peek st i).bind fun c => (lenD [c]).bind fun n => some (n, st) := id rfl
@[simp] theorem e_isi {ty} : dIsi ty f st = (f st).bind fun p => (isiD ty p.1).bind fun k => some (.bool k, p.2) := id rfl
@[simp] theorem e_metO {op} : dMetO op f g st = (f st).bind fun p => (g p.2).bind fun q => (op p.1 q.1).bind fun c => some (.own none c, q.2) := id rfl
@[simp] theorem e_next : dNext st = some (.nx st) := id rfl
@[simp] theorem e_seq : dSeq s t st = (s st).bind fun o => match o with
  | .nx s => t s
  | o => some o := id rfl
@[simp] theorem e_kill {is : List Nat} : dKill is st = some (.nx (is.foldl (fun s i => s.set i none) st)) := id rfl
@[simp] theorem e_thenKill {is : List Nat} : dThenKill s is st = dSeq s (dKill is) st := id rfl
@[simp] theorem e_bk : dBk st = some (.bk st) := id rfl
@[simp] theorem e_ct : dCt st = some (.ct st) := id rfl
@[simp] theorem e_ret : dRet e st = (e st).bind fun p => some (.rt p.1 p.2) := id rfl
@[simp] theorem e_retN : dRetN st = some (.rt (.val .none) st) := id rfl
@[simp] theorem e_drop : dDrop f st = (f st).bind fun p => some (.nx p.2) := id rfl
@[simp] theorem e_if : dIf b s t st = (b st).bind fun p => if p.1 = true then s p.2 else t p.2 := id rfl
@[simp] theorem e_set : dSet i e st = (e st).bind fun p => some (.nx (p.2.set i (some p.1))) := id rfl
@[simp] theorem e_nm : dNm i d st = some (st.set i (some (.val d))) := id rfl
@[simp] theorem e_gN {ds : List D} : dGN ds st = match ds with
  | [] => some st
  | _ => none := id rfl
@[simp] theorem e_gC {g : DG} {gs : DGs} {ds : List D} : dGC g gs ds st = match ds with
  | d :: ds => (g d st).bind fun s => gs ds s
  | [] => none := id rfl
@[simp] theorem e_tp {n : Nat} {gs : DGs} : dTp n gs d st = match d with
  | .tuple ds => if ds.length = n then gs ds st else none
  | _ => none := id rfl
@[simp] theorem e_asg {g : DG} : dAsg f g st = (f st).bind fun p => (g p.1 p.2).bind fun s => some (.nx s) := id rfl
@[simp] theorem e_setIx {h : DF} : dSetIx i g h st = (h st).bind fun p => (ownList p.2 i).bind fun _ => (g p.2).bind fun q => (intOf q.1).bind fun k => (ownList q.2 i).bind fun w => (ixN w.2.length k).bind fun j => some (.nx (q.2.set i (some (.own w.1 (.list (w.2.set j p.1)))))) := id rfl
@[simp] theorem e_app : dApp i f st = (ownList st i).bind fun _ => (f st).bind fun p => (ownList p.2 i).bind fun w => if w.2.length < 16777216 then some (.nx (p.2.set i (some (.own w.1 (.list (w.2 ++ [p.1])))))) else none := id rfl
@[simp] theorem e_aug {op} : dAug i op f st = (dVar i st).bind fun p => (f p.2).bind fun q => (op p.1 q.1).bind fun c => some (.nx (q.2.set i (some (.val c)))) := id rfl
@[simp] theorem e_forI {it : DSt → Option (List D × DSt)} {tg : DG} : dForI it tg s st = (it st).bind fun p => forL tg s p.1 p.2 := id rfl
@[simp] theorem e_itD : itD f st = (f st).bind fun p => (itemsD p.1).bind fun ds => some (ds, p.2) := id rfl
@[simp] theorem e_itR1 : itR1 f st = (f st).bind fun p => (rng1 p.1).bind fun ds => some (ds, p.2) := id rfl
@[simp] theorem e_itR2 : itR2 f g st = (f st).bind fun p => (g p.2).bind fun q => (rng2 p.1 q.1).bind fun ds => some (ds, q.2) := id rfl
@[simp] theorem e_yes : dYes st = some (true, st) := id rfl
@[simp] theorem e_lc {it : DSt → Option (List D × DSt)} {tg : DG} {tt : DB} {te : DF} {vs : List Nat} : dLc it tg tt te vs st = (it st).bind fun p => (lcL tg tt te vs p.1 (wipeD p.2 vs) []).bind fun q => some (.own none (.list q.1), q.2) := id rfl
@[simp] theorem e_call {f : Fn} {as : List Arg} : dCall f as st = (evA as st).bind fun p => if noDup p.1 = true then (mkArgs p.2 0 p.1).bind fun args => (f args).bind fun q => (putBack p.1 q.2 p.2).bind fun s => some (q.1, s) else none := id rfl
@[simp] theorem e_evA0 : evA [] st = some ([], st) := id rfl
@[simp] theorem e_evAe {as : List Arg} : evA (.e f :: as) st = (f st).bind fun p => (evA as p.2).bind fun q => some (.inl p.1 :: q.1, q.2) := id rfl
@[simp] theorem e_evAv {as : List Arg} : evA (.v i :: as) st = (peek st i).bind fun _ => (evA as st).bind fun q => some (.inr i :: q.1, q.2) := id rfl
@[simp] theorem e_mk0 : mkArgs st i [] = some [] := id rfl
@[simp] theorem e_mkl {us} : mkArgs st j (.inl d :: us) = (mkArgs st (j + 1) us).bind fun as => some (.val d :: as) := id rfl
@[simp] theorem e_mkr {us} : mkArgs st j (.inr i :: us) = match st[i]? with
    | some (some (.own _ c)) => (mkArgs st (j + 1) us).bind fun as => some (.own (some j) c :: as)
    | _ => none := id rfl
@[simp] theorem e_pb0 {o} : putBack [] o st = some st := by cases o <;> rfl
@[simp] theorem e_pbl {us o os} : putBack (.inl d :: us) (o :: os) st = putBack us os st := id rfl
@[simp] theorem e_pbr {us t c os} : putBack (.inr i :: us) (some (.own t c) :: os) st = match st[i]? with
    | some (some (.own t _)) => putBack us os (st.set i (some (.own t c)))
    | _ => none := id rfl
@[simp] theorem e_nd0 : noDup [] = true := id rfl
@[simp] theorem e_ndl {us} : noDup (.inl d :: us) = noDup us := id rfl
@[simp] theorem e_ndr {us} : noDup (.inr i :: us) = ((us.all fun u => match u with | .inl _ => true | .inr j => decide (j ≠ i)) && noDup us) := id rfl
@[simp] theorem e_oo0 : outsOf [] j st = some [] := id rfl
@[simp] theorem e_oov {as} : outsOf (.val d :: as) j st = (outsOf as (j + 1) st).bind fun o => some (none :: o) := id rfl
@[simp] theorem e_ooo {as t c} : outsOf (.own t c :: as) j st = match st[j]? with
    | some (some (.own (some k) c)) => if k = j then (outsOf as (j + 1) st).bind fun o => some (some (.own (some j) c) :: o) else none
    | _ => none := id rfl
@[simp] theorem e_def {n : Nat} {args : List SV} : defSem n s args = (s (args.map some ++ List.replicate (n - args.length) none)).bind fun o => match o with
  | .rt r st => (outsOf args 0 st).bind fun outs => some (r, outs)
  | .nx st => (outsOf args 0 st).bind fun outs => some (.val .none, outs)
  | _ => none := id rfl
@[simp] theorem e_peek : peek st i = match st[i]? with
  | some (some s) => some s.frz
  | _ => none := id rfl
@[simp] theorem e_ownList : ownList st i = match st[i]? with
  | some (some (.own t (.list xs))) => some (t, xs)
  | _ => none := id rfl
@[simp] theorem e_frzV : (SV.val d).frz = d := id rfl
@[simp] theorem e_frzO {t} : (SV.own t d).frz = d := id rfl
theorem ite_cl {α : Type} {c : Prop} [i : Decidable c] {a b : α} : @ite _ c (Classical.propDecidable c) a b = if c then a else b := by
  have : Classical.propDecidable c = i := Subsingleton.elim _ _
  rw [this]
/-! the words of the data -/
variable {m n : Int} {u v : Str} {k l : Bool} {ds es : List D}
@[simp] theorem v_int : intOf (.int n) = some n := id rfl
@[simp] theorem v_add : dAdd (.int m) (.int n) = some (.int (m + n)) := id rfl
@[simp] theorem v_addS : dAdd (.str u) (.str v) = if u.length + v.length ≤ 16777216 then some (.str (u ++ v)) else none := id rfl
@[simp] theorem v_addL : dAdd (.list ds) (.list es) = if ds.length + es.length ≤ 16777216 then some (.list (ds ++ es)) else none := id rfl
@[simp] theorem v_addT : dAdd (.tuple ds) (.tuple es) = if ds.length + es.length ≤ 16777216 then some (.tuple (ds ++ es)) else none := id rfl
@[simp] theorem v_sub : dSub (.int m) (.int n) = some (.int (m - n)) := id rfl
@[simp] theorem v_mul : dMul (.int m) (.int n) = if mulOk m n then some (.int (m * n)) else none := id rfl
@[simp] theorem v_div : dDiv (.int m) (.int n) = if 0 < n ∧ n < 1073741824 then some (.int (m / n)) else none := ite_cl
@[simp] theorem v_mod : dMod (.int m) (.int n) = if 0 < n then some (.int (m % n)) else none := ite_cl
@[simp] theorem v_pow : dPow (.int m) (.int n) = if 0 ≤ n ∧ n ≤ 1000000 ∧ m.natAbs < 2 ^ 64 then some (.int (m ^ n.toNat)) else none := ite_cl
@[simp] theorem v_neg : dNeg (.int m) = some (.int (-m)) := id rfl
@[simp] theorem v_lenL : lenD [.list ds] = some (.int ds.length) := id rfl
@[simp] theorem v_lenT : lenD [.tuple ds] = some (.int ds.length) := id rfl
@[simp] theorem v_lenS : lenD [.str u] = some (.int u.length) := id rfl
@[simp] theorem v_abs : absD [.int n] = some (.int (n.natAbs : Int)) := by
  show some (PyData.int _) = _
  congr 2
  split <;> omega
@[simp] theorem v_intC : intD [.int n] = some (.int n) := id rfl
@[simp] theorem v_intB : intD [.bool k] = some (.int (if k = true then 1 else 0)) := id rfl
@[simp] theorem v_max2 : max2 [.int m, .int n] = some (.int (max m n)) := by
  show some (PyData.int _) = _
  congr 2
  split <;> omega
@[simp] theorem v_min2 : min2 [.int m, .int n] = some (.int (min m n)) := by
  show some (PyData.int _) = _
  congr 2
  split <;> omega
@[simp] theorem v_listL : listC [.list ds] = some (.list ds) := id rfl
@[simp] theorem v_listT : listC [.tuple ds] = some (.list ds) := id rfl
@[simp] theorem v_tupL : tupC [.list ds] = some (.tuple ds) := id rfl
@[simp] theorem v_tupT : tupC [.tuple ds] = some (.tuple ds) := id rfl
@[simp] theorem v_itL : itemsD (.list ds) = some ds := id rfl
@[simp] theorem v_itT : itemsD (.tuple ds) = some ds := id rfl
@[simp] theorem v_itS : itemsD (.str u) = some (u.cps.toList.map fun c => .str ⟨#[c]⟩) := id rfl
@[simp] theorem v_ixL : ixD (.list ds) (.int n) = atI ds n := id rfl
@[simp] theorem v_ixT : ixD (.tuple ds) (.int n) = atI ds n := id rfl
@[simp] theorem v_ixS : ixD (.str u) (.int n) = (atI u.cps.toList n).bind fun c => some (.str ⟨#[c]⟩) := id rfl
@[simp] theorem v_slL {lo hi} : slD (.list ds) lo hi = some (.list (cutD ds lo hi)) := id rfl
@[simp] theorem v_slT {lo hi} : slD (.tuple ds) lo hi = some (.tuple (cutD ds lo hi)) := id rfl
@[simp] theorem v_slS {lo hi} : slD (.str u) lo hi = some (.str (cutS u lo hi)) := id rfl
@[simp] theorem v_tN : dTru .none = some false := id rfl
@[simp] theorem v_tB : dTru (.bool k) = some k := id rfl
@[simp] theorem v_tI : dTru (.int n) = some (n != 0) := id rfl
@[simp] theorem v_tS : dTru (.str u) = some (u.length != 0) := id rfl
@[simp] theorem v_tL : dTru (.list ds) = some (!ds.isEmpty) := id rfl
@[simp] theorem v_tT : dTru (.tuple ds) = some (!ds.isEmpty) := id rfl
@[simp] theorem v_isN : isN d .none = some (isNoneD d) := by cases d <;> rfl
@[simp] theorem v_isNN : isNN d .none = some (!isNoneD d) := by cases d <;> rfl
@[simp] theorem v_nN : isNoneD .none = true := id rfl
@[simp] theorem v_nB : isNoneD (.bool k) = false := id rfl
@[simp] theorem v_nI : isNoneD (.int n) = false := id rfl
@[simp] theorem v_nS : isNoneD (.str u) = false := id rfl
@[simp] theorem v_nT : isNoneD (.tuple ds) = false := id rfl
@[simp] theorem v_nL : isNoneD (.list ds) = false := id rfl
theorem c_int : cmpOk (.int n) = true := id rfl
theorem c_str : cmpOk (.str u) = true := id rfl
theorem c_bool : cmpOk (.bool k) = true := id rfl
theorem c_none : cmpOk .none = true := id rfl
theorem beq_dec {α : Type} [BEq α] [LawfulBEq α] [DecidableEq α] (a b : α) : (a == b) = decide (a = b) := by
  by_cases h : a = b
  · subst h; simp
  · rw [decide_eq_false h]; exact beq_eq_false_iff_ne.mpr h
@[simp] theorem v_eqI : eqD (.int m) (.int n) = some (decide (m = n)) := by
  unfold eqD
  rw [if_pos ⟨c_int, c_int⟩]
  unfold PyData.eqv
  simp [beq_dec]
@[simp] theorem v_eqS : eqD (.str u) (.str v) = some (decide (u = v)) := by
  unfold eqD
  rw [if_pos ⟨c_str, c_str⟩]
  unfold PyData.eqv
  simp [beq_dec]
@[simp] theorem v_neI : neD (.int m) (.int n) = some (!decide (m = n)) := by
  unfold neD
  rw [if_pos ⟨c_int, c_int⟩]
  unfold PyData.eqv
  simp [beq_dec]
@[simp] theorem v_neB : neD (.bool k) (.bool l) = some (!decide (k = l)) := by
  cases k <;> cases l <;> rfl
@[simp] theorem v_eqB : eqD (.bool k) (.bool l) = some (decide (k = l)) := by
  cases k <;> cases l <;> rfl
@[simp] theorem v_ltI : ordD .Lt (.int m) (.int n) = some (decide (m < n)) := congrArg some dec_cl'
@[simp] theorem v_leI : ordD .LtE (.int m) (.int n) = some (decide (m ≤ n)) := congrArg some dec_cl'
@[simp] theorem v_gtI : ordD .Gt (.int m) (.int n) = some (decide (n < m)) := congrArg some dec_cl'
@[simp] theorem v_geI : ordD .GtE (.int m) (.int n) = some (decide (n ≤ m)) := congrArg some dec_cl'
@[simp] theorem v_r1 : rng1 (.int n) = if -(2 ^ 62) ≤ n ∧ n < 2 ^ 62 then some (intsFrom 0 n.toNat) else none := ite_cl
@[simp] theorem v_r2 : rng2 (.int m) (.int n) = if -(2 ^ 62) ≤ m ∧ m < 2 ^ 62 ∧ -(2 ^ 62) ≤ n ∧ n < 2 ^ 62 then some (intsFrom m (n - m).toNat) else none := ite_cl
end
@[simp] theorem mulOk_r {a b : Int} (h : -(2 ^ 64) < b ∧ b < 2 ^ 64) : mulOk a b := .inr (.inl h)
theorem mulOk_l {a b : Int} (h : -(2 ^ 64) < a ∧ a < 2 ^ 64) : mulOk a b := .inl h
@[simp] theorem i_isiT {d : D} : isiD "tuple" d = (match d with | .tuple _ => some true | .dict _ => none | _ => some false) := by
  cases d <;> rfl
@[simp] theorem i_isiS {d : D} : isiD "str" d = (match d with | .str _ => some true | .dict _ => none | _ => some false) := by
  cases d <;> rfl
@[simp] theorem i_isiB {d : D} : isiD "bool" d = (match d with | .bool _ => some true | .dict _ => none | _ => some false) := by
  cases d <;> rfl
@[simp] theorem i_isiI {d : D} : isiD "int" d = (match d with | .int _ => some true | .bool _ => some true | .dict _ => none | _ => some false) := by
  cases d <;> rfl
end DL

/-! DL12: max and min of data, list.index -/
namespace DL
open PySem PySem.Spec PyProof.Rows L2
section
variable {prog : Program} {w : World} {A : Around} {E : Value → Shared → Prop} {s : Shared} {Q : Value → Shared → Prop} {a b : Value} {x y : D} {as bs : List Addr}
theorem max_two_data (hh : A.handled = none) (ra : Reads s.heap a x as) (rb : Reads s.heap b y bs) (al : PySem.W.AlikeAll [x, y]) (hu : A.units + 1 + PyData.depthAll [x, y] < cLine)
    (q : ∀ h' tk, (∀ d o, s.heap.get? d = some o → h'.get? d = some o) → Q (if PySem.W.dataLt x y = true then b else a) { s with heap := h', toks := tk }) :
    wpAny (model prog w) A (call (.builtin "max") [a, b]) Q E s := by
  have nm : (toString "max" ++ toString ".loop") = ("max.loop" : String) := by decide
  refine call_function_tree PySem.F.kind_max PySem.F.plain_max PySem.F.entry_max (PySem.F.args_max2 a b) ?_
  show wpAny (model prog w) A.in1 (Builtin.Builtins.bindParams "max" ["key", "default"] 0 ⟨[], []⟩ >>= _) _ E s
  refine wpAny_bind (wpAny_of_eq (a := [none, none]) rfl ?_)
  show wpAny (model prog w) A.in1 (newTuple [a, b] >>= _) _ E s
  refine wpAny_bind (wpAny_newObj_type ?_)
  generalize hs1 : ({ s with heap := s.heap.push { cls := .type "tuple", data := .seq #[a, b] } } : Shared) = s1
  have hh1 : s1.heap = s.heap.push { cls := .type "tuple", data := .seq #[a, b] } := by rw [← hs1]
  have hT : s1.heap.IsTuple s.heap.objs.size #[a, b] := by rw [hh1]; exact ⟨_, Heap.get?_push_size _ rfl, rfl, 0, rfl⟩
  have k1 : ∀ d o, s.heap.get? d = some o → s1.heap.get? d = some o := fun d o e => by rw [hh1]; exact Heap.get?_push_of_some _ e
  refine wpAny_bind (PySem.W.iter_tupleW (A := A.in1) hh hT fun s₂ e W st hfp hw hk => ?_)
  have hr : ReadsAll s.heap (#[a, b] : Array Value).toList [x, y] (as ++ (bs ++ [])) := .cons ra (.cons rb .nil)
  refine wpAny_bind (wpAny_newObj_type ?_)
  have hSf : s₂.heap.objs.size ∉ [s1.heap.objs.size, s.heap.objs.size] := fun hm => Nat.lt_irrefl _ (hfp _ hm)
  rw [nm]
  have hf := W.frame 0 s₂ (s₂.heap.push { cls := .type "list", data := .seq #[] 0 }) s₂.toks st (Nat.le_refl _) fun b _ o e => Heap.get?_push_of_some _ e
  refine wpAny_pure ⟨plainId_quiet PySem.F.plain_max_loop _, codeAny_max_loop_firstH W s.heap (fun d o e => hw d o (k1 d o e)) _ (PySem.W.cmpIn_gt (A := A.in1) hr al hu) s₂.heap.objs.size hSf (fresh_in fun d o e => hk d o (k1 d o e)) _ (show 0 < 2 by omega) (fun d o e => Heap.get?_push_of_some _ (hk d o (k1 d o e))) hf (Heap.get?_push_size _ rfl) fun v s' hP hm => ?_⟩
  obtain ⟨h', tk, rfl, hk'⟩ := PySem.W.moved_old e rfl (Moved.drop_new (tk := s₂.toks) hm (Nat.le_refl _))
  have q' := q h' tk fun d o e => hk' d o (k1 d o e)
  have hv : (if PySem.W.dataLt x y = true then b else a) = v := by
    cases h : PySem.W.dataLt x y <;> simp [argBest, h] at hP <;> simp <;> exact hP
  rw [hv] at q'
  rw [← hs1]
  exact q'
theorem min_two_data (hh : A.handled = none) (ra : Reads s.heap a x as) (rb : Reads s.heap b y bs) (al : PySem.W.AlikeAll [x, y]) (hu : A.units + 1 + PyData.depthAll [x, y] < cLine)
    (q : ∀ h' tk, (∀ d o, s.heap.get? d = some o → h'.get? d = some o) → Q (if PySem.W.dataLt y x = true then b else a) { s with heap := h', toks := tk }) :
    wpAny (model prog w) A (call (.builtin "min") [a, b]) Q E s := by
  have nm : (toString "min" ++ toString ".loop") = ("min.loop" : String) := by decide
  refine call_function_tree PySem.F.kind_min PySem.F.plain_min PySem.F.entry_min (PySem.F.args_min2 a b) ?_
  show wpAny (model prog w) A.in1 (Builtin.Builtins.bindParams "min" ["key", "default"] 0 ⟨[], []⟩ >>= _) _ E s
  refine wpAny_bind (wpAny_of_eq (a := [none, none]) rfl ?_)
  show wpAny (model prog w) A.in1 (newTuple [a, b] >>= _) _ E s
  refine wpAny_bind (wpAny_newObj_type ?_)
  generalize hs1 : ({ s with heap := s.heap.push { cls := .type "tuple", data := .seq #[a, b] } } : Shared) = s1
  have hh1 : s1.heap = s.heap.push { cls := .type "tuple", data := .seq #[a, b] } := by rw [← hs1]
  have hT : s1.heap.IsTuple s.heap.objs.size #[a, b] := by rw [hh1]; exact ⟨_, Heap.get?_push_size _ rfl, rfl, 0, rfl⟩
  have k1 : ∀ d o, s.heap.get? d = some o → s1.heap.get? d = some o := fun d o e => by rw [hh1]; exact Heap.get?_push_of_some _ e
  refine wpAny_bind (PySem.W.iter_tupleW (A := A.in1) hh hT fun s₂ e W st hfp hw hk => ?_)
  have hr : ReadsAll s.heap (#[a, b] : Array Value).toList [x, y] (as ++ (bs ++ [])) := .cons ra (.cons rb .nil)
  refine wpAny_bind (wpAny_newObj_type ?_)
  have hSf : s₂.heap.objs.size ∉ [s1.heap.objs.size, s.heap.objs.size] := fun hm => Nat.lt_irrefl _ (hfp _ hm)
  rw [nm]
  have hf := W.frame 0 s₂ (s₂.heap.push { cls := .type "list", data := .seq #[] 0 }) s₂.toks st (Nat.le_refl _) fun b _ o e => Heap.get?_push_of_some _ e
  refine wpAny_pure ⟨plainId_quiet PySem.F.plain_min_loop _, codeAny_min_loop_firstH W s.heap (fun d o e => hw d o (k1 d o e)) _ (PySem.W.cmpIn_lt (A := A.in1) hr al hu) s₂.heap.objs.size hSf (fresh_in fun d o e => hk d o (k1 d o e)) _ (show 0 < 2 by omega) (fun d o e => Heap.get?_push_of_some _ (hk d o (k1 d o e))) hf (Heap.get?_push_size _ rfl) fun v s' hP hm => ?_⟩
  obtain ⟨h', tk, rfl, hk'⟩ := PySem.W.moved_old e rfl (Moved.drop_new (tk := s₂.toks) hm (Nat.le_refl _))
  have q' := q h' tk fun d o e => hk' d o (k1 d o e)
  have hv : (if PySem.W.dataLt y x = true then b else a) = v := by
    cases h : PySem.W.dataLt y x <;> simp [argBest, h] at hP <;> simp <;> exact hP
  rw [hv] at q'
  rw [← hs1]
  exact q'
end
/-- can be compared by max and min -/
def alikeOk (ds : List D) : Bool := cmpOk (.list ds) && (ds.all fun a => ds.all fun b => PySem.W.alike a b) && ds.all (fun d => !isNoneD d)
theorem alikeOk_inv {ds : List D} (h : alikeOk ds = true) : plainAll ds = true ∧ PyData.depthAll ds ≤ 59 ∧ PySem.W.AlikeAll ds := by
  unfold alikeOk cmpOk at h
  simp only [Bool.and_eq_true, List.all_eq_true, decide_eq_true_eq] at h
  obtain ⟨⟨⟨p, d⟩, a⟩, n⟩ := h
  rw [DL.plain] at p
  rw [PyData.depth] at d
  refine ⟨p, by omega, fun x hx y hy => a x hx y hy, fun x hx e => ?_⟩
  have := n x hx
  subst e
  cases this
def maxV : List D → Option D
  | [.int i, .int j] => some (.int (max i j))
  | [.list (d :: ds)] => if alikeOk (d :: ds) = true then some (PySem.W.maxD d ds) else none
  | [.tuple (d :: ds)] => if alikeOk (d :: ds) = true then some (PySem.W.maxD d ds) else none
  | [a, b] => if alikeOk [a, b] = true then some (if PySem.W.dataLt a b = true then b else a) else none
  | _ => none
def minV : List D → Option D
  | [.int i, .int j] => some (.int (min i j))
  | [.list (d :: ds)] => if alikeOk (d :: ds) = true then some (PySem.W.minD d ds) else none
  | [.tuple (d :: ds)] => if alikeOk (d :: ds) = true then some (PySem.W.minD d ds) else none
  | [a, b] => if alikeOk [a, b] = true then some (if PySem.W.dataLt b a = true then b else a) else none
  | _ => none
section
variable {X : Cx} {K : Fg}
theorem each_at {R : Value → D → Prop} : ∀ {us : List Value} {ds : List D}, PySem.W.EachIs R us ds → ∀ (i : Nat) u, us[i]? = some u → ∃ d, ds[i]? = some d ∧ R u d
  | _, _, .nil, i, u, e => by simp at e
  | _, _, .cons h t, 0, u, e => by
    simp at e
    subst e
    exact ⟨_, rfl, h⟩
  | _, _, .cons h t, i + 1, u, e => by
    obtain ⟨d, a, b⟩ := each_at t i u (by simpa using e)
    exact ⟨d, by simpa using a, b⟩
/-- the best of alike items is one of them -/
theorem best_rp {K : Fg} {F : Hp} {h h' : Heap} {us : List Value} {ds : List D} {best : D} {i : Nat} {u : Value} {cs : List Addr} (e1 : PySem.W.EachIs (fun u d => ∃ v, RelV v u ∧ Rp K F v d) us ds) (e2 : PySem.W.EachIs (fun u d => ∃ as, Reads h u d as) us ds) (al : PySem.W.AlikeAll ds) (hb : best ∈ ds)
    (hi : us[i]? = some u) (kp : ∀ b o, h.get? b = some o → h'.get? b = some o) (hr : Reads h' u best cs) : ∃ v, RelV v u ∧ Rp K F v best := by
  obtain ⟨d, a, v, r, q⟩ := each_at e1 i u hi
  obtain ⟨d', a', as, r'⟩ := each_at e2 i u hi
  rw [a] at a'
  cases a'
  have := PySem.W.alike_unique d best u as cs (al.1 d (List.mem_of_getElem? a) best hb) (PySem.W.reads_keeps kp r') hr
  subst this
  exact ⟨v, r, q⟩
theorem maxD_mem (d : D) (ds : List D) : PySem.W.maxD d ds ∈ d :: ds := by
  unfold PySem.W.maxD
  induction ds generalizing d with
  | nil => simp
  | cons x xs ih =>
    rw [List.foldl_cons]
    rcases List.mem_cons.mp (ih (if PySem.W.dataLt d x = true then x else d)) with h | h
    · rw [h]; split <;> simp
    · simp [h]
theorem minD_mem (d : D) (ds : List D) : PySem.W.minD d ds ∈ d :: ds := by
  unfold PySem.W.minD
  induction ds generalizing d with
  | nil => simp
  | cons x xs ih =>
    rw [List.foldl_cons]
    rcases List.mem_cons.mp (ih (if PySem.W.dataLt x d = true then x else d)) with h | h
    · rw [h]; split <;> simp
    · simp [h]
theorem two_of {X : Cx} {pins : List (Addr × Obj)} {s : Shared} {σ : L2.St} {F H : Hp} (I : Inv X pins σ H s) (l : Same F H) {v w : V} {a b : D} {u u2 : Value} (h1 : Rp X.K F v a) (h2 : Rp X.K F w b) (r1 : RelV v u) (r2 : RelV w u2) (p : plainAll [a, b] = true) : (∃ as, Reads s.heap u a as) ∧ ∃ bs, Reads s.heap u2 b bs := by
  rw [plainAll, plainAll, Bool.and_eq_true, Bool.and_eq_true] at p
  exact ⟨Dp.reads I _ _ _ (dp_mono l (Rp.dp _ _ p.1 h1).1) r1, Dp.reads I _ _ _ (dp_mono l (Rp.dp _ _ p.2.1 h2).1) r2⟩
theorem cMaxV (hc : X.calm = true) (hu : X.A.units + 70 < cLine) : CallR X (.builtin "max") (rC X.K maxV) := fun pins s σ H xs us Q I r ⟨F, ds, c, l, ha, e, q⟩ => by
  unfold maxV at e
  split at e
  · rename_i i j
    cases e
    refine cMax2 hc pins s σ H xs us Q I r ⟨F, _, .int (if j > i then j else i), l, ha, rfl, ?_⟩
    have : (if j > i then j else i) = max i j := by split <;> omega
    rw [this]
    exact q
  · rename_i d ds
    obtain ⟨hz, rfl⟩ := ite_some e
    obtain ⟨pl, dp, al⟩ := alikeOk_inv hz
    obtain ⟨v, rfl, h1⟩ := ha.one_inv
    obtain ⟨p, vs, rfl, h1, h2⟩ := h1.list_inv
    rw [Vals.ref1 r]
    obtain ⟨its, rv, hl, _⟩ := I.list (a := p) (xs := vs) (l.seq h1)
    obtain ⟨e1, e2⟩ := each_of I l h2 rv pl
    obtain ⟨as, hr⟩ := PySem.W.each_readsAll (fun d : D => d) e2
    rw [List.map_id'] at hr
    refine PySem.W.max_list_data (vs := its.toArray) (I.ok.hd hc) hl.isList hr al (by omega) fun i u h' tk cs hi hb kp => ?_
    obtain ⟨v, r3, h3⟩ := best_rp e1 e2 al (maxD_mem d ds) (by simpa using hi) kp hb
    exact ⟨v, H, I.kept kp, r3, q _ _ _ (Grow.refl l) h3⟩
  · rename_i d ds
    obtain ⟨hz, rfl⟩ := ite_some e
    obtain ⟨pl, dp, al⟩ := alikeOk_inv hz
    obtain ⟨v, rfl, h1⟩ := ha.one_inv
    obtain ⟨p, vs, rfl, h1, h2⟩ := h1.tup_inv
    rw [Vals.ref1 r]
    obtain ⟨its, rv, hl, _⟩ := I.tuple (SqT.mono l h1)
    obtain ⟨e1, e2⟩ := each_of I l h2 rv pl
    obtain ⟨as, hr⟩ := PySem.W.each_readsAll (fun d : D => d) e2
    rw [List.map_id'] at hr
    refine PySem.W.max_tuple_data (vs := its.toArray) (I.ok.hd hc) hl hr al (by omega) fun i u h' tk cs hi hb kp => ?_
    obtain ⟨v, r3, h3⟩ := best_rp e1 e2 al (maxD_mem d ds) (by simpa using hi) kp hb
    exact ⟨v, H, I.kept kp, r3, q _ _ _ (Grow.refl l) h3⟩
  · rename_i a b _
    obtain ⟨hz, rfl⟩ := ite_some e
    obtain ⟨pl, dp, al⟩ := alikeOk_inv hz
    obtain ⟨v, w, rfl, h1, h2⟩ := ha.two_inv
    obtain ⟨u1, u2, rfl, r1, r2⟩ := vals2 r
    obtain ⟨⟨as, g1⟩, bs, g2⟩ := two_of I l h1 h2 r1 r2 pl
    refine max_two_data (I.ok.hd hc) g1 g2 al (by omega) fun h' tk kp => ?_
    by_cases hb : PySem.W.dataLt a b = true
    · rw [if_pos hb] at q ⊢
      exact ⟨w, H, I.kept kp, r2, q _ _ _ (Grow.refl l) h2⟩
    · rw [if_neg hb] at q ⊢
      exact ⟨v, H, I.kept kp, r1, q _ _ _ (Grow.refl l) h1⟩
  · cases e
theorem cMinV (hc : X.calm = true) (hu : X.A.units + 70 < cLine) : CallR X (.builtin "min") (rC X.K minV) := fun pins s σ H xs us Q I r ⟨F, ds, c, l, ha, e, q⟩ => by
  unfold minV at e
  split at e
  · rename_i i j
    cases e
    refine cMin2 hc pins s σ H xs us Q I r ⟨F, _, .int (if j < i then j else i), l, ha, rfl, ?_⟩
    have : (if j < i then j else i) = min i j := by split <;> omega
    rw [this]
    exact q
  · rename_i d ds
    obtain ⟨hz, rfl⟩ := ite_some e
    obtain ⟨pl, dp, al⟩ := alikeOk_inv hz
    obtain ⟨v, rfl, h1⟩ := ha.one_inv
    obtain ⟨p, vs, rfl, h1, h2⟩ := h1.list_inv
    rw [Vals.ref1 r]
    obtain ⟨its, rv, hl, _⟩ := I.list (a := p) (xs := vs) (l.seq h1)
    obtain ⟨e1, e2⟩ := each_of I l h2 rv pl
    obtain ⟨as, hr⟩ := PySem.W.each_readsAll (fun d : D => d) e2
    rw [List.map_id'] at hr
    refine PySem.W.min_list_data (vs := its.toArray) (I.ok.hd hc) hl.isList hr al (by omega) fun i u h' tk cs hi hb kp => ?_
    obtain ⟨v, r3, h3⟩ := best_rp e1 e2 al (minD_mem d ds) (by simpa using hi) kp hb
    exact ⟨v, H, I.kept kp, r3, q _ _ _ (Grow.refl l) h3⟩
  · rename_i d ds
    obtain ⟨hz, rfl⟩ := ite_some e
    obtain ⟨pl, dp, al⟩ := alikeOk_inv hz
    obtain ⟨v, rfl, h1⟩ := ha.one_inv
    obtain ⟨p, vs, rfl, h1, h2⟩ := h1.tup_inv
    rw [Vals.ref1 r]
    obtain ⟨its, rv, hl, _⟩ := I.tuple (SqT.mono l h1)
    obtain ⟨e1, e2⟩ := each_of I l h2 rv pl
    obtain ⟨as, hr⟩ := PySem.W.each_readsAll (fun d : D => d) e2
    rw [List.map_id'] at hr
    refine PySem.W.min_tuple_data (vs := its.toArray) (I.ok.hd hc) hl hr al (by omega) fun i u h' tk cs hi hb kp => ?_
    obtain ⟨v, r3, h3⟩ := best_rp e1 e2 al (minD_mem d ds) (by simpa using hi) kp hb
    exact ⟨v, H, I.kept kp, r3, q _ _ _ (Grow.refl l) h3⟩
  · rename_i a b _
    obtain ⟨hz, rfl⟩ := ite_some e
    obtain ⟨pl, dp, al⟩ := alikeOk_inv hz
    obtain ⟨v, w, rfl, h1, h2⟩ := ha.two_inv
    obtain ⟨u1, u2, rfl, r1, r2⟩ := vals2 r
    obtain ⟨⟨as, g1⟩, bs, g2⟩ := two_of I l h1 h2 r1 r2 pl
    refine min_two_data (I.ok.hd hc) g1 g2 al (by omega) fun h' tk kp => ?_
    by_cases hb : PySem.W.dataLt b a = true
    · rw [if_pos hb] at q ⊢
      exact ⟨w, H, I.kept kp, r2, q _ _ _ (Grow.refl l) h2⟩
    · rw [if_neg hb] at q ⊢
      exact ⟨v, H, I.kept kp, r1, q _ _ _ (Grow.refl l) h1⟩
  · cases e
/-! list.index -/
def firstEq (y : D) : List D → Nat → Option Nat
  | [], _ => none
  | x :: xs, n => if PyData.eqv x y = true then some n else firstEq y xs (n + 1)
def idxD : D → D → Option D
  | .list xs, y => if cmpOk y = true ∧ cmpOk (.list xs) = true ∧ xs.length ≤ 16777216 then (firstEq y xs 0).map (fun j : Nat => PyData.int (Int.ofNat j)) else none
  | _, _ => none
theorem firstEq_at {y : D} : ∀ {xs : List D} {n j : Nat}, firstEq y xs n = some j → n ≤ j ∧ (∃ z, xs[j - n]? = some z ∧ PyData.eqv z y = true) ∧ ∀ m z, m < j - n → xs[m]? = some z → PyData.eqv z y = false
  | [], n, j, h => by cases h
  | x :: xs, n, j, h => by
    rw [firstEq] at h
    by_cases hx : PyData.eqv x y = true
    · rw [if_pos hx] at h
      cases h
      exact ⟨Nat.le_refl _, ⟨x, by simp, hx⟩, fun m z hm => by omega⟩
    · rw [if_neg hx] at h
      obtain ⟨a, ⟨z, b, c⟩, d⟩ := firstEq_at h
      refine ⟨by omega, ⟨z, ?_, c⟩, fun m z hm hz => ?_⟩
      · rw [show j - n = (j - (n + 1)) + 1 by omega, List.getElem?_cons_succ]
        exact b
      · cases m with
        | zero =>
          rw [List.getElem?_cons_zero] at hz
          cases hz
          exact Bool.eq_false_iff.mpr hx
        | succ m =>
          rw [List.getElem?_cons_succ] at hz
          exact d m z (by omega) hz
def rIdx (K : Fg) : V → List V → Hp → VK → Prop := fun x ys H Q => ∃ F y a b c, ys = [y] ∧ Same F H ∧ Rp K F x a ∧ Rp K F y b ∧ idxD a b = some c ∧ ∀ F' H' v, Grow F H F' H' → Rp K F' v c → Q v H'
theorem mt_idx (hu : X.A.units + 66 < cLine) : MtR X "list.index" (rIdx X.K) := by
  intro pins s σ H x ys v us Q I rx rys ⟨F, y, a, b, c, e0, l, ha, hb, e, q⟩
  subst e0
  unfold idxD at e
  split at e
  · rename_i xs
    by_cases hz : cmpOk b = true ∧ cmpOk (.list xs) = true ∧ xs.length ≤ 16777216
    · rw [if_pos hz] at e
      obtain ⟨hy, hl, hn⟩ := hz
      cases ej : firstEq b xs 0 with
      | none => rw [ej] at e; cases e
      | some j =>
        rw [ej] at e
        cases e
        obtain ⟨_, ⟨z, hz, hzj⟩, hno⟩ := firstEq_at ej
        rw [Nat.sub_zero] at hz hno
        cases rys with
        | cons ry rt =>
          rename_i uy ut
          cases rt
          obtain ⟨bs, g1, y1, d1⟩ := rd_reads I l hb ry hy
          obtain ⟨p, vs, rfl, h1, h2⟩ := ha.list_inv
          cases rx
          obtain ⟨its, rv, ⟨⟨cls, dd, data, sls⟩, n, ho, hcl, hdn, hdt⟩, hlen⟩ := I.list (a := p) (xs := vs) (l.seq h1)
          simp only at hcl hdt
          subst hcl hdt
          have pl : plainAll xs = true := by
            unfold cmpOk at hl
            rw [Bool.and_eq_true, DL.plain] at hl
            exact hl.1
          obtain ⟨e1, e2⟩ := each_of I l h2 rv pl
          obtain ⟨as, hr⟩ := PySem.W.each_readsAll (fun d : D => d) e2
          rw [List.map_id'] at hr
          have hlay : PyData.canLayAll0 xs = true := (RpAll.dp xs vs pl h2).2
          have len : its.length = xs.length := SeqAt.ReadsAll.length xs its as hr
          have hmap : its.map (SeqAt.readOf s.heap) = xs := SeqAt.readsAll_map xs its as hlay hr
          obtain ⟨hjd, _⟩ := List.getElem?_eq_some_iff.mp hz
          have hj : j < its.toArray.size := by simpa [len] using hjd
          have at_ : ∀ (m : Nat) (hm : m < its.toArray.size) (z' : D), xs[m]? = some z' → SeqAt.readOf s.heap its.toArray[m] = z' := fun m hm z' hz' => by
            have hml : m < its.length := by simpa using hm
            rw [← hmap, List.getElem?_map, List.getElem?_eq_getElem hml] at hz'
            simpa using Option.some.inj hz'
          have hroom : X.A.units + 1 + min (PyData.depthAll xs) b.depth < cLine := by
            have := Nat.min_le_right (PyData.depthAll xs) b.depth
            omega
          have j63 : (j : Int) < 2 ^ 63 - 1 := by omega
          refine call_meets PySem.F.slot_list_index ⟨_, ho, rfl⟩ PySem.F.entry_list_index (PySem.F.args_list_index_2 _ _)
            (SeqAt.list_indexAt p its.toArray n dd sls uy (fun u => PyData.eqv (SeqAt.readOf s.heap u) b) j hj j63 ?_ ?_) ⟨ho, SeqAt.items_eqAt (vs := its.toArray) (show ReadsAll s.heap its.toArray.toList xs as from hr) g1 hlay y1 hroom, .int (j : Nat), H, I.tok _, ⟨_, rfl⟩, q _ _ _ (Grow.refl l) (.int _)⟩
          · show PyData.eqv (SeqAt.readOf s.heap its.toArray[j]) b = true
            rw [at_ j hj z hz]
            exact hzj
          · intro m hm hmj
            have hmd : m < xs.length := by omega
            have hz' : xs[m]? = some xs[m] := List.getElem?_eq_getElem hmd
            show PyData.eqv (SeqAt.readOf s.heap its.toArray[m]) b = false
            rw [at_ m hm _ hz']
            exact hno m _ hmj hz'
    · rw [if_neg hz] at e; cases e
  · cases e
theorem pf_index {o e : Expr} {f g : DF} {apos pos : Pos} (hu : X.A.units + 66 < cLine) (ho : PE X o (tF X.K f)) (he : PE X e (tF X.K g)) (hs : starEach [e] X.env = (false, eval e X.env) :: starEach [] X.env := by rfl) (hbase : attributeBase o "index" X.env (eval o X.env) = eval o X.env := by rfl)
    (hfew : ((backTo pos (starEach [e] X.env)).all (fun x => !x.1) && (backToKw pos (keywordEach [] X.env)).all (fun x => x.1.isSome) && decide ([e].length + ([] : List Keyword).length + (if ([] : List Keyword).isEmpty then 0 else 1) < 30)) = true := by rfl)
    (hline : (apos.endLine == pos.line) = true := by rfl) (hpl : (backTo pos (starEach [] X.env)).any (·.1) = false := by rfl) :
    PE X (.Call (.Attribute o "index" apos) [e] [] pos) (tF X.K (dBin idxD f g)) :=
  PE.imp (pe_bm (T := "list") PySem.F.plainAttrs_list PySem.F.slot_list_index PySem.F.type_list_index (mt_idx hu) ho (paf_cons he paf_nil hs) hbase hfew hline hs hpl) fun σ H Q ⟨F, β, st, d, st', r, e1, q⟩ => by
    obtain ⟨k, h1, e2⟩ := bind_some e1
    obtain ⟨k2, h2, e3⟩ := bind_some e2
    obtain ⟨c, h3, e4⟩ := bind_some e3
    cases e4
    refine ⟨F, β, st, k.1, k.2, r, h1, fun F1 H1 v k1 => ⟨?_, F1, β, k.2, [k2.1], k2.2, k1.rel, ?_, fun F2 H2 vs k3 => ?_⟩⟩
    · obtain ⟨xs, hx⟩ : ∃ xs, k.1 = .list xs := by
        cases hk : k.1 with
        | list xs => exact ⟨xs, rfl⟩
        | _ => rw [hk] at h3; cases h3
      have w1 := k1.res
      rw [hx] at w1
      obtain ⟨p, vs, rfl, h4, h5⟩ := w1.list_inv
      exact .inl ⟨rfl, vs, k1.rel.le.seq h4⟩
    · show (g k.2).bind _ = _
      rw [h2]
      rfl
    · obtain ⟨w, rfl, h5⟩ := k3.res.one_inv
      exact ⟨F2, w, k.1, k2.1, d, rfl, k3.rel.le, Rp.mono k3.stp.mono k1.res, h5, h3, fun F3 H3 v3 g3 q3 => q _ _ _ (((k1.b.trans k3.b).grow g3).toD q3)⟩
end
/-! list(range(n)) -/
noncomputable def rangeL (d : D) : Option (List D) := (intOf d).bind fun n => @ite _ (0 ≤ n ∧ n ≤ 16777216) (Classical.propDecidable _) (some (intsFrom 0 n.toNat)) none
noncomputable def dListR (f : DF) : DE := fun st => (f st).bind fun p => (rangeL p.1).bind fun ds => some (.own none (.list ds), p.2)
theorem rp_range {K : Fg} {F : Hp} : ∀ (m : Nat) (lo : Int), RpAll K F ((List.range m).map fun i => V.int (lo + (i : Nat))) (intsFrom lo m)
  | 0, lo => .nil
  | m + 1, lo => by
    rw [List.range_succ_eq_map, List.map_cons, List.map_map, intsFrom]
    refine .cons (by rw [show lo + ((0 : Nat) : Int) = lo by omega]; exact .int lo) ?_
    have := rp_range (K := K) (F := F) m (lo + 1)
    have e : (fun i : Nat => V.int (lo + 1 + (i : Nat))) = ((fun i : Nat => V.int (lo + (i : Nat))) ∘ Nat.succ) := by
      funext i
      show V.int _ = V.int _
      congr 1
      omega
    rw [← e]
    exact this
theorem pd_listR {X : Cx} {a : Expr} {f : DF} {p p2 pos pos2 : Pos} (hc : X.calm = true) (hg : Gl X "list") (hm : X.mg "list" = none) (hg2 : Gl X "range") (hm2 : X.mg "range" = none) (ha : PE X a (tF X.K f))
    (na : starEach [a] X.env = (false, eval a X.env) :: starEach [] X.env := by rfl) (na2 : starEach [Expr.Call (.Name "range" p2) [a] [] pos2] X.env = (false, eval (Expr.Call (.Name "range" p2) [a] [] pos2) X.env) :: starEach [] X.env := by rfl) :
    PE X (.Call (.Name "list" p) [.Call (.Name "range" p2) [a] [] pos2] [] pos) (tD X.K (dListR f)) := PE.imp (pe_listRg hc hg hm (prg_1 hg2 hm2 ha na) na2) fun σ H Q ⟨F, β, st, d, st', r, e1, q⟩ => by
  obtain ⟨k, h1, e2⟩ := bind_some e1
  obtain ⟨ds, h2, e3⟩ := bind_some e2
  cases e3
  obtain ⟨n, h3, e4⟩ := bind_some h2
  obtain ⟨hz, rfl⟩ := ite_some e4
  refine ⟨F, β, st, k.1, k.2, r, h1, fun F1 H1 v k1 => ?_⟩
  have k2 := k1.res
  rw [intOf_eq h3] at k2
  refine ⟨n, k2.int_eq, RgOk.of_le (by omega) hz.2 (by omega) hz.1, fun x hx => q _ _ _ (own_new k1.b hx (.lst ?_))⟩
  unfold rgV
  rw [show (n - 0).toNat = n.toNat by omega]
  exact rp_range n.toNat 0
/-! to run them -/
section
variable {m n : Int} {ds : List D} {a b : D}
@[simp] theorem e_listR {f : DF} {st : DSt} : dListR f st = (f st).bind fun p => (rangeL p.1).bind fun ds => some (.own none (.list ds), p.2) := id rfl
@[simp] theorem v_maxI : maxV [.int m, .int n] = some (.int (max m n)) := id rfl
@[simp] theorem v_minI : minV [.int m, .int n] = some (.int (min m n)) := id rfl
@[simp] theorem v_idx : idxD (.list ds) b = if cmpOk b = true ∧ cmpOk (.list ds) = true ∧ ds.length ≤ 16777216 then (firstEq b ds 0).map (fun j : Nat => PyData.int (Int.ofNat j)) else none := id rfl
end
end DL

/-! DL13: x in name: what the slot holds is looked at, not taken -/
namespace DL
open PySem PySem.Spec PyProof.Rows L2
def dCmpTV (op : D → D → Option Bool) (f : DF) (i : Nat) : DB := fun st => (f st).bind fun p => (peek p.2 i).bind fun c => (op p.1 c).bind fun k => some (k, p.2)
def dCmpV (op : D → D → Option Bool) (f : DF) (i : Nat) : DF := fun st => (f st).bind fun p => (peek p.2 i).bind fun c => (op p.1 c).bind fun k => some (.bool k, p.2)
section
variable {X : Cx} {a : Expr} {f : DF} {o : CmpOp} {op : D → D → Option Bool} {y : Str} {p2 pos : Pos}
theorem Grow.tight {F H F' H' : Hp} (l : Same F H) (g : Grow H H F' H') : Grow F H F H' := ⟨Same.refl _, l.trans g.keep, g.keep, fun a h => .inl h⟩
theorem pt_cmpV (i : Nat) (ho : OpD X (compareOp o) (liftB op)) (ha : PE X a (tF X.K f)) (hN : X.N[i]? = some y := by rfl) (hy : Vis X.env.scope y := by first | exact Or.inl rfl | exact Or.inr (Or.inl rfl) | exact Or.inr (Or.inr rfl)) (hd : (y == ("__debug__" : Str)) = false := by decide) (hcd : (y == ("__classdict__" : Str)) = false := by decide)
    (hm : behindInMarks o (.Name y p2) = false := by first | exact nomark _ | rfl) : PT X (.Compare a [o] [.Name y p2] pos) (tT X.K (dCmpTV op f i)) :=
  PT.imp (pt_cmpR ho ha (pe_var hN hy hd hcd) hm) fun σ H Q ⟨F, β, st, d, st', r, e1, q⟩ => by
    obtain ⟨p, h1, e2⟩ := bind_some e1
    obtain ⟨c, h2, e3⟩ := bind_some e2
    obtain ⟨k, h3, e4⟩ := bind_some e3
    cases e4
    refine ⟨F, β, st, p.1, p.2, r, h1, fun F1 H1 v1 k1 => ?_⟩
    obtain ⟨v, h4, h5, _⟩ := k1.rel.peek_at h2
    exact ⟨v, h4, H1, p.1, c, .bool d, Same.refl _, Rp.mono k1.rel.le k1.res, h5, by unfold liftB; rw [h3]; rfl, fun F3 H3 v3 g3 q3 => ⟨d, q3.bool, q _ _ (k1.b.grow (Grow.tight k1.rel.le g3))⟩⟩
theorem pf_cmpV (i : Nat) (ho : OpD X (compareOp o) (liftB op)) (ha : PE X a (tF X.K f)) (hN : X.N[i]? = some y := by rfl) (hy : Vis X.env.scope y := by first | exact Or.inl rfl | exact Or.inr (Or.inl rfl) | exact Or.inr (Or.inr rfl)) (hd : (y == ("__debug__" : Str)) = false := by decide) (hcd : (y == ("__classdict__" : Str)) = false := by decide)
    (hm : behindInMarks o (.Name y p2) = false := by first | exact nomark _ | rfl) : PE X (.Compare a [o] [.Name y p2] pos) (tF X.K (dCmpV op f i)) :=
  PE.imp (pe_cmpR ho ha (pe_var hN hy hd hcd) hm) fun σ H Q ⟨F, β, st, d, st', r, e1, q⟩ => by
    obtain ⟨p, h1, e2⟩ := bind_some e1
    obtain ⟨c, h2, e3⟩ := bind_some e2
    obtain ⟨k, h3, e4⟩ := bind_some e3
    cases e4
    refine ⟨F, β, st, p.1, p.2, r, h1, fun F1 H1 v1 k1 => ?_⟩
    obtain ⟨v, h4, h5, _⟩ := k1.rel.peek_at h2
    refine ⟨v, h4, H1, p.1, c, .bool k, Same.refl _, Rp.mono k1.rel.le k1.res, h5, by unfold liftB; rw [h3]; rfl, fun F3 H3 v3 g3 q3 => ?_⟩
    rw [q3.bool]
    exact q _ _ _ ((k1.b.grow (Grow.tight k1.rel.le g3)).toD (.bl k))
end
section
variable {f : DF} {st : DSt} {i : Nat} {op : D → D → Option Bool}
@[simp] theorem e_cmpTV : dCmpTV op f i st = (f st).bind fun p => (peek p.2 i).bind fun c => (op p.1 c).bind fun k => some (k, p.2) := id rfl
@[simp] theorem e_cmpV : dCmpV op f i st = (f st).bind fun p => (peek p.2 i).bind fun c => (op p.1 c).bind fun k => some (.bool k, p.2) := id rfl
end
end DL

/-! DL14: chains of comparisons, reversed, xs[::-1], count, constants of the program's top -/
namespace DL
open PySem PySem.Spec PyProof.Rows L2
section
variable {X : Cx} {a b c e : Expr} {f g h : DF} {pos p p2 p3 apos : Pos} {o o2 : CmpOp} {op op2 : D → D → Option Bool}
def dChainT (op op2 : D → D → Option Bool) (f g h : DF) : DB := fun st => (f st).bind fun p => (g p.2).bind fun q => (op p.1 q.1).bind fun k => if k = true then (h q.2).bind fun u => (op2 q.1 u.1).bind fun j => some (j, u.2) else some (false, q.2)
def dChainV (op op2 : D → D → Option Bool) (f g h : DF) : DF := fun st => (dChainT op op2 f g h st).bind fun p => some (.bool p.1, p.2)
theorem chain_to {K : Fg} {σ : L2.St} {H F : Hp} {β : Nat → Option Addr} {st st' : DSt} {d : Bool} {Q : VK} (r : StRel K F H β st σ) (e1 : dChainT op op2 f g h st = some (d, st')) (q : ∀ F' H', BOk K F H β st σ F' H' st' → Q (.bl d) H') :
    tChain (rD K (liftB op)) (rD K (liftB op2)) (tF K f) (tF K g) (tF K h) σ H Q := by
  obtain ⟨p, h1, e2⟩ := bind_some e1
  obtain ⟨p2, h2, e3⟩ := bind_some e2
  obtain ⟨k, h3, e4⟩ := bind_some e3
  refine ⟨F, β, st, p.1, p.2, r, h1, fun F1 H1 v1 k1 => ⟨F1, β, p.2, p2.1, p2.2, k1.rel, h2, fun F2 H2 v2 k2 => ?_⟩⟩
  refine ⟨F2, p.1, p2.1, .bool k, k2.rel.le, Rp.mono k2.stp.mono k1.res, k2.res, by unfold liftB; rw [h3]; rfl, fun F3 H3 v3 g3 q3 => ⟨k, q3.bool, ?_⟩⟩
  cases k with
  | true =>
    obtain ⟨u, h4, e5⟩ := bind_some (show ((h p2.2).bind fun u => (op2 p2.1 u.1).bind fun j => some (j, u.2)) = some (d, st') from e4)
    obtain ⟨j, h5, e6⟩ := bind_some e5
    cases e6
    show tF K h σ H3 _
    refine ⟨F3, β, p2.2, u.1, u.2, k2.rel.grow g3, h4, fun F4 H4 v4 k4 => ⟨F4, p2.1, u.1, .bool d, k4.rel.le, Rp.mono k4.stp.mono (Rp.mono g3.mono k2.res), k4.res, by unfold liftB; rw [h5]; rfl, fun F5 H5 v5 g5 q5 => ?_⟩⟩
    rw [q5.bool]
    exact q _ _ ((((k1.b.trans k2.b).grow g3).trans k4.b).grow g5)
  | false =>
    cases e4
    exact q _ _ ((k1.b.trans k2.b).grow g3)
theorem pt_ch (ho : OpD X (compareOp o) (liftB op)) (ho2 : OpD X (compareOp o2) (liftB op2)) (ha : PE X a (tF X.K f)) (hb : PE X b (tF X.K g)) (hc : PE X c (tF X.K h)) (hm : lastMarks [o, o2] [b, c] = false := by with_unfolding_all rfl) :
    PT X (.Compare a [o, o2] [b, c] pos) (tT X.K (dChainT op op2 f g h)) := PT.imp (pt_chain ho ho2 ha hb hc hm) fun σ H Q ⟨F, β, st, d, st', r, e1, q⟩ => chain_to r e1 fun F' H' k => ⟨d, rfl, q _ _ k⟩
theorem pf_ch (ho : OpD X (compareOp o) (liftB op)) (ho2 : OpD X (compareOp o2) (liftB op2)) (ha : PE X a (tF X.K f)) (hb : PE X b (tF X.K g)) (hc : PE X c (tF X.K h)) (hm : lastMarks [o, o2] [b, c] = false := by with_unfolding_all rfl) :
    PE X (.Compare a [o, o2] [b, c] pos) (tF X.K (dChainV op op2 f g h)) := PE.imp (pe_chain ho ho2 ha hb hc hm) fun σ H Q ⟨F, β, st, d, st', r, e1, q⟩ => by
  obtain ⟨p, h1, e2⟩ := bind_some e1
  cases e2
  exact chain_to r h1 fun F' H' k => q _ _ _ (k.toD (.bl _))
/-! reversed -/
def revL : D → Option (List D)
  | .list xs => some xs.reverse
  | _ => none
def itRev (f : DF) : DSt → Option (List D × DSt) := fun st => (f st).bind fun p => (revL p.1).bind fun ds => some (ds, p.2)
theorem revL_inv {d : D} {ds : List D} (h : revL d = some ds) : ∃ xs, d = .list xs ∧ ds = xs.reverse := by
  cases d <;> first | (cases h; exact ⟨_, rfl, rfl⟩) | cases h
theorem gives_rev {K : Fg} {F : Hp} {a : Addr} {vs : List V} {ds : List D} (hq : SqL K F a vs) (q : RpAll K F vs ds) : Gives K F (Itv K a vs.length) ds.reverse := by
  have hl : vs.length = ds.length := q.length
  refine ⟨fun F1 H i m l hi => ?_, fun F1 H i x H' m l hi y => ?_, fun F1 H m l => ?_⟩
  · rw [List.length_reverse] at hi
    have : vs.length - 1 - i < vs.length := by omega
    exact ⟨by omega, vs, vs[vs.length - 1 - i], l.seq (m.seq hq), by simp [this]⟩
  · rw [List.length_reverse] at hi
    obtain ⟨e, y⟩ := y
    refine ⟨e, ?_⟩
    subst e
    have hx := y vs (l.seq (m.seq hq))
    obtain ⟨d, e1, e2⟩ := q.getV hx
    exact ⟨d, by rw [List.getElem?_reverse hi, ← hl]; exact e1, Rp.mono m e2⟩
  · rw [List.length_reverse]
    exact Nat.le_of_eq hl
theorem i_rev {tg : Expr} (hg : Gl X "reversed") (hm : X.mg "reversed" = none) (ha : PE X a (tF X.K f)) (hs : starEach [a] X.env = [(false, eval a X.env)] := by rfl) : PI X tg (.Call (.Name "reversed" p) [a] [] pos) (tI X.K (itRev f)) :=
  PI.imp (pi_reversed hg hm (pa_cons ha pa_nil hs) hs) fun σ H R ⟨F, β, st, ds, st', r, e1, q⟩ => by
    obtain ⟨c, h1, e2⟩ := bind_some e1
    obtain ⟨ds', h2, e3⟩ := bind_some e2
    cases e3
    obtain ⟨xs, h3, rfl⟩ := revL_inv h2
    refine ⟨F, β, st, c.1, c.2, r, h1, fun F1 H1 v k => ?_⟩
    have k2 := k.res
    rw [h3] at k2
    obtain ⟨l, vs, rfl, h4, h5⟩ := k2.list_inv
    exact ⟨l, vs, rfl, k.rel.le.seq h4, q _ _ _ k.b (gives_rev h4 h5)⟩
theorem RpAll.reverse {K : Fg} {F : Hp} : ∀ {vs : List V} {ds : List D}, RpAll K F vs ds → RpAll K F vs.reverse ds.reverse
  | _, _, .nil => .nil
  | _, _, .cons h t => by
    rw [List.reverse_cons, List.reverse_cons]
    exact (RpAll.reverse t).append (.one h)
def dRevL (f : DF) : DE := fun st => (f st).bind fun p => (revL p.1).bind fun ds => some (.own none (.list ds), p.2)
theorem pd_revL {k : Nat} (ha : PE X a (tF X.K f)) : PE X (.Subscript a (.Slice none none (some (.UnaryOp .USub (.Constant (.int 1) k p) p2)) p3) pos) (tD X.K (dRevL f)) := PE.imp (pe_revL ha) fun σ H Q ⟨F, β, st, d, st', r, e1, q⟩ => by
  obtain ⟨c, h1, e2⟩ := bind_some e1
  obtain ⟨ds, h2, e3⟩ := bind_some e2
  cases e3
  obtain ⟨xs, h3, rfl⟩ := revL_inv h2
  refine ⟨F, β, st, c.1, c.2, r, h1, fun F1 H1 v k => ?_⟩
  have k2 := k.res
  rw [h3] at k2
  obtain ⟨l, vs, rfl, h4, h5⟩ := k2.list_inv
  exact ⟨l, vs, rfl, k.rel.le.seq h4, fun p hp => q _ _ _ (own_new k.b hp (.lst h5.reverse))⟩
/-! count, of a tuple that can't be a key -/
def cntD : D → D → Option D
  | .tuple xs, y => if keyL xs = false ∧ cmpOk y = true ∧ cmpOk (.tuple xs) = true then some (.int (Int.ofNat (xs.countP fun z => PyData.eqv z y))) else none
  | _, _ => none
theorem pf_count {fe : DF} (hu : X.A.units + 66 < cLine) (ha : PE X a (tF X.K f)) (he : PE X e (tF X.K fe)) (hs : starEach [e] X.env = (false, eval e X.env) :: starEach [] X.env := by rfl) (hbase : attributeBase a "count" X.env (eval a X.env) = eval a X.env := by rfl)
    (hfew : ((backTo pos (starEach [e] X.env)).all (fun x => !x.1) && (backToKw pos (keywordEach [] X.env)).all (fun x => x.1.isSome) && decide ([e].length + ([] : List Keyword).length + (if ([] : List Keyword).isEmpty then 0 else 1) < 30)) = true := by rfl)
    (hline : (apos.endLine == pos.line) = true := by rfl) (hpl : (backTo pos (starEach [] X.env)).any (·.1) = false := by rfl) :
    PE X (.Call (.Attribute a "count" apos) [e] [] pos) (tF X.K (dBin cntD f fe)) := ⟨fun pins s σ H Q I ⟨F, β, st, d, st', r, e1, q⟩ => by
  obtain ⟨k, h1, e2⟩ := bind_some e1
  obtain ⟨k2, h2, e3⟩ := bind_some e2
  obtain ⟨c, h3, e4⟩ := bind_some e3
  cases e4
  unfold cntD at h3
  split at h3
  · rename_i xs ex
    generalize ey : k2.1 = y at h3
    obtain ⟨⟨kl, cy, cx⟩, rfl⟩ := ite_some h3
    refine wpAny_Call_method_late hbase hfew hline rfl (thn (ha.run pins s σ H (fun v H1 => ∃ F1, DOk X.K F H β st σ F1 H1 k.2 v k.1) I ⟨F, β, st, k.1, k.2, r, h1, fun F1 H1 v k1 => ⟨F1, k1⟩⟩) fun v s1 ⟨x, H1, I1, r1, F1, k1⟩ => ?_)
    have w := k1.res
    rw [ex] at w
    obtain ⟨l, vs, rfl, hT, hv⟩ := w.tup_inv'
    cases r1
    rcases hT with ⟨z, _⟩ | ⟨_, ob, hd, hF⟩
    · rw [kl] at z; cases z
    obtain ⟨ho, hz, us, ru, o', ho', hc, n, hdt⟩ := I1.hok l _ (k1.rel.le _ _ hF)
    rw [ho] at ho'
    cases ho'
    refine ⟨"tuple", "tuple.count", PySem.F.plainAttrs_tuple, PySem.F.slot_tuple_count, PySem.F.type_tuple_count, ⟨ob, ho, hc⟩, fun b hb => by cases hb; exact ⟨ob, ho, hd⟩, ?_⟩
    have hA := (paf_cons he paf_nil hs).run pos pins s1 σ H1 (fun ws H2 => ∃ F2, AOk X.K F1 H1 β k.2 σ F2 H2 k2.2 ws [k2.1]) I1 ⟨F1, β, k.2, [k2.1], k2.2, k1.rel, by show (fe k.2).bind _ = _; rw [h2]; rfl, fun F2 H2 ws k3 => ⟨F2, k3⟩⟩
    rw [hs] at hA ⊢
    refine Calls.callWith_builtin (by show (false || (backTo pos (starEach [] X.env)).any (·.1)) = false; rw [hpl] <;> rfl) (Calls.evalArgs_plain ?_)
    refine thn hA fun us2 s2 ⟨ws, H2, I2, r2, F2, k3⟩ => ?_
    obtain ⟨w2, rfl, h5⟩ := k3.res.one_inv
    rw [ey] at h5
    obtain ⟨u2, rfl, ru2⟩ := vals1 r2
    obtain ⟨bs, g1, y1, d1⟩ := rd_reads I2 k3.rel.le h5 ru2 cy
    have hv2 := RpAll.mono k3.stp.mono hv
    have pl : plainAll xs = true := by
      unfold cmpOk at cx
      rw [Bool.and_eq_true, DL.plain] at cx
      exact cx.1
    obtain ⟨ho2, _⟩ := I2.hok l _ (k3.rel.le _ _ (k3.stp.mono _ _ hF))
    obtain ⟨e1', e2'⟩ := each_of I2 k3.rel.le hv2 ru pl
    obtain ⟨as, hr⟩ := PySem.W.each_readsAll (fun d : D => d) e2'
    rw [List.map_id'] at hr
    have hlay : PyData.canLayAll0 xs = true := (RpAll.dp xs vs pl hv2).2
    have hmap : us.map (SeqAt.readOf s2.heap) = xs := SeqAt.readsAll_map xs us as hlay hr
    have hroom : X.A.units + 1 + min (PyData.depthAll xs) y.depth < cLine := by
      have := Nat.min_le_right (PyData.depthAll xs) y.depth
      omega
    obtain ⟨cls, dd, data, sls⟩ := ob
    simp only at hc hdt
    subst hc hdt
    refine call_meets PySem.F.slot_tuple_count ⟨_, ho2, rfl⟩ PySem.F.entry_tuple_count (PySem.F.args_tuple_count_2 _ _)
      (SeqAt.tuple_countAt l us.toArray n dd sls u2 (fun u => PyData.eqv (SeqAt.readOf s2.heap u) y)) ⟨ho2, SeqAt.items_eqAt (vs := us.toArray) (show ReadsAll s2.heap us.toArray.toList xs as from hr) g1 hlay y1 hroom, ?_⟩
    have ec : us.toArray.toList.countP (fun u => PyData.eqv (SeqAt.readOf s2.heap u) y) = xs.countP fun z => PyData.eqv z y := by
      rw [← hmap, List.countP_map]
      rfl
    rw [ec]
    exact ⟨.int _, H2, I2.tok _, ⟨_, rfl⟩, q _ _ _ ((k1.b.trans k3.b).toD (.int _))⟩
  · cases h3⟩
/-! constants of the top -/
theorem pf_kint {x : Str} {i : Int} (hg : Gl X x) (hm : ∃ t, X.mg x = some (.int i t)) (hd : (x == ("__debug__" : Str)) = false := by decide) : PE X (.Name x pos) (tF X.K (dC (.int i))) := by
  obtain ⟨t, hm⟩ := hm
  exact c_pf (pe_glob hg hm (v := .int i) ⟨t, rfl⟩ hd) fun _ _ => .int _
end
/-- the name holds a written tuple of texts -/
def KStrs (K : Fg) (mg : Str → Option Value) (x : Str) (ws : List Str) : Prop := ∃ (a : Addr) (o : Obj) (its : Array Value) (n : Nat), mg x = some (.ref a) ∧ K.lookup a = some o ∧ o.cls = .type "tuple" ∧ o.data = .seq its n ∧ its.size ≤ sizeLine ∧ Vals (ws.map V.str) its.toList
theorem kstrs_mk {K : Fg} {mg : Str → Option Value} {h : Heap} {x : Str} {ws : List Str} {a : Addr} {od : Option Addr} {its : Array Value} {n : Nat} {osl : Array (Option Value)} (KX : K.In h) (G : h.Ns mainGlobals mg) (e : PySem.W.nsIn K mainGlobals x = some (some (.ref a)))
    (l : K.lookup a = some ⟨.type "tuple", od, .seq its n, osl⟩) (z : its.size ≤ 16777216) (v : Vals (ws.map V.str) its.toList) : KStrs K mg x ws := ⟨a, _, its, n, PySem.W.mg_of KX G e, l, rfl, rfl, by rw [← big_eq]; exact z, v⟩
theorem kint_mk {K : Fg} {mg : Str → Option Value} {h : Heap} {x : Str} {i : Int} {t : Tok} (KX : K.In h) (G : h.Ns mainGlobals mg) (e : PySem.W.nsIn K mainGlobals x = some (some (.int i t))) : ∃ t, mg x = some (.int i t) := ⟨t, PySem.W.mg_of KX G e⟩
def inC (ws : List Str) : D → Option Bool
  | .str x => some (decide (x ∈ ws))
  | _ => none
def dInC (ws : List Str) (f : DF) : DB := fun st => (f st).bind fun p => (inC ws p.1).bind fun k => some (k, p.2)
theorem inV_strs (x : Str) : ∀ ws : List Str, inV (.str x) (ws.map V.str) = decide (x ∈ ws)
  | [] => by simp [inV]
  | w :: ws => by
    have ih := inV_strs x ws
    unfold inV at ih ⊢
    rw [List.map_cons, List.any_cons, ih]
    show ((w == x) || _) = _
    by_cases h : x = w
    · subst h; simp
    · have : (w == x) = false := by simpa using fun z => h z.symm
      rw [this]
      simp [h]
section
variable {X : Cx} {a : Expr} {f : DF} {pos p2 : Pos} {x : Str} {ws : List Str}
theorem pt_inC (hg : Gl X x) (T : KStrs X.K X.mg x ws) (ha : PE X a (tF X.K f)) (hm : behindInMarks .In (.Name x p2) = false := by first | exact nomark _ | rfl) (hd : (x == ("__debug__" : Str)) = false := by decide) : PT X (.Compare a [.In] [.Name x p2] pos) (tT X.K (dInC ws f)) := by
  obtain ⟨l, o, its, n, h1, h2, h3, h4, h5, h6⟩ := T
  refine PT.imp (pt_cmpR op_in_seq ha (pe_glob hg h1 (v := .ref l) rfl hd) hm) fun σ H Q ⟨F, β, st, d, st', r, e1, q⟩ => ?_
  obtain ⟨p, e2, e3⟩ := bind_some e1
  obtain ⟨k, e4, e5⟩ := bind_some e3
  cases e5
  refine ⟨F, β, st, p.1, p.2, r, e2, fun F1 H1 v k1 => ?_⟩
  have w := k1.res
  unfold inC at e4
  split at e4
  · rename_i y ey
    cases e4
    rw [ey] at w
    obtain ⟨rfl, _⟩ := w.str_eq
    refine ⟨l, ws.map V.str, rfl, .inr (.inr ⟨o, its, n, h2, h3, h4, h5, h6⟩), rfl, ?_, ?_⟩
    · rw [List.all_eq_true]
      intro z hz
      obtain ⟨y', _, rfl⟩ := List.mem_map.mp hz
      rfl
    · exact ⟨_, by rw [if_neg (by decide), inV_strs], q _ _ k1.b⟩
  · cases e4
end
section
variable {f g h : DF} {st : DSt} {op op2 : D → D → Option Bool} {ds : List D} {ws : List Str} {x : Str} {y : D}
@[simp] theorem e_chT : dChainT op op2 f g h st = (f st).bind fun p => (g p.2).bind fun q => (op p.1 q.1).bind fun k => if k = true then (h q.2).bind fun u => (op2 q.1 u.1).bind fun j => some (j, u.2) else some (false, q.2) := id rfl
@[simp] theorem e_chV : dChainV op op2 f g h st = (dChainT op op2 f g h st).bind fun p => some (.bool p.1, p.2) := id rfl
@[simp] theorem e_itRev : itRev f st = (f st).bind fun p => (revL p.1).bind fun ds => some (ds, p.2) := id rfl
@[simp] theorem v_revL : revL (.list ds) = some ds.reverse := id rfl
@[simp] theorem e_dRevL : dRevL f st = (f st).bind fun p => (revL p.1).bind fun ds => some (.own none (.list ds), p.2) := id rfl
@[simp] theorem v_cnt : cntD (.tuple ds) y = if keyL ds = false ∧ cmpOk y = true ∧ cmpOk (.tuple ds) = true then some (.int (Int.ofNat (ds.countP fun z => PyData.eqv z y))) else none := id rfl
@[simp] theorem e_inC : dInC ws f st = (f st).bind fun p => (inC ws p.1).bind fun k => some (k, p.2) := id rfl
@[simp] theorem v_inC : inC ws (.str x) = some (decide (x ∈ ws)) := id rfl
end
end DL

/-! DL15: dicts whose keys are tuples of ints and texts (the data bears a mark ahead) -/
namespace DL
open PySem PySem.Spec PyProof.Rows L2
/-- a dict with tuple keys, as data -/
abbrev tdict (es : List (D × D)) : D := .dict ((.none, .none) :: es)
def keyOf1 : D → Option Key
  | .int i => some (.inl i)
  | .str x => some (.inr x)
  | _ => none
def keysOf1 : List D → Option (List Key)
  | [] => some []
  | d :: ds => (keyOf1 d).bind fun k => (keysOf1 ds).bind fun ks => some (k :: ks)
def keysOf : D → Option (List Key)
  | .tuple ds => keysOf1 ds
  | _ => none
theorem keyOf1_D (k : Key) : keyOf1 (keyD k) = some k := by cases k <;> rfl
theorem keysOf1_map : ∀ ks : List Key, keysOf1 (ks.map keyD) = some ks
  | [] => rfl
  | k :: ks => by
    rw [List.map_cons, keysOf1, keyOf1_D, keysOf1_map ks]
    rfl
theorem keyOf1_inv {d : D} {k : Key} (h : keyOf1 d = some k) : d = keyD k := by
  cases d <;> first | (cases h; rfl) | cases h
theorem keysOf1_inv : ∀ {ds : List D} {ks : List Key}, keysOf1 ds = some ks → ds = ks.map keyD ∧ keyL ds = true
  | [], ks, h => by cases h; exact ⟨rfl, rfl⟩
  | d :: ds, ks, h => by
    obtain ⟨k, h1, h2⟩ := bind_some h
    obtain ⟨ks2, h3, h4⟩ := bind_some h2
    cases h4
    obtain ⟨e1, e2⟩ := keysOf1_inv h3
    refine ⟨by rw [List.map_cons, ← e1, keyOf1_inv h1], ?_⟩
    cases d <;> first | exact e2 | cases h1
theorem keyV_rp {K : Fg} {F : Hp} {v : V} {k : Key} (h : Rp K F v (keyD k)) : v = kV k ∧ okK k := by
  cases k with
  | inl i => exact ⟨h.int_eq, trivial⟩
  | inr x => exact h.str_eq
theorem keysV_rp {K : Fg} {F : Hp} : ∀ {vs : List V} {ks : List Key}, RpAll K F vs (ks.map keyD) → vs = ks.map kV ∧ ∀ x ∈ ks, okK x
  | _, [], .nil => ⟨rfl, fun x h => nomatch h⟩
  | _, k :: ks, .cons h t => by
    obtain ⟨e1, o1⟩ := keyV_rp h
    obtain ⟨e2, o2⟩ := keysV_rp t
    refine ⟨by rw [e1, e2, List.map_cons], fun x hx => ?_⟩
    rcases List.mem_cons.mp hx with rfl | hx
    · exact o1
    · exact o2 x hx
/-- a key that is a tuple -/
theorem key_rp {K : Fg} {F : Hp} {v : V} {d : D} {ks : List Key} (h : Rp K F v d) (e : keysOf d = some ks) : ∃ b, v = .ref b ∧ F b = some (.tup (ks.map kV)) ∧ (∀ x ∈ ks, okK x) ∧ d = .tuple (ks.map keyD) := by
  cases d with
  | tuple ds =>
    obtain ⟨e1, e2⟩ := keysOf1_inv (show keysOf1 ds = some ks from e)
    obtain ⟨b, vs, rfl, hT, hv⟩ := h.tup_inv'
    rcases hT with ⟨_, hT⟩ | ⟨z, _⟩
    · rw [e1] at hv
      obtain ⟨e3, e4⟩ := keysV_rp hv
      rw [e3] at hT
      exact ⟨b, rfl, hT, e4, by rw [e1]⟩
    · rw [e2] at z; cases z
  | _ => cases e
def lookT (es : List (D × D)) (ks : List Key) : Option D := (es.find? fun p => decide (keysOf p.1 = some ks)).map (·.2)
def putT (es : List (D × D)) (ks : List Key) (d : D) : List (D × D) := if (es.any fun p => decide (keysOf p.1 = some ks)) = true then es.map fun p => if keysOf p.1 = some ks then (p.1, d) else p else es ++ [(.tuple (ks.map keyD), d)]
theorem keysOf_map (ks : List Key) : keysOf (.tuple (ks.map keyD)) = some ks := keysOf1_map ks
section
variable {K : Fg} {F : Hp}
theorem RpKt.look {ks : List Key} {d : D} : ∀ {kvs : List (List Key × V)} {es : List (D × D)}, RpKt K F kvs es → lookT es ks = some d → ∃ v, valV kvs ks = some v ∧ Rp K F v d
  | _, _, .nil, e => by cases e
  | _, _, @RpKt.cons _ _ k v kvs d0 es ho hv ht, e => by
    by_cases h : k = ks
    · subst h
      refine ⟨v, valV_pos rfl, ?_⟩
      simp only [lookT, List.find?_cons, keysOf_map, decide_true, Option.map_some, Option.some.injEq] at e
      rw [← e]; exact hv
    · obtain ⟨w, h1, h2⟩ := RpKt.look ht (d := d) (ks := ks) (by
        have : decide (keysOf (PyData.tuple (k.map keyD)) = some ks) = false := by rw [keysOf_map]; simpa using h
        simpa only [lookT, List.find?_cons, this] using e)
      exact ⟨w, by rw [valV_neg h]; exact h1, h2⟩
theorem RpKt.any (ks : List Key) : ∀ {kvs : List (List Key × V)} {es : List (D × D)}, RpKt K F kvs es → (kvs.any fun kv => decide (kv.1 = ks)) = (es.any fun p => decide (keysOf p.1 = some ks))
  | _, _, .nil => rfl
  | _, _, @RpKt.cons _ _ k v kvs d0 es ho hv ht => by
    rw [List.any_cons, List.any_cons, RpKt.any ks ht, keysOf_map]
    simp
theorem RpKt.repl {ks : List Key} {v : V} {d : D} (h : Rp K F v d) : ∀ {kvs : List (List Key × V)} {es : List (D × D)}, RpKt K F kvs es → RpKt K F (kvs.map fun kv => if kv.1 = ks then (kv.1, v) else kv) (es.map fun p => if keysOf p.1 = some ks then (p.1, d) else p)
  | _, _, .nil => .nil
  | _, _, @RpKt.cons _ _ k w kvs d0 es ho hv ht => by
    rw [List.map_cons, List.map_cons]
    have ih := RpKt.repl h ht (ks := ks)
    by_cases e : k = ks
    · subst e
      simp only [keysOf_map, if_true]
      exact .cons ho h ih
    · have : ¬ some k = some ks := by simpa using e
      simp only [keysOf_map, if_neg e, if_neg this]
      exact .cons ho hv ih
theorem RpKt.snoc {ks : List Key} {v : V} {d : D} (hk : ∀ x ∈ ks, okK x) (h : Rp K F v d) : ∀ {kvs : List (List Key × V)} {es : List (D × D)}, RpKt K F kvs es → RpKt K F (kvs ++ [(ks, v)]) (es ++ [(.tuple (ks.map keyD), d)])
  | _, _, .nil => .cons hk h .nil
  | _, _, .cons ho hv ht => .cons ho hv (RpKt.snoc hk h ht)
theorem RpKt.put {ks : List Key} {v : V} {d : D} (hk : ∀ x ∈ ks, okK x) (h : Rp K F v d) {kvs : List (List Key × V)} {es : List (D × D)} (t : RpKt K F kvs es) : RpKt K F (putK kvs ks v) (putT es ks d) := by
  unfold putK putT
  rw [t.any ks]
  split
  · exact t.repl h
  · exact t.snoc hk h
theorem RpKt.length : ∀ {kvs : List (List Key × V)} {es : List (D × D)}, RpKt K F kvs es → kvs.length = es.length
  | _, _, .nil => rfl
  | _, _, .cons _ _ t => by rw [List.length_cons, List.length_cons, RpKt.length t]
theorem RpKv.no {kvs : List (Key × V)} {p : D × D} {es : List (D × D)} (h : RpKv K F kvs (p :: es)) : p.1 ≠ .none := by
  cases h with
  | @cons k v kvs d es z h t =>
    cases k <;> exact fun z => nomatch z
theorem ORp.td_inv {o : HO} {es : List (D × D)} (h : ORp K F o (tdict es)) : ∃ kvs, o = .dT kvs ∧ RpKt K F kvs es := by
  generalize hd : tdict es = d at h
  cases h with
  | lst q => cases hd
  | dK q =>
    injection hd with hd
    subst hd
    exact absurd rfl q.no
  | dT q =>
    injection hd with hd
    injection hd with _ hd
    subst hd
    exact ⟨_, rfl, q⟩
theorem Rp.td_inv {v : V} {es : List (D × D)} (h : Rp K F v (tdict es)) : ∃ a kvs, v = .ref a ∧ Rd F a (.dT kvs) ∧ RpKt K F kvs es := by
  generalize hd : tdict es = d at h
  cases h with
  | obj h q =>
    subst hd
    obtain ⟨kvs, rfl, q2⟩ := q.td_inv
    exact ⟨_, kvs, rfl, h, q2⟩
  | _ => cases hd
end
/-! ### x[e], x a name that holds such a dict -/
def getT : D → D → Option D
  | .dict ((.none, .none) :: es), k => (keysOf k).bind fun ks => lookT es ks
  | _, _ => none
theorem getT_inv {c k d : D} (h : getT c k = some d) : ∃ es ks, c = tdict es ∧ keysOf k = some ks ∧ lookT es ks = some d := by
  unfold getT at h
  split at h
  · obtain ⟨ks, h1, h2⟩ := bind_some h
    exact ⟨_, ks, rfl, h1, h2⟩
  · cases h
def dGetV (i : Nat) (g : DF) : DF := fun st => (peek st i).bind fun _ => (g st).bind fun q => (peek q.2 i).bind fun c => (getT c q.1).bind fun r => some (r, q.2)
section
variable {X : Cx} {a b e : Expr} {f g h : DF} {pos pos2 p p2 : Pos} {x : Str}
theorem pf_getV (i : Nat) (hu : X.A.units + 66 < cLine) (hb : PE X b (tF X.K g)) (hs : NoSl b := by exact fun _ _ => rfl) (hN : X.N[i]? = some x := by rfl) (hv : Vis X.env.scope x := by first | exact Or.inl rfl | exact Or.inr (Or.inl rfl) | exact Or.inr (Or.inr rfl))
    (hd : (x == ("__debug__" : Str)) = false := by decide) (hcd : (x == ("__classdict__" : Str)) = false := by decide) : PE X (.Subscript (.Name x p) b pos) (tF X.K (dGetV i g)) :=
  PE.imp (pe_dget (by omega) (pe_var hN hv hd hcd) hb hs) fun σ H Q ⟨F, β, st, d, st', r, e1, q⟩ => by
    obtain ⟨c0, h0, e1⟩ := bind_some e1
    obtain ⟨k, h1, e2⟩ := bind_some e1
    obtain ⟨c, h2, e3⟩ := bind_some e2
    obtain ⟨w, h3, e4⟩ := bind_some e3
    cases e4
    obtain ⟨v0, hv0, _⟩ := r.peek_at h0
    refine ⟨v0, hv0, F, β, st, k.1, k.2, r, h1, fun F1 H1 y k1 => ?_⟩
    obtain ⟨v, e6, _, h7⟩ := k1.rel.peek_at h2
    rw [hv0] at e6
    cases e6
    obtain ⟨es, ks, rfl, g1, g2⟩ := getT_inv h3
    obtain ⟨bk, rfl, hT, _, _⟩ := key_rp k1.res g1
    have hTH := k1.rel.le _ _ hT
    rcases h7 with h7 | ⟨a, o, rfl, hh, h7⟩
    · obtain ⟨a, kvs, rfl, hr, hk⟩ := h7.td_inv
      obtain ⟨w, l1, l2⟩ := hk.look g2
      exact ⟨a, w, rfl, .inr ⟨kvs, ks, bk, Rd.mono k1.rel.le hr, rfl, hTH, l1.symm⟩, q _ _ _ (k1.b.toD l2)⟩
    · obtain ⟨kvs, rfl, hk⟩ := h7.td_inv
      obtain ⟨w, l1, l2⟩ := hk.look g2
      exact ⟨a, w, rfl, .inr ⟨kvs, ks, bk, .inl hh, rfl, hTH, l1.symm⟩, q _ _ _ (k1.b.toD l2)⟩
/-! ### {} -/
def dNewT : DE := fun st => some (.own none (tdict []), st)
theorem pd_newT : PE X (.Dict [] [] pos) (tD X.K dNewT) := PE.imp pe_dnewT fun σ H Q ⟨F, β, st, d, st', r, e1, q⟩ => by
  cases e1
  exact fun p hp => q _ _ _ (own_new (BOk.refl r) hp (.dT .nil))
/-! ### x[e] = v -/
def ownTd (st : DSt) (i : Nat) : Option (Option Nat × List (D × D)) := match st[i]? with
  | some (some (.own t (.dict ((.none, .none) :: es)))) => some (t, es)
  | _ => none
theorem ownTd_inv {st : DSt} {i : Nat} {p : Option Nat × List (D × D)} (h : ownTd st i = some p) : st[i]? = some (some (.own p.1 (tdict p.2))) := by
  unfold ownTd at h
  split at h
  · cases h; assumption
  · cases h
theorem StRel.td {K : Fg} {F H : Hp} {β : Nat → Option Addr} {st : DSt} {σ : L2.St} {i : Nat} {p : Option Nat × List (D × D)} (k : StRel K F H β st σ) (h : ownTd st i = some p) : ∃ a kvs, σ[i]? = some (some (.ref a)) ∧ H a = some (.dT kvs) ∧ RpKt K F kvs p.2 := by
  obtain ⟨v, e1, a, o, rfl, f, hh, q, _⟩ := k.slot i _ (ownTd_inv h)
  obtain ⟨kvs, rfl, q2⟩ := q.td_inv
  exact ⟨a, kvs, e1, hh, q2⟩
def dPutV (i : Nat) (g h : DF) : DS := fun st => (h st).bind fun p => (ownTd p.2 i).bind fun _ => (g p.2).bind fun q => (ownTd q.2 i).bind fun w => (keysOf q.1).bind fun ks => if w.2.length < 16777215 then some (.nx (q.2.set i (some (.own w.1 (tdict (putT w.2 ks p.1)))))) else none
theorem s_putV (i : Nat) (hu : X.A.units + 66 < cLine) (hv : PE X e (tF X.K h)) (hi : PE X b (tF X.K g)) (hN : X.N[i]? = some x := by rfl) (hx : Vis X.env.scope x := by first | exact Or.inl rfl | exact Or.inr (Or.inl rfl) | exact Or.inr (Or.inr rfl))
    (hd : (x == ("__debug__" : Str)) = false := by decide) (hcd : (x == ("__classdict__" : Str)) = false := by decide) (hs : swapsWith e (some (.Subscript (.Name x p2) b pos2)) pos.line X.env = pure false := by rfl) :
    PS X (.Assign [.Subscript (.Name x p2) b pos2] e pos) (tS X.K (dPutV i g h)) :=
  PS.imp (ps_dput (by omega) (pe_var hN hx hd hcd) hi hv hs) fun D σ H ⟨F, β, st, o, r, e1, q⟩ => by
    obtain ⟨p, h1, e2⟩ := bind_some e1
    obtain ⟨w0, h0, e2⟩ := bind_some e2
    obtain ⟨p3, h3, e4⟩ := bind_some e2
    obtain ⟨w, h5, e6⟩ := bind_some e4
    obtain ⟨ks, h7, e8⟩ := bind_some e6
    obtain ⟨hz, e9⟩ := ite_some e8
    subst e9
    refine ⟨F, β, st, p.1, p.2, r, h1, fun F1 H1 v k1 => ?_⟩
    obtain ⟨a, kv0, ea, _⟩ := k1.rel.td h0
    refine ⟨.ref a, ea, F1, β, p.2, p3.1, p3.2, k1.rel, h3, fun F2 H2 y k2 => ?_⟩
    obtain ⟨a2, kvs, z1, z2, z3⟩ := k2.rel.td h5
    rw [ea] at z1
    cases z1
    obtain ⟨bk, rfl, hT, ok, _⟩ := key_rp k2.res h7
    refine ⟨a, _, rfl, .inr ⟨kvs, ks, bk, z2, rfl, k2.rel.le _ _ hT, by rw [z3.length, ← big_eq]; omega, rfl⟩, ?_⟩
    exact q _ _ _ ((k1.b.trans k2.b).trans (k2.rel.write (ownTd_inv h5) ea (.dT (z3.put ok (Rp.mono k2.stp.mono k1.res))))).s
end
end DL

/-! DL16: {k: v for x in xs}, keys tuples of ints and texts -/
namespace DL
open PySem PySem.Spec PyProof.Rows L2
theorem d_setT {X : Cx} {pins : List (Addr × Obj)} {σ : L2.St} {H : Hp} {s : Shared} {E : Value → Shared → Prop} {d b : Addr} {kvs : List (List Key × V)} {k : List Key} {v : V} {r : Value} {Q : Unit → Shared → Prop} (hu : X.A.units < cLine) (I : Inv X pins σ H s) (hd : H d = some (.dT kvs)) (hb : H b = some (.tup (k.map kV)))
    (rv : RelV v r) (q : ∀ s2, Inv X pins σ (upd H d (.dT (putK kvs k v))) s2 → Q () s2) (hz : kvs.length < sizeLine) : wpAny (model X.prog X.w) X.A (dictSet d (.ref b) r) Q E s := by
  obtain ⟨_, ys, xs, rel, dd⟩ := dt_of I.hok hd
  have lx : kvs.length = xs.length := Paired.length rel
  have lp := length_putK kvs k v
  refine wpAny_dictSet_heap (hsz := by omega) hu (key_of I.hok hb) dd fun h2 dd2 sb => q _ ?_
  obtain ⟨ob, es, ep, g1, g2, g3, g4, _, g6⟩ := dd2
  refine d_write I (by rw [hd]; exact True.intro) sb ⟨ob, g1⟩ ⟨by omega, ys, _, (rel.put k hb rv).keeps fun c zs hc => ?_, ob, es, ep, g1, g2, g3, g4, g6⟩
  rw [upd_ne (ne_of hc hd (fun z => nomatch z)), hc]
def tDcT (wi : TI) (g : TG) (tt : TT) (tk tv : TE) (vs : List Nat) : TE := fun σ H Q => wi σ H fun J H1 => ∀ d, H1 d = none → ∃ W : Nat → Nat → Hp → Prop, (∃ m, W 0 m (upd H1 d (.dT []))) ∧ ∀ i m H2, W i m H2 →
  (J.stop i H2 ∧ Q (.ref d) H2) ∨ (J.go i H2 ∧ ∃ N : Hp → Prop, (∀ H3, N H3 → ∃ l, l < m ∧ W (i + 1) l H3) ∧ ∀ x H3, J.yld i H2 x H3 → g x (wipe σ vs) H3 fun σ4 H4 => wipe σ4 vs = wipe σ vs ∧ tt σ4 H4 fun c H5 =>
    if c = true then tk σ4 H5 fun y H6 => tv σ4 H6 fun z H7 => ∃ kvs k b, y = .ref b ∧ H7 b = some (.tup (k.map kV)) ∧ H7 d = some (.dT kvs) ∧ kvs.length < sizeLine ∧ N (upd H7 d (.dT (putK kvs k z))) else N H5)
theorem pe_dcT {X : Cx} {kx vx tg iter : Expr} {ifs : List Expr} {scope : Scope} {own : List (Str × Nat)} {pos : Pos} {wi : TI} {g : TG} {tt : TT} {tk tv : TE} (hu : X.A.units < cLine) (hc : X.calm = true) (hN : X.N.Nodup) (hi : PI X tg iter wi) (ok : BlkOk X.N X.env.scope scope own)
    (hg : ∀ (s : Shared) (H : Hp) (C : Addr) (cl : List (Str × Addr)) (fp : List Addr), PG (X.blk s H scope (compEnvC scope cl C X.env) fp) tg g) (ht : ∀ (s : Shared) (H : Hp) (C : Addr) (cl : List (Str × Addr)) (fp : List Addr), PTs (X.blk s H scope (compEnvC scope cl C X.env) fp) ifs tt)
    (hk : ∀ (s : Shared) (H : Hp) (C : Addr) (cl : List (Str × Addr)) (fp : List Addr), PE (X.blk s H scope (compEnvC scope cl C X.env) fp) kx tk) (hv : ∀ (s : Shared) (H : Hp) (C : Addr) (cl : List (Str × Addr)) (fp : List Addr), PE (X.blk s H scope (compEnvC scope cl C X.env) fp) vx tv)
    (hs : ∀ x, foldedSetIterable iter X.env x = pure x := by intro _; rfl) : PE X (.DictComp kx vx [⟨tg, iter, ifs, 0⟩] scope pos) (tDcT wi g tt tk tv (own.map (·.2))) := ⟨fun pins s σ H Q I h => by
  rw [arm_eval_DictComp]
  have fr : ∀ y ∈ scope.names, y.2 = .free → ∃ c, X.env.cells.lookup y.1 = some c := fun y hy e => (ok.free y hy e).elim (fun z => I.ok.has _ (.inl z)) fun z => I.ok.has _ (.inr z)
  refine wpAny_comprehension_free (use := none) rfl hs (closure_ok fr) ok.kind (fun y hy e => by rw [ok.uniq y hy, e]) (thn (hi.run pins s σ H _ I h) fun w0 s1 q1 => thn q1 fun w1 s2 ⟨it, fp, tn, J, H2, ew, I2, T, t2, p2, q2⟩ => ?_)
  subst ew
  refine wpAny_newObj_type (newEnv_comp ?_)
  have fD : H2 s2.heap.objs.size = none := I2.hok.fresh (Nat.le_refl _)
  obtain ⟨W, ⟨m0, w0⟩, turn⟩ := q2 _ fD
  obtain ⟨d, ed⟩ : ∃ d, d = s2.heap.objs.size := ⟨_, rfl⟩
  rw [← ed] at fD w0 turn ⊢
  obtain ⟨s3, es3⟩ : ∃ s3 : Shared, s3 = { s2 with heap := s2.heap.push { cls := .type "dict", data := .dict #[] } } := ⟨_, rfl⟩
  have hp3 : s3.heap = s2.heap.push { cls := .type "dict", data := .dict #[] } := by rw [es3]
  have I3 : Inv X pins σ (upd H2 d (.dT [])) s3 := by
    rw [es3]
    refine I2.laid (t' := s2.toks) (fun u o z => Heap.get?_push_of_some _ z) (Nat.le_of_eq ed.symm) ?_
    rw [ed]
    exact dt_empty s2.heap I2.big
  have old : ∀ u ∈ fp, u < s2.heap.objs.size := fun u hu => let ⟨o, z, _⟩ := T.obj _ _ t2 u hu; Heap.lt_size z
  have p3 : ∀ u ∈ fp, FpOk X pins (upd H2 d (.dT [])) u ∧ u < s3.heap.objs.size := fun u hu => by
    have lt := old u hu
    refine ⟨⟨?_, (p2 u hu).2⟩, by rw [hp3, Heap.size_push]; exact Nat.lt_succ_of_lt lt⟩
    rw [upd_ne (by rw [ed]; exact Nat.ne_of_lt lt)]
    exact (p2 u hu).1
  have t3 : tn 0 s3.heap := T.keep _ _ _ t2 fun u _ o z => by rw [hp3]; exact Heap.get?_push_of_some _ z
  have I4 := block_start I3 ok hN p3
  have rg := hg s3 (upd H2 d (.dT [])) s3.heap.objs.size (cellsFrom (s3.heap.objs.size + 1) scope.names (cloFrom X.env.cells scope.names [])) fp
  have rt := ht s3 (upd H2 d (.dT [])) s3.heap.objs.size (cellsFrom (s3.heap.objs.size + 1) scope.names (cloFrom X.env.cells scope.names [])) fp
  have rk := hk s3 (upd H2 d (.dT [])) s3.heap.objs.size (cellsFrom (s3.heap.objs.size + 1) scope.names (cloFrom X.env.cells scope.names [])) fp
  have rv := hv s3 (upd H2 d (.dT [])) s3.heap.objs.size (cellsFrom (s3.heap.objs.size + 1) scope.names (cloFrom X.env.cells scope.names [])) fp
  rw [show ({ s2 with heap := s2.heap.push { cls := .type "dict", data := .dict #[] } } : Shared) = s3 from es3.symm]
  show codeAny _ _ (.compStart (.DictComp kx vx [⟨tg, iter, ifs, 0⟩] scope pos) 0 (.ref it) (.ref d) (compEnvC scope (cellsFrom (s3.heap.objs.size + 1) scope.names (cloFrom X.env.cells scope.names [])) s3.heap.objs.size X.env)) (compPost (model X.prog X.w) X.A X.xe none (EP X pins σ Q) (.ref d) s3.heap.objs.size) { s3 with heap := pushCells (s3.heap.push { cls := .type "dict", data := .dict #[] }) scope.names }
  have nf : ∀ u ∈ fp, (upd H2 d (.dT [])) u = none := fun u hu => (p3 u hu).1.1
  obtain ⟨ce, hce⟩ : ∃ ce, ce = compEnvC scope (cellsFrom (s3.heap.objs.size + 1) scope.names (cloFrom X.env.cells scope.names [])) s3.heap.objs.size X.env := ⟨_, rfl⟩
  rw [← hce] at I4 rg rt rk rv ⊢
  have eL : ce.locals = s3.heap.objs.size := by rw [hce]; rfl
  obtain ⟨H3, eH3⟩ : ∃ H3, H3 = upd H2 d (.dT []) := ⟨_, rfl⟩
  rw [← eH3] at I3 I4 rg rt rk rv w0 nf p3
  obtain ⟨s4, es4⟩ : ∃ s4 : Shared, s4 = { s3 with heap := pushCells (s3.heap.push { cls := .type "dict", data := .dict #[] }) scope.names } := ⟨_, rfl⟩
  rw [← es4] at I4 ⊢
  have t4 : tn 0 s4.heap := T.keep _ _ _ t3 fun u _ o z => by rw [es4]; exact pushCells_keeps _ _ _ _ (Heap.get?_push_of_some _ z)
  have stay : ∀ {σ' : L2.St} {H' : Hp} {s' : Shared}, Inv (X.blk s3 H3 scope ce fp) [] σ' H' s' → (∀ u ∈ fp, H' u = none) → ∀ u ∈ fp, FpOk (X.blk s3 H3 scope ce fp) [] H' u := fun {σ' H' s'} I' hn u hu =>
    ⟨hn u hu, (I'.ok.exf u hu).1, I'.ok.exfs u hu, .inl hu, fun x c z => (I'.ok.exf u hu).2 x c z, fun p hp => absurd (show p ∈ ([] : List (Addr × Obj)) ++ [] from hp) (by simp)⟩
  have loop : codeAny (model X.prog X.w) X.A (.compLoop (.DictComp kx vx [⟨tg, iter, ifs, 0⟩] scope pos) 0 (.ref it) (.ref d) ce) (compPost (model X.prog X.w) X.A X.xe none (EP X pins σ Q) (.ref d) s3.heap.objs.size) s4 := by
    refine compLoop_anyD (fun n s' => ∃ i H', Inv (X.blk s3 H3 scope ce fp) [] (wipe σ (own.map (·.2))) H' s' ∧ tn i s'.heap ∧ (∀ u ∈ fp, H' u = none) ∧ W i n H') (fun n s5 ⟨i, H5, I5, t5, n5, w5⟩ => ?_) m0 ⟨0, H3, I4, t4, nf, w0⟩
    rcases turn i n H5 w5 with ⟨stop, qe⟩ | ⟨go, N, hN2, step⟩
    · refine thnF (T.done (X.blk s3 H3 scope ce fp) rfl rfl rfl hc i [] s5 _ H5 (fun _ _ => False) I5 (stay I5 n5) t5 stop) fun o s6 ⟨eo, I6⟩ => ?_
      subst eo
      have I7 : Inv X pins σ H5 s6 := I3.call' (ch := fp) I6.os I6.base I6.hok I6.bare fun u hu => let z := (p3 u hu).1.2; ⟨z.2.2.1, z.1, z.2.2.2.1, z.2.2.2.2⟩
      have nC : H5 s3.heap.objs.size = none := by rw [← eL]; exact I6.free
      obtain ⟨m, hm, _⟩ := I6.loc
      have hm : s6.heap.Ns ce.locals m := hm
      rw [eL] at hm
      obtain ⟨f0, f1, f2, f3, f4, f5⟩ := I3.fpOk (Nat.le_refl _) nC
      exact ⟨m, hm, fun h2 sb => ⟨.ref d, H5, I7.turned (t' := s6.toks) (fun u o hu z => (sb.2 u hu).trans z) nC f1 f3 f4 (by
        obtain ⟨_, _, _, _, _, z5⟩ := I7.fpOk (Nat.le_refl _) (I7.hok.fresh (Nat.le_refl _))
        exact f5), rfl, qe⟩⟩
    · refine thnF (T.item (X.blk s3 H3 scope ce fp) rfl rfl rfl hc i [] s5 _ H5 (fun _ _ => False) I5 (stay I5 n5) t5 go) fun o s6 ⟨u, eo, q6⟩ => ?_
      subst eo
      refine thnF q6 fun _ s7 ⟨x, H7, I7, r7, y7, t7, n7⟩ => ?_
      refine thnF (rg.run _ s7 _ H7 x u _ (I7.pinned (stay I7 n7) (T.obj _ _ t7)) r7 (step x H7 y7)) fun _ s8 ⟨σ8, H8, I8, ew8, q8⟩ => ?_
      refine thnF (rt.run _ s8 σ8 H8 _ I8 q8) fun c s9 ⟨H9, I9, q9⟩ => ?_
      have fin : ∀ {s' : Shared} {H' : Hp}, Inv (X.blk s3 H3 scope ce fp) ([] ++ pinsAt fp s7.heap) σ8 H' s' → N H' → ∃ m, m < n ∧ ∃ i H', Inv (X.blk s3 H3 scope ce fp) [] (wipe σ (own.map (·.2))) H' s' ∧ tn i s'.heap ∧ (∀ u ∈ fp, H' u = none) ∧ W i m H' := fun {s' H'} I' nx => by
        obtain ⟨l, hl, w'⟩ := hN2 H' nx
        have pk : ∀ u ∈ fp, ∀ o, s7.heap.get? u = some o → s'.heap.get? u = some o ∧ H' u = none := fun u hu o z =>
          let y := I'.pin (u, o) (List.mem_append_right _ (List.mem_append_right _ (mem_pinsAt hu z)))
          ⟨y.1, y.2.1⟩
        refine ⟨l, hl, i + 1, H', (I'.unpinned (pins := [])).weak (by rw [← ew8, wipe_length]) (fun j v z => by rw [← ew8] at z; exact (wipe_some z).1), T.keep _ _ _ t7 fun u hu o z => (pk u hu o z).1, fun u hu => ?_, w'⟩
        obtain ⟨o, z, _⟩ := T.obj _ _ t7 u hu
        exact (pk u hu o z).2
      cases c with
      | false => exact fin I9 q9
      | true =>
        refine thnF (rk.run _ s9 σ8 H9 _ I9 q9) fun a s10 ⟨y, H10, I10, r10, q10⟩ => ?_
        refine thnF (rv.run _ s10 σ8 H10 _ I10 q10) fun a2 s11 ⟨y2, H11, I11, r11, kvs, k, b, eb, hb, hD, hz, nx⟩ => ?_
        subst eb
        cases r10
        exact d_setT (X := X.blk s3 H3 scope ce fp) hu I11 hD hb r11 (fun s12 I12 => fin I12 nx) hz
  exact codeAny_compStart_dict loop (T.self X.A 0 _ _ _ t4 loop)⟩
end DL

/-! DL17: dict comprehensions by data -/
namespace DL
open PySem PySem.Spec PyProof.Rows L2
def dcL (tg : DG) (tt : DB) (tk tv : DF) (vs : List Nat) : List D → DSt → List (D × D) → Option (List (D × D) × DSt)
  | [], st, acc => some (acc, st)
  | d :: ds, st, acc => (tg d st).bind fun s1 => (tt s1).bind fun p => if p.1 = true then (tk p.2).bind fun q => (tv q.2).bind fun w => (keysOf q.1).bind fun ks => if acc.length < 16777215 then dcL tg tt tk tv vs ds (wipeD w.2 vs) (putT acc ks w.1) else none else dcL tg tt tk tv vs ds (wipeD p.2 vs) acc
def dDcT (it : DSt → Option (List D × DSt)) (tg : DG) (tt : DB) (tk tv : DF) (vs : List Nat) : DE := fun st => (it st).bind fun p => (dcL tg tt tk tv vs p.1 (wipeD p.2 vs) []).bind fun q => some (.own none (tdict q.1), q.2)
theorem dcT_to {K : Fg} {it : DSt → Option (List D × DSt)} {tg : DG} {tt : DB} {tk tv : DF} {vs : List Nat} {σ : L2.St} {H : Hp} {Q : VK} (h : tD K (dDcT it tg tt tk tv vs) σ H Q) : tDcT (tI K it) (tGw K tg vs) (tT K tt) (tF K tk) (tF K tv) vs σ H Q := by
  obtain ⟨F0, β, st0, r, st', k0, e, q⟩ := h
  obtain ⟨p, e1, e2⟩ := bind_some e
  obtain ⟨p2, e3, e4⟩ := bind_some e2
  cases e4
  refine ⟨F0, β, st0, p.1, p.2, k0, e1, fun F1 H1 J k1 g1 A hA => ?_⟩
  have fA : F1 A = none := k1.rel.le.free hA
  have nA : ¬ Own p.2 σ A := fun z => by
    obtain ⟨o, h2, _⟩ := k1.rel.ownH z
    rw [hA] at h2; cases h2
  -- W: the list so far stands at A
  refine ⟨fun i m H => m = p.1.length - i ∧ i ≤ p.1.length ∧ ∃ F st acc va, StRel K F H β st σ ∧ (∀ i s, st[i]? = some (some s) → i ∉ vs) ∧ Same F1 F ∧ (∀ a o, H1 a = some o → F1 a = none → ¬ Own p.2 σ a → H a = some o ∧ F a = none) ∧ (∀ a, Own st σ a → Own p.2 σ a) ∧ H A = some (.dT va) ∧ F A = none ∧ RpKt K F va acc ∧ ¬ Own st σ A ∧
    dcL tg tt tk tv vs (p.1.drop i) st acc = some p2, ⟨_, rfl, Nat.zero_le _, F1, wipeD p.2 vs, [], [], ?_, fun i s z => (wipeD_in vs _ i s z).1, Same.refl _, fun a o h1 h2 h3 => ⟨by rw [upd_ne (ne_of_none h1 hA)]; exact h1, h2⟩, fun a ⟨i, t, c, z1, z2⟩ => ⟨i, t, c, (wipeD_in vs _ i _ z1).2, z2⟩, upd_same, fA, .nil, fun ⟨i, t, c, z1, z2⟩ => nA ⟨i, t, c, (wipeD_in vs _ i _ z1).2, z2⟩, by simpa using e3⟩, ?_⟩
  · exact ((kills K vs p.2 k1.rel).rel).beside fA fun ⟨i, t, c, z1, z2⟩ => nA ⟨i, t, c, (wipeD_in vs _ i _ z1).2, z2⟩
  · rintro i m H ⟨rfl, hi, F, st, acc, va, k, hv, mF, kp, sb, hD, fD, ra, nD, e5⟩
    by_cases hlt : i < p.1.length
    · refine .inr ⟨g1.go F H i mF k.le hlt, fun H' => ∃ F st acc va, StRel K F H' β st σ ∧ (∀ i s, st[i]? = some (some s) → i ∉ vs) ∧ Same F1 F ∧ (∀ a o, H1 a = some o → F1 a = none → ¬ Own p.2 σ a → H' a = some o ∧ F a = none) ∧ (∀ a, Own st σ a → Own p.2 σ a) ∧ H' A = some (.dT va) ∧ F A = none ∧ RpKt K F va acc ∧ ¬ Own st σ A ∧
        dcL tg tt tk tv vs (p.1.drop (i + 1)) st acc = some p2, fun H' z => ⟨p.1.length - (i + 1), by omega, rfl, hlt, z⟩, fun x H' y => ?_⟩
      obtain ⟨rfl, d, ed, rd⟩ := g1.yld F H i x H' mF k.le hlt y
      rw [List.drop_eq_getElem_cons hlt] at e5
      have ed' : p.1[i] = d := by
        rw [List.getElem?_eq_getElem hlt] at ed
        exact Option.some.inj ed
      rw [ed'] at e5
      obtain ⟨s1, e6, e7⟩ := bind_some e5
      obtain ⟨p3, e8, e9⟩ := bind_some e7
      have ag : ∀ i s, st[i]? = some (some s) → (wipe σ vs)[i]? = σ[i]? := fun i s z => L2.wipe_out (hv i s z)
      have kw := k.agree (wipe_length σ vs) ag
      have ow : ∀ a, Own st (wipe σ vs) a → Own st σ a := fun a z => own_agree ag z
      refine ⟨F, β, st, d, s1, kw, rd, e6, fun F2 H2 σ2 w2 k2 => ⟨w2.trans wipe_wipe, F2, β, s1, p3.1, p3.2, k2.rel, e8, fun F3 H3 k3 => ?_⟩⟩
      have k23 := k2.trans k3.toG
      obtain ⟨len2, out2⟩ := same_wipe (w2.trans wipe_wipe)
      -- a state at σ2, its block slots forgotten, is one at σ
      have home : ∀ {F' H' : Hp} {sx : DSt}, StRel K F' H' β sx σ2 → StRel K F' H' β (wipeD sx vs) σ := fun {F' H' sx} z => ((kills K vs sx z).rel).agree len2.symm fun i s z2 => (out2 i (wipeD_in vs _ i s z2).1).symm
      have homeO : ∀ {sx : DSt} {a : Addr}, Own (wipeD sx vs) σ a → Own sx σ2 a := fun {sx a} ⟨i, t, c, z1, z2⟩ => ⟨i, t, c, (wipeD_in vs _ i _ z1).2, by rw [out2 i (wipeD_in vs _ i _ z1).1]; exact z2⟩
      -- what holds behind any further step
      have fin : ∀ {F' H'' : Hp} {sx : DSt}, GOk K F H' β st (wipe σ vs) F' H'' sx σ2 → Same F1 F' ∧ (∀ a o, H1 a = some o → F1 a = none → ¬ Own p.2 σ a → H'' a = some o ∧ F' a = none) ∧ (∀ a, Own (wipeD sx vs) σ a → Own p.2 σ a) ∧ H'' A = some (.dT va) ∧ F' A = none ∧ ¬ Own (wipeD sx vs) σ A := fun {F' H'' sx} z => by
        have hA' := z.stp.keep A _ hD fD (fun w => nD (ow _ w))
        refine ⟨mF.trans z.stp.mono, fun a o h1 h2 h3 => ?_, fun a w => sb a (ow a (z.sub a (homeO w))), hA'.1, hA'.2, fun w => nD (ow A (z.sub A (homeO w)))⟩
        obtain ⟨x1, x2⟩ := kp a o h1 h2 h3
        exact z.stp.keep a o x1 x2 fun w => h3 (sb a (ow a w))
      show ite _ _ _
      split
      · rename_i hp
        rw [if_pos hp] at e9
        obtain ⟨p4, e10, e11⟩ := bind_some e9
        obtain ⟨p5, e12, e13⟩ := bind_some e11
        obtain ⟨ks, e14, e15⟩ := bind_some e13
        refine ⟨F3, β, p3.2, p4.1, p4.2, k3.rel, e10, fun F4 H4 y k4 => ⟨F4, β, p4.2, p5.1, p5.2, k4.rel, e12, fun F5 H5 z k5 => ?_⟩⟩
        have hz : acc.length < 16777215 := by
          by_cases hz : acc.length < 16777215
          · exact hz
          · rw [if_neg hz] at e15; cases e15
        rw [if_pos hz] at e15
        obtain ⟨f1, f2, f3, f4, f5, f6⟩ := fin ((k23.trans k4.b.toG).trans k5.b.toG)
        have m4 := ((k23.trans k4.b.toG).trans k5.b.toG).stp.mono
        obtain ⟨bk, rfl, hT, okk, _⟩ := key_rp (Rp.mono k5.stp.mono k4.res) e14
        refine ⟨va, ks, bk, rfl, k5.rel.le _ _ hT, f4, by rw [ra.length, ← big_eq]; omega, F5, _, putT acc ks p5.1, putK va ks z, (home k5.rel).beside f5 f6, fun i s z => (wipeD_in vs _ i s z).1, f1, fun a o h1 h2 h3 => ?_, f3, upd_same, f5, (RpKt.mono m4 ra).put okk k5.res, f6, e15⟩
        rw [upd_ne (ne_of_none h1 hA)]
        exact f2 a o h1 h2 h3
      · rename_i hp
        rw [if_neg hp] at e9
        obtain ⟨f1, f2, f3, f4, f5, f6⟩ := fin k23
        exact ⟨F3, _, acc, va, home k3.rel, fun i s z => (wipeD_in vs _ i s z).1, f1, f2, f3, f4, f5, RpKt.mono k23.stp.mono ra, f6, e9⟩
    · have e6 : i = p.1.length := by omega
      subst e6
      rw [List.drop_length] at e5
      cases e5
      refine .inl ⟨g1.stop F H mF k.le, q F H _ ⟨k, ⟨k1.stp.mono.trans mF, fun a o h1 h2 h3 => ?_⟩, fun a z => k1.sub a (sb a z), ⟨A, .dT va, rfl, fD, hD, .dT ra, fun j z => nomatch z⟩, fun t c a h1 h2 => ?_⟩⟩
      · obtain ⟨x1, x2⟩ := k1.stp.keep a o h1 h2 h3
        exact kp a o x1 x2 fun z => h3 (k1.sub a z)
      · cases h1
        cases h2
        exact ⟨rfl, nD, k1.stp.fresh k1.rel.le hA⟩
section
variable {X : Cx} {kx vx tg iter : Expr} {ifs : List Expr} {scope : Scope} {own : List (Str × Nat)} {pos : Pos} {it : DSt → Option (List D × DSt)} {g : DG} {tt : DB} {tk tv : DF}
theorem pd_dcT (hu : X.A.units + 66 < cLine) (hc : X.calm = true) (hN : X.N.Nodup) (hi : PI X tg iter (tI X.K it)) (ok : BlkOk X.N X.env.scope scope own)
    (hg : ∀ (s : Shared) (H : Hp) (C : Addr) (cl : List (Str × Addr)) (fp : List Addr), PG (X.blk s H scope (compEnvC scope cl C X.env) fp) tg (tGw X.K g (own.map (·.2)))) (ht : ∀ (s : Shared) (H : Hp) (C : Addr) (cl : List (Str × Addr)) (fp : List Addr), PTs (X.blk s H scope (compEnvC scope cl C X.env) fp) ifs (tT X.K tt))
    (hk : ∀ (s : Shared) (H : Hp) (C : Addr) (cl : List (Str × Addr)) (fp : List Addr), PE (X.blk s H scope (compEnvC scope cl C X.env) fp) kx (tF X.K tk)) (hv : ∀ (s : Shared) (H : Hp) (C : Addr) (cl : List (Str × Addr)) (fp : List Addr), PE (X.blk s H scope (compEnvC scope cl C X.env) fp) vx (tF X.K tv))
    (hs : ∀ x, foldedSetIterable iter X.env x = pure x := by intro _; rfl) : PE X (.DictComp kx vx [⟨tg, iter, ifs, 0⟩] scope pos) (tD X.K (dDcT it g tt tk tv (own.map (·.2)))) := PE.imp (pe_dcT (by omega) hc hN hi ok hg ht hk hv hs) fun _ _ _ h => dcT_to h
end
section
variable {f g h : DF} {st : DSt} {i : Nat} {es : List (D × D)} {y : D}
@[simp] theorem e_getV : dGetV i g st = (peek st i).bind fun _ => (g st).bind fun q => (peek q.2 i).bind fun c => (getT c q.1).bind fun r => some (r, q.2) := id rfl
@[simp] theorem v_getT : getT (.dict ((.none, .none) :: es)) y = (keysOf y).bind fun ks => lookT es ks := id rfl
@[simp] theorem e_newT : dNewT st = some (.own none (tdict []), st) := id rfl
@[simp] theorem e_ownTd : ownTd st i = match st[i]? with
  | some (some (.own t (.dict ((.none, .none) :: es)))) => some (t, es)
  | _ => none := id rfl
@[simp] theorem e_putV : dPutV i g h st = (h st).bind fun p => (ownTd p.2 i).bind fun _ => (g p.2).bind fun q => (ownTd q.2 i).bind fun w => (keysOf q.1).bind fun ks => if w.2.length < 16777215 then some (.nx (q.2.set i (some (.own w.1 (tdict (putT w.2 ks p.1)))))) else none := id rfl
@[simp] theorem e_dcT {it : DSt → Option (List D × DSt)} {tg : DG} {tt : DB} {tk tv : DF} {vs : List Nat} : dDcT it tg tt tk tv vs st = (it st).bind fun p => (dcL tg tt tk tv vs p.1 (wipeD p.2 vs) []).bind fun q => some (.own none (tdict q.1), q.2) := id rfl
end
end DL

/-! DL18: a, b = x, y -/
namespace DL
open PySem PySem.Spec PyProof.Rows L2
def dPar (i j : Nat) (ga : DA) : DS := fun st => (ga st).bind fun p => match p.1 with
  | [x, y] => some (.nx ((p.2.set i (some (.val x))).set j (some (.val y))))
  | _ => none
section
variable {X : Cx} {a b : Expr} {ga : DA} {px py pt pt2 pos : Pos} {x y : Str}
theorem s_par (i j : Nat) {kt k2 : Nat} (hc : X.calm = true) (hN : X.N.Nodup) (ha : PA X [a, b] (tA X.K ga)) (hi : X.N[i]? = some x := by rfl) (hj : X.N[j]? = some y := by rfl) (hij : i ≠ j := by decide)
    (hx : X.env.scope.names.lookup x = some .local := by rfl) (hy : X.env.scope.names.lookup y = some .local := by rfl)
    (hw : swappedStores [.Tuple [.Name x px, .Name y py] kt pt] (.Tuple [a, b] k2 pt2) X.env = pure (some [x, y]) := by rfl)
    (hs : swapsWithSole [.Tuple [.Name x px, .Name y py] kt pt] (.Tuple [a, b] k2 pt2) pos.line X.env = pure false := by rfl) :
    PS X (.Assign [.Tuple [.Name x px, .Name y py] kt pt] (.Tuple [a, b] k2 pt2) pos) (tS X.K (dPar i j ga)) := PS.imp (ps_par hc hN hi hj hij hx hy ha hw hs) fun D σ H ⟨F, β, st, o, r, e, q⟩ => by
  obtain ⟨p, h1, e2⟩ := bind_some e
  split at e2
  · rename_i u v eu
    cases e2
    refine ⟨F, β, st, p.1, p.2, r, h1, fun F1 H1 vs k1 => ?_⟩
    have w := k1.res
    rw [eu] at w
    obtain ⟨v1, v2, rfl, w1, w2⟩ := w.two_inv
    refine ⟨v1, v2, rfl, ?_⟩
    have k2 := k1.rel.putD i w1
    exact q _ _ _ ((k1.b.s.trans k2).trans (k2.rel.putD j w2))
  · cases e2
end
@[simp] theorem e_par {i j : Nat} {ga : DA} {st : DSt} : dPar i j ga st = (ga st).bind fun p => match p.1 with
  | [x, y] => some (.nx ((p.2.set i (some (.val x))).set j (some (.val y))))
  | _ => none := id rfl
end DL

/-! what the defs of the text do: printed by gen.py -/
namespace LW
open PySem L2 DL
noncomputable section
def F_reduced_number : DS :=
  (dRet (dV (dBin dSub (dBin dMod (dBin dAdd (dVar 0) (dC (.int 5000))) (dC (.int 10000))) (dC (.int 5000)))))
def m_reduced_number : Fn := defSem 1 F_reduced_number
def F_combined_worth : DS :=
  (dSeq (dIf (dCmpT eqD (dVar 0) (dC (.str (Str.ofString "plus"))))
    (dRet (dV (dBin dAdd (dVar 1) (dVar 2))))
    dNext)
    (dSeq (dIf (dCmpT eqD (dVar 0) (dC (.str (Str.ofString "minus"))))
    (dRet (dV (dBin dSub (dVar 1) (dVar 2))))
    dNext)
    (dSeq (dIf (dCmpT eqD (dVar 0) (dC (.str (Str.ofString "times"))))
    (dRet (dV (dBin dMul (dVar 1) (dVar 2))))
    dNext)
    (dSeq (dIf (dCmpT eqD (dVar 0) (dC (.str (Str.ofString "least"))))
    (dRet (dV (dCallB minV (dCons (dVar 1) (dCons (dVar 2) dNil)))))
    dNext)
    (dRet (dV (dCallB maxV (dCons (dVar 1) (dCons (dVar 2) dNil)))))))))
def m_combined_worth : Fn := defSem 3 F_combined_worth
def F_full_worth (self_ : Fn) : DS :=
  (dSeq (dSet 2 (dV (dIxV 0 (dC (.int 0)))))
    (dSeq (dIf (dCmpT eqD (dVar 2) (dC (.str (Str.ofString "number"))))
    (dRet (dV (dIxV 0 (dC (.int 1)))))
    dNext)
    (dSeq (dIf (dInC [Str.ofString "number", Str.ofString "state", Str.ofString "operand", Str.ofString "left", Str.ofString "right"] (dVar 2))
    (dRet (dV (dGetV 1 (dVar 0))))
    dNext)
    (dRet (dCall m_combined_worth [.e (dVar 2), .e (dF (dCall self_ [.e (dIxV 0 (dC (.int 1))), .e (dVar 1)])), .e (dF (dCall self_ [.e (dIxV 0 (dC (.int 2))), .e (dVar 1)]))])))))
def m_full_worth : Nat → Fn
  | 0 => fun _ => none
  | k + 1 => defSem 3 (F_full_worth (m_full_worth k))
def F_wrapped_worth (self_ : Fn) : DS :=
  (dSeq (dSet 2 (dV (dIxV 0 (dC (.int 0)))))
    (dSeq (dIf (dCmpT eqD (dVar 2) (dC (.str (Str.ofString "number"))))
    (dRet (dV (dIxV 0 (dC (.int 1)))))
    dNext)
    (dSeq (dIf (dInC [Str.ofString "number", Str.ofString "state", Str.ofString "operand", Str.ofString "left", Str.ofString "right"] (dVar 2))
    (dRet (dV (dGetV 1 (dVar 0))))
    dNext)
    (dSeq (dSet 3 (dCall m_combined_worth [.e (dVar 2), .e (dF (dCall self_ [.e (dIxV 0 (dC (.int 1))), .e (dVar 1)])), .e (dF (dCall self_ [.e (dIxV 0 (dC (.int 2))), .e (dVar 1)]))]))
    (dSeq (dIf (dInC [Str.ofString "plus", Str.ofString "minus", Str.ofString "times"] (dVar 2))
    (dRet (dCall m_reduced_number [.e (dVar 3)]))
    dNext)
    (dRet (dMov 3)))))))
def m_wrapped_worth : Nat → Fn
  | 0 => fun _ => none
  | k + 1 => defSem 4 (F_wrapped_worth (m_wrapped_worth k))
def F_joined_text : DS :=
  (dRet (dV (dBin joinD (dC (.str (Str.ofString ""))) (dF (dLc (itD (dVar 0)) (dNm 2) dYes (dIfE (dCmpT eqD (dIxV 2 (dC (.int 0))) (dC (.str (Str.ofString "text")))) (dIxV 2 (dC (.int 1))) (dGetV 1 (dVar 2))) [2])))))
def m_joined_text : Fn := defSem 3 F_joined_text
def F_worth_of : DS :=
  (dRet (dCall (m_full_worth 8) [.e (dVar 0), .e (dF (dDcT (itD (dVar 1)) (dTp 2 (dGC (dNm 2) (dGC (dNm 3) dGN))) dYes (dVar 2) (dVar 3) [2, 3]))]))
def m_worth_of : Fn := defSem 4 F_worth_of
def F_stored_worth : DS :=
  (dRet (dCall (m_wrapped_worth 8) [.e (dVar 0), .e (dF (dDcT (itD (dVar 1)) (dTp 2 (dGC (dNm 2) (dGC (dNm 3) dGN))) dYes (dVar 2) (dVar 3) [2, 3]))]))
def m_stored_worth : Fn := defSem 4 F_stored_worth
def F_text_worth : DS :=
  (dRet (dCall m_joined_text [.e (dVar 0), .e (dF (dDcT (itD (dVar 1)) (dTp 2 (dGC (dNm 2) (dGC (dNm 3) dGN))) dYes (dVar 2) (dVar 3) [2, 3]))]))
def m_text_worth : Fn := defSem 4 F_text_worth
def F__law_a_joined : DS :=
  (dRet (dV (dBin joinD (dC (.str (Str.ofString ""))) (dF (dLc (itD (dVar 0)) (dNm 2) dYes (dIfE (dCmpT eqD (dIxV 2 (dC (.int 0))) (dC (.str (Str.ofString "text")))) (dIxV 2 (dC (.int 1))) (dGetV 1 (dVar 2))) [2])))))
def m__law_a_joined : Fn := defSem 3 F__law_a_joined
def F__law_a_reduced : DS :=
  (dRet (dV (dBin dSub (dBin dMod (dCallB intD (dCons (dBin dAdd (dVar 0) (dC (.int 5000))) dNil)) (dC (.int 10000))) (dC (.int 5000)))))
def m__law_a_reduced : Fn := defSem 1 F__law_a_reduced
def F__law_a_worth (self_ : Fn) : DS :=
  (dSeq (dIf (dCmpT eqD (dIxV 0 (dC (.int 0))) (dC (.str (Str.ofString "number"))))
    (dRet (dV (dIxV 0 (dC (.int 1)))))
    dNext)
    (dSeq (dIf (dCmpT eqD (dLenV 0) (dC (.int 2)))
    (dRet (dV (dGetV 1 (dVar 0))))
    dNext)
    (dSeq (dSet 3 (dCall self_ [.e (dIxV 0 (dC (.int 1))), .e (dVar 1), .e (dVar 2)]))
    (dSeq (dSet 4 (dCall self_ [.e (dIxV 0 (dC (.int 2))), .e (dVar 1), .e (dVar 2)]))
    (dSeq (dIf (dCmpT eqD (dIxV 0 (dC (.int 0))) (dC (.str (Str.ofString "least"))))
    (dRet (dV (dCallB minV (dCons (dVar 3) (dCons (dVar 4) dNil)))))
    dNext)
    (dSeq (dIf (dCmpT eqD (dIxV 0 (dC (.int 0))) (dC (.str (Str.ofString "greatest"))))
    (dRet (dV (dCallB maxV (dCons (dVar 3) (dCons (dVar 4) dNil)))))
    dNext)
    (dSeq (dSet 5 (dV (dBin dMul (dVar 3) (dVar 4))))
    (dSeq (dIf (dCmpT eqD (dIxV 0 (dC (.int 0))) (dC (.str (Str.ofString "plus"))))
    (dSet 5 (dV (dBin dAdd (dVar 3) (dVar 4))))
    dNext)
    (dSeq (dIf (dCmpT eqD (dIxV 0 (dC (.int 0))) (dC (.str (Str.ofString "minus"))))
    (dSet 5 (dV (dBin dSub (dVar 3) (dVar 4))))
    dNext)
    (dRet (dV (dIfE (dTest (dVar 2)) (dF (dCall m__law_a_reduced [.e (dVar 5)])) (dVar 5)))))))))))))
def m__law_a_worth : Nat → Fn
  | 0 => fun _ => none
  | k + 1 => defSem 6 (F__law_a_worth (m__law_a_worth k))
def F__law_signs : DS :=
  (dSeq (dSet 0 (dV (dC (.str (Str.ofString " !\"#$&'()*+,-./0123456789:;<=>?@ABCDEFGHIJKLMNOPQRSTUVWXYZ[\\]^_")))))
    (dRet (dV (dBin dAdd (dVar 0) (dC (.str (Str.ofString "`abcdefghijklmnopqrstuvwxyz{|}~")))))))
def m__law_signs : Fn := defSem 1 F__law_signs
def F__law_same (self_ : Fn) : DS :=
  (dSeq (dThenKill (dIf (dTest (dIsi "tuple" (dVar 1)))
    (dSeq (dIf (dOr (dNot (dTest (dIsi "tuple" (dVar 0)))) (dCmpT neD (dLenV 0) (dLenV 1)))
    (dRet (dV (dC (.bool false))))
    dNext)
    (dSeq (dForI (itR1 (dLenV 1)) (dNm 2)
    (dThenKill (dIf (dNot (dTest (dF (dCall self_ [.e (dIxV 0 (dVar 2)), .e (dIxV 1 (dVar 2))]))))
    (dRet (dV (dC (.bool false))))
    dNext) [2]))
    (dRet (dV (dC (.bool true))))))
    dNext) [2])
    (dSeq (dIf (dOr (dCmpT isN (dVar 1) (dC .none)) (dCmpT isN (dVar 0) (dC .none)))
    (dRet (dV (dAndV (dCmp isN (dVar 1) (dC .none)) (dCmp isN (dVar 0) (dC .none)))))
    dNext)
    (dSeq (dIf (dTest (dIsi "str" (dVar 1)))
    (dRet (dV (dAndV (dIsi "str" (dVar 0)) (dCmp eqD (dVar 0) (dVar 1)))))
    dNext)
    (dSeq (dIf (dOr (dCmpT neD (dIsi "bool" (dVar 0)) (dIsi "bool" (dVar 1))) (dNot (dTest (dIsi "int" (dVar 0)))))
    (dRet (dV (dC (.bool false))))
    dNext)
    (dRet (dV (dCmp eqD (dVar 0) (dVar 1))))))))
def m__law_same : Nat → Fn
  | 0 => fun _ => none
  | k + 1 => defSem 3 (F__law_same (m__law_same k))
def F__law_draw : DS :=
  (dSeq (dThenKill (dIf (dCmpT eqD (dIxV 0 (dC (.int 2))) (dC (.int 0)))
    (dSeq (dSet 2 (dV (dIxV 0 (dC (.int 1)))))
    (dSeq (dSet 3 (dV (dC (.int 0))))
    (dSeq (dIf (dCmpT (ordD .Lt) (dVar 2) (dCallB lenD (dCons (dIxV 0 (dC (.int 0))) dNil)))
    (dSet 3 (dV (dCallB absD (dCons (dCallB intD (dCons (dIx (dIxV 0 (dC (.int 0))) (dVar 2)) dNil)) dNil))))
    (dSeq (dSetIx 0 (dC (.int 3)) (dBin dMod (dCallB intD (dCons (dBin dAdd (dBin dAdd (dBin dMul (dIxV 0 (dC (.int 3))) (dC (.int 48271))) (dVar 2)) (dC (.int 1))) dNil)) (dC (.int 2147483647))))
    (dSet 3 (dV (dIxV 0 (dC (.int 3)))))))
    (dSeq (dSetIx 0 (dC (.int 1)) (dBin dAdd (dVar 2) (dC (.int 1))))
    (dSeq (dIf (dCmpT (ordD .Lt) (dVar 3) (dBin dPow (dC (.int 10)) (dC (.int 18))))
    (dSeq (dSet 3 (dV (dBin dMod (dCallB intD (dCons (dBin dAdd (dBin dAdd (dBin dMul (dVar 3) (dC (.int 48271))) (dBin dMul (dVar 2) (dC (.int 69621)))) (dC (.int 5))) dNil)) (dC (.int 2147483647)))))
    (dSeq (dSet 3 (dV (dBin dMod (dCallB intD (dCons (dBin dMul (dVar 3) (dC (.int 69621))) dNil)) (dC (.int 2147483629)))))
    (dRet (dV (dBin dMod (dCallB intD (dCons (dVar 3) dNil)) (dCallB maxV (dCons (dVar 1) (dCons (dC (.int 1)) dNil))))))))
    dNext)
    (dSetIx 0 (dC (.int 2)) (dVar 3)))))))
    dNext) [2, 3])
    (dSeq (dSet 3 (dV (dIxV 0 (dC (.int 2)))))
    (dSeq (dSetIx 0 (dC (.int 2)) (dBin dDiv (dVar 3) (dCallB maxV (dCons (dVar 1) (dCons (dC (.int 2)) dNil)))))
    (dRet (dV (dBin dMod (dCallB intD (dCons (dVar 3) dNil)) (dCallB maxV (dCons (dVar 1) (dCons (dC (.int 1)) dNil)))))))))
def m__law_draw : Fn := defSem 4 F__law_draw
def F__law_tape : DS :=
  (dSeq (dSet 1 (dV (dC (.int 7))))
    (dSeq (dForI (itD (dVar 0)) (dNm 2)
    (dThenKill (dSet 1 (dV (dBin dMod (dCallB intD (dCons (dBin dAdd (dBin dMul (dVar 1) (dC (.int 31))) (dCallB absD (dCons (dCallB intD (dCons (dVar 2) dNil)) dNil))) dNil)) (dC (.int 2147483647))))) [2]))
    (dRet (dLst (dCons (dF (dCallO listC (dCons (dVar 0) dNil))) (dCons (dC (.int 0)) (dCons (dC (.int 0)) (dCons (dVar 1) dNil))))))))
def m__law_tape : Fn := defSem 3 F__law_tape
def F__law_digits : DS :=
  (dSeq (dSet 3 (dV (dC (.int 1))))
    (dSeq (dForI (itR1 (dVar 2)) (dNm 4)
    (dThenKill (dSet 3 (dV (dBin dMul (dVar 3) (dVar 1)))) [4]))
    (dSeq (dSet 5 (dCall m__law_draw [.v 0, .e (dVar 3)]))
    (dSeq (dSet 6 (dLst dNil))
    (dSeq (dThenKill (dSeq (dKill [4]) (dForI (itR1 (dVar 2)) (dNm 4)
    (dSeq (dApp 6 (dBin dMod (dCallB intD (dCons (dVar 5) dNil)) (dVar 1)))
    (dThenKill (dSet 5 (dV (dBin dDiv (dVar 5) (dVar 1)))) [4])))) [4, 5])
    (dRet (dMov 6)))))))
def m__law_digits : Fn := defSem 7 F__law_digits
def F__law_round : DS :=
  (dSeq (dSet 2 (dCall m__law_draw [.v 0, .e (dBin dMul (dC (.int 3)) (dLenV 1))]))
    (dSeq (dSet 3 (dV (dBin dDiv (dVar 2) (dC (.int 3)))))
    (dSeq (dSet 4 (dV (dBin dAdd (dSlV 1 (dPt (dVar 3)) dNoP) (dSlV 1 dNoP (dPt (dVar 3))))))
    (dRet (dV (dIfE (dCmpT eqD (dBin dMod (dCallB intD (dCons (dVar 2) dNil)) (dC (.int 3))) (dC (.int 0))) (dSlV 4 dNoP (dPt (dC (.int 1)))) (dVar 4)))))))
def m__law_round : Fn := defSem 5 F__law_round
def F__law_word : DS :=
  (dSeq (dSet 1 (dCall m__law_signs []))
    (dSeq (dSet 2 (dCall m__law_draw [.v 0, .e (dBin dMul (dBin dMul (dC (.int 9)) (dC (.int 94))) (dC (.int 94)))]))
    (dSeq (dPar 3 4 (dCons (dIxV 1 (dBin dDiv (dBin dDiv (dVar 2) (dC (.int 9))) (dC (.int 94)))) (dCons (dIxV 1 (dBin dMod (dCallB intD (dCons (dBin dDiv (dVar 2) (dC (.int 9))) dNil)) (dC (.int 94)))) dNil)))
    (dRet (dV (dSl (dBin dMul (dBin dAdd (dVar 3) (dVar 4)) (dC (.int 4))) dNoP (dPt (dBin dMod (dCallB intD (dCons (dVar 2) dNil)) (dC (.int 9))))))))))
def m__law_word : Fn := defSem 5 F__law_word
def F__law_tree : DS :=
  (dSeq (dSet 2 (dLst (dCons (dC (.str (Str.ofString "plus"))) (dCons (dC (.str (Str.ofString "minus"))) (dCons (dC (.str (Str.ofString "times"))) (dCons (dC (.str (Str.ofString "least"))) (dCons (dC (.str (Str.ofString "greatest"))) dNil)))))))
    (dSeq (dSet 3 (dV (dIxV 0 (dC (.int 0)))))
    (dSeq (dForI (itR2 (dC (.int 1)) (dLenV 0)) (dNm 4)
    (dSeq (dSet 5 (dV (dIxV 2 (dBin dMod (dCallB intD (dCons (dIxV 1 (dVar 4)) dNil)) (dC (.int 5))))))
    (dThenKill (dSet 3 (dV (dIfE (dCmpT (ordD .Lt) (dIxV 1 (dVar 4)) (dC (.int 5))) (dTup (dCons (dVar 5) (dCons (dVar 3) (dCons (dIxV 0 (dVar 4)) dNil)))) (dTup (dCons (dVar 5) (dCons (dIxV 0 (dVar 4)) (dCons (dVar 3) dNil))))))) [4, 5])))
    (dRet (dMov 3)))))
def m__law_tree : Fn := defSem 6 F__law_tree
def F__law_some_leaves : DS :=
  (dSeq (dSet 1 (dCall m__law_draw [.v 0, .e (dC (.int 3))]))
    (dSeq (dSet 2 (dV (dIx (dF (dLst (dCons (dF (dLst (dCons (dC (.str (Str.ofString "state"))) (dCons (dC (.str (Str.ofString "operand"))) dNil)))) (dCons (dF (dLst (dCons (dC (.str (Str.ofString "left"))) (dCons (dC (.str (Str.ofString "right"))) dNil)))) (dCons (dF (dLst (dCons (dC (.str (Str.ofString "state"))) (dCons (dC (.str (Str.ofString "left"))) (dCons (dC (.str (Str.ofString "right"))) dNil))))) dNil))))) (dVar 1))))
    (dSeq (dSet 3 (dV (dBin dSub (dF (dCall m__law_draw [.v 0, .e (dC (.int 10000))])) (dC (.int 5000)))))
    (dSeq (dSet 4 (dLst (dCons (dTup (dCons (dIxV 2 (dC (.int 0))) (dCons (dC (.int 0)) dNil))) (dCons (dTup (dCons (dIxV 2 (dC (.int 0))) (dCons (dC (.int 1)) dNil))) (dCons (dTup (dCons (dIxV 2 (dC (.int 1))) (dCons (dC (.int 0)) dNil))) (dCons (dTup (dCons (dIxV 2 (dC (.int 1))) (dCons (dC (.int 1)) dNil))) (dCons (dTup (dCons (dIxV 2 (dUn dNeg (dC (.int 1)))) (dCons (dC (.int 0)) dNil))) (dCons (dTup (dCons (dC (.str (Str.ofString "number"))) (dCons (dVar 3) dNil))) (dCons (dTup (dCons (dC (.str (Str.ofString "number"))) (dCons (dC (.int 0)) dNil))) dNil)))))))))
    (dRet (dV (dSl (dF (dLc (itD (dF (dCall m__law_digits [.v 0, .e (dC (.int 7)), .e (dC (.int 6))]))) (dNm 5) dYes (dIxV 4 (dVar 5)) [5])) dNoP (dPt (dBin dAdd (dC (.int 2)) (dF (dCall m__law_draw [.v 0, .e (dC (.int 5))])))))))))))
def m__law_some_leaves : Fn := defSem 6 F__law_some_leaves
def F__law_rows : DS :=
  (dSeq (dSet 2 (dLst dNil))
    (dSeq (dForI (itD (dVar 1)) (dNm 3)
    (dThenKill (dIf (dAnd (dCmpT neD (dIxV 3 (dC (.int 0))) (dC (.str (Str.ofString "number")))) (dCmpTV ninD (dVar 3) 2))
    (dApp 2 (dVar 3))
    dNext) [3]))
    (dSeq (dSet 4 (dV (dBin dSub (dF (dCall m__law_draw [.v 0, .e (dC (.int 20001))])) (dC (.int 10000)))))
    (dSeq (dSet 5 (dLst (dCons (dC (.int 0)) (dCons (dC (.int 1)) (dCons (dUn dNeg (dC (.int 1))) (dCons (dC (.int 3)) (dCons (dC (.int 10000)) (dCons (dUn dNeg (dC (.int 10000))) (dCons (dC (.int 5000)) (dCons (dUn dNeg (dC (.int 5001))) (dCons (dVar 4) dNil)))))))))))
    (dSeq (dSet 6 (dLst (dCons (dC (.int 0)) (dCons (dC (.int 1)) (dCons (dUn dNeg (dC (.int 1))) (dCons (dC (.int 2)) (dCons (dC (.int 4999)) (dCons (dUn dNeg (dC (.int 5000))) (dCons (dUn dNeg (dC (.int 2))) (dCons (dC (.int 7)) (dCons (dBin dSub (dBin dMod (dCallB intD (dCons (dBin dAdd (dVar 4) (dC (.int 5000))) dNil)) (dC (.int 10000))) (dC (.int 5000))) dNil)))))))))))
    (dSeq (dSet 7 (dCall m__law_digits [.v 0, .e (dC (.int 9)), .e (dC (.int 9))]))
    (dSeq (dSet 8 (dV (dBin dMod (dCallB intD (dCons (dIxV 7 (dC (.int 8))) dNil)) (dCallB maxV (dCons (dC (.int 1)) (dCons (dLenV 2) dNil))))))
    (dSeq (dSet 9 (dV (dBin dAdd (dSlV 2 (dPt (dVar 8)) dNoP) (dSlV 2 dNoP (dPt (dVar 8))))))
    (dSeq (dSet 10 (dV (dCallB tupC (dCons (dF (dLc (itR1 (dLenV 9)) (dNm 11) dYes (dTup (dCons (dIxV 9 (dVar 11)) (dCons (dIxV 5 (dIxV 7 (dVar 11))) dNil))) [11])) dNil))))
    (dRet (dV (dTup (dCons (dVar 10) (dCons (dCallB tupC (dCons (dF (dLc (itR1 (dLenV 9)) (dNm 11) dYes (dTup (dCons (dIxV 9 (dVar 11)) (dCons (dIxV 6 (dIxV 7 (dVar 11))) dNil))) [11])) dNil)) dNil))))))))))))))
def m__law_rows : Fn := defSem 12 F__law_rows
def F__law_some_atoms : DS :=
  (dSeq (dSet 1 (dV (dIx (dF (dLst (dCons (dTup (dCons (dC (.str (Str.ofString "state"))) (dCons (dC (.str (Str.ofString "operand"))) dNil))) (dCons (dTup (dCons (dC (.str (Str.ofString "left"))) (dCons (dC (.str (Str.ofString "right"))) dNil))) dNil)))) (dF (dCall m__law_draw [.v 0, .e (dC (.int 2))])))))
    (dSeq (dSet 2 (dLc (itD (dF (dLst (dCons (dSl (dF (dCall m__law_word [.v 0])) dNoP (dPt (dC (.int 4)))) (dCons (dSl (dF (dCall m__law_word [.v 0])) dNoP (dPt (dC (.int 3)))) dNil))))) (dNm 8) dYes (dIfE (dCmpT (ordD .Gt) (dLenV 8) (dC (.int 0))) (dVar 8) (dC (.str (Str.ofString "+")))) [8]))
    (dSeq (dSet 3 (dV (dSl (dF (dCall m__law_digits [.v 0, .e (dC (.int 4)), .e (dC (.int 6))])) dNoP (dPt (dBin dAdd (dC (.int 1)) (dF (dCall m__law_draw [.v 0, .e (dC (.int 6))])))))))
    (dSeq (dSet 4 (dLst (dCons (dTup (dCons (dIxV 1 (dC (.int 0))) (dCons (dC (.int 0)) dNil))) (dCons (dTup (dCons (dIxV 1 (dC (.int 1))) (dCons (dC (.int 0)) dNil))) (dCons (dTup (dCons (dC (.str (Str.ofString "text"))) (dCons (dIxV 2 (dC (.int 0))) dNil))) (dCons (dTup (dCons (dC (.str (Str.ofString "text"))) (dCons (dIxV 2 (dC (.int 1))) dNil))) dNil))))))
    (dSeq (dSet 5 (dLc (itD (dVar 3)) (dNm 9) dYes (dIxV 4 (dVar 9)) [9]))
    (dSeq (dSet 6 (dLc (itRev (dVar 3)) (dNm 9) dYes (dIx (dF (dLst (dCons (dIxV 4 (dC (.int 0))) (dCons (dIxV 4 (dC (.int 1))) (dCons (dIxV 4 (dC (.int 3))) (dCons (dIxV 4 (dC (.int 2))) dNil)))))) (dVar 9)) [9]))
    (dSeq (dSet 7 (dV (dBin dAdd (dVar 5) (dSlV 5 dNoP (dPt (dC (.int 1)))))))
    (dSeq (dIf (dCmpT (ordD .Gt) (dLenV 7) (dC (.int 6)))
    (dSet 7 (dV (dIfE (dCmpT eqD (dIx (dIxV 5 (dC (.int 0))) (dC (.int 0))) (dC (.str (Str.ofString "text")))) (dSlV 5 (dPt (dC (.int 1))) dNoP) (dBin dAdd (dSlV 5 (dPt (dC (.int 1))) dNoP) (dSlV 5 dNoP (dPt (dC (.int 1))))))))
    dNext)
    (dRet (dV (dTup (dCons (dVar 1) (dCons (dF (dLst (dCons (dCallB tupC (dCons (dVar 5) dNil)) (dCons (dCallB tupC (dCons (dVar 6) dNil)) (dCons (dCallB tupC (dCons (dVar 7) dNil)) dNil))))) dNil)))))))))))))
def m__law_some_atoms : Fn := defSem 10 F__law_some_atoms
def F__law_strings : DS :=
  (dSeq (dSet 3 (dLst dNil))
    (dSeq (dForI (itD (dVar 1)) (dNm 4)
    (dSeq (dSet 5 (dCall m__law_word [.v 0]))
    (dThenKill (dIf (dCmpTV inD (dTup (dCons (dVar 4) (dCons (dC (.int 0)) dNil))) 2)
    (dApp 3 (dTup (dCons (dTup (dCons (dVar 4) (dCons (dC (.int 0)) dNil))) (dCons (dVar 5) dNil))))
    dNext) [4, 5])))
    (dRet (dV (dCallB tupC (dCons (dVar 3) dNil))))))
def m__law_strings : Fn := defSem 6 F__law_strings
def F__law_held : DS :=
  (dSeq (dSet 1 dNewT)
    (dSeq (dForI (itD (dVar 0)) (dNm 2)
    (dThenKill (dPutV 1 (dIxV 2 (dC (.int 0))) (dIxV 2 (dC (.int 1)))) [2]))
    (dRet (dMov 1))))
def m__law_held : Fn := defSem 3 F__law_held
def F__law_placed (self_ : Fn) : DS :=
  (dSeq (dIf (dCmpT eqD (dLenV 0) (dC (.int 2)))
    (dRet (dV (dIfE (dCmpT eqD (dVar 0) (dVar 1)) (dVar 2) (dVar 0))))
    dNext)
    (dRet (dV (dTup (dCons (dIxV 0 (dC (.int 0))) (dCons (dF (dCall self_ [.e (dIxV 0 (dC (.int 1))), .e (dVar 1), .e (dVar 2)])) (dCons (dF (dCall self_ [.e (dIxV 0 (dC (.int 2))), .e (dVar 1), .e (dVar 2)])) dNil)))))))
def m__law_placed : Nat → Fn
  | 0 => fun _ => none
  | k + 1 => defSem 3 (F__law_placed (m__law_placed k))
def F__law_many (self_ : Fn) : DS :=
  (dSeq (dIf (dCmpT eqD (dLenV 0) (dC (.int 2)))
    (dRet (dV (dCallB intD (dCons (dCmp eqD (dVar 0) (dVar 1)) dNil))))
    dNext)
    (dRet (dV (dBin dAdd (dF (dCall self_ [.e (dIxV 0 (dC (.int 1))), .e (dVar 1)])) (dF (dCall self_ [.e (dIxV 0 (dC (.int 2))), .e (dVar 1)]))))))
def m__law_many : Nat → Fn
  | 0 => fun _ => none
  | k + 1 => defSem 2 (F__law_many (m__law_many k))
def F__law_with : DS :=
  (dRet (dV (dCallB tupC (dCons (dF (dLc (itD (dVar 0)) (dNm 3) dYes (dIfE (dCmpT eqD (dIxV 3 (dC (.int 0))) (dVar 1)) (dTup (dCons (dIxV 3 (dC (.int 0))) (dCons (dVar 2) dNil))) (dVar 3)) [3])) dNil))))
def m__law_with : Fn := defSem 4 F__law_with
def F__law_kept : DS :=
  (dRet (dV (dCallB tupC (dCons (dF (dLc (itD (dVar 0)) (dNm 2) (dCmpT (ordD .Gt) (dF (dCall (m__law_many 8) [.e (dVar 1), .e (dIxV 2 (dC (.int 0)))])) (dC (.int 0))) (dVar 2) [2])) dNil))))
def m__law_kept : Fn := defSem 3 F__law_kept
def F__law_replaced_right : DS :=
  (dSeq (dSet 3 (dLc (itD (dIxV 1 (dC (.int 0)))) (dNm 14) dYes (dIxV 14 (dC (.int 0))) [14]))
    (dSeq (dIf (dCmpT eqD (dLenV 3) (dC (.int 0)))
    (dRet (dV (dC (.bool true))))
    dNext)
    (dSeq (dSet 4 (dV (dIxV 3 (dBin dMod (dCallB intD (dCons (dIxV 2 (dC (.int 1))) dNil)) (dLenV 3)))))
    (dSeq (dSet 5 (dV (dIx (dF (dLst (dCons (dC (.str (Str.ofString "plus"))) (dCons (dC (.str (Str.ofString "minus"))) (dCons (dC (.str (Str.ofString "times"))) (dCons (dC (.str (Str.ofString "least"))) (dCons (dC (.str (Str.ofString "greatest"))) dNil))))))) (dBin dMod (dCallB intD (dCons (dIxV 2 (dC (.int 2))) dNil)) (dC (.int 5))))))
    (dSeq (dSet 6 (dV (dTup (dCons (dVar 5) (dCons (dIxV 3 (dBin dMod (dCallB intD (dCons (dIxV 2 (dC (.int 3))) dNil)) (dLenV 3))) (dCons (dTup (dCons (dC (.str (Str.ofString "number"))) (dCons (dBin dSub (dBin dMul (dC (.int 100)) (dIxV 2 (dC (.int 4)))) (dC (.int 300))) dNil))) dNil))))))
    (dSeq (dIf (dCmpT (ordD .Gt) (dF (dCall (m__law_many 8) [.e (dVar 0), .e (dVar 4)])) (dC (.int 4)))
    (dRet (dV (dC (.bool true))))
    dNext)
    (dSeq (dSet 7 (dCall (m__law_placed 8) [.e (dVar 0), .e (dVar 4), .e (dVar 6)]))
    (dSeq (dForI (itR1 (dC (.int 2))) (dNm 8)
    (dSeq (dSet 9 (dCall m__law_held [.e (dIxV 1 (dVar 8))]))
    (dSeq (dSet 10 (dCall (m__law_a_worth 8) [.e (dVar 6), .e (dVar 9), .e (dCmp eqD (dVar 8) (dC (.int 1)))]))
    (dSeq (dSet 11 (dCall (m__law_a_worth 8) [.e (dVar 7), .e (dF (dCall m__law_held [.e (dIxV 1 (dVar 8))])), .e (dCmp eqD (dVar 8) (dC (.int 1)))]))
    (dSeq (dSet 12 (dV (dIfE (dCmpT eqD (dVar 8) (dC (.int 0))) (dF (dCall m_worth_of [.e (dVar 7), .e (dF (dCall m__law_kept [.e (dIxV 1 (dVar 8)), .e (dVar 7)]))])) (dF (dCall m_stored_worth [.e (dVar 7), .e (dF (dCall m__law_kept [.e (dIxV 1 (dVar 8)), .e (dVar 7)]))])))))
    (dSeq (dIf (dNot (dTest (dF (dCall (m__law_same 4) [.e (dVar 12), .e (dVar 11)]))))
    (dRet (dV (dC (.bool false))))
    dNext)
    (dSeq (dSet 13 (dCall m__law_with [.e (dIxV 1 (dVar 8)), .e (dVar 4), .e (dVar 10)]))
    (dThenKill (dIf (dAnd (dChainT (ordD .LtE) (ordD .LtE) (dUn dNeg (dC (.int 10000))) (dVar 10) (dC (.int 10000))) (dNot (dTest (dF (dCall (m__law_same 4) [.e (dIfE (dCmpT eqD (dVar 8) (dC (.int 0))) (dF (dCall m_worth_of [.e (dVar 0), .e (dVar 13)])) (dF (dCall m_stored_worth [.e (dVar 0), .e (dVar 13)]))), .e (dVar 11)])))))
    (dRet (dV (dC (.bool false))))
    dNext) [8, 9, 10, 11, 12, 13]))))))))
    (dRet (dV (dC (.bool true))))))))))))
def m__law_replaced_right : Fn := defSem 15 F__law_replaced_right
def F__law_joined_right : DS :=
  (dSeq (dSet 2 (dV (dSlV 0 dNoP (dPt (dC (.int 3))))))
    (dSeq (dForI (itR1 (dLenV 2)) (dNm 3)
    (dThenKill (dSeq (dKill [4, 5, 6, 7, 8, 9]) (dForI (itR1 (dC (.int 2))) (dNm 4)
    (dSeq (dSet 5 (dV (dBin dAdd (dSlV 2 (dPt (dVar 3)) (dPt (dBin dAdd (dVar 3) (dC (.int 1))))) (dTup (dCons (dTup (dCons (dC (.str (Str.ofString "text"))) (dCons (dIx (dF (dLst (dCons (dC (.str (Str.ofString "<"))) (dCons (dC (.str (Str.ofString "~!"))) dNil)))) (dVar 4)) dNil))) dNil)))))
    (dSeq (dSet 6 (dV (dBin dAdd (dBin dAdd (dSlV 2 dNoP (dPt (dVar 3))) (dVar 5)) (dSlV 2 (dPt (dBin dAdd (dVar 3) (dC (.int 1)))) dNoP))))
    (dSeq (dSet 7 (dV (dCallB tupC (dCons (dF (dLc (itD (dVar 1)) (dNm 10) (dCmpTV inD (dIxV 10 (dC (.int 0))) 2) (dVar 10) [10])) dNil))))
    (dSeq (dSet 8 (dCall m__law_a_joined [.e (dVar 6), .e (dF (dCall m__law_held [.e (dVar 1)]))]))
    (dSeq (dIf (dNot (dTest (dF (dCall (m__law_same 4) [.e (dF (dCall m_text_worth [.e (dVar 6), .e (dVar 7)])), .e (dVar 8)]))))
    (dRet (dV (dC (.bool false))))
    dNext)
    (dSeq (dSet 9 (dCall m__law_a_joined [.e (dVar 5), .e (dF (dCall m__law_held [.e (dVar 1)]))]))
    (dThenKill (dIf (dAnd (dCmpT neD (dIx (dIxV 2 (dVar 3)) (dC (.int 0))) (dC (.str (Str.ofString "text")))) (dAnd (dCmpT eqD (dBin cntD (dVar 2) (dIxV 2 (dVar 3))) (dC (.int 1))) (dCmpT (ordD .LtE) (dLenV 9) (dC (.int 8)))))
    (dIf (dNot (dTest (dF (dCall (m__law_same 4) [.e (dF (dCall m_text_worth [.e (dVar 2), .e (dF (dCall m__law_with [.e (dVar 7), .e (dIxV 2 (dVar 3)), .e (dVar 9)]))])), .e (dVar 8)]))))
    (dRet (dV (dC (.bool false))))
    dNext)
    dNext) [4, 5, 6, 7, 8, 9]))))))))) [3, 4, 5, 6, 7, 8, 9]))
    (dRet (dV (dC (.bool true))))))
def m__law_joined_right : Fn := defSem 11 F__law_joined_right
def F__law_right : DS :=
  (dSeq (dIf (dOr (dCmpT eqD (dVar 0) (dC (.int 9))) (dCmpT eqD (dVar 0) (dC (.int 10))))
    (dRet (dCall m__law_replaced_right [.e (dIxV 1 (dBin dSub (dVar 0) (dC (.int 9)))), .e (dVar 2), .e (dVar 5)]))
    dNext)
    (dSeq (dIf (dCmpT eqD (dVar 0) (dC (.int 11)))
    (dRet (dCall m__law_joined_right [.e (dIxV 3 (dC (.int 0))), .e (dVar 4)]))
    dNext)
    (dSeq (dSet 6 (dV (dBin dMod (dCallB intD (dCons (dVar 0) dNil)) (dC (.int 3)))))
    (dSeq (dSet 7 (dV (dBin dDiv (dVar 0) (dC (.int 3)))))
    (dSeq (dIf (dCmpT eqD (dVar 6) (dC (.int 0)))
    (dRet (dCall (m__law_same 4) [.e (dF (dCall m_worth_of [.e (dIxV 1 (dVar 7)), .e (dIxV 2 (dC (.int 0)))])), .e (dF (dCall (m__law_a_worth 8) [.e (dIxV 1 (dVar 7)), .e (dF (dCall m__law_held [.e (dIxV 2 (dC (.int 0)))])), .e (dC (.bool false))]))]))
    dNext)
    (dSeq (dIf (dCmpT eqD (dVar 6) (dC (.int 1)))
    (dRet (dCall (m__law_same 4) [.e (dF (dCall m_stored_worth [.e (dIxV 1 (dVar 7)), .e (dIxV 2 (dC (.int 1)))])), .e (dF (dCall (m__law_a_worth 8) [.e (dIxV 1 (dVar 7)), .e (dF (dCall m__law_held [.e (dIxV 2 (dC (.int 1)))])), .e (dC (.bool true))]))]))
    dNext)
    (dRet (dCall (m__law_same 4) [.e (dF (dCall m_text_worth [.e (dIxV 3 (dVar 7)), .e (dVar 4)])), .e (dF (dCall m__law_a_joined [.e (dIxV 3 (dVar 7)), .e (dF (dCall m__law_held [.e (dVar 4)]))]))]))))))))
def m__law_right : Fn := defSem 8 F__law_right
def F_law : DS :=
  (dSeq (dSet 1 (dCall m__law_tape [.e (dVar 0)]))
    (dSeq (dSet 2 (dCall m__law_some_leaves [.v 1]))
    (dSeq (dSet 3 (dCall m__law_digits [.v 1, .e (dC (.int 10)), .e (dC (.int 6))]))
    (dSeq (dSet 4 (dCall m__law_digits [.v 1, .e (dC (.int 10)), .e (dC (.int 6))]))
    (dSeq (dSet 5 (dV (dBin dAdd (dC (.int 1)) (dBin dMod (dCallB intD (dCons (dIxV 4 (dC (.int 0))) dNil)) (dBin dSub (dLenV 2) (dC (.int 1)))))))
    (dSeq (dSet 6 (dV (dBin dAdd (dBin dAdd (dSlV 3 dNoP (dPt (dVar 5))) (dF (dLst (dCons (dBin dAdd (dBin dMod (dCallB intD (dCons (dBin dAdd (dBin dAdd (dIxV 3 (dVar 5)) (dC (.int 1))) (dBin dMod (dCallB intD (dCons (dIxV 4 (dC (.int 0))) dNil)) (dC (.int 4)))) dNil)) (dC (.int 5))) (dBin dMul (dC (.int 5)) (dBin dDiv (dIxV 3 (dVar 5)) (dC (.int 5))))) dNil)))) (dSlV 3 (dPt (dBin dAdd (dVar 5) (dC (.int 1)))) dNoP))))
    (dSeq (dSet 7 (dLst (dCons (dF (dCall m__law_tree [.e (dVar 2), .e (dVar 3)])) (dCons (dF (dCall m__law_tree [.e (dF (dRevL (dVar 2))), .e (dVar 4)])) (dCons (dF (dCall m__law_tree [.e (dVar 2), .e (dVar 6)])) dNil)))))
    (dSeq (dSet 8 (dCall m__law_rows [.v 1, .e (dVar 2)]))
    (dSeq (dAsg (dF (dCall m__law_some_atoms [.v 1])) (dTp 2 (dGC (dNm 9) (dGC (dNm 10) dGN))))
    (dSeq (dSet 11 (dCall m__law_strings [.v 1, .e (dVar 9), .e (dIxV 10 (dC (.int 0)))]))
    (dSeq (dSet 12 (dCall m__law_round [.v 1, .e (dF (dListR (dC (.int 12))))]))
    (dSeq (dForI (itD (dBin dAdd (dBin dAdd (dVar 12) (dSlV 12 dNoP (dPt (dC (.int 4))))) (dF (dLst (dCons (dC (.int 0)) (dCons (dC (.int 2)) dNil)))))) (dNm 13)
    (dThenKill (dIf (dNot (dTest (dF (dCall m__law_right [.e (dVar 13), .e (dVar 7), .e (dVar 8), .e (dVar 10), .e (dVar 11), .e (dVar 4)]))))
    (dRet (dV (dC (.bool false))))
    dNext) [13]))
    (dRet (dV (dC (.bool true))))))))))))))))
def m_law : Fn := defSem 14 F_law
end
end LW

namespace LW
open PySem L2 DL
theorem ixN_nat (n i : Nat) : ixN n (i : Int) = if i < n then some i else none := by
  unfold ixN
  rw [if_pos (by omega)]
  by_cases h : i < n
  · rw [if_pos (by omega), if_pos h]
    rfl
  · rw [if_neg (by omega), if_neg h]
theorem atI_nat {α : Type} (xs : List α) (i : Nat) : atI xs (i : Int) = xs[i]? := by
  unfold atI
  rw [ixN_nat]
  by_cases h : i < xs.length
  · rw [if_pos h]; rfl
  · rw [if_neg h, List.getElem?_eq_none (by omega)]; rfl
theorem atI_in {α : Type} (xs : List α) (i : Int) (h0 : 0 ≤ i) (h1 : i < xs.length) : ∃ a, atI xs i = some a ∧ a ∈ xs := by
  obtain ⟨k, rfl⟩ := Int.eq_ofNat_of_zero_le h0
  have hk : k < xs.length := by omega
  exact ⟨xs[k], (atI_nat xs k).trans (List.getElem?_eq_getElem hk), List.getElem_mem hk⟩
theorem ixN_4 : ixN 4 0 = some 0 ∧ ixN 4 1 = some 1 ∧ ixN 4 2 = some 2 ∧ ixN 4 3 = some 3 := ⟨rfl, rfl, rfl, rfl⟩
theorem atI_1 {α : Type} {a b c d : α} : atI [a, b, c, d] 0 = some a ∧ atI [a, b, c, d] 1 = some b ∧ atI [a, b, c, d] 2 = some c ∧ atI [a, b, c, d] 3 = some d := ⟨rfl, rfl, rfl, rfl⟩
theorem rng1_nat (n : Nat) (h : n ≤ 1000000) : rng1 (.int (n : Int)) = some (intsFrom 0 n) := by
  rw [v_r1, if_pos ⟨by omega, by omega⟩]
  rfl
theorem intsFrom_len (lo : Int) (n : Nat) : (intsFrom lo n).length = n := intsFrom_length n lo
def Sg (c : Nat) : Prop := 32 ≤ c ∧ c ≤ 126
/-- a text of at most n signs of the 95 -/
def Tx (n : Nat) (t : Str) : Prop := t.length ≤ n ∧ ∀ c ∈ t.cps.toList, Sg c
/-! a text of the signs -/
theorem len_app (a b : Str) : (a ++ b).length = a.length + b.length := by
  show (a.cps ++ b.cps).size = a.cps.size + b.cps.size
  simp
theorem cps_app (a b : Str) : (a ++ b).cps.toList = a.cps.toList ++ b.cps.toList := by
  show (a.cps ++ b.cps).toList = _
  simp
theorem Tx.add {m n : Nat} {a b : Str} (h : Tx m a) (g : Tx n b) : Tx (m + n) (a ++ b) := ⟨by rw [len_app]; have := h.1; have := g.1; omega, fun c hc => by
  rw [cps_app] at hc
  rcases List.mem_append.mp hc with hc | hc
  · exact h.2 c hc
  · exact g.2 c hc⟩
theorem Tx.mono {m n : Nat} {a : Str} (h : Tx m a) (l : m ≤ n) : Tx n a := ⟨Nat.le_trans h.1 l, h.2⟩
theorem Tx.one {c : Nat} (h : Sg c) : Tx 1 ⟨#[c]⟩ := ⟨Nat.le_refl _, fun x hx => by
  have : x = c := by simpa using hx
  rw [this]; exact h⟩
theorem Tx.nil : Tx 0 "" := ⟨by decide +kernel, fun x hx => by
  have : (Str.ofString "").cps.toList = [] := by decide +kernel
  rw [this] at hx; cases hx⟩
theorem Tx.space : Tx 1 " " := ⟨by decide +kernel, by
  have : (Str.ofString " ").cps.toList = [32] := by decide +kernel
  rw [this]
  intro c hc
  rw [List.mem_singleton.mp hc]
  exact ⟨by omega, by omega⟩⟩
theorem cutD_mem {α : Type} {xs : List α} {lo hi : Option Int} {x : α} (h : x ∈ cutD xs lo hi) : x ∈ xs := List.mem_of_mem_drop (List.mem_of_mem_take h)
theorem cutD_len {α : Type} (xs : List α) (lo hi : Option Int) : (cutD xs lo hi).length ≤ xs.length := by
  unfold cutD
  rw [List.length_take, List.length_drop]
  omega
theorem depthAll_mem : ∀ {xs : List D} {x : D}, x ∈ xs → x.depth ≤ PyData.depthAll xs
  | y :: ys, x, m => by
    rw [PyData.depthAll]
    rcases List.mem_cons.mp m with rfl | m
    · exact Nat.le_max_left _ _
    · exact Nat.le_trans (depthAll_mem m) (Nat.le_max_right _ _)
def S' (l : List Nat) : Str := ⟨l.toArray⟩
theorem S'_cps (l : List Nat) : (S' l).cps.toList = l := by simp [S']
theorem S'_len (l : List Nat) : (S' l).length = l.length := by show l.toArray.size = _; simp
theorem S'_of (x : Str) : S' x.cps.toList = x := by cases x; simp [S']
theorem S'_add (l : List Nat) (c : Nat) : S' l ++ ⟨#[c]⟩ = S' (l ++ [c]) := by
  show (⟨l.toArray ++ #[c]⟩ : Str) = ⟨(l ++ [c]).toArray⟩
  simp
theorem S'_nil : S' [] = "" := by decide +kernel
theorem S'_inj {a b : List Nat} (h : S' a = S' b) : a = b := by rw [← S'_cps a, h, S'_cps]
theorem Tx.ok {n : Nat} {t : Str} (h : Tx n t) (hn : n ≤ 16777216) : okSb t = true := by
  unfold okSb
  rw [Bool.and_eq_true, decide_eq_true_eq]
  refine ⟨?_, Nat.le_trans h.1 hn⟩
  unfold PyData.strOk
  rw [← Array.all_toList, List.all_eq_true]
  intro c hc
  have := (h.2 c hc).2
  simp; omega
theorem Tx.sub {n m : Nat} {t : Str} {l : List Nat} (h : Tx n t) (hl : ∀ c ∈ l, c ∈ t.cps.toList) (hm : l.length ≤ m) : Tx m (S' l) := ⟨by rw [S'_len]; exact hm, fun c hc => h.2 c (hl c (by rwa [S'_cps] at hc))⟩
theorem cps_len (t : Str) : t.cps.toList.length = t.length := by show _ = t.cps.size; simp
theorem plainAll_of : ∀ {ds : List D}, (∀ d ∈ ds, plain d = true) → plainAll ds = true
  | [], _ => rfl
  | d :: ds, h => by
    rw [plainAll, h d List.mem_cons_self, plainAll_of fun x m => h x (List.mem_cons_of_mem _ m)]
    rfl
theorem depthAll_of {n : Nat} : ∀ {ds : List D}, (∀ d ∈ ds, d.depth ≤ n) → PyData.depthAll ds ≤ n
  | [], _ => Nat.zero_le _
  | d :: ds, h => by
    rw [PyData.depthAll]
    exact Nat.max_le.mpr ⟨h d List.mem_cons_self, depthAll_of fun x m => h x (List.mem_cons_of_mem _ m)⟩
mutual
def simp1 : D → Bool
  | .none => true
  | .bool _ => true
  | .int _ => true
  | .str _ => true
  | .tuple xs => decide (xs.length ≤ 1000000) && simpAll xs
  | _ => false
def simpAll : List D → Bool
  | [] => true
  | x :: xs => simp1 x && simpAll xs
end
theorem simpAll_mem : ∀ {xs : List D} {x : D}, simpAll xs = true → x ∈ xs → simp1 x = true
  | y :: ys, x, h, m => by
    rw [simpAll, Bool.and_eq_true] at h
    rcases List.mem_cons.mp m with rfl | m
    · exact h.1
    · exact simpAll_mem h.2 m
theorem simpAll_of : ∀ {ds : List D}, (∀ d ∈ ds, simp1 d = true) → simpAll ds = true
  | [], _ => rfl
  | d :: ds, h => by
    rw [simpAll, h d List.mem_cons_self, simpAll_of fun x m => h x (List.mem_cons_of_mem _ m)]
    rfl
end LW

namespace LW
open PySem L2 DL
/-- the tape of draws -/
abbrev tapeD (s : List Int) (p m x : Int) : D := .list [.list (s.map .int), .int p, .int m, .int x]
def Tape (d : D) : Prop := ∃ (s : List Int) (p m x : Int), 0 ≤ p ∧ d = tapeD s p m x
theorem draw_1 (s : List Int) (p m x many : Int) (hp : 0 ≤ p) (hm : m ≠ 0) (h1 : 1 ≤ many) (h2 : many < 1073741824) :
    m__law_draw [.own (some 0) (tapeD s p m x), .val (.int many)] = some (.val (.int (m % many)), [some (.own (some 0) (tapeD s p (m / max many 2) x)), none]) := by
  unfold m__law_draw F__law_draw
  have e1 : 0 < max many 2 := by omega
  have e2 : max many 2 < 1073741824 := by omega
  have e3 : max many 1 = many := by omega
  have e4 : 0 < many := by omega
  simp [atI_1, ixN_4, hm, e1, e2, e3, e4]
theorem draw_2a (s : List Int) (p x many : Int) (h1 : 1 ≤ many) (h2 : many < 1073741824) (n a : Int) (hs : p < s.length) (e5 : atI (s.map PyData.int) p = some (.int n)) (ha : absD [.int n] = some (.int a)) (hb : a < 1000000000000000000) :
    m__law_draw [.own (some 0) (tapeD s p 0 x), .val (.int many)] = some (.val (.int ((a * 48271 + p * 69621 + 5) % 2147483647 * 69621 % 2147483629 % many)), [some (.own (some 0) (tapeD s (p + 1) 0 x)), none]) := by
  unfold m__law_draw F__law_draw
  have e3 : max many 1 = many := by omega
  have e4 : 0 < many := by omega
  simp [-v_abs, ha, atI_1, ixN_4, e3, e4, hs, e5, hb]
theorem draw_2b (s : List Int) (p x many : Int) (h1 : 1 ≤ many) (h2 : many < 1073741824) (n a : Int) (hs : p < s.length) (e5 : atI (s.map PyData.int) p = some (.int n)) (ha : absD [.int n] = some (.int a)) (hb : ¬ a < 1000000000000000000) :
    m__law_draw [.own (some 0) (tapeD s p 0 x), .val (.int many)] = some (.val (.int (a % many)), [some (.own (some 0) (tapeD s (p + 1) (a / max many 2) x)), none]) := by
  unfold m__law_draw F__law_draw
  have e1 : 0 < max many 2 := by omega
  have e2 : max many 2 < 1073741824 := by omega
  have e3 : max many 1 = many := by omega
  have e4 : 0 < many := by omega
  simp [-v_abs, ha, atI_1, ixN_4, e1, e2, e3, e4, hs, e5, hb]
theorem draw_2c (s : List Int) (p x many y : Int) (h1 : 1 ≤ many) (h2 : many < 1073741824) (hs : ¬ p < s.length) (hy : (x * 48271 + p + 1) % 2147483647 = y) (hb : y < 1000000000000000000) :
    m__law_draw [.own (some 0) (tapeD s p 0 x), .val (.int many)] = some (.val (.int ((y * 48271 + p * 69621 + 5) % 2147483647 * 69621 % 2147483629 % many)), [some (.own (some 0) (tapeD s (p + 1) 0 y)), none]) := by
  unfold m__law_draw F__law_draw
  have e3 : max many 1 = many := by omega
  have e4 : 0 < many := by omega
  simp [atI_1, ixN_4, e3, e4, hs, hy, hb]
theorem draw_2 (s : List Int) (p x many : Int) (hp : 0 ≤ p) (h1 : 1 ≤ many) (h2 : many < 1073741824) :
    ∃ r p' m' x', m__law_draw [.own (some 0) (tapeD s p 0 x), .val (.int many)] = some (.val (.int r), [some (.own (some 0) (tapeD s p' m' x')), none]) ∧ 0 ≤ r ∧ r < many ∧ 0 ≤ p' := by
  have e4 : 0 < many := by omega
  by_cases hs : p < s.length
  · obtain ⟨k, hk⟩ := Int.eq_ofNat_of_zero_le hp
    have hk' : k < s.length := by omega
    have e5 : atI (s.map PyData.int) p = some (.int s[k]) := by
      rw [hk]
      exact (atI_nat _ _).trans (by rw [List.getElem?_map, List.getElem?_eq_getElem hk']; rfl)
    by_cases hb : (s[k].natAbs : Int) < 1000000000000000000
    · exact ⟨_, _, _, _, draw_2a s p x many h1 h2 _ _ hs e5 v_abs hb, Int.emod_nonneg _ (by omega), Int.emod_lt_of_pos _ e4, by omega⟩
    · exact ⟨_, _, _, _, draw_2b s p x many h1 h2 _ _ hs e5 v_abs hb, Int.emod_nonneg _ (by omega), Int.emod_lt_of_pos _ e4, by omega⟩
  · have hb : (x * 48271 + p + 1) % 2147483647 < 1000000000000000000 := by
      have := Int.emod_lt_of_pos (x * 48271 + p + 1) (b := 2147483647) (by omega)
      omega
    exact ⟨_, _, _, _, draw_2c s p x many _ h1 h2 hs rfl hb, Int.emod_nonneg _ (by omega), Int.emod_lt_of_pos _ e4, by omega⟩
/-- a drawn number -/
theorem draw {d : D} (T : Tape d) (many : Int) (h1 : 1 ≤ many) (h2 : many < 1073741824) :
    ∃ r d', m__law_draw [.own (some 0) d, .val (.int many)] = some (.val (.int r), [some (.own (some 0) d'), none]) ∧ Tape d' ∧ 0 ≤ r ∧ r < many := by
  obtain ⟨s, p, m, x, hp, rfl⟩ := T
  by_cases hm : m = 0
  · subst hm
    obtain ⟨r, p', m', x', e, a, b, c⟩ := draw_2 s p x many hp h1 h2
    exact ⟨r, _, e, ⟨s, p', m', x', c, rfl⟩, a, b⟩
  · exact ⟨_, _, draw_1 s p m x many hp hm h1 h2, ⟨s, p, _, x, hp, rfl⟩, Int.emod_nonneg _ (by omega), Int.emod_lt_of_pos _ (by omega)⟩
/-- the tape at first -/
theorem tape_at : ∀ (ns : List Int) (all : List Int) (m : Int), ∃ m', forL (dNm 2) (dThenKill (dSet 1 (dV (dBin dMod (dCallB intD (dCons (dBin dAdd (dBin dMul (dVar 1) (dC (.int 31))) (dCallB absD (dCons (dCallB intD (dCons (dVar 2) dNil)) dNil))) dNil)) (dC (.int 2147483647))))) [2]) (ns.map .int) [some (.val (.list (all.map .int))), some (.val (.int m)), none] = some (.nx [some (.val (.list (all.map .int))), some (.val (.int m')), none])
  | [], all, m => ⟨m, rfl⟩
  | n :: ns, all, m => by
    obtain ⟨m', h⟩ := tape_at ns all ((m * 31 + n.natAbs) % 2147483647)
    refine ⟨m', ?_⟩
    simp only [List.map_cons, forL]
    simp
    exact h
theorem tape (ns : List Int) : ∃ d, m__law_tape [.val (.list (ns.map .int))] = some (.own none d, [none]) ∧ Tape d := by
  obtain ⟨m', h⟩ := tape_at ns ns 7
  refine ⟨_, ?_, ⟨ns, 0, 0, m', by omega, rfl⟩⟩
  unfold m__law_tape F__law_tape
  simp [h]
end LW

namespace LW
open PySem L2 DL
theorem digits_1 (d : D) (base many : Int) (hb : 0 < base) (hb2 : base < 1073741824) : ∀ (xs : List D) (t : Int),
    forL (dNm 4) (dThenKill (dSet 3 (dV (dBin dMul (dVar 3) (dVar 1)))) [4]) xs [some (.own (some 0) d), some (.val (.int base)), some (.val (.int many)), some (.val (.int t)), none, none, none]
      = some (.nx [some (.own (some 0) d), some (.val (.int base)), some (.val (.int many)), some (.val (.int (t * base ^ xs.length))), none, none, none])
  | [], t => by simp [forL]
  | x :: xs, t => by
    have e1 : mulOk t base := mulOk_r ⟨by omega, by omega⟩
    have ih := digits_1 d base many hb hb2 xs (t * base)
    simp only [forL]
    simp [e1]
    rw [ih, Int.pow_succ, Int.mul_assoc, Int.mul_comm base]
def InR (base : Int) (ds : List Int) : Prop := ∀ x ∈ ds, 0 ≤ x ∧ x < base
theorem digits_2 (d : D) (base many t : Int) (hb : 0 < base) (hb2 : base < 1073741824) : ∀ (xs : List D) (acc : List Int) (r : Int), InR base acc → acc.length + xs.length ≤ 1000 → ∃ ds r',
    forL (dNm 4) (dSeq (dApp 6 (dBin dMod (dCallB intD (dCons (dVar 5) dNil)) (dVar 1))) (dThenKill (dSet 5 (dV (dBin dDiv (dVar 5) (dVar 1)))) [4])) xs [some (.own (some 0) d), some (.val (.int base)), some (.val (.int many)), some (.val (.int t)), none, some (.val (.int r)), some (.own none (.list (acc.map .int)))]
      = some (.nx [some (.own (some 0) d), some (.val (.int base)), some (.val (.int many)), some (.val (.int t)), none, some (.val (.int r')), some (.own none (.list (ds.map .int)))]) ∧ ds.length = acc.length + xs.length ∧ InR base ds
  | [], acc, r, h, _ => ⟨acc, r, rfl, rfl, h⟩
  | x :: xs, acc, r, h, hl => by
    simp only [List.length_cons] at hl
    have hl2 : (acc ++ [r % base]).length + xs.length ≤ 1000 := by simp only [List.length_append, List.length_cons, List.length_nil]; omega
    have h2 : InR base (acc ++ [r % base]) := fun x hx => by
      rcases List.mem_append.mp hx with hx | hx
      · exact h x hx
      · rw [List.mem_singleton.mp hx]
        exact ⟨Int.emod_nonneg _ (by omega), Int.emod_lt_of_pos _ hb⟩
    obtain ⟨ds, r', e, a, b⟩ := digits_2 d base many t hb hb2 xs (acc ++ [r % base]) (r / base) h2 hl2
    refine ⟨ds, r', ?_, by rw [a]; simp only [List.length_append, List.length_cons, List.length_nil]; omega, b⟩
    have hl3 : acc.length < 16777216 := by omega
    simp only [forL]
    simp [hb, hb2, hl3]
    rw [← e]
    simp
theorem digits_core {d d' : D} {base n t r r' : Int} {xs : List D} {ds : List Int} (h0 : rng1 (.int n) = some xs)
    (h1 : forL (dNm 4) (dThenKill (dSet 3 (dV (dBin dMul (dVar 3) (dVar 1)))) [4]) xs [some (.own (some 0) d), some (.val (.int base)), some (.val (.int n)), some (.val (.int 1)), none, none, none]
      = some (.nx [some (.own (some 0) d), some (.val (.int base)), some (.val (.int n)), some (.val (.int t)), none, none, none]))
    (h2 : m__law_draw [.own (some 0) d, .val (.int t)] = some (.val (.int r), [some (.own (some 0) d'), none]))
    (h3 : forL (dNm 4) (dSeq (dApp 6 (dBin dMod (dCallB intD (dCons (dVar 5) dNil)) (dVar 1))) (dThenKill (dSet 5 (dV (dBin dDiv (dVar 5) (dVar 1)))) [4])) xs [some (.own (some 0) d'), some (.val (.int base)), some (.val (.int n)), some (.val (.int t)), none, some (.val (.int r)), some (.own none (.list []))]
      = some (.nx [some (.own (some 0) d'), some (.val (.int base)), some (.val (.int n)), some (.val (.int t)), none, some (.val (.int r')), some (.own none (.list (ds.map .int)))])) :
    m__law_digits [.own (some 0) d, .val (.int base), .val (.int n)] = some (.own none (.list (ds.map .int)), [some (.own (some 0) d'), none, none]) := by
  unfold m__law_digits F__law_digits
  simp [-v_r1, h0, h1, h2, h3]
/-- drawn digits -/
theorem digits {d : D} (T : Tape d) (base : Int) (many : Nat) (hb : 0 < base) (hp : base ^ many < 1073741824) (hb2 : base < 1073741824) (hm : many ≤ 100) :
    ∃ ds d', m__law_digits [.own (some 0) d, .val (.int base), .val (.int many)] = some (.own none (.list (ds.map .int)), [some (.own (some 0) d'), none, none]) ∧ Tape d' ∧ ds.length = many ∧ InR base ds := by
  have p1 : 0 < base ^ many := Int.pow_pos hb
  obtain ⟨r, d', e, T', r0, r1⟩ := draw T (base ^ many) (by omega) hp
  obtain ⟨ds, r', e2, l2, h2⟩ := digits_2 d' base many (base ^ many) hb hb2 (intsFrom 0 many) [] r (fun _ h => nomatch h) (by rw [intsFrom_len]; simp; omega)
  refine ⟨ds, d', ?_, T', by rw [l2, intsFrom_len]; simp, h2⟩
  have e1 := digits_1 d base many hb hb2 (intsFrom 0 many) 1
  rw [intsFrom_len, Int.one_mul] at e1
  exact digits_core (rng1_nat many (by omega)) e1 e e2
end LW

namespace LW
open PySem L2 DL
theorem round_core {d d' : D} {n m r : Int} {ms : List D} (hn : (ms.length : Int) = n) (hm : 3 * n = m) (hk : mulOk 3 n) (h1 : m__law_draw [.own (some 0) d, .val (.int m)] = some (.val (.int r), [some (.own (some 0) d'), none]))
    (hl : (cutD ms (some (r / 3)) none).length + (cutD ms none (some (r / 3))).length ≤ 16777216) :
    m__law_round [.own (some 0) d, .val (.list ms)] = some (.val (.list (if r % 3 = 0 then cutD (cutD ms (some (r / 3)) none ++ cutD ms none (some (r / 3))) none (some 1) else cutD ms (some (r / 3)) none ++ cutD ms none (some (r / 3)))), [some (.own (some 0) d'), none]) := by
  unfold m__law_round F__law_round
  by_cases h : r % 3 = 0
  · simp [hn, hm, hk, h1, hl, h]
  · simp [hn, hm, hk, h1, hl, h]
theorem round {d : D} (T : Tape d) (ms : List D) (h1 : 1 ≤ ms.length) (h2 : ms.length ≤ 1000) : ∃ told d', m__law_round [.own (some 0) d, .val (.list ms)] = some (.val (.list told), [some (.own (some 0) d'), none]) ∧ Tape d' ∧ (∀ x ∈ told, x ∈ ms) ∧ told.length ≤ 2000 := by
  obtain ⟨r, d', e, T', r0, r1⟩ := draw T (3 * (ms.length : Int)) (by omega) (by omega)
  have l1 := cutD_len ms (some (r / 3)) none
  have l2 := cutD_len ms none (some (r / 3))
  refine ⟨_, d', round_core rfl rfl (mulOk_l ⟨by omega, by omega⟩) e (by omega), T', ?_, ?_⟩
  · intro x hx
    split at hx
    · rcases List.mem_append.mp (cutD_mem hx) with hx | hx <;> exact cutD_mem hx
    · rcases List.mem_append.mp hx with hx | hx <;> exact cutD_mem hx
  · split
    · refine Nat.le_trans (cutD_len _ _ _) ?_
      rw [List.length_append]; omega
    · rw [List.length_append]; omega
end LW

namespace LW
open PySem L2 DL
abbrev sameBody (f : Fn) : DS := dThenKill (dIf (dNot (dTest (dF (dCall f [.e (dIxV 0 (dVar 2)), .e (dIxV 1 (dVar 2))])))) (dRet (dV (dC (.bool false)))) dNext) [2]
theorem same_step {f : Fn} {xs ds : List D} {i : Int} {x : D} (hx : atI xs i = some x) (hf : f [.val x, .val x] = some (.val (.bool true), [none, none])) :
    forL (dNm 2) (sameBody f) (.int i :: ds) [some (.val (.tuple xs)), some (.val (.tuple xs)), none] = forL (dNm 2) (sameBody f) ds [some (.val (.tuple xs)), some (.val (.tuple xs)), none] := by
  simp only [forL, sameBody]
  simp [hx, hf]
theorem same_loop {f : Fn} {xs : List D} (hf : ∀ x ∈ xs, f [.val x, .val x] = some (.val (.bool true), [none, none])) : ∀ (n k : Nat), k + n ≤ xs.length →
    forL (dNm 2) (sameBody f) (DL.intsFrom k n) [some (.val (.tuple xs)), some (.val (.tuple xs)), none] = some (.nx [some (.val (.tuple xs)), some (.val (.tuple xs)), none])
  | 0, k, _ => rfl
  | n + 1, k, h => by
    have hk : k < xs.length := by omega
    have e : atI xs (k : Int) = some xs[k] := (atI_nat xs k).trans (List.getElem?_eq_getElem hk)
    rw [DL.intsFrom, same_step e (hf _ (List.getElem_mem hk))]
    exact same_loop hf n (k + 1) (by omega)
theorem same_tup {f : Fn} {xs us : List D} {n : Int} (hl : lenD [.tuple xs] = some (.int n)) (h1 : rng1 (.int n) = some us)
    (h : forL (dNm 2) (sameBody f) us [some (.val (.tuple xs)), some (.val (.tuple xs)), none] = some (.nx [some (.val (.tuple xs)), some (.val (.tuple xs)), none])) :
    defSem 3 (F__law_same f) [.val (.tuple xs), .val (.tuple xs)] = some (.val (.bool true), [none, none]) := by
  unfold F__law_same
  simp only [sameBody] at h
  simp [-v_r1, -v_lenT, hl, h1, h]
theorem same_refl : ∀ (k : Nat) (d : D), simp1 d = true → d.depth + 1 ≤ k → m__law_same k [.val d, .val d] = some (.val (.bool true), [none, none])
  | 0, d, _, h => by omega
  | k + 1, d, hs, hd => by
    show defSem 3 (F__law_same (m__law_same k)) _ = _
    cases d with
    | none => unfold F__law_same; simp
    | bool b => unfold F__law_same; simp
    | int n => unfold F__law_same; simp
    | str u => unfold F__law_same; simp
    | list xs => simp [simp1] at hs
    | dict xs => simp [simp1] at hs
    | tuple xs =>
      rw [simp1, Bool.and_eq_true, decide_eq_true_eq] at hs
      rw [PyData.depth] at hd
      refine same_tup v_lenT (rng1_nat _ hs.1) (same_loop (fun x m => same_refl k x (simpAll_mem hs.2 m) (by have := depthAll_mem m; omega)) xs.length 0 (by omega))
end LW

namespace LW
open PySem L2 DL
def signsS : Str := (" !\"#$&'()*+,-./0123456789:;<=>?@ABCDEFGHIJKLMNOPQRSTUVWXYZ[\\]^_" : Str) ++ ("`abcdefghijklmnopqrstuvwxyz{|}~" : Str)
theorem signs_all : (signsS.cps.toList.all fun c => decide (32 ≤ c) && decide (c ≤ 126)) = true ∧ signsS.cps.toList.length = 94 := by decide +kernel
theorem signs_small : (Str.ofString " !\"#$&'()*+,-./0123456789:;<=>?@ABCDEFGHIJKLMNOPQRSTUVWXYZ[\\]^_").length + (Str.ofString "`abcdefghijklmnopqrstuvwxyz{|}~").length ≤ 16777216 := by decide +kernel
theorem signs : m__law_signs [] = some (.val (.str signsS), []) := by
  unfold m__law_signs F__law_signs
  simp [signs_small, signsS]
theorem sign_at (i : Int) (h0 : 0 ≤ i) (h1 : i < 94) : ∃ c, atI signsS.cps.toList i = some c ∧ Sg c := by
  obtain ⟨c, e, m⟩ := atI_in signsS.cps.toList i h0 (by rw [signs_all.2]; exact h1)
  have := List.all_eq_true.mp signs_all.1 c m
  simp only [Bool.and_eq_true, decide_eq_true_eq] at this
  exact ⟨c, e, this⟩
end LW

/-! ints, texts and tuples of them: == is = -/
namespace LW
open PySem L2 DL
mutual
def pur : D → Bool
  | .int _ => true
  | .str _ => true
  | .tuple xs => purL xs
  | _ => false
def purL : List D → Bool
  | [] => true
  | x :: xs => pur x && purL xs
end
theorem purL_mem : ∀ {xs : List D} {x : D}, purL xs = true → x ∈ xs → pur x = true
  | y :: ys, x, h, m => by
    rw [purL, Bool.and_eq_true] at h
    rcases List.mem_cons.mp m with rfl | m
    · exact h.1
    · exact purL_mem h.2 m
theorem purL_of : ∀ {xs : List D}, (∀ x ∈ xs, pur x = true) → purL xs = true
  | [], _ => rfl
  | x :: xs, h => by
    rw [purL, h x List.mem_cons_self, purL_of fun y m => h y (List.mem_cons_of_mem _ m)]
    rfl
mutual
theorem eqv_pur : ∀ (a b : D), pur a = true → pur b = true → (PyData.eqv a b = true ↔ a = b)
  | .int i, .int j, _, _ => by simp [PyData.eqv]
  | .str x, .str y, _, _ => by simp [PyData.eqv]
  | .tuple xs, .tuple ys, h, g => by
    rw [PyData.eqv, eqvL_pur xs ys h g]
    simp
  | .int i, .str j, _, _ => by simp [PyData.eqv]
  | .int i, .tuple j, _, _ => by simp [PyData.eqv]
  | .str i, .int j, _, _ => by simp [PyData.eqv]
  | .str i, .tuple j, _, _ => by simp [PyData.eqv]
  | .tuple i, .int j, _, _ => by simp [PyData.eqv]
  | .tuple i, .str j, _, _ => by simp [PyData.eqv]
  | .none, _, h, _ => by simp [pur] at h
  | .bool _, _, h, _ => by simp [pur] at h
  | .list _, _, h, _ => by simp [pur] at h
  | .dict _, _, h, _ => by simp [pur] at h
  | _, .none, _, h => by simp [pur] at h
  | _, .bool _, _, h => by simp [pur] at h
  | _, .list _, _, h => by simp [pur] at h
  | _, .dict _, _, h => by simp [pur] at h
theorem eqvL_pur : ∀ (a b : List D), purL a = true → purL b = true → (PyData.eqvAll a b = true ↔ a = b)
  | [], [], _, _ => by simp [PyData.eqvAll]
  | [], _ :: _, _, _ => by simp [PyData.eqvAll]
  | _ :: _, [], _, _ => by simp [PyData.eqvAll]
  | x :: xs, y :: ys, h, g => by
    rw [purL, Bool.and_eq_true] at h g
    rw [PyData.eqvAll, Bool.and_eq_true, eqv_pur x y h.1 g.1, eqvL_pur xs ys h.2 g.2]
    simp
end
mutual
theorem pur_plain : ∀ (a : D), pur a = true → plain a = true
  | .int i, _ => rfl
  | .str x, _ => rfl
  | .tuple xs, h => by
    rw [DL.plain]
    exact purL_plain xs h
  | .none, h => by simp [pur] at h
  | .bool _, h => by simp [pur] at h
  | .list _, h => by simp [pur] at h
  | .dict _, h => by simp [pur] at h
theorem purL_plain : ∀ (a : List D), purL a = true → plainAll a = true
  | [], _ => rfl
  | x :: xs, h => by
    rw [purL, Bool.and_eq_true] at h
    rw [plainAll, pur_plain x h.1, purL_plain xs h.2]
    rfl
end
theorem pur_cmp {a : D} (h : pur a = true) (hd : a.depth ≤ 60) : cmpOk a = true := by
  unfold cmpOk
  rw [pur_plain a h, decide_eq_true hd]
  rfl
theorem purT_cmp {a : List D} (h : purL a = true) (hd : PyData.depthAll a ≤ 59) : cmpOk (.tuple a) = true := pur_cmp h (by rw [PyData.depth]; omega)
theorem purL_cmp {a : List D} (h : purL a = true) (hd : PyData.depthAll a ≤ 59) : cmpOk (.list a) = true := by
  unfold cmpOk
  rw [DL.plain, purL_plain a h, decide_eq_true (by rw [PyData.depth]; omega)]
  rfl
theorem eqv_dec {a b : D} (h : pur a = true) (g : pur b = true) [Decidable (a = b)] : PyData.eqv a b = decide (a = b) := by
  rw [Bool.eq_iff_iff, eqv_pur a b h g, decide_eq_true_eq]
noncomputable instance decD (a b : D) : Decidable (a = b) := Classical.propDecidable _
theorem eqD_pur {a b : D} (h : pur a = true) (g : pur b = true) (ha : a.depth ≤ 60) (hb : b.depth ≤ 60) : eqD a b = some (decide (a = b)) := by
  unfold eqD
  rw [if_pos ⟨pur_cmp h ha, pur_cmp g hb⟩, eqv_dec h g]
theorem any_pur {a : D} {xs : List D} (h : pur a = true) (g : purL xs = true) : (xs.any fun y => PyData.eqv y a) = decide (a ∈ xs) := by
  rw [Bool.eq_iff_iff, List.any_eq_true, decide_eq_true_eq]
  constructor
  · rintro ⟨x, m, e⟩
    rw [(eqv_pur x a (purL_mem g m) h).mp e] at m
    exact m
  · exact fun m => ⟨a, m, (eqv_pur a a h h).mpr rfl⟩
theorem inL_pur {a : D} {xs : List D} (h : pur a = true) (g : purL xs = true) (ha : a.depth ≤ 60) (hx : PyData.depthAll xs ≤ 59) : inD a (.list xs) = some (decide (a ∈ xs)) := by
  have : inD a (.list xs) = some (xs.any fun y => PyData.eqv y a) := by
    have c1 := pur_cmp h ha
    have c2 := purL_cmp g hx
    unfold inD
    simp only [c1, c2, and_self, if_true]
  rw [this, any_pur h g]
theorem inT_pur {a : D} {xs : List D} (h : pur a = true) (g : purL xs = true) (ha : a.depth ≤ 60) (hx : PyData.depthAll xs ≤ 59) : inD a (.tuple xs) = some (decide (a ∈ xs)) := by
  have : inD a (.tuple xs) = some (xs.any fun y => PyData.eqv y a) := by
    have c1 := pur_cmp h ha
    have c2 := purT_cmp g hx
    unfold inD
    simp only [c1, c2, and_self, if_true]
  rw [this, any_pur h g]
theorem ninL_pur {a : D} {xs : List D} (h : pur a = true) (g : purL xs = true) (ha : a.depth ≤ 60) (hx : PyData.depthAll xs ≤ 59) : ninD a (.list xs) = some (decide (a ∉ xs)) := by
  unfold ninD
  rw [inL_pur h g ha hx]
  simp
theorem cnt_pur {a : D} {xs : List D} (h : pur a = true) (g : purL xs = true) : (xs.countP fun y => PyData.eqv y a) = xs.countP fun y => decide (y = a) :=
  List.countP_congr fun y m => by rw [eqv_dec (purL_mem g m) h]
end LW

/-! expressions of numbers -/
namespace LW
open PySem L2 DL
@[simp] theorem w_plus_minus : (Str.ofString "plus" = Str.ofString "minus") = False := eq_false (by decide +kernel)
@[simp] theorem w_plus_times : (Str.ofString "plus" = Str.ofString "times") = False := eq_false (by decide +kernel)
@[simp] theorem w_plus_least : (Str.ofString "plus" = Str.ofString "least") = False := eq_false (by decide +kernel)
@[simp] theorem w_plus_greatest : (Str.ofString "plus" = Str.ofString "greatest") = False := eq_false (by decide +kernel)
@[simp] theorem w_plus_number : (Str.ofString "plus" = Str.ofString "number") = False := eq_false (by decide +kernel)
@[simp] theorem w_plus_state : (Str.ofString "plus" = Str.ofString "state") = False := eq_false (by decide +kernel)
@[simp] theorem w_plus_operand : (Str.ofString "plus" = Str.ofString "operand") = False := eq_false (by decide +kernel)
@[simp] theorem w_plus_left : (Str.ofString "plus" = Str.ofString "left") = False := eq_false (by decide +kernel)
@[simp] theorem w_plus_right : (Str.ofString "plus" = Str.ofString "right") = False := eq_false (by decide +kernel)
@[simp] theorem w_plus_text : (Str.ofString "plus" = Str.ofString "text") = False := eq_false (by decide +kernel)
@[simp] theorem w_minus_plus : (Str.ofString "minus" = Str.ofString "plus") = False := eq_false (by decide +kernel)
@[simp] theorem w_minus_times : (Str.ofString "minus" = Str.ofString "times") = False := eq_false (by decide +kernel)
@[simp] theorem w_minus_least : (Str.ofString "minus" = Str.ofString "least") = False := eq_false (by decide +kernel)
@[simp] theorem w_minus_greatest : (Str.ofString "minus" = Str.ofString "greatest") = False := eq_false (by decide +kernel)
@[simp] theorem w_minus_number : (Str.ofString "minus" = Str.ofString "number") = False := eq_false (by decide +kernel)
@[simp] theorem w_minus_state : (Str.ofString "minus" = Str.ofString "state") = False := eq_false (by decide +kernel)
@[simp] theorem w_minus_operand : (Str.ofString "minus" = Str.ofString "operand") = False := eq_false (by decide +kernel)
@[simp] theorem w_minus_left : (Str.ofString "minus" = Str.ofString "left") = False := eq_false (by decide +kernel)
@[simp] theorem w_minus_right : (Str.ofString "minus" = Str.ofString "right") = False := eq_false (by decide +kernel)
@[simp] theorem w_minus_text : (Str.ofString "minus" = Str.ofString "text") = False := eq_false (by decide +kernel)
@[simp] theorem w_times_plus : (Str.ofString "times" = Str.ofString "plus") = False := eq_false (by decide +kernel)
@[simp] theorem w_times_minus : (Str.ofString "times" = Str.ofString "minus") = False := eq_false (by decide +kernel)
@[simp] theorem w_times_least : (Str.ofString "times" = Str.ofString "least") = False := eq_false (by decide +kernel)
@[simp] theorem w_times_greatest : (Str.ofString "times" = Str.ofString "greatest") = False := eq_false (by decide +kernel)
@[simp] theorem w_times_number : (Str.ofString "times" = Str.ofString "number") = False := eq_false (by decide +kernel)
@[simp] theorem w_times_state : (Str.ofString "times" = Str.ofString "state") = False := eq_false (by decide +kernel)
@[simp] theorem w_times_operand : (Str.ofString "times" = Str.ofString "operand") = False := eq_false (by decide +kernel)
@[simp] theorem w_times_left : (Str.ofString "times" = Str.ofString "left") = False := eq_false (by decide +kernel)
@[simp] theorem w_times_right : (Str.ofString "times" = Str.ofString "right") = False := eq_false (by decide +kernel)
@[simp] theorem w_times_text : (Str.ofString "times" = Str.ofString "text") = False := eq_false (by decide +kernel)
@[simp] theorem w_least_plus : (Str.ofString "least" = Str.ofString "plus") = False := eq_false (by decide +kernel)
@[simp] theorem w_least_minus : (Str.ofString "least" = Str.ofString "minus") = False := eq_false (by decide +kernel)
@[simp] theorem w_least_times : (Str.ofString "least" = Str.ofString "times") = False := eq_false (by decide +kernel)
@[simp] theorem w_least_greatest : (Str.ofString "least" = Str.ofString "greatest") = False := eq_false (by decide +kernel)
@[simp] theorem w_least_number : (Str.ofString "least" = Str.ofString "number") = False := eq_false (by decide +kernel)
@[simp] theorem w_least_state : (Str.ofString "least" = Str.ofString "state") = False := eq_false (by decide +kernel)
@[simp] theorem w_least_operand : (Str.ofString "least" = Str.ofString "operand") = False := eq_false (by decide +kernel)
@[simp] theorem w_least_left : (Str.ofString "least" = Str.ofString "left") = False := eq_false (by decide +kernel)
@[simp] theorem w_least_right : (Str.ofString "least" = Str.ofString "right") = False := eq_false (by decide +kernel)
@[simp] theorem w_least_text : (Str.ofString "least" = Str.ofString "text") = False := eq_false (by decide +kernel)
@[simp] theorem w_greatest_plus : (Str.ofString "greatest" = Str.ofString "plus") = False := eq_false (by decide +kernel)
@[simp] theorem w_greatest_minus : (Str.ofString "greatest" = Str.ofString "minus") = False := eq_false (by decide +kernel)
@[simp] theorem w_greatest_times : (Str.ofString "greatest" = Str.ofString "times") = False := eq_false (by decide +kernel)
@[simp] theorem w_greatest_least : (Str.ofString "greatest" = Str.ofString "least") = False := eq_false (by decide +kernel)
@[simp] theorem w_greatest_number : (Str.ofString "greatest" = Str.ofString "number") = False := eq_false (by decide +kernel)
@[simp] theorem w_greatest_state : (Str.ofString "greatest" = Str.ofString "state") = False := eq_false (by decide +kernel)
@[simp] theorem w_greatest_operand : (Str.ofString "greatest" = Str.ofString "operand") = False := eq_false (by decide +kernel)
@[simp] theorem w_greatest_left : (Str.ofString "greatest" = Str.ofString "left") = False := eq_false (by decide +kernel)
@[simp] theorem w_greatest_right : (Str.ofString "greatest" = Str.ofString "right") = False := eq_false (by decide +kernel)
@[simp] theorem w_greatest_text : (Str.ofString "greatest" = Str.ofString "text") = False := eq_false (by decide +kernel)
@[simp] theorem w_number_plus : (Str.ofString "number" = Str.ofString "plus") = False := eq_false (by decide +kernel)
@[simp] theorem w_number_minus : (Str.ofString "number" = Str.ofString "minus") = False := eq_false (by decide +kernel)
@[simp] theorem w_number_times : (Str.ofString "number" = Str.ofString "times") = False := eq_false (by decide +kernel)
@[simp] theorem w_number_least : (Str.ofString "number" = Str.ofString "least") = False := eq_false (by decide +kernel)
@[simp] theorem w_number_greatest : (Str.ofString "number" = Str.ofString "greatest") = False := eq_false (by decide +kernel)
@[simp] theorem w_number_state : (Str.ofString "number" = Str.ofString "state") = False := eq_false (by decide +kernel)
@[simp] theorem w_number_operand : (Str.ofString "number" = Str.ofString "operand") = False := eq_false (by decide +kernel)
@[simp] theorem w_number_left : (Str.ofString "number" = Str.ofString "left") = False := eq_false (by decide +kernel)
@[simp] theorem w_number_right : (Str.ofString "number" = Str.ofString "right") = False := eq_false (by decide +kernel)
@[simp] theorem w_number_text : (Str.ofString "number" = Str.ofString "text") = False := eq_false (by decide +kernel)
@[simp] theorem w_state_plus : (Str.ofString "state" = Str.ofString "plus") = False := eq_false (by decide +kernel)
@[simp] theorem w_state_minus : (Str.ofString "state" = Str.ofString "minus") = False := eq_false (by decide +kernel)
@[simp] theorem w_state_times : (Str.ofString "state" = Str.ofString "times") = False := eq_false (by decide +kernel)
@[simp] theorem w_state_least : (Str.ofString "state" = Str.ofString "least") = False := eq_false (by decide +kernel)
@[simp] theorem w_state_greatest : (Str.ofString "state" = Str.ofString "greatest") = False := eq_false (by decide +kernel)
@[simp] theorem w_state_number : (Str.ofString "state" = Str.ofString "number") = False := eq_false (by decide +kernel)
@[simp] theorem w_state_operand : (Str.ofString "state" = Str.ofString "operand") = False := eq_false (by decide +kernel)
@[simp] theorem w_state_left : (Str.ofString "state" = Str.ofString "left") = False := eq_false (by decide +kernel)
@[simp] theorem w_state_right : (Str.ofString "state" = Str.ofString "right") = False := eq_false (by decide +kernel)
@[simp] theorem w_state_text : (Str.ofString "state" = Str.ofString "text") = False := eq_false (by decide +kernel)
@[simp] theorem w_operand_plus : (Str.ofString "operand" = Str.ofString "plus") = False := eq_false (by decide +kernel)
@[simp] theorem w_operand_minus : (Str.ofString "operand" = Str.ofString "minus") = False := eq_false (by decide +kernel)
@[simp] theorem w_operand_times : (Str.ofString "operand" = Str.ofString "times") = False := eq_false (by decide +kernel)
@[simp] theorem w_operand_least : (Str.ofString "operand" = Str.ofString "least") = False := eq_false (by decide +kernel)
@[simp] theorem w_operand_greatest : (Str.ofString "operand" = Str.ofString "greatest") = False := eq_false (by decide +kernel)
@[simp] theorem w_operand_number : (Str.ofString "operand" = Str.ofString "number") = False := eq_false (by decide +kernel)
@[simp] theorem w_operand_state : (Str.ofString "operand" = Str.ofString "state") = False := eq_false (by decide +kernel)
@[simp] theorem w_operand_left : (Str.ofString "operand" = Str.ofString "left") = False := eq_false (by decide +kernel)
@[simp] theorem w_operand_right : (Str.ofString "operand" = Str.ofString "right") = False := eq_false (by decide +kernel)
@[simp] theorem w_operand_text : (Str.ofString "operand" = Str.ofString "text") = False := eq_false (by decide +kernel)
@[simp] theorem w_left_plus : (Str.ofString "left" = Str.ofString "plus") = False := eq_false (by decide +kernel)
@[simp] theorem w_left_minus : (Str.ofString "left" = Str.ofString "minus") = False := eq_false (by decide +kernel)
@[simp] theorem w_left_times : (Str.ofString "left" = Str.ofString "times") = False := eq_false (by decide +kernel)
@[simp] theorem w_left_least : (Str.ofString "left" = Str.ofString "least") = False := eq_false (by decide +kernel)
@[simp] theorem w_left_greatest : (Str.ofString "left" = Str.ofString "greatest") = False := eq_false (by decide +kernel)
@[simp] theorem w_left_number : (Str.ofString "left" = Str.ofString "number") = False := eq_false (by decide +kernel)
@[simp] theorem w_left_state : (Str.ofString "left" = Str.ofString "state") = False := eq_false (by decide +kernel)
@[simp] theorem w_left_operand : (Str.ofString "left" = Str.ofString "operand") = False := eq_false (by decide +kernel)
@[simp] theorem w_left_right : (Str.ofString "left" = Str.ofString "right") = False := eq_false (by decide +kernel)
@[simp] theorem w_left_text : (Str.ofString "left" = Str.ofString "text") = False := eq_false (by decide +kernel)
@[simp] theorem w_right_plus : (Str.ofString "right" = Str.ofString "plus") = False := eq_false (by decide +kernel)
@[simp] theorem w_right_minus : (Str.ofString "right" = Str.ofString "minus") = False := eq_false (by decide +kernel)
@[simp] theorem w_right_times : (Str.ofString "right" = Str.ofString "times") = False := eq_false (by decide +kernel)
@[simp] theorem w_right_least : (Str.ofString "right" = Str.ofString "least") = False := eq_false (by decide +kernel)
@[simp] theorem w_right_greatest : (Str.ofString "right" = Str.ofString "greatest") = False := eq_false (by decide +kernel)
@[simp] theorem w_right_number : (Str.ofString "right" = Str.ofString "number") = False := eq_false (by decide +kernel)
@[simp] theorem w_right_state : (Str.ofString "right" = Str.ofString "state") = False := eq_false (by decide +kernel)
@[simp] theorem w_right_operand : (Str.ofString "right" = Str.ofString "operand") = False := eq_false (by decide +kernel)
@[simp] theorem w_right_left : (Str.ofString "right" = Str.ofString "left") = False := eq_false (by decide +kernel)
@[simp] theorem w_right_text : (Str.ofString "right" = Str.ofString "text") = False := eq_false (by decide +kernel)
@[simp] theorem w_text_plus : (Str.ofString "text" = Str.ofString "plus") = False := eq_false (by decide +kernel)
@[simp] theorem w_text_minus : (Str.ofString "text" = Str.ofString "minus") = False := eq_false (by decide +kernel)
@[simp] theorem w_text_times : (Str.ofString "text" = Str.ofString "times") = False := eq_false (by decide +kernel)
@[simp] theorem w_text_least : (Str.ofString "text" = Str.ofString "least") = False := eq_false (by decide +kernel)
@[simp] theorem w_text_greatest : (Str.ofString "text" = Str.ofString "greatest") = False := eq_false (by decide +kernel)
@[simp] theorem w_text_number : (Str.ofString "text" = Str.ofString "number") = False := eq_false (by decide +kernel)
@[simp] theorem w_text_state : (Str.ofString "text" = Str.ofString "state") = False := eq_false (by decide +kernel)
@[simp] theorem w_text_operand : (Str.ofString "text" = Str.ofString "operand") = False := eq_false (by decide +kernel)
@[simp] theorem w_text_left : (Str.ofString "text" = Str.ofString "left") = False := eq_false (by decide +kernel)
@[simp] theorem w_text_right : (Str.ofString "text" = Str.ofString "right") = False := eq_false (by decide +kernel)
theorem at2 {a b : D} : atI [a, b] 0 = some a ∧ atI [a, b] 1 = some b := ⟨rfl, rfl⟩
theorem at3 {a b c : D} : atI [a, b, c] 0 = some a ∧ atI [a, b, c] 1 = some b ∧ atI [a, b, c] 2 = some c := ⟨rfl, rfl, rfl⟩
inductive Op where
  | plus | minus | times | least | greatest
def Op.s : Op → Str
  | .plus => Str.ofString "plus"
  | .minus => Str.ofString "minus"
  | .times => Str.ofString "times"
  | .least => Str.ofString "least"
  | .greatest => Str.ofString "greatest"
def Op.ap : Op → Int → Int → Int
  | .plus, a, b => a + b
  | .minus, a, b => a - b
  | .times, a, b => a * b
  | .least, a, b => min a b
  | .greatest, a, b => max a b
def Op.sum : Op → Bool
  | .plus => true
  | .minus => true
  | .times => true
  | _ => false
inductive Ex where
  | num (n : Int)
  | leaf (w : Str) (i : Int)
  | op (o : Op) (a b : Ex)
def Ex.enc : Ex → D
  | .num n => .tuple [.str (Str.ofString "number"), .int n]
  | .leaf w i => .tuple [.str w, .int i]
  | .op o a b => .tuple [.str o.s, a.enc, b.enc]
def four (w : Str) : Prop := w = Str.ofString "state" ∨ w = Str.ofString "operand" ∨ w = Str.ofString "left" ∨ w = Str.ofString "right"
def redI (n : Int) : Int := (n + 5000) % 10000 - 5000
def finI (red : Bool) (o : Op) (n : Int) : Int := if (red && o.sum) = true then redI n else n
def Ex.val (red : Bool) (ρ : Str → Int → Int) : Ex → Int
  | .num n => n
  | .leaf w i => ρ w i
  | .op o a b => finI red o (o.ap (a.val red ρ) (b.val red ρ))
def Ex.dep : Ex → Nat
  | .op _ a b => 1 + max a.dep b.dep
  | .num _ => 1
  | .leaf _ _ => 1
def Ex.n : Ex → Nat
  | .op _ a b => a.n + b.n
  | .num _ => 1
  | .leaf _ _ => 1
def Ex.Good (P : Str → Int → Prop) : Ex → Prop
  | .num n => n.natAbs ≤ 20000
  | .leaf w i => four w ∧ P w i
  | .op _ a b => a.Good P ∧ b.Good P
theorem Ex.Good.imp {P Q : Str → Int → Prop} (h : ∀ w i, P w i → Q w i) : ∀ {e : Ex}, e.Good P → e.Good Q
  | .num _, g => g
  | .leaf w i, g => ⟨g.1, h w i g.2⟩
  | .op _ _ _, g => ⟨Ex.Good.imp h g.1, Ex.Good.imp h g.2⟩
theorem Ex.n_pos : ∀ e : Ex, 1 ≤ e.n
  | .num _ => Nat.le_refl _
  | .leaf _ _ => Nat.le_refl _
  | .op _ a b => by
    have := a.n_pos
    rw [Ex.n]; omega
/-! sizes -/
theorem pw_ge {n : Nat} (h : 1 ≤ n) : 20000 ≤ 20000 ^ n := by
  obtain ⟨m, rfl⟩ : ∃ m, n = m + 1 := ⟨n - 1, by omega⟩
  rw [Nat.pow_succ]
  have : 1 ≤ 20000 ^ m := Nat.one_le_pow _ _ (by omega)
  omega
theorem sum_le_mul {x y : Nat} (hx : 2 ≤ x) (hy : 2 ≤ y) : x + y ≤ x * y := by
  obtain ⟨a, rfl⟩ : ∃ a, x = a + 2 := ⟨x - 2, by omega⟩
  obtain ⟨b, rfl⟩ : ∃ b, y = b + 2 := ⟨y - 2, by omega⟩
  have : (a + 2) * (b + 2) = a * b + 2 * a + 2 * b + 4 := by
    rw [Nat.add_mul, Nat.mul_add, Nat.mul_add]
    omega
  rw [this]
  omega
theorem ap_le (o : Op) {a b : Int} {x y : Nat} (hx : 2 ≤ x) (hy : 2 ≤ y) (ha : a.natAbs ≤ x) (hb : b.natAbs ≤ y) : (o.ap a b).natAbs ≤ x * y := by
  have := sum_le_mul hx hy
  cases o with
  | times =>
    show (a * b).natAbs ≤ _
    rw [Int.natAbs_mul]
    exact Nat.mul_le_mul ha hb
  | plus => show (a + b).natAbs ≤ _; omega
  | minus => show (a - b).natAbs ≤ _; omega
  | least => show (min a b).natAbs ≤ _; omega
  | greatest => show (max a b).natAbs ≤ _; omega
theorem redI_le (n : Int) : (redI n).natAbs ≤ 5000 := by
  unfold redI
  have h1 := Int.emod_nonneg (n + 5000) (show (10000 : Int) ≠ 0 by omega)
  have h2 := Int.emod_lt_of_pos (n + 5000) (show (0 : Int) < 10000 by omega)
  omega
theorem val_le (red : Bool) {ρ : Str → Int → Int} : ∀ {e : Ex}, e.Good (fun w i => (ρ w i).natAbs ≤ 20000) → (e.val red ρ).natAbs ≤ 20000 ^ e.n
  | .num n, g => by rw [Ex.n, Nat.pow_one]; exact g
  | .leaf w i, g => by rw [Ex.n, Nat.pow_one]; exact g.2
  | .op o a b, g => by
    have ha := val_le red g.1
    have hb := val_le red g.2
    have pa := pw_ge a.n_pos
    have pb := pw_ge b.n_pos
    rw [Ex.n, Nat.pow_add, Ex.val]
    have := ap_le o (by omega) (by omega) ha hb
    unfold finI
    split
    · have h1 := redI_le (o.ap (a.val red ρ) (b.val red ρ))
      have h2 := sum_le_mul (x := 20000 ^ a.n) (y := 20000 ^ b.n) (by omega) (by omega)
      omega
    · exact this
theorem small_mul {a b : Int} {m n : Nat} (ha : a.natAbs ≤ 20000 ^ m) (hb : b.natAbs ≤ 20000 ^ n) (hm : m ≤ 100) (hn : n ≤ 100) : mulOk a b := by
  have key : ∀ (x k : Nat), x ≤ 20000 ^ k → k ≤ 100 → x.log2 < 2000 := fun x k h hk => by
    by_cases hx : x = 0
    · subst hx
      rw [show Nat.log2 0 = 0 from rfl]
      omega
    · rw [Nat.log2_lt hx]
      have h1 : 20000 ^ k ≤ (2 ^ 15) ^ k := Nat.pow_le_pow_left (by omega) k
      rw [← Nat.pow_mul] at h1
      have h2 : 2 ^ (15 * k) < 2 ^ 2000 := Nat.pow_lt_pow_right (by omega) (by omega)
      exact Nat.lt_of_le_of_lt (Nat.le_trans h h1) h2
  have h1 := key _ _ ha hm
  have h2 := key _ _ hb hn
  exact .inr (.inr (by omega))
/-! the defs -/
theorem combined (o : Op) {a b : Int} (h : mulOk a b) : m_combined_worth [.val (.str o.s), .val (.int a), .val (.int b)] = some (.val (.int (o.ap a b)), [none, none, none]) := by
  unfold m_combined_worth F_combined_worth
  cases o <;> simp [Op.s, Op.ap, h]
theorem reduced (n : Int) : m_reduced_number [.val (.int n)] = some (.val (.int (redI n)), [none]) := by
  unfold m_reduced_number F_reduced_number
  simp [redI]
theorem a_reduced (n : Int) : m__law_a_reduced [.val (.int n)] = some (.val (.int (redI n)), [none]) := by
  unfold m__law_a_reduced F__law_a_reduced
  simp [redI]
theorem key_leaf (w : Str) (i : Int) : keysOf (.tuple [.str w, .int i]) = some [.inr w, .inl i] := rfl
section
variable {f : Fn} {es : List (D × D)} {w : Str} {i n x y r : Int} {u v d : D} {o : Op}
theorem full_num : defSem 3 (F_full_worth f) [.val (Ex.num n).enc, .val (tdict es)] = some (.val (.int n), [none, none]) := by
  unfold F_full_worth
  simp [Ex.enc, at2]
theorem full_leaf (hw : four w) (h : lookT es [.inr w, .inl i] = some d) : defSem 3 (F_full_worth f) [.val (Ex.leaf w i).enc, .val (tdict es)] = some (.val d, [none, none]) := by
  unfold F_full_worth
  rcases hw with rfl | rfl | rfl | rfl <;> simp [Ex.enc, at2, key_leaf, h]
theorem full_op (h1 : f [.val u, .val (tdict es)] = some (.val (.int x), [none, none])) (h2 : f [.val v, .val (tdict es)] = some (.val (.int y), [none, none])) (h3 : m_combined_worth [.val (.str o.s), .val (.int x), .val (.int y)] = some (.val (.int r), [none, none, none])) :
    defSem 3 (F_full_worth f) [.val (.tuple [.str o.s, u, v]), .val (tdict es)] = some (.val (.int r), [none, none]) := by
  unfold F_full_worth
  cases o <;> simp only [Op.s] at h3 ⊢ <;> simp [at3, h1, h2, h3]
theorem wrap_num : defSem 4 (F_wrapped_worth f) [.val (Ex.num n).enc, .val (tdict es)] = some (.val (.int n), [none, none]) := by
  unfold F_wrapped_worth
  simp [Ex.enc, at2]
theorem wrap_leaf (hw : four w) (h : lookT es [.inr w, .inl i] = some d) : defSem 4 (F_wrapped_worth f) [.val (Ex.leaf w i).enc, .val (tdict es)] = some (.val d, [none, none]) := by
  unfold F_wrapped_worth
  rcases hw with rfl | rfl | rfl | rfl <;> simp [Ex.enc, at2, key_leaf, h]
theorem wrap_op (h1 : f [.val u, .val (tdict es)] = some (.val (.int x), [none, none])) (h2 : f [.val v, .val (tdict es)] = some (.val (.int y), [none, none])) (h3 : m_combined_worth [.val (.str o.s), .val (.int x), .val (.int y)] = some (.val (.int r), [none, none, none])) :
    defSem 4 (F_wrapped_worth f) [.val (.tuple [.str o.s, u, v]), .val (tdict es)] = some (.val (.int (finI true o r)), [none, none]) := by
  unfold F_wrapped_worth
  cases o <;> simp only [Op.s] at h3 ⊢ <;> simp [at3, h1, h2, h3, reduced, finI, Op.sum]
theorem law_num {b : Bool} : defSem 6 (F__law_a_worth f) [.val (Ex.num n).enc, .val (tdict es), .val (.bool b)] = some (.val (.int n), [none, none, none]) := by
  unfold F__law_a_worth
  simp [Ex.enc, at2]
theorem law_leaf {b : Bool} (hw : four w) (h : lookT es [.inr w, .inl i] = some d) : defSem 6 (F__law_a_worth f) [.val (Ex.leaf w i).enc, .val (tdict es), .val (.bool b)] = some (.val d, [none, none, none]) := by
  unfold F__law_a_worth
  rcases hw with rfl | rfl | rfl | rfl <;> simp [Ex.enc, at2, key_leaf, h]
theorem law_op {b : Bool} (h1 : f [.val u, .val (tdict es), .val (.bool b)] = some (.val (.int x), [none, none, none])) (h2 : f [.val v, .val (tdict es), .val (.bool b)] = some (.val (.int y), [none, none, none])) (h3 : mulOk x y) :
    defSem 6 (F__law_a_worth f) [.val (.tuple [.str o.s, u, v]), .val (tdict es), .val (.bool b)] = some (.val (.int (finI b o (o.ap x y))), [none, none, none]) := by
  unfold F__law_a_worth
  cases o <;> simp only [Op.s] <;> cases b <;> simp [at3, h1, h2, h3, a_reduced, finI, Op.sum, Op.ap]
end
/-- the dict knows the leaf, a number that is not great -/
def Has (es : List (D × D)) (ρ : Str → Int → Int) (w : Str) (i : Int) : Prop := lookT es [.inr w, .inl i] = some (.int (ρ w i)) ∧ (ρ w i).natAbs ≤ 20000
section
variable {es : List (D × D)} {ρ : Str → Int → Int}
theorem full : ∀ (k : Nat) (e : Ex), e.Good (Has es ρ) → e.dep ≤ k → e.n ≤ 100 → m_full_worth k [.val e.enc, .val (tdict es)] = some (.val (.int (e.val false ρ)), [none, none])
  | 0, e, _, h, _ => by cases e <;> simp only [Ex.dep] at h <;> omega
  | k + 1, .num n, _, _, _ => full_num
  | k + 1, .leaf w i, g, _, _ => full_leaf g.1 g.2.1
  | k + 1, .op o a b, g, h, hn => by
    rw [Ex.dep] at h
    rw [Ex.n] at hn
    have pa := a.n_pos
    have pb := b.n_pos
    have ga : a.Good (fun w i => (ρ w i).natAbs ≤ 20000) := g.1.imp fun _ _ z => z.2
    have gb : b.Good (fun w i => (ρ w i).natAbs ≤ 20000) := g.2.imp fun _ _ z => z.2
    have := full_op (full k a g.1 (by omega) (by omega)) (full k b g.2 (by omega) (by omega)) (combined o (small_mul (val_le false ga) (val_le false gb) (by omega) (by omega)))
    rw [Ex.val, finI]
    exact this
theorem wrap : ∀ (k : Nat) (e : Ex), e.Good (Has es ρ) → e.dep ≤ k → e.n ≤ 100 → m_wrapped_worth k [.val e.enc, .val (tdict es)] = some (.val (.int (e.val true ρ)), [none, none])
  | 0, e, _, h, _ => by cases e <;> simp only [Ex.dep] at h <;> omega
  | k + 1, .num n, _, _, _ => wrap_num
  | k + 1, .leaf w i, g, _, _ => wrap_leaf g.1 g.2.1
  | k + 1, .op o a b, g, h, hn => by
    rw [Ex.dep] at h
    rw [Ex.n] at hn
    have pa := a.n_pos
    have pb := b.n_pos
    have ga : a.Good (fun w i => (ρ w i).natAbs ≤ 20000) := g.1.imp fun _ _ z => z.2
    have gb : b.Good (fun w i => (ρ w i).natAbs ≤ 20000) := g.2.imp fun _ _ z => z.2
    exact wrap_op (wrap k a g.1 (by omega) (by omega)) (wrap k b g.2 (by omega) (by omega)) (combined o (small_mul (val_le true ga) (val_le true gb) (by omega) (by omega)))
theorem a_worth (r : Bool) : ∀ (k : Nat) (e : Ex), e.Good (Has es ρ) → e.dep ≤ k → e.n ≤ 100 → m__law_a_worth k [.val e.enc, .val (tdict es), .val (.bool r)] = some (.val (.int (e.val r ρ)), [none, none, none])
  | 0, e, _, h, _ => by cases e <;> simp only [Ex.dep] at h <;> omega
  | k + 1, .num n, _, _, _ => law_num
  | k + 1, .leaf w i, g, _, _ => law_leaf g.1 g.2.1
  | k + 1, .op o a b, g, h, hn => by
    rw [Ex.dep] at h
    rw [Ex.n] at hn
    have pa := a.n_pos
    have pb := b.n_pos
    have ga : a.Good (fun w i => (ρ w i).natAbs ≤ 20000) := g.1.imp fun _ _ z => z.2
    have gb : b.Good (fun w i => (ρ w i).natAbs ≤ 20000) := g.2.imp fun _ _ z => z.2
    exact law_op (a_worth r k a g.1 (by omega) (by omega)) (a_worth r k b g.2 (by omega) (by omega)) (small_mul (val_le r ga) (val_le r gb) (by omega) (by omega))
end
end LW

/-! rows: dicts of them, what is known -/
namespace LW
open PySem L2 DL
/-- a comprehension, item by item -/
theorem lc_gen {tg : DG} {tt : DB} {te : DF} {vs : List Nat} {st : DSt} {g : D → Option D} : ∀ (ds acc : List D), (∀ d ∈ ds, ∃ s1, tg d st = some s1 ∧ ((∃ p q y, tt s1 = some (true, p) ∧ te p = some (y, q) ∧ g d = some y ∧ wipeD q vs = st) ∨ (∃ p, tt s1 = some (false, p) ∧ g d = none ∧ wipeD p vs = st))) →
    acc.length + ds.length ≤ 16777215 → lcL tg tt te vs ds st acc = some (acc ++ ds.filterMap g, st)
  | [], acc, _, _ => by simp [lcL]
  | d :: ds, acc, h, hl => by
    simp only [List.length_cons] at hl
    obtain ⟨s1, h1, h2⟩ := h d List.mem_cons_self
    have hr := fun x m => h x (List.mem_cons_of_mem d m)
    rcases h2 with ⟨p, q, y, a, b, c, e⟩ | ⟨p, a, b, c⟩
    · have hz : acc.length < 16777216 := by omega
      have : lcL tg tt te vs (d :: ds) st acc = lcL tg tt te vs ds (wipeD q vs) (acc ++ [y]) := by
        rw [lcL]
        simp [h1, a, b, hz]
      rw [this, e, lc_gen ds (acc ++ [y]) hr (by simp only [List.length_append, List.length_cons, List.length_nil]; omega), List.filterMap_cons, c]
      simp
    · have : lcL tg tt te vs (d :: ds) st acc = lcL tg tt te vs ds (wipeD p vs) acc := by
        rw [lcL]
        simp [h1, a]
      rw [this, c, lc_gen ds acc hr (by omega), List.filterMap_cons, b]
theorem lc_map {tg : DG} {te : DF} {vs : List Nat} {st : DSt} {g : D → D} (ds : List D) (h : ∀ d ∈ ds, ∃ s1 q, tg d st = some s1 ∧ te s1 = some (g d, q) ∧ wipeD q vs = st) (hl : ds.length ≤ 16777215) : lcL tg dYes te vs ds st [] = some (ds.map g, st) := by
  rw [lc_gen (g := fun d => some (g d)) ds [] (fun d m => by
    obtain ⟨s1, q, a, b, c⟩ := h d m
    exact ⟨s1, a, .inl ⟨s1, q, g d, rfl, b, rfl, c⟩⟩) (by simpa using hl)]
  simp
abbrev Row := List (Str × Int × D)
def kD (r : Str × Int × D) : D := .tuple [.str r.1, .int r.2.1]
def pD (r : Str × Int × D) : D := .tuple [kD r, r.2.2]
def encR (R : Row) : List D := R.map pD
def encD (R : Row) : List (D × D) := R.map fun r => (kD r, r.2.2)
def keyR (r : Str × Int × D) : Str × Int := (r.1, r.2.1)
def get (R : Row) (w : Str) (i : Int) : Option D := (R.find? fun r => decide (keyR r = (w, i))).map (·.2.2)
theorem look_enc (w : Str) (i : Int) : ∀ R : Row, lookT (encD R) [.inr w, .inl i] = get R w i
  | [] => rfl
  | r :: R => by
    have ih := look_enc w i R
    unfold lookT get at ih ⊢
    have e : decide (keysOf (kD r) = some [.inr w, .inl i]) = decide (keyR r = (w, i)) := by
      rw [show keysOf (kD r) = some [.inr r.1, .inl r.2.1] from rfl]
      unfold keyR
      simp
    unfold encD
    rw [List.map_cons, List.find?_cons, List.find?_cons]
    show Option.map _ (match decide (keysOf (kD r) = some [.inr w, .inl i]) with | true => _ | false => _) = _
    rw [e]
    cases decide (keyR r = (w, i)) with
    | true => rfl
    | false => exact ih
def RowOk (R : Row) : Prop := (R.map keyR).Nodup ∧ R.length ≤ 1000
theorem put_new {R : Row} {r : Str × Int × D} (h : keyR r ∉ R.map keyR) : putT (encD R) [.inr r.1, .inl r.2.1] r.2.2 = encD (R ++ [r]) := by
  unfold putT
  rw [if_neg]
  · unfold encD
    rw [List.map_append]
    rfl
  · rw [List.any_eq_true]
    rintro ⟨p, hp, e⟩
    unfold encD at hp
    obtain ⟨q, hq, rfl⟩ := List.mem_map.mp hp
    have e' := of_decide_eq_true e
    rw [show keysOf (kD q) = some [.inr q.1, .inl q.2.1] from rfl] at e'
    refine h (List.mem_map.mpr ⟨q, hq, ?_⟩)
    unfold keyR
    simp at e'
    rw [e'.1, e'.2]
theorem nodup_mid {α : Type} {a : List α} {x : α} {b : List α} (h : (a ++ x :: b).Nodup) : x ∉ a := fun m => by
  have := (List.nodup_append.mp h).2.2 x m x List.mem_cons_self
  exact this rfl
theorem keys_kD (r : Str × Int × D) : keysOf (kD r) = some [.inr r.1, .inl r.2.1] := rfl
theorem dc_step {x0 x1 : SV} {r : Str × Int × D} {ds : List D} {acc : List (D × D)} (hl : acc.length < 16777215) :
    dcL (dTp 2 (dGC (dNm 2) (dGC (dNm 3) dGN))) dYes (dVar 2) (dVar 3) [2, 3] (pD r :: ds) [some x0, some x1, none, none] acc = dcL (dTp 2 (dGC (dNm 2) (dGC (dNm 3) dGN))) dYes (dVar 2) (dVar 3) [2, 3] ds [some x0, some x1, none, none] (putT acc [.inr r.1, .inl r.2.1] r.2.2) := by
  rw [dcL]
  simp [pD, keys_kD, hl, wipeD]
theorem dc_loop {x0 x1 : SV} : ∀ (R acc : Row), ((acc ++ R).map keyR).Nodup → acc.length + R.length ≤ 1000 →
    dcL (dTp 2 (dGC (dNm 2) (dGC (dNm 3) dGN))) dYes (dVar 2) (dVar 3) [2, 3] (encR R) [some x0, some x1, none, none] (encD acc) = some (encD (acc ++ R), [some x0, some x1, none, none])
  | [], acc, _, _ => by simp [encR, dcL]
  | r :: R, acc, hn, hl => by
    simp only [List.length_cons] at hl
    have hn' : keyR r ∉ acc.map keyR := by
      rw [List.map_append, List.map_cons] at hn
      exact nodup_mid hn
    show dcL _ _ _ _ _ (pD r :: encR R) _ _ = _
    rw [dc_step (by unfold encD; rw [List.length_map]; omega), put_new hn', dc_loop R (acc ++ [r]) (by simpa using hn) (by simp only [List.length_append, List.length_cons, List.length_nil]; omega)]
    simp
theorem held_step {x0 : SV} {r : Str × Int × D} {ds : List D} {acc : List (D × D)} (hl : acc.length < 16777215) :
    forL (dNm 2) (dThenKill (dPutV 1 (dIxV 2 (dC (.int 0))) (dIxV 2 (dC (.int 1)))) [2]) (pD r :: ds) [some x0, some (.own none (tdict acc)), none] = forL (dNm 2) (dThenKill (dPutV 1 (dIxV 2 (dC (.int 0))) (dIxV 2 (dC (.int 1)))) [2]) ds [some x0, some (.own none (tdict (putT acc [.inr r.1, .inl r.2.1] r.2.2))), none] := by
  rw [forL]
  simp [pD, keys_kD, hl, at2]
theorem held_loop {x0 : SV} : ∀ (R acc : Row), ((acc ++ R).map keyR).Nodup → acc.length + R.length ≤ 1000 →
    forL (dNm 2) (dThenKill (dPutV 1 (dIxV 2 (dC (.int 0))) (dIxV 2 (dC (.int 1)))) [2]) (encR R) [some x0, some (.own none (tdict (encD acc))), none] = some (.nx [some x0, some (.own none (tdict (encD (acc ++ R)))), none])
  | [], acc, _, _ => by simp [encR, forL]
  | r :: R, acc, hn, hl => by
    simp only [List.length_cons] at hl
    have hn' : keyR r ∉ acc.map keyR := by
      rw [List.map_append, List.map_cons] at hn
      exact nodup_mid hn
    show forL _ _ (pD r :: encR R) _ = _
    rw [held_step (by unfold encD; rw [List.length_map]; omega), put_new hn', held_loop R (acc ++ [r]) (by simpa using hn) (by simp only [List.length_append, List.length_cons, List.length_nil]; omega)]
    simp
theorem held {R : Row} (h : RowOk R) : m__law_held [.val (.tuple (encR R))] = some (.own none (tdict (encD R)), [none]) := by
  have := held_loop (x0 := .val (.tuple (encR R))) R [] (by simpa using h.1) (by simpa using h.2)
  rw [show encD ([] : Row) = [] from rfl, List.nil_append] at this
  unfold m__law_held F__law_held
  simp [this]
theorem worth_core {e r : D} {R : Row} (h : RowOk R) (g : m_full_worth 8 [.val e, .val (tdict (encD R))] = some (.val r, [none, none])) : m_worth_of [.val e, .val (.tuple (encR R))] = some (.val r, [none, none]) := by
  have := dc_loop (x0 := .val e) (x1 := .val (.tuple (encR R))) R [] (by simpa using h.1) (by simpa using h.2)
  rw [show encD ([] : Row) = [] from rfl, List.nil_append] at this
  unfold m_worth_of F_worth_of
  simp [wipeD, this, g]
theorem stored_core {e r : D} {R : Row} (h : RowOk R) (g : m_wrapped_worth 8 [.val e, .val (tdict (encD R))] = some (.val r, [none, none])) : m_stored_worth [.val e, .val (.tuple (encR R))] = some (.val r, [none, none]) := by
  have := dc_loop (x0 := .val e) (x1 := .val (.tuple (encR R))) R [] (by simpa using h.1) (by simpa using h.2)
  rw [show encD ([] : Row) = [] from rfl, List.nil_append] at this
  unfold m_stored_worth F_stored_worth
  simp [wipeD, this, g]
theorem text_core {e r : D} {R : Row} (h : RowOk R) (g : m_joined_text [.val e, .val (tdict (encD R))] = some (.val r, [none, none])) : m_text_worth [.val e, .val (.tuple (encR R))] = some (.val r, [none, none]) := by
  have := dc_loop (x0 := .val e) (x1 := .val (.tuple (encR R))) R [] (by simpa using h.1) (by simpa using h.2)
  rw [show encD ([] : Row) = [] from rfl, List.nil_append] at this
  unfold m_text_worth F_text_worth
  simp [wipeD, this, g]
/-- a row of numbers -/
def NRow (R : Row) : Prop := RowOk R ∧ ∀ r ∈ R, four r.1 ∧ ∃ v : Int, r.2.2 = .int v ∧ v.natAbs ≤ 10000
def rho (R : Row) (w : Str) (i : Int) : Int := match get R w i with
  | some (.int v) => v
  | _ => 0
def In (R : Row) (w : Str) (i : Int) : Prop := (w, i) ∈ R.map keyR
theorem get_in {R : Row} {w : Str} {i : Int} (h : In R w i) : ∃ r ∈ R, keyR r = (w, i) ∧ get R w i = some r.2.2 := by
  obtain ⟨r0, m0, e0⟩ := List.mem_map.mp h
  cases q : R.find? fun r => decide (keyR r = (w, i)) with
  | none => exact absurd (decide_eq_true e0) (List.find?_eq_none.mp q r0 m0)
  | some r =>
    have := List.find?_some q
    exact ⟨r, List.mem_of_find?_eq_some q, of_decide_eq_true this, by unfold get; rw [q]; rfl⟩
theorem has_of {R : Row} (h : NRow R) {w : Str} {i : Int} (g : In R w i) : Has (encD R) (rho R) w i := by
  obtain ⟨r, m, _, e⟩ := get_in g
  obtain ⟨_, v, hv, hb⟩ := h.2 r m
  rw [hv] at e
  have hr : rho R w i = v := by unfold rho; rw [e]
  unfold Has
  rw [look_enc, e, hr]
  exact ⟨rfl, by omega⟩
theorem worth_of {R : Row} {e : Ex} (h : NRow R) (g : e.Good (In R)) (hd : e.dep ≤ 8) (hn : e.n ≤ 100) : m_worth_of [.val e.enc, .val (.tuple (encR R))] = some (.val (.int (e.val false (rho R))), [none, none]) :=
  worth_core h.1 (full 8 e (g.imp fun _ _ z => has_of h z) hd hn)
theorem stored {R : Row} {e : Ex} (h : NRow R) (g : e.Good (In R)) (hd : e.dep ≤ 8) (hn : e.n ≤ 100) : m_stored_worth [.val e.enc, .val (.tuple (encR R))] = some (.val (.int (e.val true (rho R))), [none, none]) :=
  stored_core h.1 (wrap 8 e (g.imp fun _ _ z => has_of h z) hd hn)
theorem a_of (r : Bool) {R : Row} {e : Ex} (h : NRow R) (g : e.Good (In R)) (hd : e.dep ≤ 8) (hn : e.n ≤ 100) : m__law_a_worth 8 [.val e.enc, .val (tdict (encD R)), .val (.bool r)] = some (.val (.int (e.val r (rho R))), [none, none, none]) :=
  a_worth r 8 e (g.imp fun _ _ z => has_of h z) hd hn
/-- equal on what it names: equal -/
theorem val_congr {red : Bool} {ρ σ : Str → Int → Int} : ∀ {e : Ex}, e.Good (fun w i => ρ w i = σ w i) → e.val red ρ = e.val red σ
  | .num _, _ => rfl
  | .leaf _ _, g => g.2
  | .op o a b, g => by rw [Ex.val, Ex.val, val_congr g.1, val_congr g.2]
end LW

/-! a leaf: how often, replaced; rows with another worth, with less -/
namespace LW
open PySem L2 DL
abbrev lf (w : Str) (i : Int) : D := .tuple [.str w, .int i]
theorem lf_pur (w : Str) (i : Int) : pur (lf w i) = true ∧ (lf w i).depth ≤ 60 := ⟨rfl, by show PyData.depth _ ≤ 60; simp [lf, PyData.depth, PyData.depthAll]⟩
theorem eq_lf {w v : Str} {i j : Int} : eqD (lf w i) (lf v j) = some (decide ((w, i) = (v, j))) := by
  rw [eqD_pur (lf_pur w i).1 (lf_pur v j).1 (lf_pur w i).2 (lf_pur v j).2]
  congr 1
  rw [Bool.eq_iff_iff, decide_eq_true_eq, decide_eq_true_eq]
  simp
theorem four_ne {w : Str} (h : four w) : ¬ (Str.ofString "number" = w) := by
  rcases h with rfl | rfl | rfl | rfl <;> simp
theorem eq_num {w : Str} {n i : Int} (h : four w) : eqD (Ex.num n).enc (lf w i) = some false := by
  show eqD (lf (Str.ofString "number") n) (lf w i) = _
  rw [eq_lf]
  congr 1
  rw [decide_eq_false_iff_not]
  intro e
  exact four_ne h (congrArg Prod.fst e)
def Ex.cnt (w : Str) (i : Int) : Ex → Nat
  | .num _ => 0
  | .leaf v j => if (v, j) = (w, i) then 1 else 0
  | .op _ a b => a.cnt w i + b.cnt w i
def Ex.place (w : Str) (i : Int) : Ex → Ex → Ex
  | .num n, _ => .num n
  | .leaf v j, p => if (v, j) = (w, i) then p else .leaf v j
  | .op o a b, p => .op o (a.place w i p) (b.place w i p)
section
variable {f : Fn} {a b c l p x y : D} {t : Bool} {m n : Int}
theorem many_two (h : eqD (.tuple [a, b]) l = some t) : defSem 2 (F__law_many f) [.val (.tuple [a, b]), .val l] = some (.val (.int (if t = true then 1 else 0)), [none, none]) := by
  unfold F__law_many
  simp [h]
theorem many_three (h1 : f [.val b, .val l] = some (.val (.int m), [none, none])) (h2 : f [.val c, .val l] = some (.val (.int n), [none, none])) : defSem 2 (F__law_many f) [.val (.tuple [a, b, c]), .val l] = some (.val (.int (m + n)), [none, none]) := by
  unfold F__law_many
  simp [at3, h1, h2]
theorem placed_two (h : eqD (.tuple [a, b]) l = some t) : defSem 3 (F__law_placed f) [.val (.tuple [a, b]), .val l, .val p] = some (.val (if t = true then p else .tuple [a, b]), [none, none, none]) := by
  unfold F__law_placed
  cases t <;> simp [h]
theorem placed_three (h1 : f [.val b, .val l, .val p] = some (.val x, [none, none, none])) (h2 : f [.val c, .val l, .val p] = some (.val y, [none, none, none])) : defSem 3 (F__law_placed f) [.val (.tuple [a, b, c]), .val l, .val p] = some (.val (.tuple [a, x, y]), [none, none, none]) := by
  unfold F__law_placed
  simp [at3, h1, h2]
end
theorem many {w : Str} {i : Int} (h : four w) : ∀ (k : Nat) (e : Ex), e.dep ≤ k → m__law_many k [.val e.enc, .val (lf w i)] = some (.val (.int (e.cnt w i)), [none, none])
  | 0, e, g => by cases e <;> simp only [Ex.dep] at g <;> omega
  | k + 1, .num n, _ => by
    have := many_two (f := m__law_many k) (a := .str (Str.ofString "number")) (b := .int n) (eq_num (n := n) (i := i) h)
    exact this
  | k + 1, .leaf v j, _ => by
    have := many_two (f := m__law_many k) (a := .str v) (b := .int j) (eq_lf (w := v) (i := j) (v := w) (j := i))
    have e : (if decide ((v, j) = (w, i)) = true then (1 : Int) else 0) = ((Ex.leaf v j).cnt w i : Nat) := by
      unfold Ex.cnt
      by_cases q : (v, j) = (w, i)
      · rw [if_pos q, decide_eq_true q, if_pos rfl]; rfl
      · rw [if_neg q, decide_eq_false q, if_neg (by decide)]; rfl
    rw [e] at this
    exact this
  | k + 1, .op o a b, g => by
    rw [Ex.dep] at g
    have := many_three (a := .str o.s) (many (i := i) h k a (by omega)) (many (i := i) h k b (by omega))
    rw [Ex.cnt, Int.natCast_add]
    exact this
theorem placed {w : Str} {i : Int} {p : Ex} (h : four w) : ∀ (k : Nat) (e : Ex), e.dep ≤ k → m__law_placed k [.val e.enc, .val (lf w i), .val p.enc] = some (.val (e.place w i p).enc, [none, none, none])
  | 0, e, g => by cases e <;> simp only [Ex.dep] at g <;> omega
  | k + 1, .num n, _ => by
    have := placed_two (f := m__law_placed k) (p := p.enc) (a := .str (Str.ofString "number")) (b := .int n) (eq_num (n := n) (i := i) h)
    exact this
  | k + 1, .leaf v j, _ => by
    have := placed_two (f := m__law_placed k) (p := p.enc) (a := .str v) (b := .int j) (eq_lf (w := v) (i := j) (v := w) (j := i))
    have e : (if decide ((v, j) = (w, i)) = true then p.enc else lf v j) = ((Ex.leaf v j).place w i p).enc := by
      unfold Ex.place
      by_cases q : (v, j) = (w, i)
      · rw [if_pos q, decide_eq_true q, if_pos rfl]
      · rw [if_neg q, decide_eq_false q, if_neg (by decide)]; rfl
    rw [e] at this
    exact this
  | k + 1, .op o a b, g => by
    rw [Ex.dep] at g
    exact placed_three (a := .str o.s) (placed h k a (by omega)) (placed h k b (by omega))
theorem place_good {P : Str → Int → Prop} {w : Str} {i : Int} {p : Ex} (hp : p.Good P) : ∀ {e : Ex}, e.Good P → (e.place w i p).Good P
  | .num _, g => g
  | .leaf v j, g => by
    unfold Ex.place
    split
    · exact hp
    · exact g
  | .op o a b, g => ⟨place_good hp g.1, place_good hp g.2⟩
theorem place_n {w : Str} {i : Int} {p : Ex} (hp : p.n = 2) : ∀ (e : Ex), (e.place w i p).n = e.n + e.cnt w i
  | .num _ => rfl
  | .leaf v j => by
    unfold Ex.place Ex.cnt
    split
    · rw [hp]; rfl
    · rfl
  | .op o a b => by
    rw [Ex.place, Ex.n, place_n hp a, place_n hp b, Ex.n, Ex.cnt]
    omega
theorem place_dep {w : Str} {i : Int} {p : Ex} (hp : p.dep = 2) : ∀ (e : Ex), (e.place w i p).dep ≤ e.dep + 1
  | .num _ => by rw [Ex.place]; omega
  | .leaf v j => by
    unfold Ex.place
    split
    · rw [hp, Ex.dep]
      exact Nat.le_refl _
    · omega
  | .op o a b => by
    have := place_dep (w := w) (i := i) hp a
    have := place_dep (w := w) (i := i) hp b
    rw [Ex.place, Ex.dep, Ex.dep]
    omega
theorem place_val {red : Bool} {ρ : Str → Int → Int} {w : Str} {i : Int} {p : Ex} : ∀ (e : Ex), (e.place w i p).val red ρ = e.val red fun v j => if (v, j) = (w, i) then p.val red ρ else ρ v j
  | .num _ => rfl
  | .leaf v j => by
    unfold Ex.place
    rw [Ex.val]
    split <;> rfl
  | .op o a b => by
    rw [Ex.place, Ex.val, Ex.val, place_val a, place_val b]
theorem cnt_in {P : Str → Int → Prop} {w : Str} {i : Int} : ∀ {e : Ex}, e.Good P → e.Good fun v j => P v j ∧ 0 < e.cnt v j := by
  have key : ∀ (e e0 : Ex), (∀ v j, e.cnt v j ≤ e0.cnt v j) → e.Good P → e.Good fun v j => P v j ∧ 0 < e0.cnt v j := by
    intro e
    induction e with
    | num n => exact fun _ _ g => g
    | leaf v j =>
      intro e0 h g
      refine ⟨g.1, g.2, ?_⟩
      have := h v j
      rw [Ex.cnt, if_pos rfl] at this
      omega
    | op o a b iha ihb =>
      intro e0 h g
      exact ⟨iha e0 (fun v j => by have := h v j; rw [Ex.cnt] at this; omega) g.1, ihb e0 (fun v j => by have := h v j; rw [Ex.cnt] at this; omega) g.2⟩
  exact fun {e} g => key e e (fun _ _ => Nat.le_refl _) g
/-! rows -/
def wth (R : Row) (w : Str) (i : Int) (d : D) : Row := R.map fun r => if keyR r = (w, i) then (r.1, r.2.1, d) else r
theorem wth_keys (R : Row) (w : Str) (i : Int) (d : D) : (wth R w i d).map keyR = R.map keyR := by
  unfold wth
  rw [List.map_map]
  apply List.map_congr_left
  intro r _
  show keyR (if keyR r = (w, i) then (r.1, r.2.1, d) else r) = keyR r
  split <;> rfl
theorem wth_ok {R : Row} {w : Str} {i : Int} {d : D} (h : RowOk R) : RowOk (wth R w i d) := ⟨by rw [wth_keys]; exact h.1, by unfold wth; rw [List.length_map]; exact h.2⟩
theorem kD_eq {r : Str × Int × D} {d : D} : kD (r.1, r.2.1, d) = kD r := rfl
theorem with_item {x0 x1 x2 : SV} {r : Str × Int × D} {w : Str} {i : Int} {d : D} (e1 : x1 = .val (lf w i)) (e2 : x2 = .val d) : ∃ s1 q, dNm 3 (pD r) [some x0, some x1, some x2, none] = some s1 ∧
    dIfE (dCmpT eqD (dIxV 3 (dC (.int 0))) (dVar 1)) (dTup (dCons (dIxV 3 (dC (.int 0))) (dCons (dVar 2) dNil))) (dVar 3) s1 = some (pD (if keyR r = (w, i) then (r.1, r.2.1, d) else r), q) ∧ wipeD q [3] = [some x0, some x1, some x2, none] := by
  subst e1 e2
  refine ⟨_, [some x0, some (.val (lf w i)), some (.val d), some (.val (pD r))], rfl, ?_, rfl⟩
  have e : eqD (kD r) (lf w i) = some (decide (keyR r = (w, i))) := eq_lf
  by_cases h : keyR r = (w, i)
  · rw [if_pos h]
    simp [pD, at2, e, h, kD_eq]
  · rw [if_neg h]
    simp [pD, at2, e, h, kD_eq]
theorem with_ {R : Row} {w : Str} {i : Int} {d : D} (h : R.length ≤ 1000) : m__law_with [.val (.tuple (encR R)), .val (lf w i), .val d] = some (.val (.tuple (encR (wth R w i d))), [none, none, none]) := by
  have key := lc_map (tg := dNm 3) (te := dIfE (dCmpT eqD (dIxV 3 (dC (.int 0))) (dVar 1)) (dTup (dCons (dIxV 3 (dC (.int 0))) (dCons (dVar 2) dNil))) (dVar 3)) (vs := [3]) (st := [some (.val (.tuple (encR R))), some (.val (lf w i)), some (.val d), none])
    (g := fun x => match x with | .tuple [.tuple [.str v, .int j], y] => pD (if (v, j) = (w, i) then (v, j, d) else (v, j, y)) | x => x) (encR R) (fun x m => by
      unfold encR at m
      obtain ⟨r, _, rfl⟩ := List.mem_map.mp m
      exact with_item rfl rfl) (by unfold encR; rw [List.length_map]; omega)
  have e : (encR R).map (fun x => match x with | .tuple [.tuple [.str v, .int j], y] => pD (if (v, j) = (w, i) then (v, j, d) else (v, j, y)) | x => x) = encR (wth R w i d) := by
    unfold encR wth
    rw [List.map_map, List.map_map]
    rfl
  rw [e] at key
  unfold m__law_with F__law_with
  simp [wipeD, key]
def kept (R : Row) (e : Ex) : Row := R.filter fun r => decide (0 < e.cnt r.1 r.2.1)
theorem kept_ok {R : Row} {e : Ex} (h : NRow R) : NRow (kept R e) := by
  unfold kept
  refine ⟨⟨(List.filter_sublist.map keyR).nodup h.1.1, Nat.le_trans (List.length_filter_le _ _) h.1.2⟩, fun r m => h.2 r (List.mem_filter.mp m).1⟩
theorem kept_item {x0 x1 : SV} {r : Str × Int × D} {e : Ex} (hf : four r.1) (hd : e.dep ≤ 8) (e1 : x1 = .val e.enc) : ∃ s1, dNm 2 (pD r) [some x0, some x1, none] = some s1 ∧
    ((∃ p q y, dCmpT (ordD .Gt) (dF (dCall (m__law_many 8) [.e (dVar 1), .e (dIxV 2 (dC (.int 0)))])) (dC (.int 0)) s1 = some (true, p) ∧ dVar 2 p = some (y, q) ∧ (if 0 < e.cnt r.1 r.2.1 then some (pD r) else none) = some y ∧ wipeD q [2] = [some x0, some x1, none]) ∨
      (∃ p, dCmpT (ordD .Gt) (dF (dCall (m__law_many 8) [.e (dVar 1), .e (dIxV 2 (dC (.int 0)))])) (dC (.int 0)) s1 = some (false, p) ∧ (if 0 < e.cnt r.1 r.2.1 then some (pD r) else none) = none ∧ wipeD p [2] = [some x0, some x1, none])) := by
  subst e1
  have hm := many (i := r.2.1) hf 8 e hd
  have hm' : m__law_many 8 [.val e.enc, .val (kD r)] = some (.val (.int (e.cnt r.1 r.2.1)), [none, none]) := hm
  refine ⟨[some x0, some (.val e.enc), some (.val (pD r))], rfl, ?_⟩
  by_cases h : 0 < e.cnt r.1 r.2.1
  · refine .inl ⟨[some x0, some (.val e.enc), some (.val (pD r))], [some x0, some (.val e.enc), some (.val (pD r))], pD r, ?_, rfl, by rw [if_pos h], rfl⟩
    simp [pD, at2, hm', h]
  · refine .inr ⟨[some x0, some (.val e.enc), some (.val (pD r))], ?_, by rw [if_neg h], rfl⟩
    have h' : e.cnt r.1 r.2.1 = 0 := by omega
    simp [pD, at2, hm', h']
def kf (e : Ex) : D → Option D
  | .tuple [.tuple [.str v, .int j], y] => if 0 < e.cnt v j then some (.tuple [.tuple [.str v, .int j], y]) else none
  | _ => none
theorem kf_pD (e : Ex) (r : Str × Int × D) : kf e (pD r) = if 0 < e.cnt r.1 r.2.1 then some (pD r) else none := rfl
theorem kf_all (e : Ex) : ∀ R : Row, (encR R).filterMap (kf e) = encR (kept R e)
  | [] => rfl
  | r :: R => by
    have ih := kf_all e R
    unfold encR kept at ih ⊢
    rw [List.map_cons, List.filterMap_cons, List.filter_cons, kf_pD, ih]
    by_cases q : 0 < e.cnt r.1 r.2.1
    · rw [if_pos q, decide_eq_true q, if_pos rfl, List.map_cons]
    · rw [if_neg q, decide_eq_false q, if_neg (by decide)]
theorem kept_ {R : Row} {e : Ex} (h : NRow R) (hd : e.dep ≤ 8) : m__law_kept [.val (.tuple (encR R)), .val e.enc] = some (.val (.tuple (encR (kept R e))), [none, none]) := by
  have key := lc_gen (tg := dNm 2) (tt := dCmpT (ordD .Gt) (dF (dCall (m__law_many 8) [.e (dVar 1), .e (dIxV 2 (dC (.int 0)))])) (dC (.int 0))) (te := dVar 2) (vs := [2]) (st := [some (.val (.tuple (encR R))), some (.val e.enc), none])
    (g := kf e) (encR R) [] (fun x m => by
      unfold encR at m
      obtain ⟨r, hr, rfl⟩ := List.mem_map.mp m
      exact kept_item (h.2 r hr).1 hd rfl) (by unfold encR; rw [List.length_map]; have := h.1.2; simp; omega)
  rw [kf_all, List.nil_append] at key
  unfold m__law_kept F__law_kept
  simp [wipeD, key]
theorem get_wth {R : Row} {w : Str} {i : Int} {d : D} {v : Str} {j : Int} (h : In R v j) : get (wth R w i d) v j = if (v, j) = (w, i) then some d else get R v j := by
  unfold get wth
  rw [List.find?_map]
  have e : ((fun r => decide (keyR r = (v, j))) ∘ fun r => if keyR r = (w, i) then (r.1, r.2.1, d) else r) = fun r : Str × Int × D => decide (keyR r = (v, j)) := by
    funext r
    show decide (keyR (if keyR r = (w, i) then (r.1, r.2.1, d) else r) = (v, j)) = _
    congr 2
    split <;> rfl
  rw [e]
  obtain ⟨r, _, hk, hg⟩ := get_in h
  unfold get at hg
  cases q : R.find? fun r => decide (keyR r = (v, j)) with
  | none => rw [q] at hg; cases hg
  | some r2 =>
    have k2 : keyR r2 = (v, j) := of_decide_eq_true (List.find?_some (p := fun r => decide (keyR r = (v, j))) q)
    simp only [Option.map_some]
    rw [k2]
    by_cases z : (v, j) = (w, i)
    · rw [if_pos z, if_pos z]
    · rw [if_neg z, if_neg z]
theorem get_kept {R : Row} {e : Ex} {v : Str} {j : Int} (h : 0 < e.cnt v j) : get (kept R e) v j = get R v j := by
  unfold get kept
  rw [List.find?_filter]
  congr 2
  funext r
  by_cases z : keyR r = (v, j)
  · have z1 : r.1 = v := congrArg Prod.fst z
    have z2 : r.2.1 = j := congrArg Prod.snd z
    rw [z1, z2]
    simp [h]
  · simp [z]
theorem in_kept {R : Row} {e : Ex} {v : Str} {j : Int} (h : 0 < e.cnt v j) (g : In R v j) : In (kept R e) v j := by
  obtain ⟨r, m, k, _⟩ := get_in g
  have z1 : r.1 = v := congrArg Prod.fst k
  have z2 : r.2.1 = j := congrArg Prod.snd k
  exact List.mem_map.mpr ⟨r, List.mem_filter.mpr ⟨m, by rw [z1, z2]; exact decide_eq_true h⟩, k⟩
theorem in_wth {R : Row} {w : Str} {i : Int} {d : D} {v : Str} {j : Int} (g : In R v j) : In (wth R w i d) v j := by
  unfold In
  rw [wth_keys]
  exact g
theorem wth_n {R : Row} {w : Str} {i v : Int} (h : NRow R) (hv : v.natAbs ≤ 10000) : NRow (wth R w i (.int v)) := by
  refine ⟨wth_ok h.1, fun r m => ?_⟩
  unfold wth at m
  obtain ⟨q, hq, rfl⟩ := List.mem_map.mp m
  by_cases z : keyR q = (w, i)
  · rw [if_pos z]
    exact ⟨(h.2 q hq).1, v, rfl, hv⟩
  · rw [if_neg z]
    exact h.2 q hq
theorem kept_val {R : Row} {e : Ex} {red : Bool} (g : e.Good (In R)) : e.Good (In (kept R e)) ∧ e.val red (rho (kept R e)) = e.val red (rho R) := by
  have g2 := cnt_in (w := Str.ofString "") (i := 0) g
  exact ⟨g2.imp fun v j z => in_kept z.2 z.1, val_congr (g2.imp fun v j z => by unfold rho; rw [get_kept z.2])⟩
theorem wth_val {R : Row} {e : Ex} {red : Bool} {w : Str} {i v : Int} (g : e.Good (In R)) : e.Good (In (wth R w i (.int v))) ∧ e.val red (rho (wth R w i (.int v))) = e.val red fun a b => if (a, b) = (w, i) then v else rho R a b :=
  ⟨g.imp fun _ _ z => in_wth z, val_congr (g.imp fun a b z => by
    unfold rho
    rw [get_wth z]
    by_cases q : (a, b) = (w, i)
    · rw [if_pos q, if_pos q]
    · rw [if_neg q, if_neg q])⟩
end LW

/-! a part for a leaf -/
namespace LW
open PySem L2 DL
noncomputable abbrev rB : DS := (dSeq (dSet 9 (dCall m__law_held [.e (dIxV 1 (dVar 8))]))
    (dSeq (dSet 10 (dCall (m__law_a_worth 8) [.e (dVar 6), .e (dVar 9), .e (dCmp eqD (dVar 8) (dC (.int 1)))]))
    (dSeq (dSet 11 (dCall (m__law_a_worth 8) [.e (dVar 7), .e (dF (dCall m__law_held [.e (dIxV 1 (dVar 8))])), .e (dCmp eqD (dVar 8) (dC (.int 1)))]))
    (dSeq (dSet 12 (dV (dIfE (dCmpT eqD (dVar 8) (dC (.int 0))) (dF (dCall m_worth_of [.e (dVar 7), .e (dF (dCall m__law_kept [.e (dIxV 1 (dVar 8)), .e (dVar 7)]))])) (dF (dCall m_stored_worth [.e (dVar 7), .e (dF (dCall m__law_kept [.e (dIxV 1 (dVar 8)), .e (dVar 7)]))])))))
    (dSeq (dIf (dNot (dTest (dF (dCall (m__law_same 4) [.e (dVar 12), .e (dVar 11)]))))
    (dRet (dV (dC (.bool false))))
    dNext)
    (dSeq (dSet 13 (dCall m__law_with [.e (dIxV 1 (dVar 8)), .e (dVar 4), .e (dVar 10)]))
    (dThenKill (dIf (dAnd (dChainT (ordD .LtE) (ordD .LtE) (dUn dNeg (dC (.int 10000))) (dVar 10) (dC (.int 10000))) (dNot (dTest (dF (dCall (m__law_same 4) [.e (dIfE (dCmpT eqD (dVar 8) (dC (.int 0))) (dF (dCall m_worth_of [.e (dVar 0), .e (dVar 13)])) (dF (dCall m_stored_worth [.e (dVar 0), .e (dVar 13)]))), .e (dVar 11)])))))
    (dRet (dV (dC (.bool false))))
    dNext) [8, 9, 10, 11, 12, 13])))))))
abbrev rSt (E r0 r1 dg nm l w p wh : D) : DSt := [some (.val E), some (.val (.tuple [r0, r1])), some (.val dg), some (.own none nm), some (.val l), some (.val w), some (.val p), some (.val wh), none, none, none, none, none, none, none]
theorem same_int (n : Int) : m__law_same 4 [.val (.int n), .val (.int n)] = some (.val (.bool true), [none, none]) := same_refl 4 (.int n) rfl (by simp [PyData.depth])
section
variable {E r0 r1 dg nm l w p wh hd kp rw' : D} {ds : List D} {x due : Int}
theorem r_step0 (a1 : m__law_held [.val r0] = some (.own none hd, [none])) (a2 : m__law_a_worth 8 [.val p, .val hd, .val (.bool false)] = some (.val (.int x), [none, none, none])) (a3 : m__law_a_worth 8 [.val wh, .val hd, .val (.bool false)] = some (.val (.int due), [none, none, none]))
    (a4 : m__law_kept [.val r0, .val wh] = some (.val kp, [none, none])) (a5 : m_worth_of [.val wh, .val kp] = some (.val (.int due), [none, none])) (a6 : m__law_with [.val r0, .val l, .val (.int x)] = some (.val rw', [none, none, none]))
    (a7 : -10000 ≤ x → x ≤ 10000 → m_worth_of [.val E, .val rw'] = some (.val (.int due), [none, none])) :
    forL (dNm 8) rB (.int 0 :: ds) (rSt E r0 r1 dg nm l w p wh) = forL (dNm 8) rB ds (rSt E r0 r1 dg nm l w p wh) := by
  rw [forL]
  simp only [rB, rSt]
  by_cases c1 : -10000 ≤ x
  · by_cases c2 : x ≤ 10000
    · simp [at2, a1, a2, a3, a4, a5, a6, a7 c1 c2, c1, c2, same_int]
    · simp [at2, a1, a2, a3, a4, a5, a6, c1, c2, same_int]
  · simp [at2, a1, a2, a3, a4, a5, a6, c1, same_int]
theorem r_step1 (a1 : m__law_held [.val r1] = some (.own none hd, [none])) (a2 : m__law_a_worth 8 [.val p, .val hd, .val (.bool true)] = some (.val (.int x), [none, none, none])) (a3 : m__law_a_worth 8 [.val wh, .val hd, .val (.bool true)] = some (.val (.int due), [none, none, none]))
    (a4 : m__law_kept [.val r1, .val wh] = some (.val kp, [none, none])) (a5 : m_stored_worth [.val wh, .val kp] = some (.val (.int due), [none, none])) (a6 : m__law_with [.val r1, .val l, .val (.int x)] = some (.val rw', [none, none, none]))
    (a7 : -10000 ≤ x → x ≤ 10000 → m_stored_worth [.val E, .val rw'] = some (.val (.int due), [none, none])) :
    forL (dNm 8) rB (.int 1 :: ds) (rSt E r0 r1 dg nm l w p wh) = forL (dNm 8) rB ds (rSt E r0 r1 dg nm l w p wh) := by
  rw [forL]
  simp only [rB, rSt]
  by_cases c1 : -10000 ≤ x
  · by_cases c2 : x ≤ 10000
    · simp [at2, a1, a2, a3, a4, a5, a6, a7 c1 c2, c1, c2, same_int]
    · simp [at2, a1, a2, a3, a4, a5, a6, c1, c2, same_int]
  · simp [at2, a1, a2, a3, a4, a5, a6, c1, same_int]
end
/-- one row -/
theorem row_all (red : Bool) {R : Row} {e p : Ex} {w : Str} {i : Int} (h : NRow R) (g : e.Good (In R)) (gp : p.Good (In R)) (hw : four w) (pn : p.n = 2) (pd : p.dep = 2) (hd : e.dep ≤ 6) (hn : e.n ≤ 20) (hc : e.cnt w i ≤ 20) :
    let wh := e.place w i p
    let due := wh.val red (rho R)
    let x := p.val red (rho R)
    m__law_held [.val (.tuple (encR R))] = some (.own none (tdict (encD R)), [none]) ∧ m__law_a_worth 8 [.val p.enc, .val (tdict (encD R)), .val (.bool red)] = some (.val (.int x), [none, none, none]) ∧ m__law_a_worth 8 [.val wh.enc, .val (tdict (encD R)), .val (.bool red)] = some (.val (.int due), [none, none, none]) ∧
    m__law_kept [.val (.tuple (encR R)), .val wh.enc] = some (.val (.tuple (encR (kept R wh))), [none, none]) ∧ (if red = true then m_stored_worth else m_worth_of) [.val wh.enc, .val (.tuple (encR (kept R wh)))] = some (.val (.int due), [none, none]) ∧
    m__law_with [.val (.tuple (encR R)), .val (lf w i), .val (.int x)] = some (.val (.tuple (encR (wth R w i (.int x)))), [none, none, none]) ∧
    (-10000 ≤ x → x ≤ 10000 → (if red = true then m_stored_worth else m_worth_of) [.val e.enc, .val (.tuple (encR (wth R w i (.int x))))] = some (.val (.int due), [none, none])) := by
  intro wh due x
  have gw : wh.Good (In R) := place_good gp g
  have dw : wh.dep ≤ 8 := by
    have := place_dep (w := w) (i := i) pd e
    show (e.place w i p).dep ≤ 8
    omega
  have nw : wh.n ≤ 100 := by
    show (e.place w i p).n ≤ 100
    rw [place_n pn]; omega
  obtain ⟨k1, k2⟩ := kept_val (red := red) gw
  refine ⟨held h.1, a_of red h gp (by omega) (by omega), a_of red h gw dw nw, kept_ h dw, ?_, with_ h.1.2, fun c1 c2 => ?_⟩
  · cases red with
    | true =>
      have := stored (kept_ok h) k1 dw nw
      rw [k2] at this
      exact this
    | false =>
      have := worth_of (kept_ok h) k1 dw nw
      rw [k2] at this
      exact this
  · have hr : NRow (wth R w i (.int x)) := wth_n h (by omega)
    obtain ⟨k3, k4⟩ := wth_val (red := red) (w := w) (i := i) (v := x) g
    have e4 : e.val red (rho (wth R w i (.int x))) = due := by rw [k4]; exact (place_val e).symm
    cases red with
    | true =>
      have := stored hr k3 (by omega) (by omega)
      rw [e4] at this
      exact this
    | false =>
      have := worth_of hr k3 (by omega) (by omega)
      rw [e4] at this
      exact this
abbrev wordsL : List D := [.str (Str.ofString "plus"), .str (Str.ofString "minus"), .str (Str.ofString "times"), .str (Str.ofString "least"), .str (Str.ofString "greatest")]
theorem word_at (k : Int) (h0 : 0 ≤ k) (h1 : k < 5) : ∃ o : Op, atI wordsL k = some (.str o.s) := by
  have : k = 0 ∨ k = 1 ∨ k = 2 ∨ k = 3 ∨ k = 4 := by omega
  rcases this with rfl | rfl | rfl | rfl | rfl
  · exact ⟨.plus, rfl⟩
  · exact ⟨.minus, rfl⟩
  · exact ⟨.times, rfl⟩
  · exact ⟨.least, rfl⟩
  · exact ⟨.greatest, rfl⟩
theorem names_lc {R : Row} {st : DSt} (hs : ∃ a b c d1 d2 d3 d4 d5 d6 d7 d8 d9 d10 d11, st = [a, b, c, d1, d2, d3, d4, d5, d6, d7, d8, d9, d10, d11, none]) (h : R.length ≤ 1000) : lcL (dNm 14) dYes (dIxV 14 (dC (.int 0))) [14] (encR R) st [] = some (R.map kD, st) := by
  have := lc_map (tg := dNm 14) (te := dIxV 14 (dC (.int 0))) (vs := [14]) (st := st) (g := fun x => match x with | .tuple (y :: _) => y | x => x) (encR R) (fun x m => by
    unfold encR at m
    obtain ⟨r, _, rfl⟩ := List.mem_map.mp m
    obtain ⟨a, b, c, d1, d2, d3, d4, d5, d6, d7, d8, d9, d10, d11, rfl⟩ := hs
    refine ⟨_, [a, b, c, d1, d2, d3, d4, d5, d6, d7, d8, d9, d10, d11, some (.val (pD r))], rfl, ?_, rfl⟩
    simp [pD, at2]) (by unfold encR; rw [List.length_map]; omega)
  rw [this]
  congr 2
  unfold encR
  rw [List.map_map]
  rfl
section
variable {E r0 r1 l l3 p wh : D} {rs nm : List D} {d0 d1 d2 d3 d4 d5 N cn : Int} {w : Str} {us : List D}
theorem rep_none (h1 : itemsD r0 = some rs) (h2 : lcL (dNm 14) dYes (dIxV 14 (dC (.int 0))) [14] rs [some (.val E), some (.val (.tuple [r0, r1])), some (.val (.list (us))), none, none, none, none, none, none, none, none, none, none, none, none] [] = some ([], [some (.val E), some (.val (.tuple [r0, r1])), some (.val (.list us)), none, none, none, none, none, none, none, none, none, none, none, none])) :
    m__law_replaced_right [.val E, .val (.tuple [r0, r1]), .val (.list us)] = some (.val (.bool true), [none, none, none]) := by
  unfold m__law_replaced_right F__law_replaced_right
  simp [at2, h1, wipeD, h2]
theorem rep_core (h1 : itemsD r0 = some rs) (h2 : lcL (dNm 14) dYes (dIxV 14 (dC (.int 0))) [14] rs [some (.val E), some (.val (.tuple [r0, r1])), some (.val (.list us)), none, none, none, none, none, none, none, none, none, none, none, none] [] = some (nm, [some (.val E), some (.val (.tuple [r0, r1])), some (.val (.list us)), none, none, none, none, none, none, none, none, none, none, none, none]))
    (hN : lenD [.list nm] = some (.int N)) (hp : 0 < N) (u1 : atI us 1 = some (.int d1)) (u2 : atI us 2 = some (.int d2)) (u3 : atI us 3 = some (.int d3)) (u4 : atI us 4 = some (.int d4)) (hm : mulOk 100 d4)
    (n1 : atI nm (d1 % N) = some l) (n2 : atI wordsL (d2 % 5) = some (.str w)) (n3 : atI nm (d3 % N) = some l3) (ep : p = .tuple [.str w, l3, .tuple [.str (Str.ofString "number"), .int (100 * d4 - 300)]]) (c1 : m__law_many 8 [.val E, .val l] = some (.val (.int cn), [none, none]))
    (c2 : cn ≤ 4 → m__law_placed 8 [.val E, .val l, .val p] = some (.val wh, [none, none, none])) (c3 : cn ≤ 4 → forL (dNm 8) rB [.int 0, .int 1] (rSt E r0 r1 (.list us) (.list nm) l (.str w) p wh) = some (.nx (rSt E r0 r1 (.list us) (.list nm) l (.str w) p wh))) :
    m__law_replaced_right [.val E, .val (.tuple [r0, r1]), .val (.list us)] = some (.val (.bool true), [none, none, none]) := by
  have hr : rng1 (.int 2) = some [.int 0, .int 1] := by
    rw [v_r1, if_pos ⟨by omega, by omega⟩]
    rfl
  have hn : ¬ N = 0 := by omega
  simp only [rB, rSt] at c3
  simp only [wordsL] at n2
  subst ep
  unfold m__law_replaced_right F__law_replaced_right
  by_cases c : cn ≤ 4
  · have c' : ¬ 4 < cn := by omega
    simp [-v_r1, -v_lenL, at2, h1, wipeD, h2, hN, hp, hn, u1, u2, u3, u4, hm, n1, n2, n3, c1, c', c2 c, hr, c3 c]
  · have c' : 4 < cn := by omega
    simp [-v_r1, -v_lenL, at2, h1, wipeD, h2, hN, hp, hn, u1, u2, u3, u4, hm, n1, n2, n3, c1, c']
end
theorem replaced {R0 R1 : Row} {e : Ex} {dg : List Int} (h0 : NRow R0) (h1 : NRow R1) (hk : R1.map keyR = R0.map keyR) (g : e.Good (In R0)) (hd : e.dep ≤ 6) (hn : e.n ≤ 6) (hl : dg.length = 6) (hg : InR 10 dg) :
    m__law_replaced_right [.val e.enc, .val (.tuple [.tuple (encR R0), .tuple (encR R1)]), .val (.list (dg.map .int))] = some (.val (.bool true), [none, none, none]) := by
  have g1 : e.Good (In R1) := g.imp fun a b z => by unfold In at z ⊢; rw [hk]; exact z
  obtain ⟨d0, d1, d2, d3, d4, d5, rfl⟩ : ∃ d0 d1 d2 d3 d4 d5, dg = [d0, d1, d2, d3, d4, d5] := by
    match dg, hl with
    | [d0, d1, d2, d3, d4, d5], _ => exact ⟨d0, d1, d2, d3, d4, d5, rfl⟩
  have lc := names_lc (R := R0) (st := [some (.val e.enc), some (.val (.tuple [.tuple (encR R0), .tuple (encR R1)])), some (.val (.list ([d0, d1, d2, d3, d4, d5].map .int))), none, none, none, none, none, none, none, none, none, none, none, none]) ⟨_, _, _, _, _, _, _, _, _, _, _, _, _, _, rfl⟩ h0.1.2
  by_cases hz : R0 = []
  · subst hz
    exact rep_none rfl lc
  · have hp : (0 : Int) < ((R0.map kD).length : Int) := by
      have := List.length_pos_iff.mpr hz
      rw [List.length_map]; omega
    obtain ⟨l, n1, m1⟩ := atI_in (R0.map kD) (d1 % ((R0.map kD).length : Int)) (Int.emod_nonneg _ (by omega)) (Int.emod_lt_of_pos _ hp)
    obtain ⟨l3, n3, m3⟩ := atI_in (R0.map kD) (d3 % ((R0.map kD).length : Int)) (Int.emod_nonneg _ (by omega)) (Int.emod_lt_of_pos _ hp)
    obtain ⟨r1, q1, rfl⟩ := List.mem_map.mp m1
    obtain ⟨r3, q3, rfl⟩ := List.mem_map.mp m3
    obtain ⟨o, n2⟩ := word_at (d2 % 5) (Int.emod_nonneg _ (by omega)) (Int.emod_lt_of_pos _ (by omega))
    have b4 := hg d4 (by simp)
    have f1 := (h0.2 r1 q1).1
    have f3 := (h0.2 r3 q3).1
    let p : Ex := .op o (.leaf r3.1 r3.2.1) (.num (100 * d4 - 300))
    have gp : p.Good (In R0) := ⟨⟨f3, List.mem_map.mpr ⟨r3, q3, rfl⟩⟩, by show (100 * d4 - 300 : Int).natAbs ≤ 20000; omega⟩
    have gp1 : p.Good (In R1) := gp.imp fun a b z => by unfold In at z ⊢; rw [hk]; exact z
    have cm := many (i := r1.2.1) f1 8 e (by omega)
    refine rep_core (us := [d0, d1, d2, d3, d4, d5].map .int) (N := (R0.map kD).length) (d1 := d1) (d2 := d2) (d3 := d3) (d4 := d4) (w := o.s) (p := p.enc) (wh := (e.place r1.1 r1.2.1 p).enc) (rs := encR R0) (nm := R0.map kD) (cn := e.cnt r1.1 r1.2.1) rfl lc v_lenL hp rfl rfl rfl rfl (mulOk_l ⟨by omega, by omega⟩) n1 n2 n3 rfl cm (fun c => placed f1 8 e (by omega)) fun c => ?_
    have A := row_all false h0 g gp f1 rfl rfl hd (by omega) (i := r1.2.1) (by omega)
    have B := row_all true h1 g1 gp1 f1 rfl rfl hd (by omega) (i := r1.2.1) (by omega)
    obtain ⟨a1, a2, a3, a4, a5, a6, a7⟩ := A
    obtain ⟨b1, b2, b3, b4', b5, b6, b7⟩ := B
    refine (r_step0 (l := kD r1) a1 a2 a3 a4 a5 a6 a7).trans ?_
    exact (r_step1 (l := kD r1) b1 b2 b3 b4' b5 b6 b7).trans rfl
end LW

/-! texts that are joined -/
namespace LW
open PySem L2 DL
theorem sIx_nat (n d k : Nat) : HT.sIx n d (some (k : Int)) = min k n := HT.sIx_nat n d k
theorem cut_to {α : Type} (xs : List α) (k : Nat) (h : k ≤ xs.length) : cutD xs none (some (k : Int)) = xs.take k := by
  unfold cutD
  rw [sIx_nat, HT.sIx_none, Nat.min_eq_left h, List.drop_zero, Nat.sub_zero]
theorem cut_from {α : Type} (xs : List α) (k : Nat) (h : k ≤ xs.length) : cutD xs (some (k : Int)) none = xs.drop k := by
  unfold cutD
  rw [sIx_nat, HT.sIx_none, Nat.min_eq_left h, List.take_of_length_le (by rw [List.length_drop]; omega)]
theorem cut_at {α : Type} (xs : List α) (k : Nat) (h : k < xs.length) : cutD xs (some (k : Int)) (some ((k : Int) + 1)) = [xs[k]] := by
  unfold cutD
  rw [show ((k : Int) + 1) = ((k + 1 : Nat) : Int) by omega, sIx_nat, sIx_nat, Nat.min_eq_left (by omega), Nat.min_eq_left (by omega), List.drop_eq_getElem_cons h]
  rw [show k + 1 - k = 1 by omega]
  rfl
theorem cut_many {α : Type} (xs : List α) (k : Nat) (h : xs.length ≤ k) : cutD xs none (some (k : Int)) = xs := by
  unfold cutD
  rw [sIx_nat, HT.sIx_none, Nat.min_eq_right h, List.drop_zero, Nat.sub_zero, List.take_length]
theorem empty_len : (Str.ofString "").length = 0 := by decide +kernel
theorem empty_cps : (Str.ofString "").cps.toList = [] := by decide +kernel
/-- texts, one behind another -/
def cat (ys : List Str) : Str := S' (ys.map fun y => y.cps.toList).flatten
theorem join_cat : ∀ ys : List Str, (Str.join (Str.ofString "") ys).cps.toList = (ys.map fun y => y.cps.toList).flatten
  | [] => by simp [Str.join]; rfl
  | [y] => by simp [Str.join]
  | y :: z :: ys => by
    have := join_cat (z :: ys)
    show (y ++ Str.ofString "" ++ Str.join (Str.ofString "") (z :: ys)).cps.toList = _
    rw [cps_app, cps_app, this, empty_cps]
    simp
theorem txjoin (ys : List Str) : Txt.join (Str.ofString "") ys = cat ys := by
  have : Txt.join (Str.ofString "") ys = Str.join (Str.ofString "") ys := StrLaws.glued_eq_join _ _
  rw [this, ← S'_of (Str.join (Str.ofString "") ys), join_cat]
  rfl
theorem strs_map : ∀ ys : List Str, strsOf (ys.map PyData.str) = some ys
  | [] => rfl
  | y :: ys => by rw [List.map_cons, strsOf, strs_map ys]; rfl
theorem sum_le {n : Nat} : ∀ {ys : List Str}, (∀ y ∈ ys, Tx n y) → (ys.map (·.length)).sum ≤ ys.length * n ∧ ((ys.map fun y => y.cps.toList).flatten).length ≤ ys.length * n
  | [], _ => ⟨Nat.zero_le _, Nat.zero_le _⟩
  | y :: ys, h => by
    obtain ⟨a, b⟩ := sum_le (ys := ys) fun z m => h z (List.mem_cons_of_mem _ m)
    have := (h y List.mem_cons_self).1
    have e := cps_len y
    simp only [List.map_cons, List.sum_cons, List.flatten_cons, List.length_append, List.length_cons, Nat.add_mul, e]
    omega
theorem cat_tx {n : Nat} {ys : List Str} (h : ∀ y ∈ ys, Tx n y) : Tx (ys.length * n) (cat ys) := by
  refine ⟨by unfold cat; rw [S'_len]; exact (sum_le h).2, fun c hc => ?_⟩
  unfold cat at hc
  rw [S'_cps, List.mem_flatten] at hc
  obtain ⟨l, hl, hc⟩ := hc
  obtain ⟨y, hy, rfl⟩ := List.mem_map.mp hl
  exact (h y hy).2 c hc
theorem join_ok {n : Nat} {ys : List Str} (h : ∀ y ∈ ys, Tx n y) (hn : ys.length * n ≤ 100000) : joinD (.str (Str.ofString "")) (.list (ys.map .str)) = some (.str (cat ys)) := by
  unfold joinD
  show (strsOf _).bind _ = _
  rw [strs_map]
  show (if _ then _ else _) = _
  rw [txjoin, if_pos]
  refine ⟨?_, (cat_tx h).ok (by omega)⟩
  have := (sum_le h).1
  rw [empty_len]
  omega
theorem cat_cat (a p b : List Str) : cat (a ++ [cat p] ++ b) = cat (a ++ p ++ b) := by
  unfold cat
  simp [S'_cps]
/-! atoms -/
inductive Am where
  | side (w : Str)
  | text (t : Str)
def Am.enc : Am → D
  | .side w => lf w 0
  | .text t => .tuple [.str (Str.ofString "text"), .str t]
def Am.txt (τ : Str → Str) : Am → Str
  | .side w => τ w
  | .text t => t
def Am.Good (P : Str → Prop) : Am → Prop
  | .side w => four w ∧ P w
  | .text t => Tx 10 t
theorem Am.pur (a : Am) : pur a.enc = true := by cases a <;> rfl
theorem Am.depth (a : Am) : a.enc.depth ≤ 1 := by cases a <;> simp [Am.enc, lf, PyData.depth, PyData.depthAll]
theorem ams_pur (as : List Am) : purL (as.map Am.enc) = true := purL_of fun x m => by
  obtain ⟨a, _, rfl⟩ := List.mem_map.mp m
  exact a.pur
theorem ams_depth (as : List Am) : PyData.depthAll (as.map Am.enc) ≤ 59 := depthAll_of fun x m => by
  obtain ⟨a, _, rfl⟩ := List.mem_map.mp m
  have := a.depth
  omega
theorem Am.inj {a b : Am} (ha : ∀ w, a = .side w → four w) (hb : ∀ w, b = .side w → four w) (h : a.enc = b.enc) : a = b := by
  cases a with
  | side w =>
    cases b with
    | side v => simp [Am.enc, lf] at h; rw [h]
    | text t => simp [Am.enc, lf] at h
  | text s =>
    cases b with
    | side v => simp [Am.enc, lf] at h
    | text t => simp [Am.enc] at h; rw [h]
def tau (S : Row) (w : Str) : Str := match get S w 0 with
  | some (.str t) => t
  | _ => Str.ofString ""
/-- a row of texts -/
def SRow (S : Row) : Prop := RowOk S ∧ ∀ r ∈ S, four r.1 ∧ r.2.1 = 0 ∧ ∃ t, r.2.2 = .str t ∧ Tx 8 t
theorem tau_of {S : Row} (h : SRow S) {w : Str} (g : In S w 0) : get S w 0 = some (.str (tau S w)) ∧ Tx 8 (tau S w) := by
  obtain ⟨r, m, _, e⟩ := get_in g
  obtain ⟨_, _, t, ht, hx⟩ := h.2 r m
  rw [ht] at e
  have : tau S w = t := by unfold tau; rw [e]
  rw [this, e]
  exact ⟨rfl, hx⟩
abbrev jE : DF := dIfE (dCmpT eqD (dIxV 2 (dC (.int 0))) (dC (.str (Str.ofString "text")))) (dIxV 2 (dC (.int 1))) (dGetV 1 (dVar 2))
theorem join_item {S : Row} (h : SRow S) {a : Am} (g : a.Good fun w => In S w 0) (x0 : SV) : ∃ s1 q, dNm 2 a.enc [some x0, some (.val (tdict (encD S))), none] = some s1 ∧ jE s1 = some (.str (a.txt (tau S)), q) ∧ wipeD q [2] = [some x0, some (.val (tdict (encD S))), none] := by
  refine ⟨_, [some x0, some (.val (tdict (encD S))), some (.val a.enc)], rfl, ?_, rfl⟩
  cases a with
  | side w =>
    have hg := (tau_of h g.2).1
    rw [← look_enc] at hg
    rcases g.1 with rfl | rfl | rfl | rfl <;> simp [jE, Am.enc, at2, key_leaf, hg, Am.txt]
  | text t => simp [jE, Am.enc, at2, Am.txt]
theorem join_lc {S : Row} (h : SRow S) (as : List Am) (g : ∀ a ∈ as, a.Good fun w => In S w 0) (x0 : SV) (hl : as.length ≤ 1000) : lcL (dNm 2) dYes jE [2] (as.map Am.enc) [some x0, some (.val (tdict (encD S))), none] [] = some ((as.map (Am.txt (tau S))).map .str, [some x0, some (.val (tdict (encD S))), none]) := by
  have run : ∀ (as : List Am) (acc : List D), (∀ a ∈ as, a.Good fun w => In S w 0) → acc.length + as.length ≤ 1000 → lcL (dNm 2) dYes jE [2] (as.map Am.enc) [some x0, some (.val (tdict (encD S))), none] acc = some (acc ++ (as.map (Am.txt (tau S))).map .str, [some x0, some (.val (tdict (encD S))), none]) := by
    intro as
    induction as with
    | nil => intro acc _ _; simp [lcL]
    | cons a as ih =>
      intro acc g hl
      simp only [List.length_cons] at hl
      obtain ⟨s1, q, e1, e2, e3⟩ := join_item h (g a List.mem_cons_self) x0
      have hz : acc.length < 16777216 := by omega
      have : lcL (dNm 2) dYes jE [2] ((a :: as).map Am.enc) [some x0, some (.val (tdict (encD S))), none] acc = lcL (dNm 2) dYes jE [2] (as.map Am.enc) (wipeD q [2]) (acc ++ [.str (a.txt (tau S))]) := by
        rw [List.map_cons, lcL, e1]
        simp [-e_ifE, e2, hz]
      rw [this, e3, ih _ (fun b m => g b (List.mem_cons_of_mem _ m)) (by simp only [List.length_append, List.length_cons, List.length_nil]; omega)]
      simp
  have := run as [] g (by simpa using hl)
  simpa using this
theorem txts_tx {S : Row} (h : SRow S) {as : List Am} (g : ∀ a ∈ as, a.Good fun w => In S w 0) : ∀ y ∈ as.map (Am.txt (tau S)), Tx 10 y := fun y m => by
  obtain ⟨a, ma, rfl⟩ := List.mem_map.mp m
  have ga := g a ma
  cases a with
  | side w => exact (tau_of h ga.2).2.mono (by omega)
  | text t => exact ga
theorem joined {S : Row} (h : SRow S) {as : List Am} (g : ∀ a ∈ as, a.Good fun w => In S w 0) (hl : as.length ≤ 100) : m_joined_text [.val (.tuple (as.map Am.enc)), .val (tdict (encD S))] = some (.val (.str (cat (as.map (Am.txt (tau S))))), [none, none]) := by
  have lc := join_lc h as g (.val (.tuple (as.map Am.enc))) (by omega)
  have jn := join_ok (txts_tx h g) (by rw [List.length_map]; omega)
  simp only [jE] at lc
  unfold m_joined_text F_joined_text
  simp [-List.map_map, wipeD, lc, jn]
theorem a_joined {S : Row} (h : SRow S) {as : List Am} (g : ∀ a ∈ as, a.Good fun w => In S w 0) (hl : as.length ≤ 100) : m__law_a_joined [.val (.tuple (as.map Am.enc)), .val (tdict (encD S))] = some (.val (.str (cat (as.map (Am.txt (tau S))))), [none, none]) := joined h g hl
theorem text_worth {S : Row} (h : SRow S) {as : List Am} (g : ∀ a ∈ as, a.Good fun w => In S w 0) (hl : as.length ≤ 100) : m_text_worth [.val (.tuple (as.map Am.enc)), .val (.tuple (encR S))] = some (.val (.str (cat (as.map (Am.txt (tau S))))), [none, none]) :=
  text_core h.1 (joined h g hl)
theorem same_str (t : Str) : m__law_same 4 [.val (.str t), .val (.str t)] = some (.val (.bool true), [none, none]) := same_refl 4 (.str t) rfl (by simp [PyData.depth])
end LW

/-! one atom replaced by two -/
namespace LW
open PySem L2 DL
@[simp] theorem v_neS {u v : Str} : neD (.str u) (.str v) = some (!decide (u = v)) := by
  unfold neD
  rw [if_pos ⟨c_str, c_str⟩]
  unfold PyData.eqv
  simp [beq_dec]
noncomputable abbrev jB : DS := (dSeq (dSet 5 (dV (dBin dAdd (dSlV 2 (dPt (dVar 3)) (dPt (dBin dAdd (dVar 3) (dC (.int 1))))) (dTup (dCons (dTup (dCons (dC (.str (Str.ofString "text"))) (dCons (dIx (dF (dLst (dCons (dC (.str (Str.ofString "<"))) (dCons (dC (.str (Str.ofString "~!"))) dNil)))) (dVar 4)) dNil))) dNil)))))
    (dSeq (dSet 6 (dV (dBin dAdd (dBin dAdd (dSlV 2 dNoP (dPt (dVar 3))) (dVar 5)) (dSlV 2 (dPt (dBin dAdd (dVar 3) (dC (.int 1)))) dNoP))))
    (dSeq (dSet 7 (dV (dCallB tupC (dCons (dF (dLc (itD (dVar 1)) (dNm 10) (dCmpTV inD (dIxV 10 (dC (.int 0))) 2) (dVar 10) [10])) dNil))))
    (dSeq (dSet 8 (dCall m__law_a_joined [.e (dVar 6), .e (dF (dCall m__law_held [.e (dVar 1)]))]))
    (dSeq (dIf (dNot (dTest (dF (dCall (m__law_same 4) [.e (dF (dCall m_text_worth [.e (dVar 6), .e (dVar 7)])), .e (dVar 8)]))))
    (dRet (dV (dC (.bool false))))
    dNext)
    (dSeq (dSet 9 (dCall m__law_a_joined [.e (dVar 5), .e (dF (dCall m__law_held [.e (dVar 1)]))]))
    (dThenKill (dIf (dAnd (dCmpT neD (dIx (dIxV 2 (dVar 3)) (dC (.int 0))) (dC (.str (Str.ofString "text")))) (dAnd (dCmpT eqD (dBin cntD (dVar 2) (dIxV 2 (dVar 3))) (dC (.int 1))) (dCmpT (ordD .LtE) (dLenV 9) (dC (.int 8)))))
    (dIf (dNot (dTest (dF (dCall (m__law_same 4) [.e (dF (dCall m_text_worth [.e (dVar 2), .e (dF (dCall m__law_with [.e (dVar 7), .e (dIxV 2 (dVar 3)), .e (dVar 9)]))])), .e (dVar 8)]))))
    (dRet (dV (dC (.bool false))))
    dNext)
    dNext) [4, 5, 6, 7, 8, 9])))))))
abbrev jSt (as st : D) (fw : List D) (k : Int) : DSt := [some (.val as), some (.val st), some (.val (.tuple fw)), some (.val (.int k)), none, none, none, none, none, none, none]
abbrev jT : DB := dCmpTV inD (dIxV 10 (dC (.int 0))) 2
section
variable {as hd rw' y : D} {fw A B ss row ds : List D} {k pl n : Int} {t due worth w : Str}
theorem j_step (c1 : cutD fw (some k) (some (k + 1)) = [.tuple [.str w, y]]) (c2 : cutD fw none (some k) = A) (c3 : cutD fw (some (k + 1)) none = B) (hA : A.length + 2 ≤ 16777216) (hB : A.length + 2 + B.length ≤ 16777216) (x : atI ([.str (Str.ofString "<"), .str (Str.ofString "~!")] : List D) pl = some (.str t))
    (l1 : lcL (dNm 10) jT (dVar 10) [10] ss [some (.val as), some (.val (.tuple ss)), some (.val (.tuple fw)), some (.val (.int k)), some (.val (.int pl)), some (.val (.tuple [.tuple [.str w, y], .tuple [.str (Str.ofString "text"), .str t]])), some (.val (.tuple (A ++ [.tuple [.str w, y], .tuple [.str (Str.ofString "text"), .str t]] ++ B))), none, none, none, none] []
      = some (row, [some (.val as), some (.val (.tuple ss)), some (.val (.tuple fw)), some (.val (.int k)), some (.val (.int pl)), some (.val (.tuple [.tuple [.str w, y], .tuple [.str (Str.ofString "text"), .str t]])), some (.val (.tuple (A ++ [.tuple [.str w, y], .tuple [.str (Str.ofString "text"), .str t]] ++ B))), none, none, none, none]))
    (h1 : m__law_held [.val (.tuple ss)] = some (.own none hd, [none])) (h2 : m__law_a_joined [.val (.tuple (A ++ [.tuple [.str w, y], .tuple [.str (Str.ofString "text"), .str t]] ++ B)), .val hd] = some (.val (.str due), [none, none]))
    (h3 : m_text_worth [.val (.tuple (A ++ [.tuple [.str w, y], .tuple [.str (Str.ofString "text"), .str t]] ++ B)), .val (.tuple row)] = some (.val (.str due), [none, none])) (h4 : m__law_a_joined [.val (.tuple [.tuple [.str w, y], .tuple [.str (Str.ofString "text"), .str t]]), .val hd] = some (.val (.str worth), [none, none]))
    (i1 : atI fw k = some (.tuple [.str w, y])) (cn : cntD (.tuple fw) (.tuple [.str w, y]) = some (.int n))
    (fin : ¬ w = Str.ofString "text" → n = 1 → worth.length ≤ 8 → m__law_with [.val (.tuple row), .val (.tuple [.str w, y]), .val (.str worth)] = some (.val rw', [none, none, none]) ∧ m_text_worth [.val (.tuple fw), .val rw'] = some (.val (.str due), [none, none])) :
    forL (dNm 4) jB (.int pl :: ds) (jSt as (.tuple ss) fw k) = forL (dNm 4) jB ds (jSt as (.tuple ss) fw k) := by
  rw [forL]
  simp only [jT, List.append_assoc, List.cons_append, List.nil_append] at l1 h2 h3
  simp only [jB, jSt]
  by_cases w1 : w = Str.ofString "text"
  · clear fin
    have hw : neD (.str w) (.str (Str.ofString "text")) = some false := by rw [v_neS, w1]; simp
    clear w1
    simp [-v_neS, -v_cnt, c1, c2, c3, hA, hB, x, wipeD, l1, h1, h2, h3, h4, i1, at2, hw, same_str]
  · by_cases w2 : n = 1
    · by_cases w3 : worth.length ≤ 8
      · obtain ⟨f1, f2⟩ := fin w1 w2 w3
        have w3' : (worth.length : Int) ≤ 8 := by omega
        simp [-v_cnt, c1, c2, c3, hA, hB, x, wipeD, l1, h1, h2, h3, h4, i1, at2, w1, cn, w2, w3', f1, f2, same_str]
      · have w3' : ¬ (worth.length : Int) ≤ 8 := by omega
        simp [-v_cnt, c1, c2, c3, hA, hB, x, wipeD, l1, h1, h2, h3, h4, i1, at2, w1, cn, w2, w3', same_str]
    · simp [-v_cnt, c1, c2, c3, hA, hB, x, wipeD, l1, h1, h2, h3, h4, i1, at2, w1, cn, w2, same_str]
end
/-- the texts that few names -/
noncomputable def fewR (S : Row) (few : List Am) : Row := S.filter fun r => decide (kD r ∈ few.map Am.enc)
theorem kD_pur (r : Str × Int × D) : pur (kD r) = true ∧ (kD r).depth ≤ 60 := lf_pur r.1 r.2.1
noncomputable def ff (few : List Am) : D → Option D
  | .tuple [.tuple [.str v, .int j], y] => if lf v j ∈ few.map Am.enc then some (.tuple [.tuple [.str v, .int j], y]) else none
  | _ => none
theorem ff_pD (few : List Am) (r : Str × Int × D) : ff few (pD r) = if kD r ∈ few.map Am.enc then some (pD r) else none := rfl
theorem ff_all (few : List Am) : ∀ R : Row, (encR R).filterMap (ff few) = encR (fewR R few)
  | [] => rfl
  | r :: R => by
    have ih := ff_all few R
    unfold encR fewR at ih ⊢
    rw [List.map_cons, List.filterMap_cons, List.filter_cons, ff_pD, ih]
    by_cases q : kD r ∈ few.map Am.enc
    · rw [if_pos q, decide_eq_true q, if_pos rfl, List.map_cons]
    · rw [if_neg q, decide_eq_false q, if_neg (by decide)]
theorem few_lc {S : Row} {few : List Am} {a0 a1 a3 a4 a5 a6 : Option SV} (h : S.length ≤ 1000) : lcL (dNm 10) jT (dVar 10) [10] (encR S) [a0, a1, some (.val (.tuple (few.map Am.enc))), a3, a4, a5, a6, none, none, none, none] [] = some (encR (fewR S few), [a0, a1, some (.val (.tuple (few.map Am.enc))), a3, a4, a5, a6, none, none, none, none]) := by
  have key := lc_gen (tg := dNm 10) (tt := jT) (te := dVar 10) (vs := [10]) (st := [a0, a1, some (.val (.tuple (few.map Am.enc))), a3, a4, a5, a6, none, none, none, none]) (g := ff few) (encR S) [] (fun x m => by
    unfold encR at m
    obtain ⟨r, hr, rfl⟩ := List.mem_map.mp m
    have e : inD (kD r) (.tuple (few.map Am.enc)) = some (decide (kD r ∈ few.map Am.enc)) := inT_pur (kD_pur r).1 (ams_pur few) (kD_pur r).2 (ams_depth few)
    refine ⟨[a0, a1, some (.val (.tuple (few.map Am.enc))), a3, a4, a5, a6, none, none, none, some (.val (pD r))], rfl, ?_⟩
    by_cases q : kD r ∈ few.map Am.enc
    · rw [decide_eq_true q] at e
      refine .inl ⟨[a0, a1, some (.val (.tuple (few.map Am.enc))), a3, a4, a5, a6, none, none, none, some (.val (pD r))], [a0, a1, some (.val (.tuple (few.map Am.enc))), a3, a4, a5, a6, none, none, none, some (.val (pD r))], pD r, ?_, rfl, by rw [ff_pD, if_pos q], rfl⟩
      simp [-List.mem_map, jT, pD, at2, e]
    · rw [decide_eq_false q] at e
      refine .inr ⟨[a0, a1, some (.val (.tuple (few.map Am.enc))), a3, a4, a5, a6, none, none, none, some (.val (pD r))], ?_, by rw [ff_pD, if_neg q], rfl⟩
      simp [-List.mem_map, jT, pD, at2, e]) (by unfold encR; rw [List.length_map]; simp; omega)
  rw [ff_all, List.nil_append] at key
  exact key
theorem few_ok {S : Row} {few : List Am} (h : SRow S) : SRow (fewR S few) := by
  unfold fewR
  exact ⟨⟨(List.filter_sublist.map keyR).nodup h.1.1, Nat.le_trans (List.length_filter_le _ _) h.1.2⟩, fun r m => h.2 r (List.mem_filter.mp m).1⟩
theorem get_few {S : Row} {few : List Am} {v : Str} (h : Am.side v ∈ few) : get (fewR S few) v 0 = get S v 0 := by
  unfold get fewR
  rw [List.find?_filter]
  congr 2
  funext r
  by_cases z : keyR r = (v, 0)
  · have z1 : r.1 = v := congrArg Prod.fst z
    have z2 : r.2.1 = 0 := congrArg Prod.snd z
    have : kD r ∈ few.map Am.enc := List.mem_map.mpr ⟨.side v, h, by show lf v 0 = _; unfold kD; rw [z1, z2]⟩
    rw [decide_eq_true this]
    simp
  · simp [z]
theorem in_few {S : Row} {few : List Am} {v : Str} (h : Am.side v ∈ few) (g : In S v 0) : In (fewR S few) v 0 := by
  obtain ⟨r, m, k, _⟩ := get_in g
  have z1 : r.1 = v := congrArg Prod.fst k
  have z2 : r.2.1 = 0 := congrArg Prod.snd k
  exact List.mem_map.mpr ⟨r, List.mem_filter.mpr ⟨m, decide_eq_true (List.mem_map.mpr ⟨.side v, h, by show lf v 0 = _; unfold kD; rw [z1, z2]⟩)⟩, k⟩
theorem tau_few {S : Row} {few : List Am} {v : Str} (h : Am.side v ∈ few) : tau (fewR S few) v = tau S v := by
  unfold tau
  rw [get_few h]
theorem wth_s {S : Row} {w : Str} {t : Str} (h : SRow S) (ht : Tx 8 t) : SRow (wth S w 0 (.str t)) := by
  refine ⟨wth_ok h.1, fun r m => ?_⟩
  unfold wth at m
  obtain ⟨q, hq, rfl⟩ := List.mem_map.mp m
  obtain ⟨a, b, c⟩ := h.2 q hq
  by_cases z : keyR q = (w, 0)
  · rw [if_pos z]
    exact ⟨a, b, t, rfl, ht⟩
  · rw [if_neg z]
    exact ⟨a, b, c⟩
theorem tau_wth {S : Row} {w v t : Str} (g : In S v 0) : tau (wth S w 0 (.str t)) v = if v = w then t else tau S v := by
  unfold tau
  rw [get_wth g]
  by_cases z : v = w
  · rw [if_pos (by rw [z]), if_pos z]
  · rw [if_neg (by simp [z]), if_neg z]
theorem txt_congr {σ τ : Str → Str} {as : List Am} (h : ∀ w, Am.side w ∈ as → σ w = τ w) : as.map (Am.txt σ) = as.map (Am.txt τ) := List.map_congr_left fun a m => by
  cases a with
  | side w => exact h w m
  | text t => rfl
theorem tx_lit {n : Nat} {t : Str} (h : t.length ≤ n) (g : (t.cps.toList.all fun c => decide (32 ≤ c) && decide (c ≤ 126)) = true) : Tx n t := ⟨h, fun c m => by
  have := List.all_eq_true.mp g c m
  simp only [Bool.and_eq_true, decide_eq_true_eq] at this
  exact this⟩
/-- one of the replacements -/
theorem one_place {S : Row} {as A B : List Am} {a : Am} {k : Nat} {pl : Int} {ds : List D} {x0 : D} (h : SRow S) (e : as = A ++ a :: B) (hk : A.length = k) (g : ∀ b ∈ as, b.Good fun w => In S w 0) (hl : as.length ≤ 10) (h0 : 0 ≤ pl) (h1 : pl < 2) :
    forL (dNm 4) jB (.int pl :: ds) (jSt x0 (.tuple (encR S)) (as.map Am.enc) k) = forL (dNm 4) jB ds (jSt x0 (.tuple (encR S)) (as.map Am.enc) k) := by
  have hlen : as.length = A.length + 1 + B.length := by rw [e]; simp; omega
  have ek : (as.map Am.enc)[k]? = some a.enc := by
    rw [List.getElem?_map, e, List.getElem?_append_right (by omega), hk, Nat.sub_self]
    rfl
  have ek2 : (as.map Am.enc)[k]'(by rw [List.length_map]; omega) = a.enc := by
    rw [List.getElem?_eq_getElem (by rw [List.length_map]; omega)] at ek
    exact Option.some.inj ek
  have c1 : cutD (as.map Am.enc) (some (k : Int)) (some ((k : Int) + 1)) = [a.enc] := by
    rw [cut_at _ k (by rw [List.length_map]; omega), ek2]
  have c2 : cutD (as.map Am.enc) none (some (k : Int)) = A.map Am.enc := by
    rw [cut_to _ k (by rw [List.length_map]; omega), e, List.map_append, List.take_append_of_le_length (by rw [List.length_map]; omega), List.take_of_length_le (by rw [List.length_map]; omega)]
  have c3 : cutD (as.map Am.enc) (some ((k : Int) + 1)) none = B.map Am.enc := by
    rw [show ((k : Int) + 1) = ((k + 1 : Nat) : Int) by omega, cut_from _ (k + 1) (by rw [List.length_map]; omega), e, List.map_append, List.map_cons, List.drop_append, List.drop_of_length_le (by rw [List.length_map]; omega), List.length_map, hk, show k + 1 - k = 1 by omega]
    rfl
  have i1 : atI (as.map Am.enc) (k : Int) = some a.enc := (atI_nat _ _).trans ek
  obtain ⟨t, x, ht⟩ : ∃ t : Str, atI ([.str (Str.ofString "<"), .str (Str.ofString "~!")] : List D) pl = some (.str t) ∧ Tx 10 t := by
    have : pl = 0 ∨ pl = 1 := by omega
    rcases this with rfl | rfl
    · exact ⟨_, rfl, tx_lit (by decide +kernel) (by decide +kernel)⟩
    · exact ⟨_, rfl, tx_lit (by decide +kernel) (by decide +kernel)⟩
  have ga : a.Good fun w => In S w 0 := g a (by rw [e]; simp)
  have gA : ∀ b ∈ A, b.Good fun w => In S w 0 := fun b m => g b (by rw [e]; simp [m])
  have gB : ∀ b ∈ B, b.Good fun w => In S w 0 := fun b m => g b (by rw [e]; simp [m])
  have gw : ∀ b ∈ A ++ [a, .text t] ++ B, b.Good fun w => In S w 0 := fun b m => by
    simp only [List.mem_append, List.mem_cons, List.not_mem_nil, or_false] at m
    rcases m with (m | rfl | rfl) | m
    · exact gA b m
    · exact ga
    · exact ht
    · exact gB b m
  have sub : ∀ w, Am.side w ∈ A ++ [a, .text t] ++ B → Am.side w ∈ as := fun w m => by
    rw [e]
    simp only [List.mem_append, List.mem_cons, List.not_mem_nil, or_false] at m ⊢
    rcases m with (m | m | m) | m
    · exact .inl m
    · exact .inr (.inl m)
    · cases m
    · exact .inr (.inr m)
  have hS2 := few_ok (few := as) h
  have gw2 : ∀ b ∈ A ++ [a, .text t] ++ B, b.Good fun w => In (fewR S as) w 0 := fun b m => by
    have := gw b m
    cases b with
    | side w => exact ⟨this.1, in_few (sub w m) this.2⟩
    | text t => exact this
  have lw : (A ++ [a, .text t] ++ B).length ≤ 100 := by simp; omega
  have D1 := a_joined h gw lw
  have D2 := text_worth hS2 gw2 lw
  rw [txt_congr (σ := tau (fewR S as)) (τ := tau S) fun w m => tau_few (sub w m)] at D2
  have D3 := a_joined h (as := [a, .text t]) (fun b m => by
    simp only [List.mem_cons, List.not_mem_nil, or_false] at m
    rcases m with rfl | rfl
    · exact ga
    · exact ht) (by simp)
  have em : (A ++ [a, .text t] ++ B).map Am.enc = A.map Am.enc ++ [a.enc, .tuple [.str (Str.ofString "text"), .str t]] ++ B.map Am.enc := by simp [Am.enc]
  have em2 : [a, Am.text t].map Am.enc = [a.enc, .tuple [.str (Str.ofString "text"), .str t]] := rfl
  rw [em] at D1 D2
  rw [em2] at D3
  have cn : cntD (.tuple (as.map Am.enc)) a.enc = some (.int (Int.ofNat ((as.map Am.enc).countP fun y => decide (y = a.enc)))) := by
    rw [v_cnt, if_pos, cnt_pur a.pur (ams_pur as)]
    refine ⟨?_, pur_cmp a.pur (by have := a.depth; omega), purT_cmp (ams_pur as) (ams_depth as)⟩
    rw [e]
    cases A with
    | nil => cases a <;> rfl
    | cons b A => cases b <;> rfl
  have lc := few_lc (S := S) (few := as) (a0 := some (.val x0)) (a1 := some (.val (.tuple (encR S)))) (a3 := some (.val (.int (k : Int)))) (a4 := some (.val (.int pl))) (a5 := some (.val (.tuple [a.enc, .tuple [.str (Str.ofString "text"), .str t]]))) (a6 := some (.val (.tuple (A.map Am.enc ++ [a.enc, .tuple [.str (Str.ofString "text"), .str t]] ++ B.map Am.enc)))) h.1.2
  have hA : (A.map Am.enc).length + 2 ≤ 16777216 := by rw [List.length_map]; omega
  have hB : (A.map Am.enc).length + 2 + (B.map Am.enc).length ≤ 16777216 := by rw [List.length_map, List.length_map]; omega
  cases a with
  | text s =>
    exact j_step c1 c2 c3 hA hB x lc (held h.1) D1 D2 D3 i1 cn (rw' := .none) fun z => absurd rfl z
  | side w =>
    refine j_step (rw' := .tuple (encR (wth (fewR S as) w 0 (.str (cat ([Am.side w, Am.text t].map (Am.txt (tau S)))))))) c1 c2 c3 hA hB x lc (held h.1) D1 D2 D3 i1 cn fun _ hn hw => ?_
    have tw : Tx 8 (cat ([Am.side w, Am.text t].map (Am.txt (tau S)))) := by
      have z := cat_tx (n := 10) (ys := [Am.side w, Am.text t].map (Am.txt (tau S))) (txts_tx h fun b m => by
        simp only [List.mem_cons, List.not_mem_nil, or_false] at m
        rcases m with rfl | rfl
        · exact ga
        · exact ht)
      exact ⟨hw, z.2⟩
    refine ⟨with_ hS2.1.2, ?_⟩
    have hS3 := wth_s (w := w) hS2 tw
    have gas : ∀ b ∈ as, b.Good fun v => In (fewR S as) v 0 := fun b m => by
      have := g b m
      cases b with
      | side v => exact ⟨this.1, in_few m this.2⟩
      | text t => exact this
    have D4 := text_worth hS3 (as := as) (fun b m => by
      have := gas b m
      cases b with
      | side v => exact ⟨this.1, in_wth this.2⟩
      | text t => exact this) (by omega)
    rw [D4]
    congr 3
    -- the same text
    have no : Am.side w ∉ A ∧ Am.side w ∉ B := by
      have hc : (as.map Am.enc).countP (fun y => decide (y = (Am.side w).enc)) = 1 := by
        have : ((as.map Am.enc).countP (fun y => decide (y = (Am.side w).enc)) : Int) = 1 := hn
        omega
      rw [e, List.map_append, List.map_cons, List.countP_append, List.countP_cons, decide_eq_true rfl, if_pos rfl] at hc
      have z1 : (A.map Am.enc).countP (fun y => decide (y = (Am.side w).enc)) = 0 := by omega
      have z2 : (B.map Am.enc).countP (fun y => decide (y = (Am.side w).enc)) = 0 := by omega
      rw [List.countP_eq_zero] at z1 z2
      exact ⟨fun m => z1 _ (List.mem_map.mpr ⟨_, m, rfl⟩) (decide_eq_true rfl), fun m => z2 _ (List.mem_map.mpr ⟨_, m, rfl⟩) (decide_eq_true rfl)⟩
    have tv : ∀ v, Am.side v ∈ as → tau (wth (fewR S as) w 0 (.str (cat ([Am.side w, Am.text t].map (Am.txt (tau S)))))) v = if v = w then cat ([Am.side w, Am.text t].map (Am.txt (tau S))) else tau S v := fun v m => by
      rw [tau_wth (gas _ m).2, tau_few m]
    have eA : A.map (Am.txt (tau (wth (fewR S as) w 0 (.str (cat ([Am.side w, Am.text t].map (Am.txt (tau S)))))))) = A.map (Am.txt (tau S)) := txt_congr fun v m => by
      rw [tv v (by rw [e]; simp [m]), if_neg (fun z => no.1 (by rw [← z]; exact m))]
    have eB : B.map (Am.txt (tau (wth (fewR S as) w 0 (.str (cat ([Am.side w, Am.text t].map (Am.txt (tau S)))))))) = B.map (Am.txt (tau S)) := txt_congr fun v m => by
      rw [tv v (by rw [e]; simp [m]), if_neg (fun z => no.2 (by rw [← z]; exact m))]
    have ew : (Am.side w).txt (tau (wth (fewR S as) w 0 (.str (cat ([Am.side w, Am.text t].map (Am.txt (tau S))))))) = cat ([Am.side w, Am.text t].map (Am.txt (tau S))) := by
      show tau _ w = _
      rw [tv w (by rw [e]; simp), if_pos rfl]
    have fin := cat_cat (A.map (Am.txt (tau S))) ([Am.side w, Am.text t].map (Am.txt (tau S))) (B.map (Am.txt (tau S)))
    have l1 : as.map (Am.txt (tau (wth (fewR S as) w 0 (.str (cat ([Am.side w, Am.text t].map (Am.txt (tau S)))))))) = A.map (Am.txt (tau S)) ++ [cat ([Am.side w, Am.text t].map (Am.txt (tau S)))] ++ B.map (Am.txt (tau S)) := by
      have gen : ∀ f : Am → Str, as.map f = A.map f ++ [f (.side w)] ++ B.map f := fun f => by rw [e]; simp
      rw [gen, eA, eB, ew]
    have l2 : (A ++ [Am.side w, Am.text t] ++ B).map (Am.txt (tau S)) = A.map (Am.txt (tau S)) ++ [Am.side w, Am.text t].map (Am.txt (tau S)) ++ B.map (Am.txt (tau S)) := by
      rw [List.map_append, List.map_append]
    rw [l1, l2, fin]
end LW

/-! the joined texts all told; trees; words -/
namespace LW
open PySem L2 DL
noncomputable abbrev kB : DS := (dThenKill (dSeq (dKill [4, 5, 6, 7, 8, 9]) (dForI (itR1 (dC (.int 2))) (dNm 4) jB)) [3, 4, 5, 6, 7, 8, 9])
abbrev kSt (as st : D) (fw : List D) : DSt := [some (.val as), some (.val st), some (.val (.tuple fw)), none, none, none, none, none, none, none, none]
theorem rng_2 : rng1 (.int 2) = some [.int 0, .int 1] := by
  rw [v_r1, if_pos ⟨by omega, by omega⟩]
  rfl
theorem k_step {as st : D} {fw ds : List D} {k : Int} (h : forL (dNm 4) jB [.int 0, .int 1] (jSt as st fw k) = some (.nx (jSt as st fw k))) : forL (dNm 3) kB (.int k :: ds) (kSt as st fw) = forL (dNm 3) kB ds (kSt as st fw) := by
  rw [forL]
  simp only [kB, kSt]
  simp only [jB, jSt] at h
  simp [-v_r1, rng_2, h]
theorem k_loop {S : Row} {as : List Am} {x0 : D} (h : SRow S) (g : ∀ b ∈ as, b.Good fun w => In S w 0) (hl : as.length ≤ 10) : ∀ (n k : Nat), k + n = as.length → forL (dNm 3) kB (DL.intsFrom k n) (kSt x0 (.tuple (encR S)) (as.map Am.enc)) = some (.nx (kSt x0 (.tuple (encR S)) (as.map Am.enc)))
  | 0, k, _ => rfl
  | n + 1, k, hk => by
    have lt : k < as.length := by omega
    have e : as = as.take k ++ as[k] :: as.drop (k + 1) := by
      rw [List.getElem_cons_drop, List.take_append_drop]
    have el : (as.take k).length = k := by rw [List.length_take]; omega
    rw [DL.intsFrom, k_step]
    · exact k_loop h g hl n (k + 1) (by omega)
    · rw [one_place h e el g hl (by omega) (by omega), one_place h e el g hl (by omega) (by omega)]
      rfl
theorem jr_core {as fw st us : List D} {n : Int} (h1 : cutD as none (some 3) = fw) (h2 : lenD [.tuple fw] = some (.int n)) (h3 : rng1 (.int n) = some us) (h4 : forL (dNm 3) kB us (kSt (.tuple as) (.tuple st) fw) = some (.nx (kSt (.tuple as) (.tuple st) fw))) :
    m__law_joined_right [.val (.tuple as), .val (.tuple st)] = some (.val (.bool true), [none, none]) := by
  unfold m__law_joined_right F__law_joined_right
  simp only [kB, jB, kSt] at h4
  simp [-v_r1, -v_lenT, h1, h2, h3, h4]
theorem joined_right {S : Row} {as : List Am} (h : SRow S) (g : ∀ b ∈ as, b.Good fun w => In S w 0) : m__law_joined_right [.val (.tuple (as.map Am.enc)), .val (.tuple (encR S))] = some (.val (.bool true), [none, none]) := by
  have c : cutD (as.map Am.enc) none (some 3) = (as.take 3).map Am.enc := by
    by_cases hl : 3 ≤ as.length
    · rw [show (3 : Int) = ((3 : Nat) : Int) from rfl, cut_to _ 3 (by rw [List.length_map]; exact hl), List.map_take]
    · rw [show (3 : Int) = ((3 : Nat) : Int) from rfl, cut_many _ 3 (by rw [List.length_map]; omega), List.take_of_length_le (by omega)]
  have lt : (as.take 3).length ≤ 10 := by rw [List.length_take]; omega
  refine jr_core c v_lenT (rng1_nat _ (by rw [List.length_map]; omega)) ?_
  rw [List.length_map]
  exact k_loop h (fun b m => g b (List.mem_of_mem_take m)) lt (as.take 3).length 0 (by omega)
/-! trees -/
noncomputable abbrev tB : DS := (dSeq (dSet 5 (dV (dIxV 2 (dBin dMod (dCallB intD (dCons (dIxV 1 (dVar 4)) dNil)) (dC (.int 5))))))
    (dThenKill (dSet 3 (dV (dIfE (dCmpT (ordD .Lt) (dIxV 1 (dVar 4)) (dC (.int 5))) (dTup (dCons (dVar 5) (dCons (dVar 3) (dCons (dIxV 0 (dVar 4)) dNil)))) (dTup (dCons (dVar 5) (dCons (dIxV 0 (dVar 4)) (dCons (dVar 3) dNil))))))) [4, 5]))
abbrev tSt (lv dg : List D) (t : D) : DSt := [some (.val (.list lv)), some (.val (.list dg)), some (.own none (.list wordsL)), some (.val t), none, none]
theorem t_step {lv dg ds : List D} {t l : D} {k d : Int} {w : Str} (h1 : atI dg k = some (.int d)) (h2 : atI wordsL (d % 5) = some (.str w)) (h3 : atI lv k = some l) :
    forL (dNm 4) tB (.int k :: ds) (tSt lv dg t) = forL (dNm 4) tB ds (tSt lv dg (if d < 5 then .tuple [.str w, t, l] else .tuple [.str w, l, t])) := by
  rw [forL]
  simp only [tB, tSt, wordsL] at h2 ⊢
  by_cases c : d < 5
  · simp [h1, h2, h3, c]
  · simp [h1, h2, h3, c]
theorem t_loop {P : Str → Int → Prop} {L : List Ex} {dg : List Int} (hg : ∀ e ∈ L, e.Good P ∧ e.n = 1 ∧ e.dep = 1) (hl : L.length ≤ dg.length) : ∀ (n k : Nat) (e : Ex), k + n = L.length → 1 ≤ k → e.Good P → e.n = k → e.dep ≤ k →
    ∃ e' : Ex, forL (dNm 4) tB (DL.intsFrom k n) (tSt (L.map Ex.enc) (dg.map .int) e.enc) = some (.nx (tSt (L.map Ex.enc) (dg.map .int) e'.enc)) ∧ e'.Good P ∧ e'.n = L.length ∧ e'.dep ≤ L.length
  | 0, k, e, hk, _, g, n1, d1 => ⟨e, rfl, g, by omega, by omega⟩
  | n + 1, k, e, hk, k1, g, n1, d1 => by
    have lk : k < L.length := by omega
    have ld : k < dg.length := by omega
    have h1 : atI (dg.map PyData.int) (k : Int) = some (.int dg[k]) := (atI_nat _ _).trans (by rw [List.getElem?_map, List.getElem?_eq_getElem ld]; rfl)
    have h3 : atI (L.map Ex.enc) (k : Int) = some L[k].enc := (atI_nat _ _).trans (by rw [List.getElem?_map, List.getElem?_eq_getElem lk]; rfl)
    obtain ⟨o, h2⟩ := word_at (dg[k] % 5) (Int.emod_nonneg _ (by omega)) (Int.emod_lt_of_pos _ (by omega))
    obtain ⟨gl, nl, dl⟩ := hg L[k] (List.getElem_mem lk)
    rw [DL.intsFrom, t_step h1 h2 h3]
    by_cases c : dg[k] < 5
    · rw [if_pos c]
      exact t_loop hg hl n (k + 1) (.op o e L[k]) (by omega) (by omega) ⟨g, gl⟩ (by rw [Ex.n]; omega) (by rw [Ex.dep]; omega)
    · rw [if_neg c]
      exact t_loop hg hl n (k + 1) (.op o L[k] e) (by omega) (by omega) ⟨gl, g⟩ (by rw [Ex.n]; omega) (by rw [Ex.dep]; omega)
theorem tree_core {lv dg us : List D} {a t : D} {n : Int} (h1 : atI lv 0 = some a) (hn : lenD [.list lv] = some (.int n)) (h2 : rng2 (.int 1) (.int n) = some us) (h3 : forL (dNm 4) tB us (tSt lv dg a) = some (.nx (tSt lv dg t))) : m__law_tree [.val (.list lv), .val (.list dg)] = some (.val t, [none, none]) := by
  unfold m__law_tree F__law_tree
  simp only [tB, tSt, wordsL] at h3
  simp [-v_r2, -v_lenL, h1, hn, h2, h3]
theorem tree {P : Str → Int → Prop} {L : List Ex} {dg : List Int} (hg : ∀ e ∈ L, e.Good P ∧ e.n = 1 ∧ e.dep = 1) (hl : L.length ≤ dg.length) (h1 : 1 ≤ L.length) (h2 : L.length ≤ 100) : ∃ e : Ex, m__law_tree [.val (.list (L.map Ex.enc)), .val (.list (dg.map .int))] = some (.val e.enc, [none, none]) ∧ e.Good P ∧ e.n = L.length ∧ e.dep ≤ L.length := by
  obtain ⟨gl, nl, dl⟩ := hg L[0] (List.getElem_mem (by omega))
  obtain ⟨e, e1, e2, e3, e4⟩ := t_loop hg hl (L.length - 1) 1 L[0] (by omega) (Nat.le_refl _) gl nl (by omega)
  refine ⟨e, tree_core (a := L[0].enc) ?_ v_lenL ?_ e1, e2, e3, e4⟩
  · rw [show (0 : Int) = ((0 : Nat) : Int) from rfl, atI_nat, List.getElem?_map, List.getElem?_eq_getElem (by omega)]
    rfl
  · rw [v_r2, if_pos ⟨by omega, by omega, by rw [List.length_map]; omega, by rw [List.length_map]; omega⟩, List.length_map, show ((L.length : Int) - 1).toNat = L.length - 1 by omega]
    rfl
/-! words -/
theorem word_core {T T' : D} {r : Int} {a b w : Str} (hr : 0 ≤ r) (h1 : m__law_draw [.own (some 0) T, .val (.int 79524)] = some (.val (.int r), [some (.own (some 0) T'), none])) (h2 : (atI signsS.cps.toList (r / 9 / 94)).bind (fun c => some (PyData.str ⟨#[c]⟩)) = some (.str a)) (h3 : (atI signsS.cps.toList (r / 9 % 94)).bind (fun c => some (PyData.str ⟨#[c]⟩)) = some (.str b))
    (h4 : a.length + b.length ≤ 100) (h5 : repS (a ++ b) 4 = w) (h6 : (a ++ b).length < 10000) : m__law_word [.own (some 0) T] = some (.val (.str (cutS w none (some (r % 9)))), [some (.own (some 0) T')]) := by
  have h4' : a.length + b.length ≤ 16777216 := by omega
  have hm : dMul (.str (a ++ b)) (.int 4) = some (.str w) := by
    show (if _ then _ else _) = _
    rw [if_pos ⟨by omega, by omega, h6⟩]
    show some (PyData.str (repS (a ++ b) 4)) = _
    rw [h5]
  have e2 : ixD (.str signsS) (.int (r / 9 / 94)) = some (.str a) := h2
  have e3 : ixD (.str signsS) (.int (r / 9 % 94)) = some (.str b) := h3
  have m1 : mulOk 9 94 := mulOk_l ⟨by omega, by omega⟩
  have m2 : mulOk 846 94 := mulOk_l ⟨by omega, by omega⟩
  unfold m__law_word F__law_word
  simp [-v_ixS, signs, m1, m2, h1, e2, e3, h4', hm]
end LW

/-! words, leaves, rows: what is drawn -/
namespace LW
open PySem L2 DL
theorem cutS_tx {n k : Nat} {t : Str} (h : Tx n t) (hk : k ≤ 1000) : Tx n (cutS t none (some (k : Int))) ∧ (cutS t none (some (k : Int))).length ≤ k := by
  have e : cutS t none (some (k : Int)) = S' ((t.cps.toList.drop 0).take (min k t.length - 0)) := by
    unfold cutS
    rw [HT.sIx_nat]
    rfl
  rw [e]
  have h1 := h.1
  refine ⟨h.sub (fun c m => List.mem_of_mem_drop (List.mem_of_mem_take m)) ?_, ?_⟩
  · rw [List.length_take, List.length_drop, cps_len]; omega
  · rw [S'_len, List.length_take, List.length_drop, cps_len]; omega
theorem rep_tx {n m : Nat} {u : Str} (h : Tx n u) : Tx (m * n) (repS u m) := by
  have e : (repS u m).cps.toList = (List.replicate m u.cps.toList).flatten := by unfold repS; simp
  refine ⟨?_, fun c hc => ?_⟩
  · have h1 := h.1
    rw [← cps_len] at h1
    have : (repS u m).length = (List.replicate m u.cps.toList).flatten.length := by rw [← e, cps_len]
    have r : ∀ m : Nat, (List.replicate m u.cps.toList).flatten.length = m * u.cps.toList.length := fun m => by
      induction m with
      | zero => simp
      | succ m ih => rw [List.replicate_succ, List.flatten_cons, List.length_append, ih, Nat.succ_mul, Nat.add_comm]
    rw [this, r]
    exact Nat.mul_le_mul_left m h1
  · rw [e] at hc
    obtain ⟨l, hl, hc⟩ := List.mem_flatten.mp hc
    rw [List.eq_of_mem_replicate hl] at hc
    exact h.2 c hc
theorem word {T : D} (h : Tape T) : ∃ (t : Str) (T' : D), m__law_word [.own (some 0) T] = some (.val (.str t), [some (.own (some 0) T')]) ∧ Tape T' ∧ Tx 8 t := by
  obtain ⟨r, T', e, h', r0, r1⟩ := draw h 79524 (by omega) (by omega)
  have q1 := Int.ediv_mul_le r (show (9 : Int) ≠ 0 by omega)
  have a0 : 0 ≤ r / 9 / 94 := Int.ediv_nonneg (Int.ediv_nonneg r0 (by omega)) (by omega)
  have a1 : r / 9 / 94 < 94 := Int.ediv_lt_of_lt_mul (by omega) (Int.ediv_lt_of_lt_mul (by omega) (by omega))
  obtain ⟨x, hx, sx⟩ := sign_at (r / 9 / 94) a0 a1
  obtain ⟨y, hy, sy⟩ := sign_at (r / 9 % 94) (Int.emod_nonneg _ (by omega)) (Int.emod_lt_of_pos _ (by omega))
  have tx : Tx 2 ((⟨#[x]⟩ : Str) ++ ⟨#[y]⟩) := (Tx.one sx).add (Tx.one sy)
  have k0 : 0 ≤ r % 9 := Int.emod_nonneg _ (by omega)
  have k1 : r % 9 < 9 := Int.emod_lt_of_pos _ (by omega)
  obtain ⟨k, hk⟩ := Int.eq_ofNat_of_zero_le k0
  refine ⟨_, T', word_core (a := ⟨#[x]⟩) (b := ⟨#[y]⟩) r0 e (by rw [hx]; rfl) (by rw [hy]; rfl) (by show 1 + 1 ≤ 100; omega) rfl (by have := tx.1; omega), h', ?_⟩
  rw [hk]
  have z := cutS_tx (k := k) (rep_tx (m := 4) tx) (by omega)
  exact ⟨by omega, z.1.2⟩
/-! leaves -/
abbrev menu7 (w0 w1 wl : Str) (n : Int) : List D := [lf w0 0, lf w0 1, lf w1 0, lf w1 1, lf wl 0, lf (Str.ofString "number") n, lf (Str.ofString "number") 0]
abbrev words3 : List D := [.list [.str (Str.ofString "state"), .str (Str.ofString "operand")], .list [.str (Str.ofString "left"), .str (Str.ofString "right")], .list [.str (Str.ofString "state"), .str (Str.ofString "left"), .str (Str.ofString "right")]]
theorem menu_lc {st : DSt} {mn : List D} {a0 a1 a2 a3 : Option SV} : ∀ (ds : List Int) (acc : List D), InR 7 ds → mn.length = 7 → acc.length + ds.length ≤ 1000 → ∃ out, lcL (dNm 5) dYes (dIxV 4 (dVar 5)) [5] (ds.map .int) [a0, a1, a2, a3, some (.own none (.list mn)), none] acc = some (acc ++ out, [a0, a1, a2, a3, some (.own none (.list mn)), none]) ∧ out.length = ds.length ∧ ∀ x ∈ out, x ∈ mn
  | [], acc, _, _, _ => ⟨[], by simp [lcL], rfl, fun x m => nomatch m⟩
  | d :: ds, acc, h, hm, hl => by
    simp only [List.length_cons] at hl
    have hd := h d List.mem_cons_self
    obtain ⟨x, hx, mx⟩ := atI_in mn d hd.1 (by rw [hm]; exact hd.2)
    obtain ⟨out, e, l, g⟩ := menu_lc (st := st) (mn := mn) (a0 := a0) (a1 := a1) (a2 := a2) (a3 := a3) ds (acc ++ [x]) (fun y m => h y (List.mem_cons_of_mem _ m)) hm (by simp only [List.length_append, List.length_cons, List.length_nil]; omega)
    have hz : acc.length < 16777216 := by omega
    have : lcL (dNm 5) dYes (dIxV 4 (dVar 5)) [5] ((d :: ds).map .int) [a0, a1, a2, a3, some (.own none (.list mn)), none] acc = lcL (dNm 5) dYes (dIxV 4 (dVar 5)) [5] (ds.map .int) [a0, a1, a2, a3, some (.own none (.list mn)), none] (acc ++ [x]) := by
      rw [List.map_cons, lcL]
      simp [hx, hz, wipeD]
    refine ⟨x :: out, by rw [this, e]; simp, by simp [l], fun y m => ?_⟩
    rcases List.mem_cons.mp m with rfl | m
    · exact mx
    · exact g y m
theorem leaves_core {T T1 T2 T3 T4 : D} {r n k : Int} {wl : List D} {w0 w1 w2 : Str} {ds out : List D} (h1 : m__law_draw [.own (some 0) T, .val (.int 3)] = some (.val (.int r), [some (.own (some 0) T1), none])) (h2 : atI words3 r = some (.list wl)) (h3 : m__law_draw [.own (some 0) T1, .val (.int 10000)] = some (.val (.int n), [some (.own (some 0) T2), none]))
    (i0 : atI wl 0 = some (.str w0)) (i1 : atI wl 1 = some (.str w1)) (i2 : atI wl (-1) = some (.str w2)) (h4 : m__law_digits [.own (some 0) T2, .val (.int 7), .val (.int 6)] = some (.own none (.list ds), [some (.own (some 0) T3), none, none]))
    (h5 : lcL (dNm 5) dYes (dIxV 4 (dVar 5)) [5] ds [some (.own (some 0) T3), some (.val (.int r)), some (.val (.list wl)), some (.val (.int (n - 5000))), some (.own none (.list (menu7 w0 w1 w2 (n - 5000)))), none] [] = some (out, [some (.own (some 0) T3), some (.val (.int r)), some (.val (.list wl)), some (.val (.int (n - 5000))), some (.own none (.list (menu7 w0 w1 w2 (n - 5000)))), none]))
    (h6 : m__law_draw [.own (some 0) T3, .val (.int 5)] = some (.val (.int k), [some (.own (some 0) T4), none])) :
    m__law_some_leaves [.own (some 0) T] = some (.val (.list (cutD out none (some (2 + k)))), [some (.own (some 0) T4)]) := by
  unfold m__law_some_leaves F__law_some_leaves
  simp only [menu7, lf, words3] at h2 h5
  simp [h1, h2, h3, i0, i1, i2, h4, wipeD, h5, h6]
theorem leaves {T : D} (h : Tape T) : ∃ (L : List Ex) (T' : D), m__law_some_leaves [.own (some 0) T] = some (.val (.list (L.map Ex.enc)), [some (.own (some 0) T')]) ∧ Tape T' ∧ 2 ≤ L.length ∧ L.length ≤ 6 ∧ ∀ e ∈ L, (∃ n : Int, e = .num n ∧ n.natAbs ≤ 5000) ∨ ∃ w i, e = .leaf w i ∧ four w := by
  obtain ⟨r, T1, e1, H1, r0, r1⟩ := draw h 3 (by omega) (by omega)
  obtain ⟨n, T2, e2, H2, n0, n1⟩ := draw H1 10000 (by omega) (by omega)
  obtain ⟨ds, T3, e3, H3, l3, g3⟩ := digits H2 7 6 (by omega) (by decide) (by omega) (by omega)
  obtain ⟨k, T4, e4, H4, k0, k1⟩ := draw H3 5 (by omega) (by omega)
  obtain ⟨k, rfl⟩ := Int.eq_ofNat_of_zero_le k0
  have key : ∃ wl w0 w1 w2, atI words3 r = some (.list wl) ∧ atI wl 0 = some (.str w0) ∧ atI wl 1 = some (.str w1) ∧ atI wl (-1) = some (.str w2) ∧ four w0 ∧ four w1 ∧ four w2 := by
    have : r = 0 ∨ r = 1 ∨ r = 2 := by omega
    rcases this with rfl | rfl | rfl
    · exact ⟨_, _, _, _, rfl, rfl, rfl, rfl, .inl rfl, .inr (.inl rfl), .inr (.inl rfl)⟩
    · exact ⟨_, _, _, _, rfl, rfl, rfl, rfl, .inr (.inr (.inl rfl)), .inr (.inr (.inr rfl)), .inr (.inr (.inr rfl))⟩
    · exact ⟨_, _, _, _, rfl, rfl, rfl, rfl, .inl rfl, .inr (.inr (.inl rfl)), .inr (.inr (.inr rfl))⟩
  obtain ⟨wl, w0, w1, w2, h2, i0, i1, i2, f0, f1, f2⟩ := key
  obtain ⟨out, lc, lo, mo⟩ := menu_lc (st := []) (mn := menu7 w0 w1 w2 (n - 5000)) (a0 := some (.own (some 0) T3)) (a1 := some (.val (.int r))) (a2 := some (.val (.list wl))) (a3 := some (.val (.int (n - 5000)))) ds [] g3 rfl (by simp [l3])
  rw [List.nil_append] at lc
  have co := leaves_core e1 h2 e2 i0 i1 i2 e3 lc e4
  have ex : ∀ x ∈ out, ∃ e : Ex, e.enc = x ∧ ((∃ n : Int, e = .num n ∧ n.natAbs ≤ 5000) ∨ ∃ w i, e = .leaf w i ∧ four w) := fun x m => by
    have := mo x m
    simp only [menu7, List.mem_cons, List.not_mem_nil, or_false] at this
    rcases this with rfl | rfl | rfl | rfl | rfl | rfl | rfl
    · exact ⟨.leaf w0 0, rfl, .inr ⟨_, _, rfl, f0⟩⟩
    · exact ⟨.leaf w0 1, rfl, .inr ⟨_, _, rfl, f0⟩⟩
    · exact ⟨.leaf w1 0, rfl, .inr ⟨_, _, rfl, f1⟩⟩
    · exact ⟨.leaf w1 1, rfl, .inr ⟨_, _, rfl, f1⟩⟩
    · exact ⟨.leaf w2 0, rfl, .inr ⟨_, _, rfl, f2⟩⟩
    · exact ⟨.num (n - 5000), rfl, .inl ⟨_, rfl, by omega⟩⟩
    · exact ⟨.num 0, rfl, .inl ⟨_, rfl, by omega⟩⟩
  have pick : ∀ xs : List D, (∀ x ∈ xs, ∃ e : Ex, e.enc = x ∧ ((∃ n : Int, e = .num n ∧ n.natAbs ≤ 5000) ∨ ∃ w i, e = .leaf w i ∧ four w)) → ∃ L : List Ex, L.map Ex.enc = xs ∧ ∀ e ∈ L, (∃ n : Int, e = .num n ∧ n.natAbs ≤ 5000) ∨ ∃ w i, e = .leaf w i ∧ four w := by
    intro xs
    induction xs with
    | nil => exact fun _ => ⟨[], rfl, fun e m => nomatch m⟩
    | cons x xs ih =>
      intro g
      obtain ⟨e, he, ge⟩ := g x List.mem_cons_self
      obtain ⟨L, hL, gL⟩ := ih fun y m => g y (List.mem_cons_of_mem _ m)
      refine ⟨e :: L, by rw [List.map_cons, he, hL], fun y m => ?_⟩
      rcases List.mem_cons.mp m with rfl | m
      · exact ge
      · exact gL y m
  obtain ⟨L, hL, gL⟩ := pick out ex
  have ll : L.length = 6 := by rw [← List.length_map (f := Ex.enc), hL, lo, l3]
  have ec : cutD out none (some (2 + (k : Int))) = (L.take (2 + k)).map Ex.enc := by
    rw [show (2 + (k : Int)) = ((2 + k : Nat) : Int) by omega, cut_to _ _ (by rw [lo, l3]; omega), ← hL, List.map_take]
  rw [ec] at co
  exact ⟨L.take (2 + k), T4, co, H4, by rw [List.length_take]; omega, by rw [List.length_take]; omega, fun e m => gL e (List.mem_of_mem_take m)⟩
end LW

/-! the rows -/
namespace LW
open PySem L2 DL
noncomputable abbrev nB : DS := (dThenKill (dIf (dAnd (dCmpT neD (dIxV 3 (dC (.int 0))) (dC (.str (Str.ofString "number")))) (dCmpTV ninD (dVar 3) 2))
    (dApp 2 (dVar 3))
    dNext) [3])
abbrev nSt (T lv : D) (nm : List D) : DSt := [some (.own (some 0) T), some (.val lv), some (.own none (.list nm)), none, none, none, none, none, none, none, none, none]
abbrev kL (K : List (Str × Int)) : List D := K.map fun p => lf p.1 p.2
theorem n_num {T lv : D} {nm ds : List D} {n : Int} : forL (dNm 3) nB ((Ex.num n).enc :: ds) (nSt T lv nm) = forL (dNm 3) nB ds (nSt T lv nm) := by
  rw [forL]
  simp only [nB, nSt, Ex.enc]
  simp [at2]
theorem n_leaf {T lv : D} {nm ds : List D} {w : Str} {i : Int} {b : Bool} (hw : ¬ w = Str.ofString "number") (h : ninD (lf w i) (.list nm) = some b) (hl : nm.length < 16777216) : forL (dNm 3) nB (lf w i :: ds) (nSt T lv nm) = forL (dNm 3) nB ds (nSt T lv (if b = true then nm ++ [lf w i] else nm)) := by
  rw [forL]
  simp only [nB, nSt, lf] at h ⊢
  cases b <;> simp [at2, hw, h, hl]
theorem kL_pur (K : List (Str × Int)) : purL (kL K) = true ∧ PyData.depthAll (kL K) ≤ 59 := ⟨purL_of fun x m => by
  obtain ⟨p, _, rfl⟩ := List.mem_map.mp m
  rfl, depthAll_of fun x m => by
  obtain ⟨p, _, rfl⟩ := List.mem_map.mp m
  show PyData.depth _ ≤ 59
  simp [lf, PyData.depth, PyData.depthAll]⟩
theorem kL_mem {K : List (Str × Int)} {w : Str} {i : Int} : lf w i ∈ kL K ↔ (w, i) ∈ K := by
  constructor
  · intro m
    obtain ⟨p, hp, e⟩ := List.mem_map.mp m
    simp [lf] at e
    have : p = (w, i) := Prod.ext e.1 e.2
    rw [← this]; exact hp
  · exact fun m => List.mem_map.mpr ⟨_, m, rfl⟩
theorem n_loop {T lv : D} : ∀ (L : List Ex) (K : List (Str × Int)), (∀ e ∈ L, (∃ n : Int, e = .num n ∧ n.natAbs ≤ 5000) ∨ ∃ w i, e = .leaf w i ∧ four w) → K.Nodup → (∀ p ∈ K, four p.1) → K.length + L.length ≤ 1000 →
    ∃ K' : List (Str × Int), forL (dNm 3) nB (L.map Ex.enc) (nSt T lv (kL K)) = some (.nx (nSt T lv (kL K'))) ∧ K'.Nodup ∧ (∀ p ∈ K', four p.1) ∧ (∀ p ∈ K, p ∈ K') ∧ (∀ w i, Ex.leaf w i ∈ L → (w, i) ∈ K') ∧ K'.length ≤ K.length + L.length
  | [], K, _, hn, hf, _ => ⟨K, rfl, hn, hf, fun _ m => m, fun w i m => (by cases m), Nat.le_refl _⟩
  | e :: L, K, h, hn, hf, hl => by
    simp only [List.length_cons] at hl
    have hL := fun x m => h x (List.mem_cons_of_mem e m)
    rcases h e List.mem_cons_self with ⟨n, rfl, _⟩ | ⟨w, i, rfl, fw⟩
    · obtain ⟨K', e1, a, b, c, d, f⟩ := n_loop (T := T) (lv := lv) L K hL hn hf (by omega)
      refine ⟨K', by rw [List.map_cons, n_num, e1], a, b, c, fun w i m => ?_, by simp only [List.length_cons]; omega⟩
      rcases List.mem_cons.mp m with m | m
      · cases m
      · exact d w i m
    · have hnin := ninL_pur (a := lf w i) (xs := kL K) (lf_pur w i).1 (kL_pur K).1 (lf_pur w i).2 (kL_pur K).2
      have step := n_leaf (T := T) (lv := lv) (ds := L.map Ex.enc) (i := i) (fun z => four_ne fw z.symm) hnin (by rw [List.length_map]; omega)
      by_cases q : lf w i ∈ kL K
      · rw [decide_eq_false (fun z => z q), if_neg (by decide)] at step
        obtain ⟨K', e1, a, b, c, d, f⟩ := n_loop (T := T) (lv := lv) L K hL hn hf (by omega)
        refine ⟨K', by rw [List.map_cons]; exact step.trans e1, a, b, c, fun v j m => ?_, by simp only [List.length_cons]; omega⟩
        rcases List.mem_cons.mp m with m | m
        · cases m
          exact c _ (kL_mem.mp q)
        · exact d v j m
      · rw [decide_eq_true q, if_pos rfl] at step
        have q2 : (w, i) ∉ K := fun z => q (kL_mem.mpr z)
        have ek : kL K ++ [lf w i] = kL (K ++ [(w, i)]) := by simp [kL]
        rw [ek] at step
        obtain ⟨K', e1, a, b, c, d, f⟩ := n_loop (T := T) (lv := lv) L (K ++ [(w, i)]) hL (List.nodup_append.mpr ⟨hn, by simp, fun x hx y hy z => by
          rw [List.mem_singleton.mp hy] at z
          exact q2 (by rw [← z]; exact hx)⟩) (fun p m => by
          rcases List.mem_append.mp m with m | m
          · exact hf p m
          · rw [List.mem_singleton.mp m]; exact fw) (by simp only [List.length_append, List.length_cons, List.length_nil]; omega)
        simp only [List.length_append, List.length_cons, List.length_nil] at f
        refine ⟨K', by rw [List.map_cons]; exact step.trans e1, a, b, fun p m => c p (List.mem_append_left _ m), fun v j m => ?_, by simp only [List.length_cons]; omega⟩
        rcases List.mem_cons.mp m with m | m
        · cases m
          exact c _ (by simp)
        · exact d v j m
theorem idx_lc {st : DSt} {te : DF} {K : List (Str × Int)} (h : ∀ (i : Nat) (hi : i < K.length), ∃ (v : Int) (s1 q : DSt), dNm 11 (.int i) st = some s1 ∧ te s1 = some (pD ((K[i]).1, (K[i]).2, .int v), q) ∧ wipeD q [11] = st ∧ v.natAbs ≤ 10000) : ∀ (n k : Nat) (acc : List D), k + n = K.length → acc.length + n ≤ 1000 →
    ∃ R : Row, lcL (dNm 11) dYes te [11] (DL.intsFrom k n) st acc = some (acc ++ encR R, st) ∧ R.map keyR = K.drop k ∧ ∀ r ∈ R, ∃ v : Int, r.2.2 = .int v ∧ v.natAbs ≤ 10000
  | 0, k, acc, hk, _ => ⟨[], by simp [DL.intsFrom, lcL, encR], by rw [List.drop_of_length_le (by omega)]; rfl, fun r m => nomatch m⟩
  | n + 1, k, acc, hk, hl => by
    have lk : k < K.length := by omega
    obtain ⟨v, s1, q, a, b, c, d⟩ := h k lk
    have hz : acc.length < 16777216 := by omega
    obtain ⟨R, e1, e2, e3⟩ := idx_lc h n (k + 1) (acc ++ [pD ((K[k]).1, (K[k]).2, .int v)]) (by omega) (by simp only [List.length_append, List.length_cons, List.length_nil]; omega)
    refine ⟨((K[k]).1, (K[k]).2, .int v) :: R, ?_, ?_, fun r m => ?_⟩
    · have step : lcL (dNm 11) dYes te [11] (.int (k : Int) :: DL.intsFrom ((k : Int) + 1) n) st acc = lcL (dNm 11) dYes te [11] (DL.intsFrom ((k : Int) + 1) n) (wipeD q [11]) (acc ++ [pD ((K[k]).1, (K[k]).2, .int v)]) := by
        rw [lcL]
        simp [-e_nm, a, b, hz]
      rw [DL.intsFrom, step, c, show ((k : Int) + 1) = ((k + 1 : Nat) : Int) by omega, e1]
      simp [encR]
    · rw [List.map_cons, e2, List.drop_eq_getElem_cons lk]
      rfl
    · rcases List.mem_cons.mp m with rfl | m
      · exact ⟨v, rfl, d⟩
      · exact e3 r m
abbrev wideL (f : Int) : List Int := [0, 1, -1, 3, 10000, -10000, 5000, -5001, f]
abbrev narrowL (f : Int) : List Int := [0, 1, -1, 2, 4999, -5000, -2, 7, (f + 5000) % 10000 - 5000]
abbrev te5 : DF := (dTup (dCons (dIxV 9 (dVar 11)) (dCons (dIxV 5 (dIxV 7 (dVar 11))) dNil)))
abbrev te6 : DF := (dTup (dCons (dIxV 9 (dVar 11)) (dCons (dIxV 6 (dIxV 7 (dVar 11))) dNil)))
theorem rows_core {T T1 T2 : D} {lv nm dg us a b : List D} {f k m d8 len : Int} (h0 : forL (dNm 3) nB lv (nSt T (.list lv) []) = some (.nx (nSt T (.list lv) nm))) (h1 : m__law_draw [.own (some 0) T, .val (.int 20001)] = some (.val (.int f), [some (.own (some 0) T1), none]))
    (h2 : m__law_digits [.own (some 0) T1, .val (.int 9), .val (.int 9)] = some (.own none (.list dg), [some (.own (some 0) T2), none, none])) (h3 : atI dg 8 = some (.int d8)) (h4 : lenD [.list nm] = some (.int m)) (h5 : d8 % max 1 m = k) (h5' : 0 < max 1 m)
    (h6 : (cutD nm (some k) none).length + (cutD nm none (some k)).length ≤ 16777216) (h7 : lenD [.list (cutD nm (some k) none ++ cutD nm none (some k))] = some (.int len)) (h8 : rng1 (.int len) = some us)
    (l1 : lcL (dNm 11) dYes te5 [11] us [some (.own (some 0) T2), some (.val (.list lv)), some (.own none (.list nm)), none, some (.val (.int (f - 10000))), some (.own none (.list ((wideL (f - 10000)).map .int))), some (.own none (.list ((narrowL (f - 10000)).map .int))), some (.own none (.list dg)), some (.val (.int k)), some (.val (.list (cutD nm (some k) none ++ cutD nm none (some k)))), none, none] []
      = some (a, [some (.own (some 0) T2), some (.val (.list lv)), some (.own none (.list nm)), none, some (.val (.int (f - 10000))), some (.own none (.list ((wideL (f - 10000)).map .int))), some (.own none (.list ((narrowL (f - 10000)).map .int))), some (.own none (.list dg)), some (.val (.int k)), some (.val (.list (cutD nm (some k) none ++ cutD nm none (some k)))), none, none]))
    (l2 : lcL (dNm 11) dYes te6 [11] us [some (.own (some 0) T2), some (.val (.list lv)), some (.own none (.list nm)), none, some (.val (.int (f - 10000))), some (.own none (.list ((wideL (f - 10000)).map .int))), some (.own none (.list ((narrowL (f - 10000)).map .int))), some (.own none (.list dg)), some (.val (.int k)), some (.val (.list (cutD nm (some k) none ++ cutD nm none (some k)))), some (.val (.tuple a)), none] []
      = some (b, [some (.own (some 0) T2), some (.val (.list lv)), some (.own none (.list nm)), none, some (.val (.int (f - 10000))), some (.own none (.list ((wideL (f - 10000)).map .int))), some (.own none (.list ((narrowL (f - 10000)).map .int))), some (.own none (.list dg)), some (.val (.int k)), some (.val (.list (cutD nm (some k) none ++ cutD nm none (some k)))), some (.val (.tuple a)), none])) :
    m__law_rows [.own (some 0) T, .val (.list lv)] = some (.val (.tuple [.tuple a, .tuple b]), [some (.own (some 0) T2), none]) := by
  unfold m__law_rows F__law_rows
  simp only [nB, nSt, te5, te6, wideL, narrowL, List.map_cons, List.map_nil] at h0 l1 l2
  simp [-v_r1, -v_lenL, h0, h1, h2, h3, h4, h5, h5', h6, h7, h8, wipeD, l1, l2]
theorem rows {T : D} (h : Tape T) {L : List Ex} (hL : ∀ e ∈ L, (∃ n : Int, e = .num n ∧ n.natAbs ≤ 5000) ∨ ∃ w i, e = .leaf w i ∧ four w) (hl : L.length ≤ 6) : ∃ (R0 R1 : Row) (T' : D), m__law_rows [.own (some 0) T, .val (.list (L.map Ex.enc))] = some (.val (.tuple [.tuple (encR R0), .tuple (encR R1)]), [some (.own (some 0) T'), none]) ∧ Tape T' ∧
    NRow R0 ∧ NRow R1 ∧ R1.map keyR = R0.map keyR ∧ ∀ w i, Ex.leaf w i ∈ L → In R0 w i := by
  obtain ⟨K, e0, hn, hf, _, hin, hk⟩ := n_loop (T := T) (lv := .list (L.map Ex.enc)) L [] hL (by simp) (fun p m => nomatch m) (by simp; omega)
  simp only [List.length_nil] at hk
  obtain ⟨f, T1, e1, H1, f0, f1⟩ := draw h 20001 (by omega) (by omega)
  obtain ⟨dg, T2, e2, H2, l2, g2⟩ := digits H1 9 9 (by omega) (by decide) (by omega) (by omega)
  have d8 : atI (dg.map PyData.int) 8 = some (.int dg[8]) := by
    rw [show (8 : Int) = ((8 : Nat) : Int) from rfl, atI_nat, List.getElem?_map, List.getElem?_eq_getElem (by omega)]
    rfl
  have hm : (0 : Int) < max 1 ((kL K).length : Int) := by omega
  have k0 : 0 ≤ dg[8] % max 1 ((kL K).length : Int) := Int.emod_nonneg _ (by omega)
  have k1 : dg[8] % max 1 ((kL K).length : Int) < max 1 ((kL K).length : Int) := Int.emod_lt_of_pos _ hm
  obtain ⟨k, hk2⟩ := Int.eq_ofNat_of_zero_le k0
  have kl : k ≤ (kL K).length := by omega
  have kl2 : (kL K).length = K.length := List.length_map _
  have o1 : cutD (kL K) (some (dg[8] % max 1 ((kL K).length : Int))) none ++ cutD (kL K) none (some (dg[8] % max 1 ((kL K).length : Int))) = kL (K.drop k ++ K.take k) := by
    rw [hk2, cut_from _ k kl, cut_to _ k kl]
    simp [kL, List.map_drop, List.map_take]
  have ol : (K.drop k ++ K.take k).length = K.length := by rw [List.length_append, List.length_drop, List.length_take]; omega
  have olk : (kL (K.drop k ++ K.take k)).length = K.length := by rw [List.length_map, ol]
  have perm : ∀ p, p ∈ K.drop k ++ K.take k ↔ p ∈ K := fun p => by
    conv => rhs; rw [← List.take_append_drop k K]
    rw [List.mem_append, List.mem_append]
    exact Or.comm
  have nod : (K.drop k ++ K.take k).Nodup := by
    have : (K.take k ++ K.drop k).Nodup := by rw [List.take_append_drop]; exact hn
    exact (List.perm_append_comm.nodup_iff).mp this
  have val : ∀ (ws : List Int), ws.length = 9 → (∀ v ∈ ws, v.natAbs ≤ 10000) → ∀ i : Nat, i < (K.drop k ++ K.take k).length → ∃ d v : Int, atI (dg.map PyData.int) (i : Int) = some (.int d) ∧ atI (ws.map PyData.int) d = some (.int v) ∧ v.natAbs ≤ 10000 := fun ws hw hb i hi => by
    have li : i < dg.length := by omega
    have gd := g2 dg[i] (List.getElem_mem li)
    obtain ⟨x, hx, mx⟩ := atI_in (ws.map PyData.int) dg[i] gd.1 (by rw [List.length_map, hw]; exact gd.2)
    obtain ⟨v, hv, rfl⟩ := List.mem_map.mp mx
    refine ⟨dg[i], v, ?_, hx, hb v hv⟩
    rw [atI_nat, List.getElem?_map, List.getElem?_eq_getElem li]
    rfl
  have nmat : ∀ i : Nat, (hi : i < (K.drop k ++ K.take k).length) → atI (kL (K.drop k ++ K.take k)) (i : Int) = some (lf ((K.drop k ++ K.take k)[i]).1 ((K.drop k ++ K.take k)[i]).2) := fun i hi => by
    rw [atI_nat, List.getElem?_map, List.getElem?_eq_getElem hi]
    rfl
  have fb : (f - 10000).natAbs ≤ 10000 := by omega
  have nb : ((f - 10000 + 5000) % 10000 - 5000).natAbs ≤ 10000 := by
    have z1 := Int.emod_nonneg (f - 10000 + 5000) (show (10000 : Int) ≠ 0 by omega)
    have z2 := Int.emod_lt_of_pos (f - 10000 + 5000) (show (0 : Int) < 10000 by omega)
    omega
  have wb : ∀ v ∈ wideL (f - 10000), v.natAbs ≤ 10000 := fun v m => by
    simp only [wideL, List.mem_cons, List.not_mem_nil, or_false] at m
    rcases m with rfl | rfl | rfl | rfl | rfl | rfl | rfl | rfl | rfl <;> first | exact fb | decide
  have nb2 : ∀ v ∈ narrowL (f - 10000), v.natAbs ≤ 10000 := fun v m => by
    simp only [narrowL, List.mem_cons, List.not_mem_nil, or_false] at m
    rcases m with rfl | rfl | rfl | rfl | rfl | rfl | rfl | rfl | rfl <;> first | exact nb | decide
  obtain ⟨R0, l1, a1, b1⟩ := idx_lc (K := K.drop k ++ K.take k) (te := te5) (st := [some (.own (some 0) T2), some (.val (.list (L.map Ex.enc))), some (.own none (.list (kL K))), none, some (.val (.int (f - 10000))), some (.own none (.list ((wideL (f - 10000)).map .int))), some (.own none (.list ((narrowL (f - 10000)).map .int))), some (.own none (.list (dg.map .int))), some (.val (.int (dg[8] % max 1 ((kL K).length : Int)))), some (.val (.list (kL (K.drop k ++ K.take k)))), none, none]) (fun i hi => by
    obtain ⟨d, v, z1, z2, z3⟩ := val (wideL (f - 10000)) rfl wb i hi
    have z4 := nmat i hi
    refine ⟨v, _, [some (.own (some 0) T2), some (.val (.list (L.map Ex.enc))), some (.own none (.list (kL K))), none, some (.val (.int (f - 10000))), some (.own none (.list ((wideL (f - 10000)).map .int))), some (.own none (.list ((narrowL (f - 10000)).map .int))), some (.own none (.list (dg.map .int))), some (.val (.int (dg[8] % max 1 ((kL K).length : Int)))), some (.val (.list (kL (K.drop k ++ K.take k)))), none, some (.val (.int (i : Int)))], rfl, ?_, rfl, z3⟩
    simp [-List.map_append, -List.map_cons, te5, pD, kD, z1, z2, z4]) (K.drop k ++ K.take k).length 0 [] (by omega) (by simp; omega)
  obtain ⟨R1, l3, a3, b3⟩ := idx_lc (K := K.drop k ++ K.take k) (te := te6) (st := [some (.own (some 0) T2), some (.val (.list (L.map Ex.enc))), some (.own none (.list (kL K))), none, some (.val (.int (f - 10000))), some (.own none (.list ((wideL (f - 10000)).map .int))), some (.own none (.list ((narrowL (f - 10000)).map .int))), some (.own none (.list (dg.map .int))), some (.val (.int (dg[8] % max 1 ((kL K).length : Int)))), some (.val (.list (kL (K.drop k ++ K.take k)))), some (.val (.tuple (encR R0))), none]) (fun i hi => by
    obtain ⟨d, v, z1, z2, z3⟩ := val (narrowL (f - 10000)) rfl nb2 i hi
    have z4 := nmat i hi
    refine ⟨v, _, [some (.own (some 0) T2), some (.val (.list (L.map Ex.enc))), some (.own none (.list (kL K))), none, some (.val (.int (f - 10000))), some (.own none (.list ((wideL (f - 10000)).map .int))), some (.own none (.list ((narrowL (f - 10000)).map .int))), some (.own none (.list (dg.map .int))), some (.val (.int (dg[8] % max 1 ((kL K).length : Int)))), some (.val (.list (kL (K.drop k ++ K.take k)))), some (.val (.tuple (encR R0))), some (.val (.int (i : Int)))], rfl, ?_, rfl, z3⟩
    simp [-List.map_append, -List.map_cons, te6, pD, kD, z1, z2, z4]) (K.drop k ++ K.take k).length 0 [] (by omega) (by simp; omega)
  rw [List.nil_append] at l1 l3
  rw [List.drop_zero] at a1 a3
  have fourR : ∀ R : Row, R.map keyR = K.drop k ++ K.take k → (∀ r ∈ R, ∃ v : Int, r.2.2 = .int v ∧ v.natAbs ≤ 10000) → NRow R := fun R a b => by
    refine ⟨⟨by rw [a]; exact nod, ?_⟩, fun r m => ⟨?_, b r m⟩⟩
    · have : (R.map keyR).length = K.length := by rw [a, ol]
      rw [List.length_map] at this
      omega
    · have : keyR r ∈ K := (perm _).mp (by rw [← a]; exact List.mem_map.mpr ⟨r, m, rfl⟩)
      exact hf _ this
  refine ⟨R0, R1, T2, ?_, H2, fourR R0 a1 b1, fourR R1 a3 b3, by rw [a1, a3], fun w i m => ?_⟩
  · refine rows_core (m := (kL K).length) (k := dg[8] % max 1 ((kL K).length : Int)) (len := ((kL (K.drop k ++ K.take k)).length : Int)) e0 e1 e2 d8 v_lenL rfl hm ?_ (by rw [o1]; exact v_lenL) (rng1_nat _ (by omega)) ?_ ?_
    · have := cutD_len (kL K) (some (dg[8] % max 1 ((kL K).length : Int))) none
      have := cutD_len (kL K) none (some (dg[8] % max 1 ((kL K).length : Int)))
      omega
    · rw [o1, olk, ← ol]
      exact l1
    · rw [o1, olk, ← ol]
      exact l3
  · show (w, i) ∈ R0.map keyR
    rw [a1]
    exact (perm _).mpr (hin w i m)
end LW

/-! atoms, texts: what is drawn -/
namespace LW
open PySem L2 DL
abbrev sides2 : List D := [.tuple [.str (Str.ofString "state"), .str (Str.ofString "operand")], .tuple [.str (Str.ofString "left"), .str (Str.ofString "right")]]
noncomputable abbrev xE : DF := (dIfE (dCmpT (ordD .Gt) (dLenV 8) (dC (.int 0))) (dVar 8) (dC (.str (Str.ofString "+"))))
def some1 (s : Str) : Str := if 0 < s.length then s else Str.ofString "+"
theorem x_lc {a0 a1 : Option SV} {s t : Str} : lcL (dNm 8) dYes xE [8] [.str s, .str t] [a0, a1, none, none, none, none, none, none, none, none] [] = some ([.str (some1 s), .str (some1 t)], [a0, a1, none, none, none, none, none, none, none, none]) := by
  have one : ∀ u : Str, xE [a0, a1, none, none, none, none, none, none, some (.val (.str u)), none] = some (.str (some1 u), [a0, a1, none, none, none, none, none, none, some (.val (.str u)), none]) := fun u => by
    unfold some1
    by_cases h : 0 < u.length
    · have h' : (0 : Int) < (u.length : Nat) := by omega
      rw [if_pos h]
      simp [xE, h]
    · have h' : u.length = 0 := by omega
      rw [if_neg h]
      simp [xE, h']
  simp [lcL, -e_ifE, one, wipeD]
theorem some1_tx {s : Str} {n : Nat} (h : Tx n s) (hn : 1 ≤ n) : Tx n (some1 s) := by
  unfold some1
  split
  · exact h
  · exact (tx_lit (n := 1) (by decide +kernel) (by decide +kernel)).mono hn
def pick (M : List Am) (d : Int) : Am := (M[d.toNat]?).getD (.text (Str.ofString ""))
theorem pick_at {M : List Am} {d : Int} (h0 : 0 ≤ d) (h1 : d < M.length) : atI (M.map Am.enc) d = some (pick M d).enc ∧ pick M d ∈ M := by
  obtain ⟨k, rfl⟩ := Int.eq_ofNat_of_zero_le h0
  have hk : k < M.length := by omega
  unfold pick
  rw [Int.toNat_natCast, atI_nat, List.getElem?_map, List.getElem?_eq_getElem hk]
  exact ⟨rfl, List.getElem_mem hk⟩
abbrev fE : DF := (dIxV 4 (dVar 9))
abbrev gE : DF := (dIx (dF (dLst (dCons (dIxV 4 (dC (.int 0))) (dCons (dIxV 4 (dC (.int 1))) (dCons (dIxV 4 (dC (.int 3))) (dCons (dIxV 4 (dC (.int 2))) dNil)))))) (dVar 9))
def pk (M : List Am) : D → D
  | .int d => (pick M d).enc
  | x => x
theorem pick_map (M : List Am) : ∀ ds : List Int, (ds.map PyData.int).map (pk M) = (ds.map (pick M)).map Am.enc
  | [] => rfl
  | d :: ds => by rw [List.map_cons, List.map_cons, pick_map M ds]; rfl
theorem f_lc {a b u v : Str} {ds : List Int} {a0 a1 a2 a3 : Option SV} (h : InR 4 ds) (hl : ds.length ≤ 1000) : lcL (dNm 9) dYes fE [9] (ds.map .int) [a0, a1, a2, a3, some (.own none (.list [lf a 0, lf b 0, (Am.text u).enc, (Am.text v).enc])), none, none, none, none, none] [] =
    some ((ds.map (pick [.side a, .side b, .text u, .text v])).map Am.enc, [a0, a1, a2, a3, some (.own none (.list [lf a 0, lf b 0, (Am.text u).enc, (Am.text v).enc])), none, none, none, none, none]) := by
  rw [lc_map (g := pk [.side a, .side b, .text u, .text v]) (ds.map .int) (fun x m => ?_) (by rw [List.length_map]; omega), pick_map]
  obtain ⟨d, md, rfl⟩ := List.mem_map.mp m
  have hd := h d md
  have e := (pick_at (M := [.side a, .side b, .text u, .text v]) hd.1 hd.2).1
  refine ⟨_, [a0, a1, a2, a3, some (.own none (.list [lf a 0, lf b 0, (Am.text u).enc, (Am.text v).enc])), none, none, none, none, some (.val (.int d))], rfl, ?_, rfl⟩
  have e' : atI [lf a 0, lf b 0, (Am.text u).enc, (Am.text v).enc] d = some (pick [.side a, .side b, .text u, .text v] d).enc := e
  simp [fE, e', pk]
theorem g_lc {a b u v : Str} {ds : List Int} {a0 a1 a2 a3 a5 : Option SV} (h : InR 4 ds) (hl : ds.length ≤ 1000) : lcL (dNm 9) dYes gE [9] (ds.map .int) [a0, a1, a2, a3, some (.own none (.list [lf a 0, lf b 0, (Am.text u).enc, (Am.text v).enc])), a5, none, none, none, none] [] =
    some ((ds.map (pick [.side a, .side b, .text v, .text u])).map Am.enc, [a0, a1, a2, a3, some (.own none (.list [lf a 0, lf b 0, (Am.text u).enc, (Am.text v).enc])), a5, none, none, none, none]) := by
  rw [lc_map (g := pk [.side a, .side b, .text v, .text u]) (ds.map .int) (fun x m => ?_) (by rw [List.length_map]; omega), pick_map]
  obtain ⟨d, md, rfl⟩ := List.mem_map.mp m
  have hd := h d md
  have e := (pick_at (M := [.side a, .side b, .text v, .text u]) hd.1 hd.2).1
  refine ⟨_, [a0, a1, a2, a3, some (.own none (.list [lf a 0, lf b 0, (Am.text u).enc, (Am.text v).enc])), a5, none, none, none, some (.val (.int d))], rfl, ?_, rfl⟩
  have e' : atI [lf a 0, lf b 0, (Am.text v).enc, (Am.text u).enc] d = some (pick [.side a, .side b, .text v, .text u] d).enc := e
  have q : atI [lf a 0, lf b 0, (Am.text u).enc, (Am.text v).enc] 0 = some (lf a 0) ∧ atI [lf a 0, lf b 0, (Am.text u).enc, (Am.text v).enc] 1 = some (lf b 0) ∧ atI [lf a 0, lf b 0, (Am.text u).enc, (Am.text v).enc] 2 = some (Am.text u).enc ∧ atI [lf a 0, lf b 0, (Am.text u).enc, (Am.text v).enc] 3 = some (Am.text v).enc := ⟨rfl, rfl, rfl, rfl⟩
  simp [gE, e', q, pk]
theorem atoms_core {T T1 T2 T3 T4 T5 : D} {r k : Int} {a b t0 t1 u v w : Str} {ds c fl tl rest : List D} {y : D} (h1 : m__law_draw [.own (some 0) T, .val (.int 2)] = some (.val (.int r), [some (.own (some 0) T1), none])) (h2 : atI sides2 r = some (.tuple [.str a, .str b]))
    (w1 : m__law_word [.own (some 0) T1] = some (.val (.str t0), [some (.own (some 0) T2)])) (w2 : m__law_word [.own (some 0) T2] = some (.val (.str t1), [some (.own (some 0) T3)])) (eu : some1 (cutS t0 none (some 4)) = u) (ev : some1 (cutS t1 none (some 3)) = v)
    (h3 : m__law_digits [.own (some 0) T3, .val (.int 4), .val (.int 6)] = some (.own none (.list ds), [some (.own (some 0) T4), none, none])) (h4 : m__law_draw [.own (some 0) T4, .val (.int 6)] = some (.val (.int k), [some (.own (some 0) T5), none])) (hc : cutD ds none (some (1 + k)) = c)
    (l1 : lcL (dNm 9) dYes fE [9] c [some (.own (some 0) T5), some (.val (.tuple [.str a, .str b])), some (.own none (.list [.str u, .str v])), some (.val (.list c)), some (.own none (.list [lf a 0, lf b 0, (Am.text u).enc, (Am.text v).enc])), none, none, none, none, none] []
      = some (fl, [some (.own (some 0) T5), some (.val (.tuple [.str a, .str b])), some (.own none (.list [.str u, .str v])), some (.val (.list c)), some (.own none (.list [lf a 0, lf b 0, (Am.text u).enc, (Am.text v).enc])), none, none, none, none, none]))
    (l2 : lcL (dNm 9) dYes gE [9] c.reverse [some (.own (some 0) T5), some (.val (.tuple [.str a, .str b])), some (.own none (.list [.str u, .str v])), some (.val (.list c)), some (.own none (.list [lf a 0, lf b 0, (Am.text u).enc, (Am.text v).enc])), some (.own none (.list fl)), none, none, none, none] []
      = some (tl, [some (.own (some 0) T5), some (.val (.tuple [.str a, .str b])), some (.own none (.list [.str u, .str v])), some (.val (.list c)), some (.own none (.list [lf a 0, lf b 0, (Am.text u).enc, (Am.text v).enc])), some (.own none (.list fl)), none, none, none, none]))
    (ef : fl = .tuple [.str w, y] :: rest) (hl : fl.length ≤ 1000) :
    m__law_some_atoms [.own (some 0) T] = some (.val (.tuple [.tuple [.str a, .str b], .list [.tuple fl, .tuple tl, .tuple (if fl.length + 1 ≤ 6 then fl ++ [.tuple [.str w, y]] else if w = Str.ofString "text" then rest else rest ++ [.tuple [.str w, y]])]]), [some (.own (some 0) T5)]) := by
  have c1 : cutD fl none (some 1) = [.tuple [.str w, y]] := by
    rw [show (1 : Int) = ((1 : Nat) : Int) from rfl, cut_to _ 1 (by rw [ef]; simp), ef]
    rfl
  have c2 : cutD fl (some 1) none = rest := by
    rw [show (1 : Int) = ((1 : Nat) : Int) from rfl, cut_from _ 1 (by rw [ef]; simp), ef]
    rfl
  have i0 : atI fl 0 = some (.tuple [.str w, y]) := by
    rw [ef, show (0 : Int) = ((0 : Nat) : Int) from rfl, atI_nat]
    rfl
  have z1 : fl.length + 1 ≤ 16777216 := by omega
  have z2 : rest.length + 1 ≤ 16777216 := by
    have : fl.length = rest.length + 1 := by rw [ef]; rfl
    omega
  have m1 : (Am.text u).enc = .tuple [.str (Str.ofString "text"), .str u] := rfl
  have m2 : (Am.text v).enc = .tuple [.str (Str.ofString "text"), .str v] := rfl
  clear ef
  unfold m__law_some_atoms F__law_some_atoms
  have xl := fun a0 a1 => x_lc (a0 := a0) (a1 := a1) (s := cutS t0 none (some 4)) (t := cutS t1 none (some 3))
  rw [eu, ev] at xl
  simp only [fE, gE, m1, m2, lf, xE, sides2] at l1 l2 xl h2
  by_cases g1 : fl.length + 1 ≤ 6
  · have g1' : ¬ (6 : Int) < ((fl ++ [PyData.tuple [.str w, y]]).length : Nat) := by
      rw [List.length_append]; simp only [List.length_cons, List.length_nil]; omega
    rw [if_pos g1]
    simp [-List.length_append, h1, h2, w1, w2, xl, wipeD, h3, h4, hc, at2, l1, l2, c1, c2, z1, g1']
  · have g1' : (6 : Int) < ((fl ++ [PyData.tuple [.str w, y]]).length : Nat) := by
      rw [List.length_append]; simp only [List.length_cons, List.length_nil]; omega
    rw [if_neg g1]
    by_cases g2 : w = Str.ofString "text"
    · subst g2
      rw [if_pos rfl]
      simp [-List.length_append, h1, h2, w1, w2, xl, wipeD, h3, h4, hc, at2, l1, l2, c1, c2, z1, g1', i0]
    · rw [if_neg g2]
      simp [-List.length_append, h1, h2, w1, w2, xl, wipeD, h3, h4, hc, at2, l1, l2, c1, c2, z1, z2, g1', i0, g2]
theorem four_side {r : Int} (h0 : 0 ≤ r) (h1 : r < 2) : ∃ a b : Str, atI sides2 r = some (.tuple [.str a, .str b]) ∧ four a ∧ four b ∧ a ≠ b := by
  have : r = 0 ∨ r = 1 := by omega
  rcases this with rfl | rfl
  · exact ⟨_, _, rfl, .inl rfl, .inr (.inl rfl), fun z => by simp at z⟩
  · exact ⟨_, _, rfl, .inr (.inr (.inl rfl)), .inr (.inr (.inr rfl)), fun z => by simp at z⟩
/-- what an atom may be -/
def AmOf (a b : Str) (x : Am) : Prop := x = .side a ∨ x = .side b ∨ ∃ t, x = .text t ∧ Tx 10 t
theorem pick_of {a b u v : Str} (hu : Tx 10 u) (hv : Tx 10 v) {d : Int} (h0 : 0 ≤ d) (h1 : d < 4) : AmOf a b (pick [.side a, .side b, .text u, .text v] d) := by
  have := (pick_at (M := [.side a, .side b, .text u, .text v]) h0 h1).2
  simp only [List.mem_cons, List.not_mem_nil, or_false] at this
  rcases this with e | e | e | e <;> rw [e]
  · exact .inl rfl
  · exact .inr (.inl rfl)
  · exact .inr (.inr ⟨u, rfl, hu⟩)
  · exact .inr (.inr ⟨v, rfl, hv⟩)
theorem pick_side {a b u v : Str} {d : Int} (h0 : 0 ≤ d) (h1 : d < 4) {w : Str} (h : pick [.side a, .side b, .text v, .text u] d = .side w) : pick [.side a, .side b, .text u, .text v] d = .side w := by
  have : d = 0 ∨ d = 1 ∨ d = 2 ∨ d = 3 := by omega
  rcases this with rfl | rfl | rfl | rfl
  · exact h
  · exact h
  · have : Am.text v = .side w := h
    cases this
  · have : Am.text u = .side w := h
    cases this
theorem atoms {T : D} (h : Tape T) : ∃ (a b : Str) (F0 F1 F2 : List Am) (T' : D), m__law_some_atoms [.own (some 0) T] = some (.val (.tuple [.tuple [.str a, .str b], .list [.tuple (F0.map Am.enc), .tuple (F1.map Am.enc), .tuple (F2.map Am.enc)]]), [some (.own (some 0) T')]) ∧ Tape T' ∧ four a ∧ four b ∧ a ≠ b ∧
    (∀ F ∈ [F0, F1, F2], F.length ≤ 10 ∧ ∀ x ∈ F, AmOf a b x ∧ ∀ w, x = .side w → Am.side w ∈ F0) := by
  obtain ⟨r, T1, e1, H1, r0, r1⟩ := draw h 2 (by omega) (by omega)
  obtain ⟨a, b, h2, fa, fb, ab⟩ := four_side r0 r1
  obtain ⟨t0, T2, w1, H2, x0⟩ := word H1
  obtain ⟨t1, T3, w2, H3, x1⟩ := word H2
  obtain ⟨ds, T4, e3, H4, l3, g3⟩ := digits H3 4 6 (by omega) (by decide) (by omega) (by omega)
  obtain ⟨k, T5, e4, H5, k0, k1⟩ := draw H4 6 (by omega) (by omega)
  obtain ⟨k, rfl⟩ := Int.eq_ofNat_of_zero_le k0
  have xu : Tx 10 (some1 (cutS t0 none (some 4))) := (some1_tx (cutS_tx (k := 4) x0 (by omega)).1 (by omega)).mono (by omega)
  have xv : Tx 10 (some1 (cutS t1 none (some 3))) := (some1_tx (cutS_tx (k := 3) x1 (by omega)).1 (by omega)).mono (by omega)
  generalize eu : some1 (cutS t0 none (some 4)) = u at xu
  generalize ev : some1 (cutS t1 none (some 3)) = v at xv
  have hc : cutD (ds.map PyData.int) none (some (1 + (k : Int))) = (ds.take (1 + k)).map .int := by
    rw [show (1 + (k : Int)) = ((1 + k : Nat) : Int) by omega, cut_to _ _ (by rw [List.length_map]; omega), List.map_take]
  have gc : InR 4 (ds.take (1 + k)) := fun x m => g3 x (List.mem_of_mem_take m)
  have lc : (ds.take (1 + k)).length = 1 + k := by rw [List.length_take]; omega
  generalize ds.take (1 + k) = c at hc gc lc
  have l1 := f_lc (a := a) (b := b) (u := u) (v := v) (a0 := some (.own (some 0) T5)) (a1 := some (.val (.tuple [.str a, .str b]))) (a2 := some (.own none (.list [.str u, .str v]))) (a3 := some (.val (.list (c.map .int)))) gc (by omega)
  have l2 := g_lc (a := a) (b := b) (u := u) (v := v) (ds := c.reverse) (a0 := some (.own (some 0) T5)) (a1 := some (.val (.tuple [.str a, .str b]))) (a2 := some (.own none (.list [.str u, .str v]))) (a3 := some (.val (.list (c.map .int)))) (a5 := some (.own none (.list ((c.map (pick [.side a, .side b, .text u, .text v])).map Am.enc)))) (fun x m => gc x (List.mem_reverse.mp m)) (by rw [List.length_reverse]; omega)
  rw [List.map_reverse] at l2
  -- the first atom
  obtain ⟨d, c', rfl⟩ : ∃ d c', c = d :: c' := by
    cases c with
    | nil => simp at lc; omega
    | cons d c' => exact ⟨d, c', rfl⟩
  have g0 := gc d List.mem_cons_self
  have sh : ∃ w y, (pick [.side a, .side b, .text u, .text v] d).enc = .tuple [.str w, y] := by
    cases pick [Am.side a, .side b, .text u, .text v] d with
    | side w => exact ⟨w, _, rfl⟩
    | text t => exact ⟨_, _, rfl⟩
  obtain ⟨w, y, ew⟩ := sh
  have core := atoms_core (w := w) (y := y) (rest := (c'.map (pick [.side a, .side b, .text u, .text v])).map Am.enc) e1 h2 w1 w2 eu ev e3 e4 hc l1 l2 (by rw [List.map_cons, List.map_cons, ew]) (by simp only [List.length_map]; omega)
  have A0 : ∀ x ∈ (d :: c').map (pick [.side a, .side b, .text u, .text v]), AmOf a b x ∧ ∀ w, x = .side w → Am.side w ∈ (d :: c').map (pick [.side a, .side b, .text u, .text v]) := fun x m => by
    obtain ⟨j, mj, rfl⟩ := List.mem_map.mp m
    have gj := gc j mj
    exact ⟨pick_of xu xv gj.1 gj.2, fun w e => by rw [← e]; exact m⟩
  have A1 : ∀ x ∈ ((d :: c').reverse).map (pick [.side a, .side b, .text v, .text u]), AmOf a b x ∧ ∀ w, x = .side w → Am.side w ∈ (d :: c').map (pick [.side a, .side b, .text u, .text v]) := fun x m => by
    obtain ⟨j, mj, rfl⟩ := List.mem_map.mp m
    have mj' := List.mem_reverse.mp mj
    have gj := gc j mj'
    exact ⟨pick_of xv xu gj.1 gj.2, fun w e => List.mem_map.mpr ⟨j, mj', pick_side gj.1 gj.2 e⟩⟩
  have len : ((d :: c').map (pick [.side a, .side b, .text u, .text v])).length = 1 + k := by rw [List.length_map, lc]
  have third : ∃ F2 : List Am, F2.map Am.enc = (if (((d :: c').map (pick [.side a, .side b, .text u, .text v])).map Am.enc).length + 1 ≤ 6 then ((d :: c').map (pick [.side a, .side b, .text u, .text v])).map Am.enc ++ [.tuple [.str w, y]] else if w = Str.ofString "text" then (c'.map (pick [.side a, .side b, .text u, .text v])).map Am.enc else (c'.map (pick [.side a, .side b, .text u, .text v])).map Am.enc ++ [.tuple [.str w, y]]) ∧ F2.length ≤ 10 ∧ ∀ x ∈ F2, x ∈ (d :: c').map (pick [.side a, .side b, .text u, .text v]) := by
    have lc' : c'.length + 1 = 1 + k := lc
    split
    · refine ⟨(d :: c').map (pick [.side a, .side b, .text u, .text v]) ++ [pick [.side a, .side b, .text u, .text v] d], by rw [List.map_append, ← ew]; rfl, by rw [List.length_append, len]; simp; omega, fun x m => ?_⟩
      rcases List.mem_append.mp m with m | m
      · exact m
      · rw [List.mem_singleton.mp m]; exact List.mem_cons_self
    · split
      · exact ⟨_, rfl, by rw [List.length_map]; omega, fun x m => List.mem_cons_of_mem _ m⟩
      · refine ⟨c'.map (pick [.side a, .side b, .text u, .text v]) ++ [pick [.side a, .side b, .text u, .text v] d], by rw [List.map_append, ← ew]; rfl, by rw [List.length_append, List.length_map]; simp; omega, fun x m => ?_⟩
        rcases List.mem_append.mp m with m | m
        · exact List.mem_cons_of_mem _ m
        · rw [List.mem_singleton.mp m]; exact List.mem_cons_self
  obtain ⟨F2, ef2, lf2, mf2⟩ := third
  rw [← ef2] at core
  refine ⟨a, b, _, _, F2, T5, core, H5, fa, fb, ab, fun F m => ?_⟩
  simp only [List.mem_cons, List.not_mem_nil, or_false] at m
  rcases m with rfl | rfl | rfl
  · exact ⟨by omega, A0⟩
  · exact ⟨by rw [List.length_map, List.length_reverse]; omega, A1⟩
  · exact ⟨lf2, fun x m => A0 x (mf2 x m)⟩
end LW

/-! the texts of the sides; what is asked; the law -/
namespace LW
open PySem L2 DL
noncomputable abbrev sB : DS := (dSeq (dSet 5 (dCall m__law_word [.v 0]))
    (dThenKill (dIf (dCmpTV inD (dTup (dCons (dVar 4) (dCons (dC (.int 0)) dNil))) 2)
    (dApp 3 (dTup (dCons (dTup (dCons (dVar 4) (dCons (dC (.int 0)) dNil))) (dCons (dVar 5) dNil))))
    dNext) [4, 5]))
abbrev sSt (T sd at0 : D) (told : List D) : DSt := [some (.own (some 0) T), some (.val sd), some (.val at0), some (.own none (.list told)), none, none]
theorem s_step {T T' sd at0 : D} {told ds : List D} {a t : Str} {b : Bool} (h1 : m__law_word [.own (some 0) T] = some (.val (.str t), [some (.own (some 0) T')])) (h2 : inD (lf a 0) at0 = some b) (hl : told.length < 16777216) :
    forL (dNm 4) sB (.str a :: ds) (sSt T sd at0 told) = forL (dNm 4) sB ds (sSt T' sd at0 (if b = true then told ++ [pD (a, 0, .str t)] else told)) := by
  rw [forL]
  simp only [sB, sSt, lf] at h2 ⊢
  cases b <;> simp [h1, h2, hl, pD, kD]
theorem strings_core {T T' at0 : D} {a b : Str} {told : List D} (h : forL (dNm 4) sB [.str a, .str b] (sSt T (.tuple [.str a, .str b]) at0 []) = some (.nx (sSt T' (.tuple [.str a, .str b]) at0 told))) : m__law_strings [.own (some 0) T, .val (.tuple [.str a, .str b]), .val at0] = some (.val (.tuple told), [some (.own (some 0) T'), none, none]) := by
  unfold m__law_strings F__law_strings
  simp only [sB, sSt] at h
  simp [h]
theorem strings {T : D} (h : Tape T) {a b : Str} (fa : four a) (fb : four b) (ab : a ≠ b) (F0 : List Am) : ∃ (S : Row) (T' : D), m__law_strings [.own (some 0) T, .val (.tuple [.str a, .str b]), .val (.tuple (F0.map Am.enc))] = some (.val (.tuple (encR S)), [some (.own (some 0) T'), none, none]) ∧ Tape T' ∧ SRow S ∧ (∀ w, Am.side w ∈ F0 → w = a ∨ w = b → In S w 0) := by
  obtain ⟨s, T1, e1, H1, x1⟩ := word h
  obtain ⟨t, T2, e2, H2, x2⟩ := word H1
  have i1 := inT_pur (a := lf a 0) (lf_pur a 0).1 (ams_pur F0) (lf_pur a 0).2 (ams_depth F0)
  have i2 := inT_pur (a := lf b 0) (lf_pur b 0).1 (ams_pur F0) (lf_pur b 0).2 (ams_depth F0)
  have mm : ∀ w, lf w 0 ∈ F0.map Am.enc ↔ Am.side w ∈ F0 := fun w => by
    constructor
    · intro m
      obtain ⟨x, mx, e⟩ := List.mem_map.mp m
      cases x with
      | side v => simp [Am.enc, lf] at e; rw [← e]; exact mx
      | text t => simp [Am.enc, lf] at e
    · exact fun m => List.mem_map.mpr ⟨_, m, rfl⟩
  have run : ∀ (p q : Bool), inD (lf a 0) (.tuple (F0.map Am.enc)) = some p → inD (lf b 0) (.tuple (F0.map Am.enc)) = some q →
      m__law_strings [.own (some 0) T, .val (.tuple [.str a, .str b]), .val (.tuple (F0.map Am.enc))] = some (.val (.tuple (encR ((if p = true then [(a, 0, .str s)] else []) ++ (if q = true then [(b, 0, .str t)] else [])))), [some (.own (some 0) T2), none, none]) := fun p q hp hq => by
    refine strings_core ?_
    rw [s_step e1 hp (by simp), s_step e2 hq (by split <;> simp)]
    cases p <;> cases q <;> rfl
  refine ⟨_, T2, run _ _ i1 i2, H2, ⟨⟨?_, ?_⟩, fun r m => ?_⟩, fun w m hw => ?_⟩
  · by_cases p : lf a 0 ∈ F0.map Am.enc <;> by_cases q : lf b 0 ∈ F0.map Am.enc <;> simp [p, q, keyR, ab]
  · split <;> split <;> simp
  · rw [List.mem_append] at m
    rcases m with m | m
    · split at m
      · rw [List.mem_singleton.mp m]; exact ⟨fa, rfl, s, rfl, x1⟩
      · cases m
    · split at m
      · rw [List.mem_singleton.mp m]; exact ⟨fb, rfl, t, rfl, x2⟩
      · cases m
  · have mw := (mm w).mpr m
    unfold In
    rcases hw with rfl | rfl
    · rw [decide_eq_true mw, if_pos rfl]
      simp [keyR]
    · rw [decide_eq_true mw, if_pos rfl]
      simp [keyR]
/-! what is asked -/
section
variable {es al dg : List D} {r0 r1 st E A hd : D} {d one v : Int} {c : Str}
theorem right_rep (hd : d = 9 ∨ d = 10) (h1 : atI es (d - 9) = some E) (h2 : m__law_replaced_right [.val E, .val (.tuple [r0, r1]), .val (.list dg)] = some (.val (.bool true), [none, none, none])) :
    m__law_right [.val (.int d), .val (.list es), .val (.tuple [r0, r1]), .val (.list al), .val st, .val (.list dg)] = some (.val (.bool true), [none, none, none, none, none, none]) := by
  unfold m__law_right F__law_right
  rcases hd with rfl | rfl <;> simp at h1 <;> simp [h1, h2]
theorem right_join (h1 : atI al 0 = some A) (h2 : m__law_joined_right [.val A, .val st] = some (.val (.bool true), [none, none])) :
    m__law_right [.val (.int 11), .val (.list es), .val (.tuple [r0, r1]), .val (.list al), .val st, .val (.list dg)] = some (.val (.bool true), [none, none, none, none, none, none]) := by
  unfold m__law_right F__law_right
  simp [h1, h2]
theorem right_0 (n1 : ¬ d = 9) (n2 : ¬ d = 10) (n3 : ¬ d = 11) (k : d % 3 = 0) (o : d / 3 = one) (h1 : atI es one = some E) (h2 : m_worth_of [.val E, .val r0] = some (.val (.int v), [none, none])) (h3 : m__law_held [.val r0] = some (.own none hd, [none])) (h4 : m__law_a_worth 8 [.val E, .val hd, .val (.bool false)] = some (.val (.int v), [none, none, none])) :
    m__law_right [.val (.int d), .val (.list es), .val (.tuple [r0, r1]), .val (.list al), .val st, .val (.list dg)] = some (.val (.bool true), [none, none, none, none, none, none]) := by
  unfold m__law_right F__law_right
  simp [n1, n2, n3, k, o, at2, h1, h2, h3, h4, same_int]
theorem right_1 (n1 : ¬ d = 9) (n2 : ¬ d = 10) (n3 : ¬ d = 11) (k : d % 3 = 1) (o : d / 3 = one) (h1 : atI es one = some E) (h2 : m_stored_worth [.val E, .val r1] = some (.val (.int v), [none, none])) (h3 : m__law_held [.val r1] = some (.own none hd, [none])) (h4 : m__law_a_worth 8 [.val E, .val hd, .val (.bool true)] = some (.val (.int v), [none, none, none])) :
    m__law_right [.val (.int d), .val (.list es), .val (.tuple [r0, r1]), .val (.list al), .val st, .val (.list dg)] = some (.val (.bool true), [none, none, none, none, none, none]) := by
  unfold m__law_right F__law_right
  simp [n1, n2, n3, k, o, at2, h1, h2, h3, h4, same_int]
theorem right_2 (n1 : ¬ d = 9) (n2 : ¬ d = 10) (n3 : ¬ d = 11) (k : d % 3 = 2) (o : d / 3 = one) (h1 : atI al one = some A) (h2 : m_text_worth [.val A, .val st] = some (.val (.str c), [none, none])) (h3 : m__law_held [.val st] = some (.own none hd, [none])) (h4 : m__law_a_joined [.val A, .val hd] = some (.val (.str c), [none, none])) :
    m__law_right [.val (.int d), .val (.list es), .val (.tuple [r0, r1]), .val (.list al), .val st, .val (.list dg)] = some (.val (.bool true), [none, none, none, none, none, none]) := by
  unfold m__law_right F__law_right
  simp [n1, n2, n3, k, o, at2, h1, h2, h3, h4, same_str]
end
theorem right {R0 R1 S : Row} {E0 E1 E2 : Ex} {F0 F1 F2 : List Am} {dg : List Int} (h0 : NRow R0) (h1 : NRow R1) (hk : R1.map keyR = R0.map keyR) (hS : SRow S) (gE : ∀ E ∈ [E0, E1, E2], E.Good (In R0) ∧ E.n ≤ 6 ∧ E.dep ≤ 6) (gF : ∀ F ∈ [F0, F1, F2], F.length ≤ 10 ∧ ∀ x ∈ F, x.Good fun w => In S w 0) (hl : dg.length = 6) (hg : InR 10 dg)
    {d : Int} (d0 : 0 ≤ d) (d1 : d < 12) : m__law_right [.val (.int d), .val (.list [E0.enc, E1.enc, E2.enc]), .val (.tuple [.tuple (encR R0), .tuple (encR R1)]), .val (.list [.tuple (F0.map Am.enc), .tuple (F1.map Am.enc), .tuple (F2.map Am.enc)]), .val (.tuple (encR S)), .val (.list (dg.map .int))] = some (.val (.bool true), [none, none, none, none, none, none]) := by
  have W : ∀ E ∈ [E0, E1, E2], m_worth_of [.val E.enc, .val (.tuple (encR R0))] = some (.val (.int (E.val false (rho R0))), [none, none]) ∧ m__law_a_worth 8 [.val E.enc, .val (tdict (encD R0)), .val (.bool false)] = some (.val (.int (E.val false (rho R0))), [none, none, none]) ∧
      m_stored_worth [.val E.enc, .val (.tuple (encR R1))] = some (.val (.int (E.val true (rho R1))), [none, none]) ∧ m__law_a_worth 8 [.val E.enc, .val (tdict (encD R1)), .val (.bool true)] = some (.val (.int (E.val true (rho R1))), [none, none, none]) ∧
      m__law_replaced_right [.val E.enc, .val (.tuple [.tuple (encR R0), .tuple (encR R1)]), .val (.list (dg.map .int))] = some (.val (.bool true), [none, none, none]) := fun E m => by
    obtain ⟨g, n, p⟩ := gE E m
    have g1 : E.Good (In R1) := g.imp fun a b z => by unfold In at z ⊢; rw [hk]; exact z
    exact ⟨worth_of h0 g (by omega) (by omega), a_of false h0 g (by omega) (by omega), stored h1 g1 (by omega) (by omega), a_of true h1 g1 (by omega) (by omega), replaced h0 h1 hk g p n hl hg⟩
  have X : ∀ F ∈ [F0, F1, F2], m_text_worth [.val (.tuple (F.map Am.enc)), .val (.tuple (encR S))] = some (.val (.str (cat (F.map (Am.txt (tau S))))), [none, none]) ∧ m__law_a_joined [.val (.tuple (F.map Am.enc)), .val (tdict (encD S))] = some (.val (.str (cat (F.map (Am.txt (tau S))))), [none, none]) := fun F m => by
    obtain ⟨n, g⟩ := gF F m
    exact ⟨text_worth hS g (by omega), a_joined hS g (by omega)⟩
  obtain ⟨w00, w01, w02, w03, w04⟩ := W E0 (by simp)
  obtain ⟨w10, w11, w12, w13, w14⟩ := W E1 (by simp)
  obtain ⟨w20, w21, w22, w23, w24⟩ := W E2 (by simp)
  obtain ⟨x00, x01⟩ := X F0 (by simp)
  obtain ⟨x10, x11⟩ := X F1 (by simp)
  obtain ⟨x20, x21⟩ := X F2 (by simp)
  have : d = 0 ∨ d = 1 ∨ d = 2 ∨ d = 3 ∨ d = 4 ∨ d = 5 ∨ d = 6 ∨ d = 7 ∨ d = 8 ∨ d = 9 ∨ d = 10 ∨ d = 11 := by omega
  rcases this with rfl | rfl | rfl | rfl | rfl | rfl | rfl | rfl | rfl | rfl | rfl | rfl
  · exact right_0 (by omega) (by omega) (by omega) rfl rfl rfl w00 (held h0.1) w01
  · exact right_1 (by omega) (by omega) (by omega) rfl rfl rfl w02 (held h1.1) w03
  · exact right_2 (by omega) (by omega) (by omega) rfl rfl rfl x00 (held hS.1) x01
  · exact right_0 (by omega) (by omega) (by omega) rfl rfl rfl w10 (held h0.1) w11
  · exact right_1 (by omega) (by omega) (by omega) rfl rfl rfl w12 (held h1.1) w13
  · exact right_2 (by omega) (by omega) (by omega) rfl rfl rfl x10 (held hS.1) x11
  · exact right_0 (by omega) (by omega) (by omega) rfl rfl rfl w20 (held h0.1) w21
  · exact right_1 (by omega) (by omega) (by omega) rfl rfl rfl w22 (held h1.1) w23
  · exact right_2 (by omega) (by omega) (by omega) rfl rfl rfl x20 (held hS.1) x21
  · exact right_rep (.inl rfl) rfl w04
  · exact right_rep (.inr rfl) rfl w14
  · exact right_join rfl (joined_right hS (gF F0 (by simp)).2)
end LW

/-! the law -/
namespace LW
open PySem L2 DL
noncomputable abbrev dB : DS := (dThenKill (dIf (dNot (dTest (dF (dCall m__law_right [.e (dVar 13), .e (dVar 7), .e (dVar 8), .e (dVar 10), .e (dVar 11), .e (dVar 4)]))))
    (dRet (dV (dC (.bool false))))
    dNext) [13])
abbrev dSt (S T lv : D) (dg ot : D) (k : Int) (cg : D) (es : SV) (rw sd al st rd : D) : DSt := [some (.val S), some (.own none T), some (.val lv), some (.val dg), some (.val ot), some (.val (.int k)), some (.val cg), some es, some (.val rw), some (.val sd), some (.val al), some (.val st), some (.val rd), none]
theorem d_step {S T lv dg ot cg rw' sd al st rd d es : D} {ds : List D} {k : Int} {e : SV} (he : e = .val es ∨ e = .own none es) (h : m__law_right [.val d, .val es, .val rw', .val al, .val st, .val ot] = some (.val (.bool true), [none, none, none, none, none, none])) :
    forL (dNm 13) dB (d :: ds) (dSt S T lv dg ot k cg e rw' sd al st rd) = forL (dNm 13) dB ds (dSt S T lv dg ot k cg (.val es) rw' sd al st rd) := by
  rw [forL]
  simp only [dB, dSt]
  rcases he with rfl | rfl <;> simp [h]
theorem d_loop {S T lv dg ot cg rw' sd al st rd es : D} {k : Int} : ∀ (ds : List D) (e : SV), (e = .val es ∨ e = .own none es) → (∀ d ∈ ds, m__law_right [.val d, .val es, .val rw', .val al, .val st, .val ot] = some (.val (.bool true), [none, none, none, none, none, none])) →
    ∃ e', forL (dNm 13) dB ds (dSt S T lv dg ot k cg e rw' sd al st rd) = some (.nx (dSt S T lv dg ot k cg e' rw' sd al st rd))
  | [], e, _, _ => ⟨e, rfl⟩
  | d :: ds, e, he, h => by
    rw [d_step he (h d List.mem_cons_self)]
    exact d_loop ds (.val es) (.inl rfl) fun x m => h x (List.mem_cons_of_mem _ m)
theorem range12 : rangeL (.int 12) = some [.int 0, .int 1, .int 2, .int 3, .int 4, .int 5, .int 6, .int 7, .int 8, .int 9, .int 10, .int 11] := by
  have h : rangeL (.int 12) = @ite _ (0 ≤ (12 : Int) ∧ (12 : Int) ≤ 16777216) (Classical.propDecidable _) (some (DL.intsFrom 0 (12 : Int).toNat)) none := rfl
  rw [h, ite_cl, if_pos ⟨by omega, by omega⟩]
  rfl
theorem law_core {S T0 T1 T2 T3 T4 T5 T6 T7 E0 E1 E2 r0 r1 sd a0 st : D} {lv dg ot al rd cg c1 c3 : List D} {q0 N k dk cv : Int} {e' : SV} (k0 : m__law_tape [.val S] = some (.own none T0, [none])) (k1 : m__law_some_leaves [.own (some 0) T0] = some (.val (.list lv), [some (.own (some 0) T1)]))
    (k2 : m__law_digits [.own (some 0) T1, .val (.int 10), .val (.int 6)] = some (.own none (.list dg), [some (.own (some 0) T2), none, none])) (k3 : m__law_digits [.own (some 0) T2, .val (.int 10), .val (.int 6)] = some (.own none (.list ot), [some (.own (some 0) T3), none, none]))
    (o0 : atI ot 0 = some (.int q0)) (hN : lenD [.list lv] = some (.int N)) (hp : 0 < N - 1) (hk : 1 + q0 % (N - 1) = k) (hd : atI dg k = some (.int dk)) (hm : mulOk 5 (dk / 5)) (hc : (dk + 1 + q0 % 4) % 5 + 5 * (dk / 5) = cv)
    (s1 : cutD dg none (some k) = c1) (s3 : cutD dg (some (k + 1)) none = c3) (z1 : c1.length + 1 ≤ 16777216) (z2 : (c1 ++ [PyData.int cv]).length + c3.length ≤ 16777216) (hg : c1 ++ [.int cv] ++ c3 = cg)
    (t0 : m__law_tree [.val (.list lv), .val (.list dg)] = some (.val E0, [none, none])) (t1 : m__law_tree [.val (.list lv.reverse), .val (.list ot)] = some (.val E1, [none, none])) (t2 : m__law_tree [.val (.list lv), .val (.list cg)] = some (.val E2, [none, none]))
    (k4 : m__law_rows [.own (some 0) T3, .val (.list lv)] = some (.val (.tuple [r0, r1]), [some (.own (some 0) T4), none])) (k5 : m__law_some_atoms [.own (some 0) T4] = some (.val (.tuple [sd, .list al]), [some (.own (some 0) T5)])) (a1 : atI al 0 = some a0)
    (k6 : m__law_strings [.own (some 0) T5, .val sd, .val a0] = some (.val st, [some (.own (some 0) T6), none, none])) (k7 : m__law_round [.own (some 0) T6, .val (.list [.int 0, .int 1, .int 2, .int 3, .int 4, .int 5, .int 6, .int 7, .int 8, .int 9, .int 10, .int 11])] = some (.val (.list rd), [some (.own (some 0) T7), none]))
    (z3 : rd.length + (cutD rd none (some 4)).length ≤ 16777216) (z4 : (rd ++ cutD rd none (some 4)).length + 2 ≤ 16777216)
    (lp : forL (dNm 13) dB (rd ++ cutD rd none (some 4) ++ [.int 0, .int 2]) (dSt S T7 (.list lv) (.list dg) (.list ot) k (.list cg) (.own none (.list [E0, E1, E2])) (.tuple [r0, r1]) sd (.list al) st (.list rd)) = some (.nx (dSt S T7 (.list lv) (.list dg) (.list ot) k (.list cg) e' (.tuple [r0, r1]) sd (.list al) st (.list rd)))) :
    m_law [.val S] = some (.val (.bool true), [none]) := by
  have hp' : 1 < N := by omega
  simp only [dB, dSt] at lp
  unfold m_law F_law
  simp [-List.length_append, -List.append_assoc, -v_lenL, k0, k1, k2, k3, o0, hN, hp', hk, hd, hm, hc, s1, s3, z1, z2, hg, t0, t1, t2, k4, k5, a1, k6, range12, k7, z3, z4, lp]
theorem law_holds : DL.Holds m_law := fun ns _ => by
  obtain ⟨T0, k0, H0⟩ := tape ns
  obtain ⟨L, T1, k1, H1, l2, l6, hL⟩ := leaves H0
  obtain ⟨dg, T2, k2, H2, n2, g2⟩ := digits H1 10 6 (by omega) (by decide) (by omega) (by omega)
  obtain ⟨ot, T3, k3, H3, n3, g3⟩ := digits H2 10 6 (by omega) (by decide) (by omega) (by omega)
  have hq := g3 ot[0] (List.getElem_mem (by omega))
  have o0 : atI (ot.map PyData.int) 0 = some (.int ot[0]) := by
    rw [show (0 : Int) = ((0 : Nat) : Int) from rfl, atI_nat, List.getElem?_map, List.getElem?_eq_getElem (by omega)]
    rfl
  have hp : (0 : Int) < ((L.map Ex.enc).length : Int) - 1 := by rw [List.length_map]; omega
  have m0 : 0 ≤ ot[0] % (((L.map Ex.enc).length : Int) - 1) := Int.emod_nonneg _ (by omega)
  have m1 : ot[0] % (((L.map Ex.enc).length : Int) - 1) < ((L.map Ex.enc).length : Int) - 1 := Int.emod_lt_of_pos _ hp
  have l6' : ((L.map Ex.enc).length : Int) ≤ 6 := by rw [List.length_map]; omega
  obtain ⟨k, hk⟩ := Int.eq_ofNat_of_zero_le (show 0 ≤ 1 + ot[0] % (((L.map Ex.enc).length : Int) - 1) by omega)
  have k5 : k < 6 := by omega
  have hd : atI (dg.map PyData.int) (k : Int) = some (.int dg[k]) := by
    rw [atI_nat, List.getElem?_map, List.getElem?_eq_getElem (by omega)]
    rfl
  have rd := g2 dg[k] (List.getElem_mem (by omega))
  have q0 : 0 ≤ dg[k] / 5 := Int.ediv_nonneg rd.1 (by omega)
  have q1 : dg[k] / 5 < 2 := Int.ediv_lt_of_lt_mul (by omega) (by omega)
  have s1 : cutD (dg.map PyData.int) none (some (k : Int)) = (dg.take k).map .int := by rw [cut_to _ k (by rw [List.length_map]; omega), List.map_take]
  have s3 : cutD (dg.map PyData.int) (some ((k : Int) + 1)) none = (dg.drop (k + 1)).map .int := by
    rw [show ((k : Int) + 1) = ((k + 1 : Nat) : Int) by omega, cut_from _ (k + 1) (by rw [List.length_map]; omega), List.map_drop]
  have hg : (dg.take k).map PyData.int ++ [.int ((dg[k] + 1 + ot[0] % 4) % 5 + 5 * (dg[k] / 5))] ++ (dg.drop (k + 1)).map PyData.int = (dg.take k ++ [(dg[k] + 1 + ot[0] % 4) % 5 + 5 * (dg[k] / 5)] ++ dg.drop (k + 1)).map .int := by simp
  have lg : (dg.take k ++ [(dg[k] + 1 + ot[0] % 4) % 5 + 5 * (dg[k] / 5)] ++ dg.drop (k + 1)).length = 6 := by
    simp only [List.length_append, List.length_take, List.length_drop, List.length_cons, List.length_nil]; omega
  obtain ⟨R0, R1, T4, k4, H4, h0, h1, hkk, hin⟩ := rows H3 hL l6
  have gL : ∀ e ∈ L, e.Good (In R0) ∧ e.n = 1 ∧ e.dep = 1 := fun e m => by
    rcases hL e m with ⟨n, rfl, hb⟩ | ⟨w, i, rfl, fw⟩
    · exact ⟨by show n.natAbs ≤ 20000; omega, rfl, rfl⟩
    · exact ⟨⟨fw, hin w i m⟩, rfl, rfl⟩
  obtain ⟨E0, t0, ge0, en0, ed0⟩ := tree (dg := dg) gL (by omega) (by omega) (by omega)
  obtain ⟨E1, t1, ge1, en1, ed1⟩ := tree (L := L.reverse) (dg := ot) (fun e m => gL e (List.mem_reverse.mp m)) (by rw [List.length_reverse]; omega) (by rw [List.length_reverse]; omega) (by rw [List.length_reverse]; omega)
  obtain ⟨E2, t2, ge2, en2, ed2⟩ := tree (dg := dg.take k ++ [(dg[k] + 1 + ot[0] % 4) % 5 + 5 * (dg[k] / 5)] ++ dg.drop (k + 1)) gL (by omega) (by omega) (by omega)
  rw [List.length_reverse] at en1 ed1
  rw [List.map_reverse] at t1
  obtain ⟨a, b, F0, F1, F2, T5, k5', H5, fa, fb, ab, gF⟩ := atoms H4
  obtain ⟨S, T6, k6, H6, hS, inS⟩ := strings H5 fa fb ab F0
  obtain ⟨rnd, T7, k7, H7, hr, lr⟩ := round H6 [.int 0, .int 1, .int 2, .int 3, .int 4, .int 5, .int 6, .int 7, .int 8, .int 9, .int 10, .int 11] (by simp) (by simp)
  have A := fun d d0 d1 => right (E0 := E0) (E1 := E1) (E2 := E2) (F0 := F0) (F1 := F1) (F2 := F2) (dg := ot) (d := d) h0 h1 hkk hS (fun E m => by
    simp only [List.mem_cons, List.not_mem_nil, or_false] at m
    rcases m with rfl | rfl | rfl
    · exact ⟨ge0, by omega, by omega⟩
    · exact ⟨ge1, by omega, by omega⟩
    · exact ⟨ge2, by omega, by omega⟩) (fun F m => ⟨(gF F m).1, fun x mx => by
    obtain ⟨hx, hs⟩ := (gF F m).2 x mx
    rcases hx with rfl | rfl | ⟨t, rfl, ht⟩
    · exact ⟨fa, inS _ (hs _ rfl) (.inl rfl)⟩
    · exact ⟨fb, inS _ (hs _ rfl) (.inr rfl)⟩
    · exact ht⟩) n3 g3 d0 d1
  have cl := cutD_len rnd none (some 4)
  obtain ⟨e', lp⟩ := d_loop (S := .list (ns.map .int)) (T := T7) (lv := .list (L.map Ex.enc)) (dg := .list (dg.map .int)) (ot := .list (ot.map .int)) (cg := .list ((dg.take k ++ [(dg[k] + 1 + ot[0] % 4) % 5 + 5 * (dg[k] / 5)] ++ dg.drop (k + 1)).map .int)) (rw' := .tuple [.tuple (encR R0), .tuple (encR R1)]) (sd := .tuple [.str a, .str b]) (al := .list [.tuple (F0.map Am.enc), .tuple (F1.map Am.enc), .tuple (F2.map Am.enc)]) (st := .tuple (encR S)) (rd := .list rnd) (es := .list [E0.enc, E1.enc, E2.enc]) (k := (k : Int)) (rnd ++ cutD rnd none (some 4) ++ [.int 0, .int 2]) (.own none (.list [E0.enc, E1.enc, E2.enc])) (.inr rfl) (fun d m => by
    have : ∃ i : Int, d = .int i ∧ 0 ≤ i ∧ i < 12 := by
      rw [List.mem_append, List.mem_append] at m
      have key : ∀ x ∈ rnd, ∃ i : Int, x = .int i ∧ 0 ≤ i ∧ i < 12 := fun x mx => by
        have := hr x mx
        simp only [List.mem_cons, List.not_mem_nil, or_false] at this
        rcases this with rfl | rfl | rfl | rfl | rfl | rfl | rfl | rfl | rfl | rfl | rfl | rfl <;> exact ⟨_, rfl, by omega, by omega⟩
      rcases m with (m | m) | m
      · exact key d m
      · exact key d (cutD_mem m)
      · simp only [List.mem_cons, List.not_mem_nil, or_false] at m
        rcases m with rfl | rfl <;> exact ⟨_, rfl, by omega, by omega⟩
    obtain ⟨i, rfl, i0, i1⟩ := this
    exact A i i0 i1)
  exact ⟨[none], law_core k0 k1 k2 k3 o0 v_lenL hp hk hd (mulOk_l ⟨by omega, by omega⟩) rfl s1 s3 (by rw [List.length_map, List.length_take]; omega) (by rw [List.length_append, List.length_map, List.length_map, List.length_take, List.length_drop]; simp only [List.length_cons, List.length_nil]; omega) hg t0 t1 t2 k4 k5' rfl k6 k7 (by omega) (by rw [List.length_append]; omega) lp⟩
end LW

/-! that the text does so: printed by gen.py -/
namespace LW
open PySem PySem.Spec PyProof.Rows L2 DL
def topS (i : Nat) : Stmt := PySem.Challenge.pw_stratakv_k01_worths_by_rows_and_by_parts.main.body.getD i (.Pass ⟨0, 0, 0, 0⟩)
/-- the names that the text leaves to the built-ins -/
structure Free (K : Fg) (mg : Str → Option Value) : Prop where
  n_abs : mg "abs" = none
  n_bool : mg "bool" = none
  n_int : mg "int" = none
  n_isinstance : mg "isinstance" = none
  n_len : mg "len" = none
  n_list : mg "list" = none
  n_max : mg "max" = none
  n_min : mg "min" = none
  n_range : mg "range" = none
  n_reversed : mg "reversed" = none
  n_str : mg "str" = none
  n_tuple : mg "tuple" = none
  k_HALF : ∃ t, mg "HALF" = some (.int 5000 t)
  k_LEAF_WORDS : KStrs K mg "LEAF_WORDS" [Str.ofString "number", Str.ofString "state", Str.ofString "operand", Str.ofString "left", Str.ofString "right"]
  k_SUM_WORDS : KStrs K mg "SUM_WORDS" [Str.ofString "plus", Str.ofString "minus", Str.ofString "times"]
  k_WHOLE : ∃ t, mg "WHOLE" = some (.int 10000 t)
section
variable {P : Program} {w : World} {K : Fg} {mg : Str → Option Value}
abbrev N_reduced_number : List Str := ["number"]
theorem sc_reduced_number : FnScope N_reduced_number ["number"] (defScope (topS 5)) := ⟨rfl, rfl, rfl, by decide +kernel, rfl, by decide +kernel, by decide +kernel⟩
theorem ok_reduced_number (T : Free K mg) (D : DefAt K mg "reduced_number" (topS 5) ["number"])  : Cal P w K mg 1 "reduced_number" ["number"] m_reduced_number :=
  cal_of (N := N_reduced_number) (k := 0) (fs := F_reduced_number) rfl D sc_reduced_number fun base f cdv A outer s H E hr => have nd := sc_reduced_number.nd
  (ss_one (s_ret (val_pe (pf_bin oSub (pf_bin oMod (pf_bin oAdd (pf_var 0) (pf_kint rfl T.k_HALF)) (pf_kint rfl T.k_WHOLE)) (pf_kint rfl T.k_HALF)))))
abbrev N_combined_worth : List Str := ["word", "first", "second"]
theorem sc_combined_worth : FnScope N_combined_worth ["word", "first", "second"] (defScope (topS 6)) := ⟨rfl, rfl, rfl, by decide +kernel, rfl, by decide +kernel, by decide +kernel⟩
theorem ok_combined_worth (T : Free K mg) (D : DefAt K mg "combined_worth" (topS 6) ["word", "first", "second"])  : Cal P w K mg 1 "combined_worth" ["word", "first", "second"] m_combined_worth :=
  cal_of (N := N_combined_worth) (k := 0) (fs := F_combined_worth) rfl D sc_combined_worth fun base f cdv A outer s H E hr => have nd := sc_combined_worth.nd
  (ss_cons (s_if (pt_cmp' (oEq (room64 hr)) (pf_var 0) (pf_str))
    (ss_one (s_ret (val_pe (pf_bin oAdd (pf_var 1) (pf_var 2)))))
    ss_nil)
    (ss_cons (s_if (pt_cmp' (oEq (room64 hr)) (pf_var 0) (pf_str))
    (ss_one (s_ret (val_pe (pf_bin oSub (pf_var 1) (pf_var 2)))))
    ss_nil)
    (ss_cons (s_if (pt_cmp' (oEq (room64 hr)) (pf_var 0) (pf_str))
    (ss_one (s_ret (val_pe (pf_bin oMul (pf_var 1) (pf_var 2)))))
    ss_nil)
    (ss_cons (s_if (pt_cmp' (oEq (room64 hr)) (pf_var 0) (pf_str))
    (ss_one (s_ret (val_pe (pf_callB rfl T.n_min (paf_cons (pf_var 1) (paf_cons (pf_var 2) paf_nil)) (cMinV rfl (room70 hr)) (by decide +kernel)))))
    ss_nil)
    (ss_one (s_ret (val_pe (pf_callB rfl T.n_max (paf_cons (pf_var 1) (paf_cons (pf_var 2) paf_nil)) (cMaxV rfl (room70 hr)) (by decide +kernel)))))))))
abbrev N_full_worth : List Str := ["expression", "known", "word"]
theorem sc_full_worth : FnScope N_full_worth ["expression", "known"] (defScope (topS 7)) := ⟨rfl, rfl, rfl, by decide +kernel, rfl, by decide +kernel, by decide +kernel⟩
theorem okr_full_worth (T : Free K mg) (D : DefAt K mg "full_worth" (topS 7) ["expression", "known"]) (c_combined_worth : Cal P w K mg 1 "combined_worth" ["word", "first", "second"] m_combined_worth) : ∀ k : Nat, Cal P w K mg (1 + k) "full_worth" ["expression", "known"] (m_full_worth k)
  | 0 => cal_never D
  | k + 1 =>
    have c_full_worth : Cal P w K mg (1 + k) "full_worth" ["expression", "known"] (m_full_worth k) := okr_full_worth T D c_combined_worth k
    cal_of (N := N_full_worth) (k := 1 + k) (fs := F_full_worth (m_full_worth k)) rfl D sc_full_worth fun base f cdv A outer s H E hr => have nd := sc_full_worth.nd
    (ss_cons (s_set 2 nd (val_pe (pf_ixV 0 pf_int)))
    (ss_cons (s_if (pt_cmp' (oEq (room64 hr)) (pf_var 2) (pf_str))
    (ss_one (s_ret (val_pe (pf_ixV 0 pf_int))))
    ss_nil)
    (ss_cons (s_if (pt_inC rfl T.k_LEAF_WORDS (pf_var 2))
    (ss_one (s_ret (val_pe (pf_getV 1 (room66 hr) (pf_var 0)))))
    ss_nil)
    (ss_one (s_ret (pd_cal c_combined_worth hr (ar_e (pf_var 2) (ar_e (frz_pe (pd_cal c_full_worth hr (ar_e (pf_ixV 0 pf_int) (ar_e (pf_var 1) ar_nil)))) (ar_e (frz_pe (pd_cal c_full_worth hr (ar_e (pf_ixV 0 pf_int) (ar_e (pf_var 1) ar_nil)))) ar_nil)))))))))
theorem ok_full_worth (T : Free K mg) (D : DefAt K mg "full_worth" (topS 7) ["expression", "known"]) (c_combined_worth : Cal P w K mg 1 "combined_worth" ["word", "first", "second"] m_combined_worth) : Cal P w K mg 9 "full_worth" ["expression", "known"] (m_full_worth 8) := okr_full_worth T D c_combined_worth 8
abbrev N_wrapped_worth : List Str := ["expression", "known", "word", "worth"]
theorem sc_wrapped_worth : FnScope N_wrapped_worth ["expression", "known"] (defScope (topS 8)) := ⟨rfl, rfl, rfl, by decide +kernel, rfl, by decide +kernel, by decide +kernel⟩
theorem okr_wrapped_worth (T : Free K mg) (D : DefAt K mg "wrapped_worth" (topS 8) ["expression", "known"]) (c_combined_worth : Cal P w K mg 1 "combined_worth" ["word", "first", "second"] m_combined_worth) (c_reduced_number : Cal P w K mg 1 "reduced_number" ["number"] m_reduced_number) : ∀ k : Nat, Cal P w K mg (1 + k) "wrapped_worth" ["expression", "known"] (m_wrapped_worth k)
  | 0 => cal_never D
  | k + 1 =>
    have c_wrapped_worth : Cal P w K mg (1 + k) "wrapped_worth" ["expression", "known"] (m_wrapped_worth k) := okr_wrapped_worth T D c_combined_worth c_reduced_number k
    cal_of (N := N_wrapped_worth) (k := 1 + k) (fs := F_wrapped_worth (m_wrapped_worth k)) rfl D sc_wrapped_worth fun base f cdv A outer s H E hr => have nd := sc_wrapped_worth.nd
    (ss_cons (s_set 2 nd (val_pe (pf_ixV 0 pf_int)))
    (ss_cons (s_if (pt_cmp' (oEq (room64 hr)) (pf_var 2) (pf_str))
    (ss_one (s_ret (val_pe (pf_ixV 0 pf_int))))
    ss_nil)
    (ss_cons (s_if (pt_inC rfl T.k_LEAF_WORDS (pf_var 2))
    (ss_one (s_ret (val_pe (pf_getV 1 (room66 hr) (pf_var 0)))))
    ss_nil)
    (ss_cons (s_set 3 nd (pd_cal c_combined_worth hr (ar_e (pf_var 2) (ar_e (frz_pe (pd_cal c_wrapped_worth hr (ar_e (pf_ixV 0 pf_int) (ar_e (pf_var 1) ar_nil)))) (ar_e (frz_pe (pd_cal c_wrapped_worth hr (ar_e (pf_ixV 0 pf_int) (ar_e (pf_var 1) ar_nil)))) ar_nil)))))
    (ss_cons (s_if (pt_inC rfl T.k_SUM_WORDS (pf_var 2))
    (ss_one (s_ret (pd_cal c_reduced_number hr (ar_e (pf_var 3) ar_nil))))
    ss_nil)
    (ss_one (s_ret (pd_mov 3))))))))
theorem ok_wrapped_worth (T : Free K mg) (D : DefAt K mg "wrapped_worth" (topS 8) ["expression", "known"]) (c_combined_worth : Cal P w K mg 1 "combined_worth" ["word", "first", "second"] m_combined_worth) (c_reduced_number : Cal P w K mg 1 "reduced_number" ["number"] m_reduced_number) : Cal P w K mg 9 "wrapped_worth" ["expression", "known"] (m_wrapped_worth 8) := okr_wrapped_worth T D c_combined_worth c_reduced_number 8
abbrev N_joined_text : List Str := ["atoms", "known", "atom"]
theorem sc_joined_text : FnScope N_joined_text ["atoms", "known"] (defScope (topS 9)) := ⟨rfl, rfl, rfl, by decide +kernel, rfl, by decide +kernel, by decide +kernel⟩
theorem ok_joined_text (T : Free K mg) (D : DefAt K mg "joined_text" (topS 9) ["atoms", "known"])  : Cal P w K mg 1 "joined_text" ["atoms", "known"] m_joined_text :=
  cal_of (N := N_joined_text) (k := 0) (fs := F_joined_text) rfl D sc_joined_text fun base f cdv A outer s H E hr => have nd := sc_joined_text.nd
  (ss_one (s_ret (val_pe (pf_join (pf_str) (frz_pe (pd_lc (own := [("atom", 2)])  rfl nd (i_d (pf_var 0)) (blkOk_by rfl) (fun _ _ _ _ _ => (gw_nm 2 (by decide) nd)) (fun _ _ _ _ _ => ts_nil) (fun _ _ _ _ _ => (pf_if (pt_cmp' (oEq (room64 hr)) (pf_ixV 2 pf_int) (pf_str)) (pf_ixV 2 pf_int) (pf_getV 1 (room66 hr) (pf_var 2))))))))))
abbrev N_worth_of : List Str := ["expression", "worths", "leaf", "worth"]
theorem sc_worth_of : FnScope N_worth_of ["expression", "worths"] (defScope (topS 10)) := ⟨rfl, rfl, rfl, by decide +kernel, rfl, by decide +kernel, by decide +kernel⟩
theorem ok_worth_of (T : Free K mg) (D : DefAt K mg "worth_of" (topS 10) ["expression", "worths"]) (c_full_worth : Cal P w K mg 9 "full_worth" ["expression", "known"] (m_full_worth 8)) : Cal P w K mg 10 "worth_of" ["expression", "worths"] m_worth_of :=
  cal_of (N := N_worth_of) (k := 9) (fs := F_worth_of) rfl D sc_worth_of fun base f cdv A outer s H E hr => have nd := sc_worth_of.nd
  (ss_one (s_ret (pd_cal c_full_worth hr (ar_e (pf_var 0) (ar_e (frz_pe (pd_dcT (own := [("leaf", 2), ("worth", 3)]) (room66 hr) rfl nd (i_d (pf_var 1)) (blkOk_by rfl) (fun _ _ _ _ _ => (gw_tp 2 rfl (gw_cons (gw_nm 2 (by decide) nd) (gw_cons (gw_nm 3 (by decide) nd) gw_nil)))) (fun _ _ _ _ _ => ts_nil) (fun _ _ _ _ _ => (pf_var 2)) (fun _ _ _ _ _ => (pf_var 3)))) ar_nil)))))
abbrev N_stored_worth : List Str := ["expression", "worths", "leaf", "worth"]
theorem sc_stored_worth : FnScope N_stored_worth ["expression", "worths"] (defScope (topS 11)) := ⟨rfl, rfl, rfl, by decide +kernel, rfl, by decide +kernel, by decide +kernel⟩
theorem ok_stored_worth (T : Free K mg) (D : DefAt K mg "stored_worth" (topS 11) ["expression", "worths"]) (c_wrapped_worth : Cal P w K mg 9 "wrapped_worth" ["expression", "known"] (m_wrapped_worth 8)) : Cal P w K mg 10 "stored_worth" ["expression", "worths"] m_stored_worth :=
  cal_of (N := N_stored_worth) (k := 9) (fs := F_stored_worth) rfl D sc_stored_worth fun base f cdv A outer s H E hr => have nd := sc_stored_worth.nd
  (ss_one (s_ret (pd_cal c_wrapped_worth hr (ar_e (pf_var 0) (ar_e (frz_pe (pd_dcT (own := [("leaf", 2), ("worth", 3)]) (room66 hr) rfl nd (i_d (pf_var 1)) (blkOk_by rfl) (fun _ _ _ _ _ => (gw_tp 2 rfl (gw_cons (gw_nm 2 (by decide) nd) (gw_cons (gw_nm 3 (by decide) nd) gw_nil)))) (fun _ _ _ _ _ => ts_nil) (fun _ _ _ _ _ => (pf_var 2)) (fun _ _ _ _ _ => (pf_var 3)))) ar_nil)))))
abbrev N_text_worth : List Str := ["expression", "worths", "atom", "worth"]
theorem sc_text_worth : FnScope N_text_worth ["expression", "worths"] (defScope (topS 12)) := ⟨rfl, rfl, rfl, by decide +kernel, rfl, by decide +kernel, by decide +kernel⟩
theorem ok_text_worth (T : Free K mg) (D : DefAt K mg "text_worth" (topS 12) ["expression", "worths"]) (c_joined_text : Cal P w K mg 1 "joined_text" ["atoms", "known"] m_joined_text) : Cal P w K mg 2 "text_worth" ["expression", "worths"] m_text_worth :=
  cal_of (N := N_text_worth) (k := 1) (fs := F_text_worth) rfl D sc_text_worth fun base f cdv A outer s H E hr => have nd := sc_text_worth.nd
  (ss_one (s_ret (pd_cal c_joined_text hr (ar_e (pf_var 0) (ar_e (frz_pe (pd_dcT (own := [("atom", 2), ("worth", 3)]) (room66 hr) rfl nd (i_d (pf_var 1)) (blkOk_by rfl) (fun _ _ _ _ _ => (gw_tp 2 rfl (gw_cons (gw_nm 2 (by decide) nd) (gw_cons (gw_nm 3 (by decide) nd) gw_nil)))) (fun _ _ _ _ _ => ts_nil) (fun _ _ _ _ _ => (pf_var 2)) (fun _ _ _ _ _ => (pf_var 3)))) ar_nil)))))
abbrev N__law_a_joined : List Str := ["atoms", "held", "atom"]
theorem sc__law_a_joined : FnScope N__law_a_joined ["atoms", "held"] (defScope (topS 14)) := ⟨rfl, rfl, rfl, by decide +kernel, rfl, by decide +kernel, by decide +kernel⟩
theorem ok__law_a_joined (T : Free K mg) (D : DefAt K mg "_law_a_joined" (topS 14) ["atoms", "held"])  : Cal P w K mg 1 "_law_a_joined" ["atoms", "held"] m__law_a_joined :=
  cal_of (N := N__law_a_joined) (k := 0) (fs := F__law_a_joined) rfl D sc__law_a_joined fun base f cdv A outer s H E hr => have nd := sc__law_a_joined.nd
  (ss_one (s_ret (val_pe (pf_join (pf_str) (frz_pe (pd_lc (own := [("atom", 2)])  rfl nd (i_d (pf_var 0)) (blkOk_by rfl) (fun _ _ _ _ _ => (gw_nm 2 (by decide) nd)) (fun _ _ _ _ _ => ts_nil) (fun _ _ _ _ _ => (pf_if (pt_cmp' (oEq (room64 hr)) (pf_ixV 2 pf_int) (pf_str)) (pf_ixV 2 pf_int) (pf_getV 1 (room66 hr) (pf_var 2))))))))))
abbrev N__law_a_reduced : List Str := ["number"]
theorem sc__law_a_reduced : FnScope N__law_a_reduced ["number"] (defScope (topS 16)) := ⟨rfl, rfl, rfl, by decide +kernel, rfl, by decide +kernel, by decide +kernel⟩
theorem ok__law_a_reduced (T : Free K mg) (D : DefAt K mg "_law_a_reduced" (topS 16) ["number"])  : Cal P w K mg 1 "_law_a_reduced" ["number"] m__law_a_reduced :=
  cal_of (N := N__law_a_reduced) (k := 0) (fs := F__law_a_reduced) rfl D sc__law_a_reduced fun base f cdv A outer s H E hr => have nd := sc__law_a_reduced.nd
  (ss_one (s_ret (val_pe (pf_bin oSub (pf_bin oMod (pf_callTy rfl T.n_int (paf_cons (pf_bin oAdd (pf_var 0) pf_int) paf_nil) cInt (by decide +kernel)) pf_int) pf_int))))
abbrev N__law_a_worth : List Str := ["e", "held", "reducing", "left", "right", "told"]
theorem sc__law_a_worth : FnScope N__law_a_worth ["e", "held", "reducing"] (defScope (topS 15)) := ⟨rfl, rfl, rfl, by decide +kernel, rfl, by decide +kernel, by decide +kernel⟩
theorem okr__law_a_worth (T : Free K mg) (D : DefAt K mg "_law_a_worth" (topS 15) ["e", "held", "reducing"]) (c__law_a_reduced : Cal P w K mg 1 "_law_a_reduced" ["number"] m__law_a_reduced) : ∀ k : Nat, Cal P w K mg (1 + k) "_law_a_worth" ["e", "held", "reducing"] (m__law_a_worth k)
  | 0 => cal_never D
  | k + 1 =>
    have c__law_a_worth : Cal P w K mg (1 + k) "_law_a_worth" ["e", "held", "reducing"] (m__law_a_worth k) := okr__law_a_worth T D c__law_a_reduced k
    cal_of (N := N__law_a_worth) (k := 1 + k) (fs := F__law_a_worth (m__law_a_worth k)) rfl D sc__law_a_worth fun base f cdv A outer s H E hr => have nd := sc__law_a_worth.nd
    (ss_cons (s_if (pt_cmp' (oEq (room64 hr)) (pf_ixV 0 pf_int) (pf_str))
    (ss_one (s_ret (val_pe (pf_ixV 0 pf_int))))
    ss_nil)
    (ss_cons (s_if (pt_cmp' (oEq (room64 hr)) (pf_lenV 0 rfl T.n_len (by decide +kernel)) pf_int)
    (ss_one (s_ret (val_pe (pf_getV 1 (room66 hr) (pf_var 0)))))
    ss_nil)
    (ss_cons (s_set 3 nd (pd_cal c__law_a_worth hr (ar_e (pf_ixV 0 pf_int) (ar_e (pf_var 1) (ar_e (pf_var 2) ar_nil)))))
    (ss_cons (s_set 4 nd (pd_cal c__law_a_worth hr (ar_e (pf_ixV 0 pf_int) (ar_e (pf_var 1) (ar_e (pf_var 2) ar_nil)))))
    (ss_cons (s_if (pt_cmp' (oEq (room64 hr)) (pf_ixV 0 pf_int) (pf_str))
    (ss_one (s_ret (val_pe (pf_callB rfl T.n_min (paf_cons (pf_var 3) (paf_cons (pf_var 4) paf_nil)) (cMinV rfl (room70 hr)) (by decide +kernel)))))
    ss_nil)
    (ss_cons (s_if (pt_cmp' (oEq (room64 hr)) (pf_ixV 0 pf_int) (pf_str))
    (ss_one (s_ret (val_pe (pf_callB rfl T.n_max (paf_cons (pf_var 3) (paf_cons (pf_var 4) paf_nil)) (cMaxV rfl (room70 hr)) (by decide +kernel)))))
    ss_nil)
    (ss_cons (s_set 5 nd (val_pe (pf_bin oMul (pf_var 3) (pf_var 4))))
    (ss_cons (s_if (pt_cmp' (oEq (room64 hr)) (pf_ixV 0 pf_int) (pf_str))
    (ss_one (s_set 5 nd (val_pe (pf_bin oAdd (pf_var 3) (pf_var 4)))))
    ss_nil)
    (ss_cons (s_if (pt_cmp' (oEq (room64 hr)) (pf_ixV 0 pf_int) (pf_str))
    (ss_one (s_set 5 nd (val_pe (pf_bin oSub (pf_var 3) (pf_var 4)))))
    ss_nil)
    (ss_one (s_ret (val_pe (pf_if (pt_tru (pf_var 2)) (frz_pe (pd_cal c__law_a_reduced hr (ar_e (pf_var 5) ar_nil))) (pf_var 5))))))))))))))
theorem ok__law_a_worth (T : Free K mg) (D : DefAt K mg "_law_a_worth" (topS 15) ["e", "held", "reducing"]) (c__law_a_reduced : Cal P w K mg 1 "_law_a_reduced" ["number"] m__law_a_reduced) : Cal P w K mg 9 "_law_a_worth" ["e", "held", "reducing"] (m__law_a_worth 8) := okr__law_a_worth T D c__law_a_reduced 8
abbrev N__law_signs : List Str := ["signs"]
theorem sc__law_signs : FnScope N__law_signs [] (defScope (topS 17)) := ⟨rfl, rfl, rfl, by decide +kernel, rfl, by decide +kernel, by decide +kernel⟩
theorem ok__law_signs (T : Free K mg) (D : DefAt K mg "_law_signs" (topS 17) [])  : Cal P w K mg 1 "_law_signs" [] m__law_signs :=
  cal_of (N := N__law_signs) (k := 0) (fs := F__law_signs) rfl D sc__law_signs fun base f cdv A outer s H E hr => have nd := sc__law_signs.nd
  (ss_cons (s_set 0 nd (val_pe (pf_str)))
    (ss_one (s_ret (val_pe (pf_bin oAdd (pf_var 0) (pf_str))))))
abbrev N__law_same : List Str := ["told", "wanted", "k"]
theorem sc__law_same : FnScope N__law_same ["told", "wanted"] (defScope (topS 18)) := ⟨rfl, rfl, rfl, by decide +kernel, rfl, by decide +kernel, by decide +kernel⟩
theorem okr__law_same (T : Free K mg) (D : DefAt K mg "_law_same" (topS 18) ["told", "wanted"])  : ∀ k : Nat, Cal P w K mg (0 + k) "_law_same" ["told", "wanted"] (m__law_same k)
  | 0 => cal_never D
  | k + 1 =>
    have c__law_same : Cal P w K mg (0 + k) "_law_same" ["told", "wanted"] (m__law_same k) := okr__law_same T D  k
    cal_of (N := N__law_same) (k := 0 + k) (fs := F__law_same (m__law_same k)) rfl D sc__law_same fun base f cdv A outer s H E hr => have nd := sc__law_same.nd
    (ss_cons (s_kill [2] (s_if (pt_tru (pf_isi (pf_var 1) rfl T.n_isinstance rfl T.n_tuple (by decide +kernel)))
    (ss_cons (s_if (PW.pt (wor (pt_not' (pt_tru (pf_isi (pf_var 0) rfl T.n_isinstance rfl T.n_tuple (by decide +kernel)))) (wor1 (pt_cmp' (oNe (room64 hr)) (pf_lenV 0 rfl T.n_len (by decide +kernel)) (pf_lenV 1 rfl T.n_len (by decide +kernel))))))
    (ss_one (s_ret (val_pe pf_bl)))
    ss_nil)
    (ss_cons (s_forI PassesOwn.never rfl (i_r1 rfl T.n_range (pf_lenV 1 rfl T.n_len (by decide +kernel))) (g_nm 2 nd)
    (ss_one (s_kill [2] (s_if (pt_not' (pt_tru (frz_pe (pd_cal c__law_same hr (ar_e (pf_ixV 0 (pf_var 2)) (ar_e (pf_ixV 1 (pf_var 2)) ar_nil))))))
    (ss_one (s_ret (val_pe pf_bl)))
    ss_nil))))
    (ss_one (s_ret (val_pe pf_bl)))))
    ss_nil))
    (ss_cons (s_if (PW.pt (wor (pt_cmp' oIs (pf_var 1) pf_non) (wor1 (pt_cmp' oIs (pf_var 0) pf_non))))
    (ss_one (s_ret (val_pe (pf_and (pf_cmp oIs (pf_var 1) pf_non) (pf_one (pf_cmp oIs (pf_var 0) pf_non))))))
    ss_nil)
    (ss_cons (s_if (pt_tru (pf_isi (pf_var 1) rfl T.n_isinstance rfl T.n_str (by decide +kernel)))
    (ss_one (s_ret (val_pe (pf_and (pf_isi (pf_var 0) rfl T.n_isinstance rfl T.n_str (by decide +kernel)) (pf_one (pf_cmp (oEq (room64 hr)) (pf_var 0) (pf_var 1)))))))
    ss_nil)
    (ss_cons (s_if (PW.pt (wor (pt_cmp' (oNe (room64 hr)) (pf_isi (pf_var 0) rfl T.n_isinstance rfl T.n_bool (by decide +kernel)) (pf_isi (pf_var 1) rfl T.n_isinstance rfl T.n_bool (by decide +kernel))) (wor1 (pt_not' (pt_tru (pf_isi (pf_var 0) rfl T.n_isinstance rfl T.n_int (by decide +kernel)))))))
    (ss_one (s_ret (val_pe pf_bl)))
    ss_nil)
    (ss_one (s_ret (val_pe (pf_cmp (oEq (room64 hr)) (pf_var 0) (pf_var 1)))))))))
theorem ok__law_same (T : Free K mg) (D : DefAt K mg "_law_same" (topS 18) ["told", "wanted"])  : Cal P w K mg 4 "_law_same" ["told", "wanted"] (m__law_same 4) := okr__law_same T D  4
abbrev N__law_draw : List Str := ["tape", "many", "place", "number"]
theorem sc__law_draw : FnScope N__law_draw ["tape", "many"] (defScope (topS 19)) := ⟨rfl, rfl, rfl, by decide +kernel, rfl, by decide +kernel, by decide +kernel⟩
theorem ok__law_draw (T : Free K mg) (D : DefAt K mg "_law_draw" (topS 19) ["tape", "many"])  : Cal P w K mg 1 "_law_draw" ["tape", "many"] m__law_draw :=
  cal_of (N := N__law_draw) (k := 0) (fs := F__law_draw) rfl D sc__law_draw fun base f cdv A outer s H E hr => have nd := sc__law_draw.nd
  (ss_cons (s_kill [2, 3] (s_if (pt_cmp' (oEq (room64 hr)) (pf_ixV 0 pf_int) pf_int)
    (ss_cons (s_set 2 nd (val_pe (pf_ixV 0 pf_int)))
    (ss_cons (s_set 3 nd (val_pe pf_int))
    (ss_cons (s_if (pt_cmp' (oOrd (.inl rfl) (room64 hr)) (pf_var 2) (pf_callB rfl T.n_len (paf_cons (pf_ixV 0 pf_int) paf_nil) cLen (by decide +kernel)))
    (ss_one (s_set 3 nd (val_pe (pf_callB rfl T.n_abs (paf_cons (pf_callTy rfl T.n_int (paf_cons (pf_ix (pf_ixV 0 pf_int) (pf_var 2)) paf_nil) cInt (by decide +kernel)) paf_nil) cAbs (by decide +kernel)))))
    (ss_cons (s_setIx 0 (pf_bin oMod (pf_callTy rfl T.n_int (paf_cons (pf_bin oAdd (pf_bin oAdd (pf_bin oMul (pf_ixV 0 pf_int) pf_int) (pf_var 2)) pf_int) paf_nil) cInt (by decide +kernel)) pf_int) pf_int)
    (ss_one (s_set 3 nd (val_pe (pf_ixV 0 pf_int))))))
    (ss_cons (s_setIx 0 (pf_bin oAdd (pf_var 2) pf_int) pf_int)
    (ss_cons (s_if (pt_cmp' (oOrd (.inl rfl) (room64 hr)) (pf_var 3) (pf_bin oPow pf_int pf_int))
    (ss_cons (s_set 3 nd (val_pe (pf_bin oMod (pf_callTy rfl T.n_int (paf_cons (pf_bin oAdd (pf_bin oAdd (pf_bin oMul (pf_var 3) pf_int) (pf_bin oMul (pf_var 2) pf_int)) pf_int) paf_nil) cInt (by decide +kernel)) pf_int)))
    (ss_cons (s_set 3 nd (val_pe (pf_bin oMod (pf_callTy rfl T.n_int (paf_cons (pf_bin oMul (pf_var 3) pf_int) paf_nil) cInt (by decide +kernel)) pf_int)))
    (ss_one (s_ret (val_pe (pf_bin oMod (pf_callTy rfl T.n_int (paf_cons (pf_var 3) paf_nil) cInt (by decide +kernel)) (pf_callB rfl T.n_max (paf_cons (pf_var 1) (paf_cons pf_int paf_nil)) (cMaxV rfl (room70 hr)) (by decide +kernel))))))))
    ss_nil)
    (ss_one (s_setIx 0 (pf_var 3) pf_int)))))))
    ss_nil))
    (ss_cons (s_set 3 nd (val_pe (pf_ixV 0 pf_int)))
    (ss_cons (s_setIx 0 (pf_bin oDiv (pf_var 3) (pf_callB rfl T.n_max (paf_cons (pf_var 1) (paf_cons pf_int paf_nil)) (cMaxV rfl (room70 hr)) (by decide +kernel))) pf_int)
    (ss_one (s_ret (val_pe (pf_bin oMod (pf_callTy rfl T.n_int (paf_cons (pf_var 3) paf_nil) cInt (by decide +kernel)) (pf_callB rfl T.n_max (paf_cons (pf_var 1) (paf_cons pf_int paf_nil)) (cMaxV rfl (room70 hr)) (by decide +kernel)))))))))
abbrev N__law_tape : List Str := ["script", "mixed", "cell"]
theorem sc__law_tape : FnScope N__law_tape ["script"] (defScope (topS 20)) := ⟨rfl, rfl, rfl, by decide +kernel, rfl, by decide +kernel, by decide +kernel⟩
theorem ok__law_tape (T : Free K mg) (D : DefAt K mg "_law_tape" (topS 20) ["script"])  : Cal P w K mg 1 "_law_tape" ["script"] m__law_tape :=
  cal_of (N := N__law_tape) (k := 0) (fs := F__law_tape) rfl D sc__law_tape fun base f cdv A outer s H E hr => have nd := sc__law_tape.nd
  (ss_cons (s_set 1 nd (val_pe pf_int))
    (ss_cons (s_forI PassesOwn.never rfl (i_d (pf_var 0)) (g_nm 2 nd)
    (ss_one (s_kill [2] (s_set 1 nd (val_pe (pf_bin oMod (pf_callTy rfl T.n_int (paf_cons (pf_bin oAdd (pf_bin oMul (pf_var 1) pf_int) (pf_callB rfl T.n_abs (paf_cons (pf_callTy rfl T.n_int (paf_cons (pf_var 2) paf_nil) cInt (by decide +kernel)) paf_nil) cAbs (by decide +kernel))) paf_nil) cInt (by decide +kernel)) pf_int))))))
    (ss_one (s_ret (pd_lst (paf_cons (frz_pe (pd_callTy rfl T.n_list (paf_cons (pf_var 0) paf_nil) cList (by decide +kernel))) (paf_cons pf_int (paf_cons pf_int (paf_cons (pf_var 1) paf_nil)))))))))
abbrev N__law_digits : List Str := ["tape", "base", "many", "total", "k", "number", "told"]
theorem sc__law_digits : FnScope N__law_digits ["tape", "base", "many"] (defScope (topS 21)) := ⟨rfl, rfl, rfl, by decide +kernel, rfl, by decide +kernel, by decide +kernel⟩
theorem ok__law_digits (T : Free K mg) (D : DefAt K mg "_law_digits" (topS 21) ["tape", "base", "many"]) (c__law_draw : Cal P w K mg 1 "_law_draw" ["tape", "many"] m__law_draw) : Cal P w K mg 2 "_law_digits" ["tape", "base", "many"] m__law_digits :=
  cal_of (N := N__law_digits) (k := 1) (fs := F__law_digits) rfl D sc__law_digits fun base f cdv A outer s H E hr => have nd := sc__law_digits.nd
  (ss_cons (s_set 3 nd (val_pe pf_int))
    (ss_cons (s_forI PassesOwn.never rfl (i_r1 rfl T.n_range (pf_var 2)) (g_nm 4 nd)
    (ss_one (s_kill [4] (s_set 3 nd (val_pe (pf_bin oMul (pf_var 3) (pf_var 1)))))))
    (ss_cons (s_set 5 nd (pd_cal c__law_draw hr (ar_v 0 (ar_e (pf_var 3) ar_nil))))
    (ss_cons (s_set 6 nd (pd_lst paf_nil))
    (ss_cons (s_kill [4, 5] (s_pre [4] (s_forI PassesOwn.never rfl (i_r1 rfl T.n_range (pf_var 2)) (g_nm 4 nd)
    (ss_cons (s_app 6 (pf_bin oMod (pf_callTy rfl T.n_int (paf_cons (pf_var 5) paf_nil) cInt (by decide +kernel)) (pf_var 1)))
    (ss_one (s_kill [4] (s_set 5 nd (val_pe (pf_bin oDiv (pf_var 5) (pf_var 1))))))))))
    (ss_one (s_ret (pd_mov 6))))))))
abbrev N__law_round : List Str := ["tape", "menu", "number", "k", "told"]
theorem sc__law_round : FnScope N__law_round ["tape", "menu"] (defScope (topS 22)) := ⟨rfl, rfl, rfl, by decide +kernel, rfl, by decide +kernel, by decide +kernel⟩
theorem ok__law_round (T : Free K mg) (D : DefAt K mg "_law_round" (topS 22) ["tape", "menu"]) (c__law_draw : Cal P w K mg 1 "_law_draw" ["tape", "many"] m__law_draw) : Cal P w K mg 2 "_law_round" ["tape", "menu"] m__law_round :=
  cal_of (N := N__law_round) (k := 1) (fs := F__law_round) rfl D sc__law_round fun base f cdv A outer s H E hr => have nd := sc__law_round.nd
  (ss_cons (s_set 2 nd (pd_cal c__law_draw hr (ar_v 0 (ar_e (pf_bin oMul pf_int (pf_lenV 1 rfl T.n_len (by decide +kernel))) ar_nil))))
    (ss_cons (s_set 3 nd (val_pe (pf_bin oDiv (pf_var 2) pf_int)))
    (ss_cons (s_set 4 nd (val_pe (pf_bin oAdd (pf_slV 1 (po_pt (pf_var 3)) po_no) (pf_slV 1 po_no (po_pt (pf_var 3))))))
    (ss_one (s_ret (val_pe (pf_if (pt_cmp' (oEq (room64 hr)) (pf_bin oMod (pf_callTy rfl T.n_int (paf_cons (pf_var 2) paf_nil) cInt (by decide +kernel)) pf_int) pf_int) (pf_slV 4 po_no (po_pt pf_int)) (pf_var 4))))))))
abbrev N__law_word : List Str := ["tape", "signs", "number", "a", "b"]
theorem sc__law_word : FnScope N__law_word ["tape"] (defScope (topS 23)) := ⟨rfl, rfl, rfl, by decide +kernel, rfl, by decide +kernel, by decide +kernel⟩
theorem ok__law_word (T : Free K mg) (D : DefAt K mg "_law_word" (topS 23) ["tape"]) (c__law_draw : Cal P w K mg 1 "_law_draw" ["tape", "many"] m__law_draw) (c__law_signs : Cal P w K mg 1 "_law_signs" [] m__law_signs) : Cal P w K mg 2 "_law_word" ["tape"] m__law_word :=
  cal_of (N := N__law_word) (k := 1) (fs := F__law_word) rfl D sc__law_word fun base f cdv A outer s H E hr => have nd := sc__law_word.nd
  (ss_cons (s_set 1 nd (pd_cal0 c__law_signs hr))
    (ss_cons (s_set 2 nd (pd_cal c__law_draw hr (ar_v 0 (ar_e (pf_bin oMul (pf_bin oMul pf_int pf_int) pf_int) ar_nil))))
    (ss_cons (s_par 3 4 rfl nd (paf_cons (pf_ixV 1 (pf_bin oDiv (pf_bin oDiv (pf_var 2) pf_int) pf_int)) (paf_cons (pf_ixV 1 (pf_bin oMod (pf_callTy rfl T.n_int (paf_cons (pf_bin oDiv (pf_var 2) pf_int) paf_nil) cInt (by decide +kernel)) pf_int)) paf_nil)))
    (ss_one (s_ret (val_pe (pf_sl (pf_bin oMul (pf_bin oAdd (pf_var 3) (pf_var 4)) pf_int) po_no (po_pt (pf_bin oMod (pf_callTy rfl T.n_int (paf_cons (pf_var 2) paf_nil) cInt (by decide +kernel)) pf_int)))))))))
abbrev N__law_tree : List Str := ["leaves", "digits", "words", "told", "k", "word"]
theorem sc__law_tree : FnScope N__law_tree ["leaves", "digits"] (defScope (topS 24)) := ⟨rfl, rfl, rfl, by decide +kernel, rfl, by decide +kernel, by decide +kernel⟩
theorem ok__law_tree (T : Free K mg) (D : DefAt K mg "_law_tree" (topS 24) ["leaves", "digits"])  : Cal P w K mg 1 "_law_tree" ["leaves", "digits"] m__law_tree :=
  cal_of (N := N__law_tree) (k := 0) (fs := F__law_tree) rfl D sc__law_tree fun base f cdv A outer s H E hr => have nd := sc__law_tree.nd
  (ss_cons (s_set 2 nd (pd_lst (paf_cons (pf_str) (paf_cons (pf_str) (paf_cons (pf_str) (paf_cons (pf_str) (paf_cons (pf_str) paf_nil)))))))
    (ss_cons (s_set 3 nd (val_pe (pf_ixV 0 pf_int)))
    (ss_cons (s_forI PassesOwn.never rfl (i_r2 rfl T.n_range pf_int (pf_lenV 0 rfl T.n_len (by decide +kernel))) (g_nm 4 nd)
    (ss_cons (s_set 5 nd (val_pe (pf_ixV 2 (pf_bin oMod (pf_callTy rfl T.n_int (paf_cons (pf_ixV 1 (pf_var 4)) paf_nil) cInt (by decide +kernel)) pf_int))))
    (ss_one (s_kill [4, 5] (s_set 3 nd (val_pe (pf_if (pt_cmp' (oOrd (.inl rfl) (room64 hr)) (pf_ixV 1 (pf_var 4)) pf_int) (pf_tup (paf_cons (pf_var 5) (paf_cons (pf_var 3) (paf_cons (pf_ixV 0 (pf_var 4)) paf_nil)))) (pf_tup (paf_cons (pf_var 5) (paf_cons (pf_ixV 0 (pf_var 4)) (paf_cons (pf_var 3) paf_nil)))))))))))
    (ss_one (s_ret (pd_mov 3))))))
abbrev N__law_some_leaves : List Str := ["tape", "kind", "words", "number", "menu", "digit"]
theorem sc__law_some_leaves : FnScope N__law_some_leaves ["tape"] (defScope (topS 25)) := ⟨rfl, rfl, rfl, by decide +kernel, rfl, by decide +kernel, by decide +kernel⟩
theorem ok__law_some_leaves (T : Free K mg) (D : DefAt K mg "_law_some_leaves" (topS 25) ["tape"]) (c__law_digits : Cal P w K mg 2 "_law_digits" ["tape", "base", "many"] m__law_digits) (c__law_draw : Cal P w K mg 1 "_law_draw" ["tape", "many"] m__law_draw) : Cal P w K mg 3 "_law_some_leaves" ["tape"] m__law_some_leaves :=
  cal_of (N := N__law_some_leaves) (k := 2) (fs := F__law_some_leaves) rfl D sc__law_some_leaves fun base f cdv A outer s H E hr => have nd := sc__law_some_leaves.nd
  (ss_cons (s_set 1 nd (pd_cal c__law_draw hr (ar_v 0 (ar_e pf_int ar_nil))))
    (ss_cons (s_set 2 nd (val_pe (pf_ix (frz_pe (pd_lst (paf_cons (frz_pe (pd_lst (paf_cons (pf_str) (paf_cons (pf_str) paf_nil)))) (paf_cons (frz_pe (pd_lst (paf_cons (pf_str) (paf_cons (pf_str) paf_nil)))) (paf_cons (frz_pe (pd_lst (paf_cons (pf_str) (paf_cons (pf_str) (paf_cons (pf_str) paf_nil))))) paf_nil))))) (pf_var 1))))
    (ss_cons (s_set 3 nd (val_pe (pf_bin oSub (frz_pe (pd_cal c__law_draw hr (ar_v 0 (ar_e pf_int ar_nil)))) pf_int)))
    (ss_cons (s_set 4 nd (pd_lst (paf_cons (pf_tup (paf_cons (pf_ixV 2 pf_int) (paf_cons pf_int paf_nil))) (paf_cons (pf_tup (paf_cons (pf_ixV 2 pf_int) (paf_cons pf_int paf_nil))) (paf_cons (pf_tup (paf_cons (pf_ixV 2 pf_int) (paf_cons pf_int paf_nil))) (paf_cons (pf_tup (paf_cons (pf_ixV 2 pf_int) (paf_cons pf_int paf_nil))) (paf_cons (pf_tup (paf_cons (pf_ixV 2 (pf_neg pf_int)) (paf_cons pf_int paf_nil))) (paf_cons (pf_tup (paf_cons (pf_str) (paf_cons (pf_var 3) paf_nil))) (paf_cons (pf_tup (paf_cons (pf_str) (paf_cons pf_int paf_nil))) paf_nil)))))))))
    (ss_one (s_ret (val_pe (pf_sl (frz_pe (pd_lc (own := [("digit", 5)])  rfl nd (i_d (frz_pe (pd_cal c__law_digits hr (ar_v 0 (ar_e pf_int (ar_e pf_int ar_nil)))))) (blkOk_by rfl) (fun _ _ _ _ _ => (gw_nm 5 (by decide) nd)) (fun _ _ _ _ _ => ts_nil) (fun _ _ _ _ _ => (pf_ixV 4 (pf_var 5))))) po_no (po_pt (pf_bin oAdd pf_int (frz_pe (pd_cal c__law_draw hr (ar_v 0 (ar_e pf_int ar_nil))))))))))))))
abbrev N__law_rows : List Str := ["tape", "leaves", "names", "leaf", "free", "wide", "narrow", "digits", "k", "order", "first", "i"]
theorem sc__law_rows : FnScope N__law_rows ["tape", "leaves"] (defScope (topS 26)) := ⟨rfl, rfl, rfl, by decide +kernel, rfl, by decide +kernel, by decide +kernel⟩
theorem ok__law_rows (T : Free K mg) (D : DefAt K mg "_law_rows" (topS 26) ["tape", "leaves"]) (c__law_digits : Cal P w K mg 2 "_law_digits" ["tape", "base", "many"] m__law_digits) (c__law_draw : Cal P w K mg 1 "_law_draw" ["tape", "many"] m__law_draw) : Cal P w K mg 3 "_law_rows" ["tape", "leaves"] m__law_rows :=
  cal_of (N := N__law_rows) (k := 2) (fs := F__law_rows) rfl D sc__law_rows fun base f cdv A outer s H E hr => have nd := sc__law_rows.nd
  (ss_cons (s_set 2 nd (pd_lst paf_nil))
    (ss_cons (s_forI PassesOwn.never rfl (i_d (pf_var 1)) (g_nm 3 nd)
    (ss_one (s_kill [3] (s_if (PW.pt (wand (pt_cmp' (oNe (room64 hr)) (pf_ixV 3 pf_int) (pf_str)) (wand1 (pt_cmpV 2 (oNotIn (room66 hr)) (pf_var 3)))))
    (ss_one (s_app 2 (pf_var 3)))
    ss_nil))))
    (ss_cons (s_set 4 nd (val_pe (pf_bin oSub (frz_pe (pd_cal c__law_draw hr (ar_v 0 (ar_e pf_int ar_nil)))) pf_int)))
    (ss_cons (s_set 5 nd (pd_lst (paf_cons pf_int (paf_cons pf_int (paf_cons (pf_neg pf_int) (paf_cons pf_int (paf_cons pf_int (paf_cons (pf_neg pf_int) (paf_cons pf_int (paf_cons (pf_neg pf_int) (paf_cons (pf_var 4) paf_nil)))))))))))
    (ss_cons (s_set 6 nd (pd_lst (paf_cons pf_int (paf_cons pf_int (paf_cons (pf_neg pf_int) (paf_cons pf_int (paf_cons pf_int (paf_cons (pf_neg pf_int) (paf_cons (pf_neg pf_int) (paf_cons pf_int (paf_cons (pf_bin oSub (pf_bin oMod (pf_callTy rfl T.n_int (paf_cons (pf_bin oAdd (pf_var 4) pf_int) paf_nil) cInt (by decide +kernel)) pf_int) pf_int) paf_nil)))))))))))
    (ss_cons (s_set 7 nd (pd_cal c__law_digits hr (ar_v 0 (ar_e pf_int (ar_e pf_int ar_nil)))))
    (ss_cons (s_set 8 nd (val_pe (pf_bin oMod (pf_callTy rfl T.n_int (paf_cons (pf_ixV 7 pf_int) paf_nil) cInt (by decide +kernel)) (pf_callB rfl T.n_max (paf_cons pf_int (paf_cons (pf_lenV 2 rfl T.n_len (by decide +kernel)) paf_nil)) (cMaxV rfl (room70 hr)) (by decide +kernel)))))
    (ss_cons (s_set 9 nd (val_pe (pf_bin oAdd (pf_slV 2 (po_pt (pf_var 8)) po_no) (pf_slV 2 po_no (po_pt (pf_var 8))))))
    (ss_cons (s_set 10 nd (val_pe (pf_callTy rfl T.n_tuple (paf_cons (frz_pe (pd_lc (own := [("i", 11)])  rfl nd (i_r1 rfl T.n_range (pf_lenV 9 rfl T.n_len (by decide +kernel))) (blkOk_by rfl) (fun _ _ _ _ _ => (gw_nm 11 (by decide) nd)) (fun _ _ _ _ _ => ts_nil) (fun _ _ _ _ _ => (pf_tup (paf_cons (pf_ixV 9 (pf_var 11)) (paf_cons (pf_ixV 5 (pf_ixV 7 (pf_var 11))) paf_nil)))))) paf_nil) cTup (by decide +kernel))))
    (ss_one (s_ret (val_pe (pf_tup (paf_cons (pf_var 10) (paf_cons (pf_callTy rfl T.n_tuple (paf_cons (frz_pe (pd_lc (own := [("i", 11)])  rfl nd (i_r1 rfl T.n_range (pf_lenV 9 rfl T.n_len (by decide +kernel))) (blkOk_by rfl) (fun _ _ _ _ _ => (gw_nm 11 (by decide) nd)) (fun _ _ _ _ _ => ts_nil) (fun _ _ _ _ _ => (pf_tup (paf_cons (pf_ixV 9 (pf_var 11)) (paf_cons (pf_ixV 6 (pf_ixV 7 (pf_var 11))) paf_nil)))))) paf_nil) cTup (by decide +kernel)) paf_nil)))))))))))))))
abbrev N__law_some_atoms : List Str := ["tape", "sides", "texts", "digits", "menu", "first", "turned", "third", "text", "digit"]
theorem sc__law_some_atoms : FnScope N__law_some_atoms ["tape"] (defScope (topS 27)) := ⟨rfl, rfl, rfl, by decide +kernel, rfl, by decide +kernel, by decide +kernel⟩
theorem ok__law_some_atoms (T : Free K mg) (D : DefAt K mg "_law_some_atoms" (topS 27) ["tape"]) (c__law_digits : Cal P w K mg 2 "_law_digits" ["tape", "base", "many"] m__law_digits) (c__law_draw : Cal P w K mg 1 "_law_draw" ["tape", "many"] m__law_draw) (c__law_word : Cal P w K mg 2 "_law_word" ["tape"] m__law_word) : Cal P w K mg 3 "_law_some_atoms" ["tape"] m__law_some_atoms :=
  cal_of (N := N__law_some_atoms) (k := 2) (fs := F__law_some_atoms) rfl D sc__law_some_atoms fun base f cdv A outer s H E hr => have nd := sc__law_some_atoms.nd
  (ss_cons (s_set 1 nd (val_pe (pf_ix (frz_pe (pd_lst (paf_cons (pf_tup (paf_cons (pf_str) (paf_cons (pf_str) paf_nil))) (paf_cons (pf_tup (paf_cons (pf_str) (paf_cons (pf_str) paf_nil))) paf_nil)))) (frz_pe (pd_cal c__law_draw hr (ar_v 0 (ar_e pf_int ar_nil)))))))
    (ss_cons (s_setLc (own := [("text", 8)]) 2 rfl nd (i_d (frz_pe (pd_lst (paf_cons (pf_sl (frz_pe (pd_cal c__law_word hr (ar_v 0 ar_nil))) po_no (po_pt pf_int)) (paf_cons (pf_sl (frz_pe (pd_cal c__law_word hr (ar_v 0 ar_nil))) po_no (po_pt pf_int)) paf_nil))))) (blkOk_by rfl) (fun _ _ _ _ _ => (gw_nm 8 (by decide) nd)) (fun _ _ _ _ _ => ts_nil) (fun _ _ _ _ _ => (pf_if (pt_cmp' (oOrd (.inr (.inr (.inl rfl))) (room64 hr)) (pf_lenV 8 rfl T.n_len (by decide +kernel)) pf_int) (pf_var 8) (pf_str))))
    (ss_cons (s_set 3 nd (val_pe (pf_sl (frz_pe (pd_cal c__law_digits hr (ar_v 0 (ar_e pf_int (ar_e pf_int ar_nil))))) po_no (po_pt (pf_bin oAdd pf_int (frz_pe (pd_cal c__law_draw hr (ar_v 0 (ar_e pf_int ar_nil)))))))))
    (ss_cons (s_set 4 nd (pd_lst (paf_cons (pf_tup (paf_cons (pf_ixV 1 pf_int) (paf_cons pf_int paf_nil))) (paf_cons (pf_tup (paf_cons (pf_ixV 1 pf_int) (paf_cons pf_int paf_nil))) (paf_cons (pf_tup (paf_cons (pf_str) (paf_cons (pf_ixV 2 pf_int) paf_nil))) (paf_cons (pf_tup (paf_cons (pf_str) (paf_cons (pf_ixV 2 pf_int) paf_nil))) paf_nil))))))
    (ss_cons (s_setLc (own := [("digit", 9)]) 5 rfl nd (i_d (pf_var 3)) (blkOk_by rfl) (fun _ _ _ _ _ => (gw_nm 9 (by decide) nd)) (fun _ _ _ _ _ => ts_nil) (fun _ _ _ _ _ => (pf_ixV 4 (pf_var 9))))
    (ss_cons (s_setLc (own := [("digit", 9)]) 6 rfl nd (i_rev rfl T.n_reversed (pf_var 3)) (blkOk_by rfl) (fun _ _ _ _ _ => (gw_nm 9 (by decide) nd)) (fun _ _ _ _ _ => ts_nil) (fun _ _ _ _ _ => (pf_ix (frz_pe (pd_lst (paf_cons (pf_ixV 4 pf_int) (paf_cons (pf_ixV 4 pf_int) (paf_cons (pf_ixV 4 pf_int) (paf_cons (pf_ixV 4 pf_int) paf_nil)))))) (pf_var 9))))
    (ss_cons (s_set 7 nd (val_pe (pf_bin oAdd (pf_var 5) (pf_slV 5 po_no (po_pt pf_int)))))
    (ss_cons (s_if (pt_cmp' (oOrd (.inr (.inr (.inl rfl))) (room64 hr)) (pf_lenV 7 rfl T.n_len (by decide +kernel)) pf_int)
    (ss_one (s_set 7 nd (val_pe (pf_if (pt_cmp' (oEq (room64 hr)) (pf_ix (pf_ixV 5 pf_int) pf_int) (pf_str)) (pf_slV 5 (po_pt pf_int) po_no) (pf_bin oAdd (pf_slV 5 (po_pt pf_int) po_no) (pf_slV 5 po_no (po_pt pf_int)))))))
    ss_nil)
    (ss_one (s_ret (val_pe (pf_tup (paf_cons (pf_var 1) (paf_cons (frz_pe (pd_lst (paf_cons (pf_callTy rfl T.n_tuple (paf_cons (pf_var 5) paf_nil) cTup (by decide +kernel)) (paf_cons (pf_callTy rfl T.n_tuple (paf_cons (pf_var 6) paf_nil) cTup (by decide +kernel)) (paf_cons (pf_callTy rfl T.n_tuple (paf_cons (pf_var 7) paf_nil) cTup (by decide +kernel)) paf_nil))))) paf_nil))))))))))))))
abbrev N__law_strings : List Str := ["tape", "sides", "atoms", "told", "side", "text"]
theorem sc__law_strings : FnScope N__law_strings ["tape", "sides", "atoms"] (defScope (topS 28)) := ⟨rfl, rfl, rfl, by decide +kernel, rfl, by decide +kernel, by decide +kernel⟩
theorem ok__law_strings (T : Free K mg) (D : DefAt K mg "_law_strings" (topS 28) ["tape", "sides", "atoms"]) (c__law_word : Cal P w K mg 2 "_law_word" ["tape"] m__law_word) : Cal P w K mg 3 "_law_strings" ["tape", "sides", "atoms"] m__law_strings :=
  cal_of (N := N__law_strings) (k := 2) (fs := F__law_strings) rfl D sc__law_strings fun base f cdv A outer s H E hr => have nd := sc__law_strings.nd
  (ss_cons (s_set 3 nd (pd_lst paf_nil))
    (ss_cons (s_forI PassesOwn.never rfl (i_d (pf_var 1)) (g_nm 4 nd)
    (ss_cons (s_set 5 nd (pd_cal c__law_word hr (ar_v 0 ar_nil)))
    (ss_one (s_kill [4, 5] (s_if (pt_cmpV 2 (oIn (room66 hr)) (pf_tup (paf_cons (pf_var 4) (paf_cons pf_int paf_nil))))
    (ss_one (s_app 3 (pf_tup (paf_cons (pf_tup (paf_cons (pf_var 4) (paf_cons pf_int paf_nil))) (paf_cons (pf_var 5) paf_nil)))))
    ss_nil)))))
    (ss_one (s_ret (val_pe (pf_callTy rfl T.n_tuple (paf_cons (pf_var 3) paf_nil) cTup (by decide +kernel)))))))
abbrev N__law_held : List Str := ["row", "held", "pair"]
theorem sc__law_held : FnScope N__law_held ["row"] (defScope (topS 29)) := ⟨rfl, rfl, rfl, by decide +kernel, rfl, by decide +kernel, by decide +kernel⟩
theorem ok__law_held (T : Free K mg) (D : DefAt K mg "_law_held" (topS 29) ["row"])  : Cal P w K mg 1 "_law_held" ["row"] m__law_held :=
  cal_of (N := N__law_held) (k := 0) (fs := F__law_held) rfl D sc__law_held fun base f cdv A outer s H E hr => have nd := sc__law_held.nd
  (ss_cons (s_set 1 nd pd_newT)
    (ss_cons (s_forI PassesOwn.never rfl (i_d (pf_var 0)) (g_nm 2 nd)
    (ss_one (s_kill [2] (s_putV 1 (room66 hr) (pf_ixV 2 pf_int) (pf_ixV 2 pf_int)))))
    (ss_one (s_ret (pd_mov 1)))))
abbrev N__law_placed : List Str := ["e", "leaf", "part"]
theorem sc__law_placed : FnScope N__law_placed ["e", "leaf", "part"] (defScope (topS 30)) := ⟨rfl, rfl, rfl, by decide +kernel, rfl, by decide +kernel, by decide +kernel⟩
theorem okr__law_placed (T : Free K mg) (D : DefAt K mg "_law_placed" (topS 30) ["e", "leaf", "part"])  : ∀ k : Nat, Cal P w K mg (0 + k) "_law_placed" ["e", "leaf", "part"] (m__law_placed k)
  | 0 => cal_never D
  | k + 1 =>
    have c__law_placed : Cal P w K mg (0 + k) "_law_placed" ["e", "leaf", "part"] (m__law_placed k) := okr__law_placed T D  k
    cal_of (N := N__law_placed) (k := 0 + k) (fs := F__law_placed (m__law_placed k)) rfl D sc__law_placed fun base f cdv A outer s H E hr => have nd := sc__law_placed.nd
    (ss_cons (s_if (pt_cmp' (oEq (room64 hr)) (pf_lenV 0 rfl T.n_len (by decide +kernel)) pf_int)
    (ss_one (s_ret (val_pe (pf_if (pt_cmp' (oEq (room64 hr)) (pf_var 0) (pf_var 1)) (pf_var 2) (pf_var 0)))))
    ss_nil)
    (ss_one (s_ret (val_pe (pf_tup (paf_cons (pf_ixV 0 pf_int) (paf_cons (frz_pe (pd_cal c__law_placed hr (ar_e (pf_ixV 0 pf_int) (ar_e (pf_var 1) (ar_e (pf_var 2) ar_nil))))) (paf_cons (frz_pe (pd_cal c__law_placed hr (ar_e (pf_ixV 0 pf_int) (ar_e (pf_var 1) (ar_e (pf_var 2) ar_nil))))) paf_nil))))))))
theorem ok__law_placed (T : Free K mg) (D : DefAt K mg "_law_placed" (topS 30) ["e", "leaf", "part"])  : Cal P w K mg 8 "_law_placed" ["e", "leaf", "part"] (m__law_placed 8) := okr__law_placed T D  8
abbrev N__law_many : List Str := ["e", "leaf"]
theorem sc__law_many : FnScope N__law_many ["e", "leaf"] (defScope (topS 31)) := ⟨rfl, rfl, rfl, by decide +kernel, rfl, by decide +kernel, by decide +kernel⟩
theorem okr__law_many (T : Free K mg) (D : DefAt K mg "_law_many" (topS 31) ["e", "leaf"])  : ∀ k : Nat, Cal P w K mg (0 + k) "_law_many" ["e", "leaf"] (m__law_many k)
  | 0 => cal_never D
  | k + 1 =>
    have c__law_many : Cal P w K mg (0 + k) "_law_many" ["e", "leaf"] (m__law_many k) := okr__law_many T D  k
    cal_of (N := N__law_many) (k := 0 + k) (fs := F__law_many (m__law_many k)) rfl D sc__law_many fun base f cdv A outer s H E hr => have nd := sc__law_many.nd
    (ss_cons (s_if (pt_cmp' (oEq (room64 hr)) (pf_lenV 0 rfl T.n_len (by decide +kernel)) pf_int)
    (ss_one (s_ret (val_pe (pf_callTy rfl T.n_int (paf_cons (pf_cmp (oEq (room64 hr)) (pf_var 0) (pf_var 1)) paf_nil) cInt (by decide +kernel)))))
    ss_nil)
    (ss_one (s_ret (val_pe (pf_bin oAdd (frz_pe (pd_cal c__law_many hr (ar_e (pf_ixV 0 pf_int) (ar_e (pf_var 1) ar_nil)))) (frz_pe (pd_cal c__law_many hr (ar_e (pf_ixV 0 pf_int) (ar_e (pf_var 1) ar_nil)))))))))
theorem ok__law_many (T : Free K mg) (D : DefAt K mg "_law_many" (topS 31) ["e", "leaf"])  : Cal P w K mg 8 "_law_many" ["e", "leaf"] (m__law_many 8) := okr__law_many T D  8
abbrev N__law_with : List Str := ["row", "leaf", "worth", "pair"]
theorem sc__law_with : FnScope N__law_with ["row", "leaf", "worth"] (defScope (topS 32)) := ⟨rfl, rfl, rfl, by decide +kernel, rfl, by decide +kernel, by decide +kernel⟩
theorem ok__law_with (T : Free K mg) (D : DefAt K mg "_law_with" (topS 32) ["row", "leaf", "worth"])  : Cal P w K mg 1 "_law_with" ["row", "leaf", "worth"] m__law_with :=
  cal_of (N := N__law_with) (k := 0) (fs := F__law_with) rfl D sc__law_with fun base f cdv A outer s H E hr => have nd := sc__law_with.nd
  (ss_one (s_ret (val_pe (pf_callTy rfl T.n_tuple (paf_cons (frz_pe (pd_lc (own := [("pair", 3)])  rfl nd (i_d (pf_var 0)) (blkOk_by rfl) (fun _ _ _ _ _ => (gw_nm 3 (by decide) nd)) (fun _ _ _ _ _ => ts_nil) (fun _ _ _ _ _ => (pf_if (pt_cmp' (oEq (room64 hr)) (pf_ixV 3 pf_int) (pf_var 1)) (pf_tup (paf_cons (pf_ixV 3 pf_int) (paf_cons (pf_var 2) paf_nil))) (pf_var 3))))) paf_nil) cTup (by decide +kernel)))))
abbrev N__law_kept : List Str := ["row", "e", "pair"]
theorem sc__law_kept : FnScope N__law_kept ["row", "e"] (defScope (topS 34)) := ⟨rfl, rfl, rfl, by decide +kernel, rfl, by decide +kernel, by decide +kernel⟩
theorem ok__law_kept (T : Free K mg) (D : DefAt K mg "_law_kept" (topS 34) ["row", "e"]) (c__law_many : Cal P w K mg 8 "_law_many" ["e", "leaf"] (m__law_many 8)) : Cal P w K mg 9 "_law_kept" ["row", "e"] m__law_kept :=
  cal_of (N := N__law_kept) (k := 8) (fs := F__law_kept) rfl D sc__law_kept fun base f cdv A outer s H E hr => have nd := sc__law_kept.nd
  (ss_one (s_ret (val_pe (pf_callTy rfl T.n_tuple (paf_cons (frz_pe (pd_lc (own := [("pair", 2)])  rfl nd (i_d (pf_var 0)) (blkOk_by rfl) (fun _ _ _ _ _ => (gw_nm 2 (by decide) nd)) (fun _ _ _ _ _ => (ts_one (pt_cmp' (oOrd (.inr (.inr (.inl rfl))) (room64 hr)) (frz_pe (pd_cal c__law_many hr (ar_e (pf_var 1) (ar_e (pf_ixV 2 pf_int) ar_nil)))) pf_int))) (fun _ _ _ _ _ => (pf_var 2)))) paf_nil) cTup (by decide +kernel)))))
abbrev N__law_replaced_right : List Str := ["e", "rows", "digits", "names", "leaf", "word", "part", "whole", "k", "held", "worth", "due", "inner", "row", "pair"]
theorem sc__law_replaced_right : FnScope N__law_replaced_right ["e", "rows", "digits"] (defScope (topS 33)) := ⟨rfl, rfl, rfl, by decide +kernel, rfl, by decide +kernel, by decide +kernel⟩
theorem ok__law_replaced_right (T : Free K mg) (D : DefAt K mg "_law_replaced_right" (topS 33) ["e", "rows", "digits"]) (c__law_a_worth : Cal P w K mg 9 "_law_a_worth" ["e", "held", "reducing"] (m__law_a_worth 8)) (c__law_held : Cal P w K mg 1 "_law_held" ["row"] m__law_held) (c__law_kept : Cal P w K mg 9 "_law_kept" ["row", "e"] m__law_kept) (c__law_many : Cal P w K mg 8 "_law_many" ["e", "leaf"] (m__law_many 8)) (c__law_placed : Cal P w K mg 8 "_law_placed" ["e", "leaf", "part"] (m__law_placed 8)) (c__law_same : Cal P w K mg 4 "_law_same" ["told", "wanted"] (m__law_same 4)) (c__law_with : Cal P w K mg 1 "_law_with" ["row", "leaf", "worth"] m__law_with) (c_stored_worth : Cal P w K mg 10 "stored_worth" ["expression", "worths"] m_stored_worth) (c_worth_of : Cal P w K mg 10 "worth_of" ["expression", "worths"] m_worth_of) : Cal P w K mg 11 "_law_replaced_right" ["e", "rows", "digits"] m__law_replaced_right :=
  cal_of (N := N__law_replaced_right) (k := 10) (fs := F__law_replaced_right) rfl D sc__law_replaced_right fun base f cdv A outer s H E hr => have nd := sc__law_replaced_right.nd
  (ss_cons (s_setLc (own := [("pair", 14)]) 3 rfl nd (i_d (pf_ixV 1 pf_int)) (blkOk_by rfl) (fun _ _ _ _ _ => (gw_nm 14 (by decide) nd)) (fun _ _ _ _ _ => ts_nil) (fun _ _ _ _ _ => (pf_ixV 14 pf_int)))
    (ss_cons (s_if (pt_cmp' (oEq (room64 hr)) (pf_lenV 3 rfl T.n_len (by decide +kernel)) pf_int)
    (ss_one (s_ret (val_pe pf_bl)))
    ss_nil)
    (ss_cons (s_set 4 nd (val_pe (pf_ixV 3 (pf_bin oMod (pf_callTy rfl T.n_int (paf_cons (pf_ixV 2 pf_int) paf_nil) cInt (by decide +kernel)) (pf_lenV 3 rfl T.n_len (by decide +kernel))))))
    (ss_cons (s_set 5 nd (val_pe (pf_ix (frz_pe (pd_lst (paf_cons (pf_str) (paf_cons (pf_str) (paf_cons (pf_str) (paf_cons (pf_str) (paf_cons (pf_str) paf_nil))))))) (pf_bin oMod (pf_callTy rfl T.n_int (paf_cons (pf_ixV 2 pf_int) paf_nil) cInt (by decide +kernel)) pf_int))))
    (ss_cons (s_set 6 nd (val_pe (pf_tup (paf_cons (pf_var 5) (paf_cons (pf_ixV 3 (pf_bin oMod (pf_callTy rfl T.n_int (paf_cons (pf_ixV 2 pf_int) paf_nil) cInt (by decide +kernel)) (pf_lenV 3 rfl T.n_len (by decide +kernel)))) (paf_cons (pf_tup (paf_cons (pf_str) (paf_cons (pf_bin oSub (pf_bin oMul pf_int (pf_ixV 2 pf_int)) pf_int) paf_nil))) paf_nil))))))
    (ss_cons (s_if (pt_cmp' (oOrd (.inr (.inr (.inl rfl))) (room64 hr)) (frz_pe (pd_cal c__law_many hr (ar_e (pf_var 0) (ar_e (pf_var 4) ar_nil)))) pf_int)
    (ss_one (s_ret (val_pe pf_bl)))
    ss_nil)
    (ss_cons (s_set 7 nd (pd_cal c__law_placed hr (ar_e (pf_var 0) (ar_e (pf_var 4) (ar_e (pf_var 6) ar_nil)))))
    (ss_cons (s_forI PassesOwn.never rfl (i_r1 rfl T.n_range pf_int) (g_nm 8 nd)
    (ss_cons (s_set 9 nd (pd_cal c__law_held hr (ar_e (pf_ixV 1 (pf_var 8)) ar_nil)))
    (ss_cons (s_set 10 nd (pd_cal c__law_a_worth hr (ar_e (pf_var 6) (ar_e (pf_var 9) (ar_e (pf_cmp (oEq (room64 hr)) (pf_var 8) pf_int) ar_nil)))))
    (ss_cons (s_set 11 nd (pd_cal c__law_a_worth hr (ar_e (pf_var 7) (ar_e (frz_pe (pd_cal c__law_held hr (ar_e (pf_ixV 1 (pf_var 8)) ar_nil))) (ar_e (pf_cmp (oEq (room64 hr)) (pf_var 8) pf_int) ar_nil)))))
    (ss_cons (s_set 12 nd (val_pe (pf_if (pt_cmp' (oEq (room64 hr)) (pf_var 8) pf_int) (frz_pe (pd_cal c_worth_of hr (ar_e (pf_var 7) (ar_e (frz_pe (pd_cal c__law_kept hr (ar_e (pf_ixV 1 (pf_var 8)) (ar_e (pf_var 7) ar_nil)))) ar_nil)))) (frz_pe (pd_cal c_stored_worth hr (ar_e (pf_var 7) (ar_e (frz_pe (pd_cal c__law_kept hr (ar_e (pf_ixV 1 (pf_var 8)) (ar_e (pf_var 7) ar_nil)))) ar_nil)))))))
    (ss_cons (s_if (pt_not' (pt_tru (frz_pe (pd_cal c__law_same hr (ar_e (pf_var 12) (ar_e (pf_var 11) ar_nil))))))
    (ss_one (s_ret (val_pe pf_bl)))
    ss_nil)
    (ss_cons (s_set 13 nd (pd_cal c__law_with hr (ar_e (pf_ixV 1 (pf_var 8)) (ar_e (pf_var 4) (ar_e (pf_var 10) ar_nil)))))
    (ss_one (s_kill [8, 9, 10, 11, 12, 13] (s_if (PW.pt (wand (pt_ch (oOrd (.inr (.inl rfl)) (room64 hr)) (oOrd (.inr (.inl rfl)) (room64 hr)) (pf_neg pf_int) (pf_var 10) pf_int) (wand1 (pt_not' (pt_tru (frz_pe (pd_cal c__law_same hr (ar_e (pf_if (pt_cmp' (oEq (room64 hr)) (pf_var 8) pf_int) (frz_pe (pd_cal c_worth_of hr (ar_e (pf_var 0) (ar_e (pf_var 13) ar_nil)))) (frz_pe (pd_cal c_stored_worth hr (ar_e (pf_var 0) (ar_e (pf_var 13) ar_nil))))) (ar_e (pf_var 11) ar_nil)))))))))
    (ss_one (s_ret (val_pe pf_bl)))
    ss_nil))))))))))
    (ss_one (s_ret (val_pe pf_bl)))))))))))
abbrev N__law_joined_right : List Str := ["atoms", "strings", "few", "k", "place", "part", "whole", "row", "due", "worth", "pair"]
theorem sc__law_joined_right : FnScope N__law_joined_right ["atoms", "strings"] (defScope (topS 35)) := ⟨rfl, rfl, rfl, by decide +kernel, rfl, by decide +kernel, by decide +kernel⟩
theorem ok__law_joined_right (T : Free K mg) (D : DefAt K mg "_law_joined_right" (topS 35) ["atoms", "strings"]) (c__law_a_joined : Cal P w K mg 1 "_law_a_joined" ["atoms", "held"] m__law_a_joined) (c__law_held : Cal P w K mg 1 "_law_held" ["row"] m__law_held) (c__law_same : Cal P w K mg 4 "_law_same" ["told", "wanted"] (m__law_same 4)) (c__law_with : Cal P w K mg 1 "_law_with" ["row", "leaf", "worth"] m__law_with) (c_text_worth : Cal P w K mg 2 "text_worth" ["expression", "worths"] m_text_worth) : Cal P w K mg 5 "_law_joined_right" ["atoms", "strings"] m__law_joined_right :=
  cal_of (N := N__law_joined_right) (k := 4) (fs := F__law_joined_right) rfl D sc__law_joined_right fun base f cdv A outer s H E hr => have nd := sc__law_joined_right.nd
  (ss_cons (s_set 2 nd (val_pe (pf_slV 0 po_no (po_pt pf_int))))
    (ss_cons (s_forI PassesOwn.never rfl (i_r1 rfl T.n_range (pf_lenV 2 rfl T.n_len (by decide +kernel))) (g_nm 3 nd)
    (ss_one (s_kill [3, 4, 5, 6, 7, 8, 9] (s_pre [4, 5, 6, 7, 8, 9] (s_forI PassesOwn.never rfl (i_r1 rfl T.n_range pf_int) (g_nm 4 nd)
    (ss_cons (s_set 5 nd (val_pe (pf_bin oAdd (pf_slV 2 (po_pt (pf_var 3)) (po_pt (pf_bin oAdd (pf_var 3) pf_int))) (pf_tup (paf_cons (pf_tup (paf_cons (pf_str) (paf_cons (pf_ix (frz_pe (pd_lst (paf_cons (pf_str) (paf_cons (pf_str) paf_nil)))) (pf_var 4)) paf_nil))) paf_nil)))))
    (ss_cons (s_set 6 nd (val_pe (pf_bin oAdd (pf_bin oAdd (pf_slV 2 po_no (po_pt (pf_var 3))) (pf_var 5)) (pf_slV 2 (po_pt (pf_bin oAdd (pf_var 3) pf_int)) po_no))))
    (ss_cons (s_set 7 nd (val_pe (pf_callTy rfl T.n_tuple (paf_cons (frz_pe (pd_lc (own := [("pair", 10)])  rfl nd (i_d (pf_var 1)) (blkOk_by rfl) (fun _ _ _ _ _ => (gw_nm 10 (by decide) nd)) (fun _ _ _ _ _ => (ts_one (pt_cmpV 2 (oIn (room66 hr)) (pf_ixV 10 pf_int)))) (fun _ _ _ _ _ => (pf_var 10)))) paf_nil) cTup (by decide +kernel))))
    (ss_cons (s_set 8 nd (pd_cal c__law_a_joined hr (ar_e (pf_var 6) (ar_e (frz_pe (pd_cal c__law_held hr (ar_e (pf_var 1) ar_nil))) ar_nil))))
    (ss_cons (s_if (pt_not' (pt_tru (frz_pe (pd_cal c__law_same hr (ar_e (frz_pe (pd_cal c_text_worth hr (ar_e (pf_var 6) (ar_e (pf_var 7) ar_nil)))) (ar_e (pf_var 8) ar_nil))))))
    (ss_one (s_ret (val_pe pf_bl)))
    ss_nil)
    (ss_cons (s_set 9 nd (pd_cal c__law_a_joined hr (ar_e (pf_var 5) (ar_e (frz_pe (pd_cal c__law_held hr (ar_e (pf_var 1) ar_nil))) ar_nil))))
    (ss_one (s_kill [4, 5, 6, 7, 8, 9] (s_if (PW.pt (wand (pt_cmp' (oNe (room64 hr)) (pf_ix (pf_ixV 2 (pf_var 3)) pf_int) (pf_str)) (wand (pt_cmp' (oEq (room64 hr)) (pf_count (room66 hr) (pf_var 2) (pf_ixV 2 (pf_var 3))) pf_int) (wand1 (pt_cmp' (oOrd (.inr (.inl rfl)) (room64 hr)) (pf_lenV 9 rfl T.n_len (by decide +kernel)) pf_int)))))
    (ss_one (s_if (pt_not' (pt_tru (frz_pe (pd_cal c__law_same hr (ar_e (frz_pe (pd_cal c_text_worth hr (ar_e (pf_var 2) (ar_e (frz_pe (pd_cal c__law_with hr (ar_e (pf_var 7) (ar_e (pf_ixV 2 (pf_var 3)) (ar_e (pf_var 9) ar_nil))))) ar_nil)))) (ar_e (pf_var 8) ar_nil))))))
    (ss_one (s_ret (val_pe pf_bl)))
    ss_nil))
    ss_nil))))))))))))))
    (ss_one (s_ret (val_pe pf_bl)))))
abbrev N__law_right : List Str := ["door", "expressions", "rows", "atoms", "strings", "digits", "kind", "one"]
theorem sc__law_right : FnScope N__law_right ["door", "expressions", "rows", "atoms", "strings", "digits"] (defScope (topS 36)) := ⟨rfl, rfl, rfl, by decide +kernel, rfl, by decide +kernel, by decide +kernel⟩
theorem ok__law_right (T : Free K mg) (D : DefAt K mg "_law_right" (topS 36) ["door", "expressions", "rows", "atoms", "strings", "digits"]) (c__law_a_joined : Cal P w K mg 1 "_law_a_joined" ["atoms", "held"] m__law_a_joined) (c__law_a_worth : Cal P w K mg 9 "_law_a_worth" ["e", "held", "reducing"] (m__law_a_worth 8)) (c__law_held : Cal P w K mg 1 "_law_held" ["row"] m__law_held) (c__law_joined_right : Cal P w K mg 5 "_law_joined_right" ["atoms", "strings"] m__law_joined_right) (c__law_replaced_right : Cal P w K mg 11 "_law_replaced_right" ["e", "rows", "digits"] m__law_replaced_right) (c__law_same : Cal P w K mg 4 "_law_same" ["told", "wanted"] (m__law_same 4)) (c_stored_worth : Cal P w K mg 10 "stored_worth" ["expression", "worths"] m_stored_worth) (c_text_worth : Cal P w K mg 2 "text_worth" ["expression", "worths"] m_text_worth) (c_worth_of : Cal P w K mg 10 "worth_of" ["expression", "worths"] m_worth_of) : Cal P w K mg 12 "_law_right" ["door", "expressions", "rows", "atoms", "strings", "digits"] m__law_right :=
  cal_of (N := N__law_right) (k := 11) (fs := F__law_right) rfl D sc__law_right fun base f cdv A outer s H E hr => have nd := sc__law_right.nd
  (ss_cons (s_if (PW.pt (wor (pt_cmp' (oEq (room64 hr)) (pf_var 0) pf_int) (wor1 (pt_cmp' (oEq (room64 hr)) (pf_var 0) pf_int))))
    (ss_one (s_ret (pd_cal c__law_replaced_right hr (ar_e (pf_ixV 1 (pf_bin oSub (pf_var 0) pf_int)) (ar_e (pf_var 2) (ar_e (pf_var 5) ar_nil))))))
    ss_nil)
    (ss_cons (s_if (pt_cmp' (oEq (room64 hr)) (pf_var 0) pf_int)
    (ss_one (s_ret (pd_cal c__law_joined_right hr (ar_e (pf_ixV 3 pf_int) (ar_e (pf_var 4) ar_nil)))))
    ss_nil)
    (ss_cons (s_set 6 nd (val_pe (pf_bin oMod (pf_callTy rfl T.n_int (paf_cons (pf_var 0) paf_nil) cInt (by decide +kernel)) pf_int)))
    (ss_cons (s_set 7 nd (val_pe (pf_bin oDiv (pf_var 0) pf_int)))
    (ss_cons (s_if (pt_cmp' (oEq (room64 hr)) (pf_var 6) pf_int)
    (ss_one (s_ret (pd_cal c__law_same hr (ar_e (frz_pe (pd_cal c_worth_of hr (ar_e (pf_ixV 1 (pf_var 7)) (ar_e (pf_ixV 2 pf_int) ar_nil)))) (ar_e (frz_pe (pd_cal c__law_a_worth hr (ar_e (pf_ixV 1 (pf_var 7)) (ar_e (frz_pe (pd_cal c__law_held hr (ar_e (pf_ixV 2 pf_int) ar_nil))) (ar_e pf_bl ar_nil))))) ar_nil)))))
    ss_nil)
    (ss_cons (s_if (pt_cmp' (oEq (room64 hr)) (pf_var 6) pf_int)
    (ss_one (s_ret (pd_cal c__law_same hr (ar_e (frz_pe (pd_cal c_stored_worth hr (ar_e (pf_ixV 1 (pf_var 7)) (ar_e (pf_ixV 2 pf_int) ar_nil)))) (ar_e (frz_pe (pd_cal c__law_a_worth hr (ar_e (pf_ixV 1 (pf_var 7)) (ar_e (frz_pe (pd_cal c__law_held hr (ar_e (pf_ixV 2 pf_int) ar_nil))) (ar_e pf_bl ar_nil))))) ar_nil)))))
    ss_nil)
    (ss_one (s_ret (pd_cal c__law_same hr (ar_e (frz_pe (pd_cal c_text_worth hr (ar_e (pf_ixV 3 (pf_var 7)) (ar_e (pf_var 4) ar_nil)))) (ar_e (frz_pe (pd_cal c__law_a_joined hr (ar_e (pf_ixV 3 (pf_var 7)) (ar_e (frz_pe (pd_cal c__law_held hr (ar_e (pf_var 4) ar_nil))) ar_nil)))) ar_nil)))))))))))
abbrev N_law : List Str := ["script", "tape", "leaves", "digits", "others", "k", "changed", "expressions", "rows", "sides", "atoms", "strings", "doors", "door"]
theorem sc_law : FnScope N_law ["script"] (defScope (topS 37)) := ⟨rfl, rfl, rfl, by decide +kernel, rfl, by decide +kernel, by decide +kernel⟩
theorem ok_law (T : Free K mg) (D : DefAt K mg "law" (topS 37) ["script"]) (c__law_digits : Cal P w K mg 2 "_law_digits" ["tape", "base", "many"] m__law_digits) (c__law_right : Cal P w K mg 12 "_law_right" ["door", "expressions", "rows", "atoms", "strings", "digits"] m__law_right) (c__law_round : Cal P w K mg 2 "_law_round" ["tape", "menu"] m__law_round) (c__law_rows : Cal P w K mg 3 "_law_rows" ["tape", "leaves"] m__law_rows) (c__law_some_atoms : Cal P w K mg 3 "_law_some_atoms" ["tape"] m__law_some_atoms) (c__law_some_leaves : Cal P w K mg 3 "_law_some_leaves" ["tape"] m__law_some_leaves) (c__law_strings : Cal P w K mg 3 "_law_strings" ["tape", "sides", "atoms"] m__law_strings) (c__law_tape : Cal P w K mg 1 "_law_tape" ["script"] m__law_tape) (c__law_tree : Cal P w K mg 1 "_law_tree" ["leaves", "digits"] m__law_tree) : Cal P w K mg 13 "law" ["script"] m_law :=
  cal_of (N := N_law) (k := 12) (fs := F_law) rfl D sc_law fun base f cdv A outer s H E hr => have nd := sc_law.nd
  (ss_cons (s_set 1 nd (pd_cal c__law_tape hr (ar_e (pf_var 0) ar_nil)))
    (ss_cons (s_set 2 nd (pd_cal c__law_some_leaves hr (ar_v 1 ar_nil)))
    (ss_cons (s_set 3 nd (pd_cal c__law_digits hr (ar_v 1 (ar_e pf_int (ar_e pf_int ar_nil)))))
    (ss_cons (s_set 4 nd (pd_cal c__law_digits hr (ar_v 1 (ar_e pf_int (ar_e pf_int ar_nil)))))
    (ss_cons (s_set 5 nd (val_pe (pf_bin oAdd pf_int (pf_bin oMod (pf_callTy rfl T.n_int (paf_cons (pf_ixV 4 pf_int) paf_nil) cInt (by decide +kernel)) (pf_bin oSub (pf_lenV 2 rfl T.n_len (by decide +kernel)) pf_int)))))
    (ss_cons (s_set 6 nd (val_pe (pf_bin oAdd (pf_bin oAdd (pf_slV 3 po_no (po_pt (pf_var 5))) (frz_pe (pd_lst (paf_cons (pf_bin oAdd (pf_bin oMod (pf_callTy rfl T.n_int (paf_cons (pf_bin oAdd (pf_bin oAdd (pf_ixV 3 (pf_var 5)) pf_int) (pf_bin oMod (pf_callTy rfl T.n_int (paf_cons (pf_ixV 4 pf_int) paf_nil) cInt (by decide +kernel)) pf_int)) paf_nil) cInt (by decide +kernel)) pf_int) (pf_bin oMul pf_int (pf_bin oDiv (pf_ixV 3 (pf_var 5)) pf_int))) paf_nil)))) (pf_slV 3 (po_pt (pf_bin oAdd (pf_var 5) pf_int)) po_no))))
    (ss_cons (s_set 7 nd (pd_lst (paf_cons (frz_pe (pd_cal c__law_tree hr (ar_e (pf_var 2) (ar_e (pf_var 3) ar_nil)))) (paf_cons (frz_pe (pd_cal c__law_tree hr (ar_e (frz_pe (pd_revL (pf_var 2))) (ar_e (pf_var 4) ar_nil)))) (paf_cons (frz_pe (pd_cal c__law_tree hr (ar_e (pf_var 2) (ar_e (pf_var 6) ar_nil)))) paf_nil)))))
    (ss_cons (s_set 8 nd (pd_cal c__law_rows hr (ar_v 1 (ar_e (pf_var 2) ar_nil))))
    (ss_cons (s_asg (frz_pe (pd_cal c__law_some_atoms hr (ar_v 1 ar_nil))) (g_tp 2 rfl (g_cons (g_nm 9 nd) (g_cons (g_nm 10 nd) g_nil))))
    (ss_cons (s_set 11 nd (pd_cal c__law_strings hr (ar_v 1 (ar_e (pf_var 9) (ar_e (pf_ixV 10 pf_int) ar_nil)))))
    (ss_cons (s_set 12 nd (pd_cal c__law_round hr (ar_v 1 (ar_e (frz_pe (pd_listR rfl rfl T.n_list rfl T.n_range pf_int)) ar_nil))))
    (ss_cons (s_forI PassesOwn.never rfl (i_d (pf_bin oAdd (pf_bin oAdd (pf_var 12) (pf_slV 12 po_no (po_pt pf_int))) (frz_pe (pd_lst (paf_cons pf_int (paf_cons pf_int paf_nil)))))) (g_nm 13 nd)
    (ss_one (s_kill [13] (s_if (pt_not' (pt_tru (frz_pe (pd_cal c__law_right hr (ar_e (pf_var 13) (ar_e (pf_var 7) (ar_e (pf_var 8) (ar_e (pf_var 10) (ar_e (pf_var 11) (ar_e (pf_var 4) ar_nil))))))))))
    (ss_one (s_ret (val_pe pf_bl)))
    ss_nil))))
    (ss_one (s_ret (val_pe pf_bl)))))))))))))))
/-- the whole text -/
structure All (K : Fg) (mg : Str → Option Value) : Prop where
  free : Free K mg
  d_reduced_number : DefAt K mg "reduced_number" (topS 5) ["number"]
  d_combined_worth : DefAt K mg "combined_worth" (topS 6) ["word", "first", "second"]
  d_full_worth : DefAt K mg "full_worth" (topS 7) ["expression", "known"]
  d_wrapped_worth : DefAt K mg "wrapped_worth" (topS 8) ["expression", "known"]
  d_joined_text : DefAt K mg "joined_text" (topS 9) ["atoms", "known"]
  d_worth_of : DefAt K mg "worth_of" (topS 10) ["expression", "worths"]
  d_stored_worth : DefAt K mg "stored_worth" (topS 11) ["expression", "worths"]
  d_text_worth : DefAt K mg "text_worth" (topS 12) ["expression", "worths"]
  d__law_a_joined : DefAt K mg "_law_a_joined" (topS 14) ["atoms", "held"]
  d__law_a_reduced : DefAt K mg "_law_a_reduced" (topS 16) ["number"]
  d__law_a_worth : DefAt K mg "_law_a_worth" (topS 15) ["e", "held", "reducing"]
  d__law_signs : DefAt K mg "_law_signs" (topS 17) []
  d__law_same : DefAt K mg "_law_same" (topS 18) ["told", "wanted"]
  d__law_draw : DefAt K mg "_law_draw" (topS 19) ["tape", "many"]
  d__law_tape : DefAt K mg "_law_tape" (topS 20) ["script"]
  d__law_digits : DefAt K mg "_law_digits" (topS 21) ["tape", "base", "many"]
  d__law_round : DefAt K mg "_law_round" (topS 22) ["tape", "menu"]
  d__law_word : DefAt K mg "_law_word" (topS 23) ["tape"]
  d__law_tree : DefAt K mg "_law_tree" (topS 24) ["leaves", "digits"]
  d__law_some_leaves : DefAt K mg "_law_some_leaves" (topS 25) ["tape"]
  d__law_rows : DefAt K mg "_law_rows" (topS 26) ["tape", "leaves"]
  d__law_some_atoms : DefAt K mg "_law_some_atoms" (topS 27) ["tape"]
  d__law_strings : DefAt K mg "_law_strings" (topS 28) ["tape", "sides", "atoms"]
  d__law_held : DefAt K mg "_law_held" (topS 29) ["row"]
  d__law_placed : DefAt K mg "_law_placed" (topS 30) ["e", "leaf", "part"]
  d__law_many : DefAt K mg "_law_many" (topS 31) ["e", "leaf"]
  d__law_with : DefAt K mg "_law_with" (topS 32) ["row", "leaf", "worth"]
  d__law_kept : DefAt K mg "_law_kept" (topS 34) ["row", "e"]
  d__law_replaced_right : DefAt K mg "_law_replaced_right" (topS 33) ["e", "rows", "digits"]
  d__law_joined_right : DefAt K mg "_law_joined_right" (topS 35) ["atoms", "strings"]
  d__law_right : DefAt K mg "_law_right" (topS 36) ["door", "expressions", "rows", "atoms", "strings", "digits"]
  d_law : DefAt K mg "law" (topS 37) ["script"]
theorem all_ok (A : All K mg) : Cal P w K mg 13 "law" ["script"] m_law :=
  have c_reduced_number := ok_reduced_number (P := P) (w := w) A.free A.d_reduced_number 
  have c_combined_worth := ok_combined_worth (P := P) (w := w) A.free A.d_combined_worth 
  have c_full_worth := ok_full_worth (P := P) (w := w) A.free A.d_full_worth c_combined_worth
  have c_wrapped_worth := ok_wrapped_worth (P := P) (w := w) A.free A.d_wrapped_worth c_combined_worth c_reduced_number
  have c_joined_text := ok_joined_text (P := P) (w := w) A.free A.d_joined_text 
  have c_worth_of := ok_worth_of (P := P) (w := w) A.free A.d_worth_of c_full_worth
  have c_stored_worth := ok_stored_worth (P := P) (w := w) A.free A.d_stored_worth c_wrapped_worth
  have c_text_worth := ok_text_worth (P := P) (w := w) A.free A.d_text_worth c_joined_text
  have c__law_a_joined := ok__law_a_joined (P := P) (w := w) A.free A.d__law_a_joined 
  have c__law_a_reduced := ok__law_a_reduced (P := P) (w := w) A.free A.d__law_a_reduced 
  have c__law_a_worth := ok__law_a_worth (P := P) (w := w) A.free A.d__law_a_worth c__law_a_reduced
  have c__law_signs := ok__law_signs (P := P) (w := w) A.free A.d__law_signs 
  have c__law_same := ok__law_same (P := P) (w := w) A.free A.d__law_same 
  have c__law_draw := ok__law_draw (P := P) (w := w) A.free A.d__law_draw 
  have c__law_tape := ok__law_tape (P := P) (w := w) A.free A.d__law_tape 
  have c__law_digits := ok__law_digits (P := P) (w := w) A.free A.d__law_digits c__law_draw
  have c__law_round := ok__law_round (P := P) (w := w) A.free A.d__law_round c__law_draw
  have c__law_word := ok__law_word (P := P) (w := w) A.free A.d__law_word c__law_draw c__law_signs
  have c__law_tree := ok__law_tree (P := P) (w := w) A.free A.d__law_tree 
  have c__law_some_leaves := ok__law_some_leaves (P := P) (w := w) A.free A.d__law_some_leaves c__law_digits c__law_draw
  have c__law_rows := ok__law_rows (P := P) (w := w) A.free A.d__law_rows c__law_digits c__law_draw
  have c__law_some_atoms := ok__law_some_atoms (P := P) (w := w) A.free A.d__law_some_atoms c__law_digits c__law_draw c__law_word
  have c__law_strings := ok__law_strings (P := P) (w := w) A.free A.d__law_strings c__law_word
  have c__law_held := ok__law_held (P := P) (w := w) A.free A.d__law_held 
  have c__law_placed := ok__law_placed (P := P) (w := w) A.free A.d__law_placed 
  have c__law_many := ok__law_many (P := P) (w := w) A.free A.d__law_many 
  have c__law_with := ok__law_with (P := P) (w := w) A.free A.d__law_with 
  have c__law_kept := ok__law_kept (P := P) (w := w) A.free A.d__law_kept c__law_many
  have c__law_replaced_right := ok__law_replaced_right (P := P) (w := w) A.free A.d__law_replaced_right c__law_a_worth c__law_held c__law_kept c__law_many c__law_placed c__law_same c__law_with c_stored_worth c_worth_of
  have c__law_joined_right := ok__law_joined_right (P := P) (w := w) A.free A.d__law_joined_right c__law_a_joined c__law_held c__law_same c__law_with c_text_worth
  have c__law_right := ok__law_right (P := P) (w := w) A.free A.d__law_right c__law_a_joined c__law_a_worth c__law_held c__law_joined_right c__law_replaced_right c__law_same c_stored_worth c_text_worth c_worth_of
  have c_law := ok_law (P := P) (w := w) A.free A.d_law c__law_digits c__law_right c__law_round c__law_rows c__law_some_atoms c__law_some_leaves c__law_strings c__law_tape c__law_tree
  c_law
end
end LW

namespace LW
open PySem PySem.Spec PyProof.Rows L2 DL
theorem finish {P : Program} {w : World} {K : Fg} {mg : Str → Option Value} {h : Heap} {fa : Addr} (KX : K.In h) (G : h.Ns mainGlobals mg) (hmg : mg "law" = some (.ref fa))
    (z_abs : PySem.W.nsIn K mainGlobals "abs" = some none)
    (z_bool : PySem.W.nsIn K mainGlobals "bool" = some none)
    (z_int : PySem.W.nsIn K mainGlobals "int" = some none)
    (z_isinstance : PySem.W.nsIn K mainGlobals "isinstance" = some none)
    (z_len : PySem.W.nsIn K mainGlobals "len" = some none)
    (z_list : PySem.W.nsIn K mainGlobals "list" = some none)
    (z_max : PySem.W.nsIn K mainGlobals "max" = some none)
    (z_min : PySem.W.nsIn K mainGlobals "min" = some none)
    (z_range : PySem.W.nsIn K mainGlobals "range" = some none)
    (z_reversed : PySem.W.nsIn K mainGlobals "reversed" = some none)
    (z_str : PySem.W.nsIn K mainGlobals "str" = some none)
    (z_tuple : PySem.W.nsIn K mainGlobals "tuple" = some none)
    (k_HALF : ∃ t, mg "HALF" = some (.int 5000 t))
    (k_LEAF_WORDS : KStrs K mg "LEAF_WORDS" [Str.ofString "number", Str.ofString "state", Str.ofString "operand", Str.ofString "left", Str.ofString "right"])
    (k_SUM_WORDS : KStrs K mg "SUM_WORDS" [Str.ofString "plus", Str.ofString "minus", Str.ofString "times"])
    (k_WHOLE : ∃ t, mg "WHOLE" = some (.int 10000 t))
    (d_reduced_number : DefAt K mg "reduced_number" (topS 5) ["number"])
    (d_combined_worth : DefAt K mg "combined_worth" (topS 6) ["word", "first", "second"])
    (d_full_worth : DefAt K mg "full_worth" (topS 7) ["expression", "known"])
    (d_wrapped_worth : DefAt K mg "wrapped_worth" (topS 8) ["expression", "known"])
    (d_joined_text : DefAt K mg "joined_text" (topS 9) ["atoms", "known"])
    (d_worth_of : DefAt K mg "worth_of" (topS 10) ["expression", "worths"])
    (d_stored_worth : DefAt K mg "stored_worth" (topS 11) ["expression", "worths"])
    (d_text_worth : DefAt K mg "text_worth" (topS 12) ["expression", "worths"])
    (d__law_a_joined : DefAt K mg "_law_a_joined" (topS 14) ["atoms", "held"])
    (d__law_a_reduced : DefAt K mg "_law_a_reduced" (topS 16) ["number"])
    (d__law_a_worth : DefAt K mg "_law_a_worth" (topS 15) ["e", "held", "reducing"])
    (d__law_signs : DefAt K mg "_law_signs" (topS 17) [])
    (d__law_same : DefAt K mg "_law_same" (topS 18) ["told", "wanted"])
    (d__law_draw : DefAt K mg "_law_draw" (topS 19) ["tape", "many"])
    (d__law_tape : DefAt K mg "_law_tape" (topS 20) ["script"])
    (d__law_digits : DefAt K mg "_law_digits" (topS 21) ["tape", "base", "many"])
    (d__law_round : DefAt K mg "_law_round" (topS 22) ["tape", "menu"])
    (d__law_word : DefAt K mg "_law_word" (topS 23) ["tape"])
    (d__law_tree : DefAt K mg "_law_tree" (topS 24) ["leaves", "digits"])
    (d__law_some_leaves : DefAt K mg "_law_some_leaves" (topS 25) ["tape"])
    (d__law_rows : DefAt K mg "_law_rows" (topS 26) ["tape", "leaves"])
    (d__law_some_atoms : DefAt K mg "_law_some_atoms" (topS 27) ["tape"])
    (d__law_strings : DefAt K mg "_law_strings" (topS 28) ["tape", "sides", "atoms"])
    (d__law_held : DefAt K mg "_law_held" (topS 29) ["row"])
    (d__law_placed : DefAt K mg "_law_placed" (topS 30) ["e", "leaf", "part"])
    (d__law_many : DefAt K mg "_law_many" (topS 31) ["e", "leaf"])
    (d__law_with : DefAt K mg "_law_with" (topS 32) ["row", "leaf", "worth"])
    (d__law_kept : DefAt K mg "_law_kept" (topS 34) ["row", "e"])
    (d__law_replaced_right : DefAt K mg "_law_replaced_right" (topS 33) ["e", "rows", "digits"])
    (d__law_joined_right : DefAt K mg "_law_joined_right" (topS 35) ["atoms", "strings"])
    (d__law_right : DefAt K mg "_law_right" (topS 36) ["door", "expressions", "rows", "atoms", "strings", "digits"])
    (d_law : DefAt K mg "law" (topS 37) ["script"])
    : ∃ fd : FuncData, (∀ (s : Shared) (u : Value), BindsTo s fd ⟨[u], []⟩ [("script", u)]) ∧ ∀ base : Heap, K.In base → base.Ns mainGlobals mg → FnOk P w K mg base CX0 13 fa fd ["script"] (spD K 1 m_law) :=
  have A : All K mg := ⟨⟨PySem.W.mg_none_of KX G z_abs, PySem.W.mg_none_of KX G z_bool, PySem.W.mg_none_of KX G z_int, PySem.W.mg_none_of KX G z_isinstance, PySem.W.mg_none_of KX G z_len, PySem.W.mg_none_of KX G z_list, PySem.W.mg_none_of KX G z_max, PySem.W.mg_none_of KX G z_min, PySem.W.mg_none_of KX G z_range, PySem.W.mg_none_of KX G z_reversed, PySem.W.mg_none_of KX G z_str, PySem.W.mg_none_of KX G z_tuple, k_HALF, k_LEAF_WORDS, k_SUM_WORDS, k_WHOLE⟩, d_reduced_number, d_combined_worth, d_full_worth, d_wrapped_worth, d_joined_text, d_worth_of, d_stored_worth, d_text_worth, d__law_a_joined, d__law_a_reduced, d__law_a_worth, d__law_signs, d__law_same, d__law_draw, d__law_tape, d__law_digits, d__law_round, d__law_word, d__law_tree, d__law_some_leaves, d__law_rows, d__law_some_atoms, d__law_strings, d__law_held, d__law_placed, d__law_many, d__law_with, d__law_kept, d__law_replaced_right, d__law_joined_right, d__law_right, d_law⟩
  law_end hmg (all_ok (P := P) (w := w) A)
end LW

open PySem PySem.W PyProof.Rows in
set_option maxRecDepth 100000 in
set_option maxHeartbeats 0 in
theorem PySem.Challenge.cw_stratakv_k01_worths_by_rows_and_by_parts_holds : PySem.Challenge.rw_stratakv_k01_worths_by_rows_and_by_parts.Holds := by
  w_on; o_law; k_head; (case hw => w_witness2)
  k_fill
  refine DL.law_walk (l := PySem.Challenge.rw_stratakv_k01_worths_by_rows_and_by_parts) (k := 13) (fn := LW.m_law) (x := "script") rfl rfl ⟨rfl, by decide, by decide⟩ (fun w h Y => PySem.W.kIn_of Y) LW.law_holds ?F
  case F =>
    intro w mg fa h KX G hmg
    refine' LW.finish KX G hmg ?z_abs ?z_bool ?z_int ?z_isinstance ?z_len ?z_list ?z_max ?z_min ?z_range ?z_reversed ?z_str ?z_tuple ?k_HALF ?k_LEAF_WORDS ?k_SUM_WORDS ?k_WHOLE ?d_reduced_number ?d_combined_worth ?d_full_worth ?d_wrapped_worth ?d_joined_text ?d_worth_of ?d_stored_worth ?d_text_worth ?d__law_a_joined ?d__law_a_reduced ?d__law_a_worth ?d__law_signs ?d__law_same ?d__law_draw ?d__law_tape ?d__law_digits ?d__law_round ?d__law_word ?d__law_tree ?d__law_some_leaves ?d__law_rows ?d__law_some_atoms ?d__law_strings ?d__law_held ?d__law_placed ?d__law_many ?d__law_with ?d__law_kept ?d__law_replaced_right ?d__law_joined_right ?d__law_right ?d_law
    (case z_abs => k_is)
    (case z_bool => k_is)
    (case z_int => k_is)
    (case z_isinstance => k_is)
    (case z_len => k_is)
    (case z_list => k_is)
    (case z_max => k_is)
    (case z_min => k_is)
    (case z_range => k_is)
    (case z_reversed => k_is)
    (case z_str => k_is)
    (case z_tuple => k_is)
    (case k_HALF => refine' DL.kint_mk KX G ?a; (case a => k_is))
    (case k_LEAF_WORDS => refine' DL.kstrs_mk KX G ?a ?l ?z ?v; (case a => k_is); (case l => k_is); (case z => decide); (case v => exact .cons ⟨_, rfl⟩ (.cons ⟨_, rfl⟩ (.cons ⟨_, rfl⟩ (.cons ⟨_, rfl⟩ (.cons ⟨_, rfl⟩ (.nil)))))))
    (case k_SUM_WORDS => refine' DL.kstrs_mk KX G ?a ?l ?z ?v; (case a => k_is); (case l => k_is); (case z => decide); (case v => exact .cons ⟨_, rfl⟩ (.cons ⟨_, rfl⟩ (.cons ⟨_, rfl⟩ (.nil)))))
    (case k_WHOLE => refine' DL.kint_mk KX G ?a; (case a => k_is))
    (case d_reduced_number => refine' DL.defAt_mk KX G ?a ?l ?c ?k (fun _ _ _ _ _ _ us hl => match us, hl with | [_], _ => rfl); (case a => k_is); (case l => k_is); (case c => k_is); (case k => k_is))
    (case d_combined_worth => refine' DL.defAt_mk KX G ?a ?l ?c ?k (fun _ _ _ _ _ _ us hl => match us, hl with | [_, _, _], _ => rfl); (case a => k_is); (case l => k_is); (case c => k_is); (case k => k_is))
    (case d_full_worth => refine' DL.defAt_mk KX G ?a ?l ?c ?k (fun _ _ _ _ _ _ us hl => match us, hl with | [_, _], _ => rfl); (case a => k_is); (case l => k_is); (case c => k_is); (case k => k_is))
    (case d_wrapped_worth => refine' DL.defAt_mk KX G ?a ?l ?c ?k (fun _ _ _ _ _ _ us hl => match us, hl with | [_, _], _ => rfl); (case a => k_is); (case l => k_is); (case c => k_is); (case k => k_is))
    (case d_joined_text => refine' DL.defAt_mk KX G ?a ?l ?c ?k (fun _ _ _ _ _ _ us hl => match us, hl with | [_, _], _ => rfl); (case a => k_is); (case l => k_is); (case c => k_is); (case k => k_is))
    (case d_worth_of => refine' DL.defAt_mk KX G ?a ?l ?c ?k (fun _ _ _ _ _ _ us hl => match us, hl with | [_, _], _ => rfl); (case a => k_is); (case l => k_is); (case c => k_is); (case k => k_is))
    (case d_stored_worth => refine' DL.defAt_mk KX G ?a ?l ?c ?k (fun _ _ _ _ _ _ us hl => match us, hl with | [_, _], _ => rfl); (case a => k_is); (case l => k_is); (case c => k_is); (case k => k_is))
    (case d_text_worth => refine' DL.defAt_mk KX G ?a ?l ?c ?k (fun _ _ _ _ _ _ us hl => match us, hl with | [_, _], _ => rfl); (case a => k_is); (case l => k_is); (case c => k_is); (case k => k_is))
    (case d__law_a_joined => refine' DL.defAt_mk KX G ?a ?l ?c ?k (fun _ _ _ _ _ _ us hl => match us, hl with | [_, _], _ => rfl); (case a => k_is); (case l => k_is); (case c => k_is); (case k => k_is))
    (case d__law_a_reduced => refine' DL.defAt_mk KX G ?a ?l ?c ?k (fun _ _ _ _ _ _ us hl => match us, hl with | [_], _ => rfl); (case a => k_is); (case l => k_is); (case c => k_is); (case k => k_is))
    (case d__law_a_worth => refine' DL.defAt_mk KX G ?a ?l ?c ?k (fun _ _ _ _ _ _ us hl => match us, hl with | [_, _, _], _ => rfl); (case a => k_is); (case l => k_is); (case c => k_is); (case k => k_is))
    (case d__law_signs => refine' DL.defAt_mk KX G ?a ?l ?c ?k (fun _ _ _ _ _ _ us hl => match us, hl with | [], _ => rfl); (case a => k_is); (case l => k_is); (case c => k_is); (case k => k_is))
    (case d__law_same => refine' DL.defAt_mk KX G ?a ?l ?c ?k (fun _ _ _ _ _ _ us hl => match us, hl with | [_, _], _ => rfl); (case a => k_is); (case l => k_is); (case c => k_is); (case k => k_is))
    (case d__law_draw => refine' DL.defAt_mk KX G ?a ?l ?c ?k (fun _ _ _ _ _ _ us hl => match us, hl with | [_, _], _ => rfl); (case a => k_is); (case l => k_is); (case c => k_is); (case k => k_is))
    (case d__law_tape => refine' DL.defAt_mk KX G ?a ?l ?c ?k (fun _ _ _ _ _ _ us hl => match us, hl with | [_], _ => rfl); (case a => k_is); (case l => k_is); (case c => k_is); (case k => k_is))
    (case d__law_digits => refine' DL.defAt_mk KX G ?a ?l ?c ?k (fun _ _ _ _ _ _ us hl => match us, hl with | [_, _, _], _ => rfl); (case a => k_is); (case l => k_is); (case c => k_is); (case k => k_is))
    (case d__law_round => refine' DL.defAt_mk KX G ?a ?l ?c ?k (fun _ _ _ _ _ _ us hl => match us, hl with | [_, _], _ => rfl); (case a => k_is); (case l => k_is); (case c => k_is); (case k => k_is))
    (case d__law_word => refine' DL.defAt_mk KX G ?a ?l ?c ?k (fun _ _ _ _ _ _ us hl => match us, hl with | [_], _ => rfl); (case a => k_is); (case l => k_is); (case c => k_is); (case k => k_is))
    (case d__law_tree => refine' DL.defAt_mk KX G ?a ?l ?c ?k (fun _ _ _ _ _ _ us hl => match us, hl with | [_, _], _ => rfl); (case a => k_is); (case l => k_is); (case c => k_is); (case k => k_is))
    (case d__law_some_leaves => refine' DL.defAt_mk KX G ?a ?l ?c ?k (fun _ _ _ _ _ _ us hl => match us, hl with | [_], _ => rfl); (case a => k_is); (case l => k_is); (case c => k_is); (case k => k_is))
    (case d__law_rows => refine' DL.defAt_mk KX G ?a ?l ?c ?k (fun _ _ _ _ _ _ us hl => match us, hl with | [_, _], _ => rfl); (case a => k_is); (case l => k_is); (case c => k_is); (case k => k_is))
    (case d__law_some_atoms => refine' DL.defAt_mk KX G ?a ?l ?c ?k (fun _ _ _ _ _ _ us hl => match us, hl with | [_], _ => rfl); (case a => k_is); (case l => k_is); (case c => k_is); (case k => k_is))
    (case d__law_strings => refine' DL.defAt_mk KX G ?a ?l ?c ?k (fun _ _ _ _ _ _ us hl => match us, hl with | [_, _, _], _ => rfl); (case a => k_is); (case l => k_is); (case c => k_is); (case k => k_is))
    (case d__law_held => refine' DL.defAt_mk KX G ?a ?l ?c ?k (fun _ _ _ _ _ _ us hl => match us, hl with | [_], _ => rfl); (case a => k_is); (case l => k_is); (case c => k_is); (case k => k_is))
    (case d__law_placed => refine' DL.defAt_mk KX G ?a ?l ?c ?k (fun _ _ _ _ _ _ us hl => match us, hl with | [_, _, _], _ => rfl); (case a => k_is); (case l => k_is); (case c => k_is); (case k => k_is))
    (case d__law_many => refine' DL.defAt_mk KX G ?a ?l ?c ?k (fun _ _ _ _ _ _ us hl => match us, hl with | [_, _], _ => rfl); (case a => k_is); (case l => k_is); (case c => k_is); (case k => k_is))
    (case d__law_with => refine' DL.defAt_mk KX G ?a ?l ?c ?k (fun _ _ _ _ _ _ us hl => match us, hl with | [_, _, _], _ => rfl); (case a => k_is); (case l => k_is); (case c => k_is); (case k => k_is))
    (case d__law_kept => refine' DL.defAt_mk KX G ?a ?l ?c ?k (fun _ _ _ _ _ _ us hl => match us, hl with | [_, _], _ => rfl); (case a => k_is); (case l => k_is); (case c => k_is); (case k => k_is))
    (case d__law_replaced_right => refine' DL.defAt_mk KX G ?a ?l ?c ?k (fun _ _ _ _ _ _ us hl => match us, hl with | [_, _, _], _ => rfl); (case a => k_is); (case l => k_is); (case c => k_is); (case k => k_is))
    (case d__law_joined_right => refine' DL.defAt_mk KX G ?a ?l ?c ?k (fun _ _ _ _ _ _ us hl => match us, hl with | [_, _], _ => rfl); (case a => k_is); (case l => k_is); (case c => k_is); (case k => k_is))
    (case d__law_right => refine' DL.defAt_mk KX G ?a ?l ?c ?k (fun _ _ _ _ _ _ us hl => match us, hl with | [_, _, _, _, _, _], _ => rfl); (case a => k_is); (case l => k_is); (case c => k_is); (case k => k_is))
    (case d_law => refine' DL.defAt_mk KX G ?a ?l ?c ?k (fun _ _ _ _ _ _ us hl => match us, hl with | [_], _ => rfl); (case a => k_is); (case l => k_is); (case c => k_is); (case k => k_is))

