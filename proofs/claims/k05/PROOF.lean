import PyProof.Rows.All
import Wide.All
import OpenK.AllK
import Wide.FinOn
import KE.KLam
import HandS.ForMost
import HandS.Exc
import HandS.ExcCtx
import HandS.Lambda
import HandS.WordsExc
import HandS.CallSlots
import HandS.TupAny
import HandS.FStr
import HandS.IsInst
import HandS.Zip
import HandS.Small
import HandS.Defaults
import HandS.Star
import HandS.More
import PyProof.InstEq
import PyProof.InstNe
import HandS.ClsMeth
import KE.DataMinMax
import PyProof.Rows.CallKwBuiltin
import KE.DataCmp
import KE.GoesEnum
import KE.KStateDown
import HandS.Head0
import HandS.Head1
import HandS.Head2
import HandS.HeadEnd
import HandS.HeadHook1
import HandS.HeadHook2
import HandS.HeadNt
import PySem.Challenge.RW_piecetrade_k05_whole_order_of_trees
set_option Elab.async false
set_option linter.all false
set_option maxRecDepth 100000
set_option maxHeartbeats 4000000
/-! L3: values by what they hold (no heap), over the hand layer. -/
namespace L3
open PySem PySem.Spec PyProof.Rows L2

/-- a lambda's text -/
structure LamC where
  qual : Str
  params : Arguments
  body : Expr
  scope : Scope
/-- a value with all that it holds; exc: an own exception held as a value; clo: a lambda with what it captured; lam: the same within its maker, with the maker's cells; dic: a dict that stays -/
inductive D where
  | non | bl (b : Bool) | int (i : Int) | str (x : Str) | ty (n : String) | ref (a : Addr)
  | tup (ds : List D) | lst (ds : List D) | ins (C : Addr) (fs : List (Str × D))
  | exc (C : Addr) (fs : List (Str × D)) | clo (L : LamC) (ds : List D) | lam (L : LamC) (cl : List (Str × Addr)) | dic (kvs : List (Key × D))
instance : Inhabited D := ⟨.non⟩
/-- a lambda's function object lies at f -/
def LamAt (R : Hp) (L : LamC) (cl : List (Str × Addr)) (f : Addr) : Prop := ∃ (c : Addr) (pm ctv : Value) (o : HO), R f = some o ∧ (∀ P w H h, ObjOk P w H h f o → h.get? f = some (PySem.W.kla_obj "<lambda>" L.qual L.params L.body L.scope cl pm c ctv)) ∧ R c = some (LamX.CodeO c L.qual)
/-- the cells hold these values, tracked for a while -/
def CellsAt (R : Hp) : List (Str × Addr) → List V → Prop
  | [], vs => vs = []
  | (_, c) :: r, vs => ∃ v t o u, vs = v :: t ∧ R c = some o ∧ (∀ P w H h, ObjOk P w H h c o → h.IsCell c (some u)) ∧ RelV v u ∧ CellsAt R r t
/-- an exception's object at a, its dict at dx -/
def ExcAt (R : Hp) (C dx a : Addr) : Prop := ∃ o : HO, R a = some o ∧ ∀ P w H h, ObjOk P w H h a o → ∃ (oe : Obj) (vs : Array Value), h.get? a = some oe ∧ oe.cls = .ref C ∧ oe.dict = some dx ∧ oe.data = .fields vs
theorem LamAt.mono {R R' : Hp} (s : Same R R') {L : LamC} {cl : List (Str × Addr)} {f : Addr} (h : LamAt R L cl f) : LamAt R' L cl f := by
  obtain ⟨c, pm, ctv, φ, h1, h2, h3⟩ := h
  exact ⟨c, pm, ctv, φ, s _ _ h1, h2, s _ _ h3⟩
theorem CellsAt.mono {R R' : Hp} (s : Same R R') : ∀ {cl : List (Str × Addr)} {vs : List V}, CellsAt R cl vs → CellsAt R' cl vs
  | [], _, h => h
  | (x, c) :: r, vs, h => by
    obtain ⟨v, t, φ, u, e, h1, h2, h3, h4⟩ := h
    exact ⟨v, t, φ, u, e, s _ _ h1, h2, h3, CellsAt.mono s h4⟩
theorem ExcAt.mono {R R' : Hp} (s : Same R R') {C dx a : Addr} (h : ExcAt R C dx a) : ExcAt R' C dx a := by
  obtain ⟨φ, h1, h2⟩ := h
  exact ⟨φ, s _ _ h1, h2⟩

mutual
def Rep (K : PySem.W.Frag) (R : Hp) : D → V → Prop
  | .non, v => v = .non
  | .bl b, v => v = .bl b
  | .int i, v => v = .int i
  | .str x, v => v = .str x
  | .ty n, v => v = .ty n
  | .ref a, v => v = .ref a
  | .tup ds, v => ∃ p xs, v = .ref p ∧ R p = some (.tup xs) ∧ Reps K R ds xs
  | .lst ds, v => ∃ p xs, v = .ref p ∧ R p = some (.lst xs) ∧ Reps K R ds xs
  | .ins C fs, v => ∃ p dx fvs, v = .ref p ∧ R p = some (.ins C dx fvs) ∧ RepF K R fs fvs
  | .exc C fs, v => ∃ p dx fvs, v = .ref p ∧ ExcAt R C dx p ∧ R dx = some (.xd fvs) ∧ RepF K R fs fvs
  | .clo L ds, v => ∃ f cl xs, v = .ref f ∧ LamAt R L cl f ∧ CellsAt R cl xs ∧ Reps K R ds xs
  | .lam L cl, v => ∃ f, v = .ref f ∧ LamAt R L cl f
  | .dic kvs, v => ∃ p xs, v = .ref p ∧ R p = some (.dK xs) ∧ RepK K R kvs xs
def Reps (K : PySem.W.Frag) (R : Hp) : List D → List V → Prop
  | [], vs => vs = []
  | d :: ds, vs => ∃ v r, vs = v :: r ∧ Rep K R d v ∧ Reps K R ds r
def RepF (K : PySem.W.Frag) (R : Hp) : List (Str × D) → List (Str × V) → Prop
  | [], vs => vs = []
  | (f, d) :: ds, vs => ∃ v r, vs = (f, v) :: r ∧ Rep K R d v ∧ RepF K R ds r
def RepK (K : PySem.W.Frag) (R : Hp) : List (Key × D) → List (Key × V) → Prop
  | [], vs => vs = []
  | (f, d) :: ds, vs => ∃ v r, vs = (f, v) :: r ∧ Rep K R d v ∧ RepK K R ds r
end
section
variable {K : PySem.W.Frag} {R R' : Hp}
theorem same_seqT {H H' : Hp} {a : Addr} {xs : List V} (e : Same H H') (h : SqT K H a xs) : SqT K H' a xs := by
  rcases h with (h | ⟨o, h⟩) | h
  · exact .inl (.inl (e _ _ h))
  · exact .inl (.inr ⟨o, e _ _ h⟩)
  · exact .inr h
mutual
theorem Rep.mono (s : Same R R') : ∀ {d : D} {v : V}, Rep K R d v → Rep K R' d v
  | .non, _, h => h
  | .bl _, _, h => h
  | .int _, _, h => h
  | .str _, _, h => h
  | .ty _, _, h => h
  | .ref _, _, h => h
  | .tup ds, v, h => by
    unfold Rep at h ⊢
    obtain ⟨p, xs, e, q, r⟩ := h
    exact ⟨p, xs, e, s _ _ q, Reps.mono s r⟩
  | .lst ds, v, h => by
    unfold Rep at h ⊢
    obtain ⟨p, xs, e, q, r⟩ := h
    exact ⟨p, xs, e, s _ _ q, Reps.mono s r⟩
  | .ins C fs, v, h => by
    unfold Rep at h ⊢
    obtain ⟨p, dx, xs, e, q, r⟩ := h
    exact ⟨p, dx, xs, e, s _ _ q, RepF.mono s r⟩
  | .exc C fs, v, h => by
    unfold Rep at h ⊢
    obtain ⟨p, dx, xs, e, q, q2, r⟩ := h
    exact ⟨p, dx, xs, e, q.mono s, s _ _ q2, RepF.mono s r⟩
  | .clo L ds, v, h => by
    unfold Rep at h ⊢
    obtain ⟨f, cl, xs, e, q, q2, r⟩ := h
    exact ⟨f, cl, xs, e, q.mono s, q2.mono s, Reps.mono s r⟩
  | .lam L cl, v, h => by
    unfold Rep at h ⊢
    obtain ⟨f, e, q⟩ := h
    exact ⟨f, e, q.mono s⟩
  | .dic kvs, v, h => by
    unfold Rep at h ⊢
    obtain ⟨p, xs, e, q, r⟩ := h
    exact ⟨p, xs, e, s _ _ q, RepK.mono s r⟩
theorem Reps.mono (s : Same R R') : ∀ {ds : List D} {vs : List V}, Reps K R ds vs → Reps K R' ds vs
  | [], _, h => h
  | d :: ds, vs, h => by
    unfold Reps at h ⊢
    obtain ⟨v, r, e, h1, h2⟩ := h
    exact ⟨v, r, e, Rep.mono s h1, Reps.mono s h2⟩
theorem RepF.mono (s : Same R R') : ∀ {ds : List (Str × D)} {vs : List (Str × V)}, RepF K R ds vs → RepF K R' ds vs
  | [], _, h => h
  | (f, d) :: ds, vs, h => by
    unfold RepF at h ⊢
    obtain ⟨v, r, e, h1, h2⟩ := h
    exact ⟨v, r, e, Rep.mono s h1, RepF.mono s h2⟩
theorem RepK.mono (s : Same R R') : ∀ {ds : List (Key × D)} {vs : List (Key × V)}, RepK K R ds vs → RepK K R' ds vs
  | [], _, h => h
  | (f, d) :: ds, vs, h => by
    unfold RepK at h ⊢
    obtain ⟨v, r, e, h1, h2⟩ := h
    exact ⟨v, r, e, Rep.mono s h1, RepK.mono s h2⟩
end
theorem Reps.length : ∀ {ds : List D} {vs : List V}, Reps K R ds vs → vs.length = ds.length
  | [], vs, h => by
    have e : vs = [] := h
    rw [e]; rfl
  | d :: ds, vs, h => by
    obtain ⟨v, r, e, _, h2⟩ := (show ∃ v r, vs = v :: r ∧ Rep K R d v ∧ Reps K R ds r from h)
    rw [e, List.length_cons, List.length_cons, Reps.length h2]
theorem Reps.get : ∀ {ds : List D} {vs : List V} {i : Nat} {d : D}, Reps K R ds vs → ds[i]? = some d → ∃ v, vs[i]? = some v ∧ Rep K R d v
  | [], vs, i, d, h, e => by simp at e
  | d' :: ds, vs, i, d, h, e => by
    obtain ⟨v, r, ev, h1, h2⟩ := (show ∃ v r, vs = v :: r ∧ Rep K R d' v ∧ Reps K R ds r from h)
    subst ev
    cases i with
    | zero =>
      have : d' = d := by simpa using e
      subst this
      exact ⟨v, rfl, h1⟩
    | succ i =>
      obtain ⟨u, q1, q2⟩ := Reps.get h2 (show ds[i]? = some d by simpa using e)
      exact ⟨u, by simpa using q1, q2⟩
theorem Reps.get' {ds : List D} {vs : List V} {i : Nat} {v : V} (h : Reps K R ds vs) (e : vs[i]? = some v) : ∃ d, ds[i]? = some d ∧ Rep K R d v := by
  have hl := h.length
  have hi : i < ds.length := by
    rw [← hl]
    exact (List.getElem?_eq_some_iff.mp e).1
  obtain ⟨u, h1, h2⟩ := h.get (List.getElem?_eq_getElem hi)
  rw [e] at h1
  cases h1
  exact ⟨_, List.getElem?_eq_getElem hi, h2⟩
theorem Reps.append : ∀ {ds es : List D} {vs us : List V}, Reps K R ds vs → Reps K R es us → Reps K R (ds ++ es) (vs ++ us)
  | [], es, vs, us, h, q => by
    have e : vs = [] := h
    subst e
    exact q
  | d :: ds, es, vs, us, h, q => by
    obtain ⟨v, r, e, h1, h2⟩ := (show ∃ v r, vs = v :: r ∧ Rep K R d v ∧ Reps K R ds r from h)
    subst e
    exact ⟨v, r ++ us, rfl, h1, Reps.append h2 q⟩
theorem Reps.one {d : D} {v : V} (h : Rep K R d v) : Reps K R [d] [v] := ⟨v, [], rfl, h, rfl⟩
theorem Reps.cons {d : D} {v : V} {ds : List D} {vs : List V} (h : Rep K R d v) (q : Reps K R ds vs) : Reps K R (d :: ds) (v :: vs) := ⟨v, vs, rfl, h, q⟩
theorem Reps.nil : Reps K R [] [] := rfl
theorem Reps.snoc {d : D} {v : V} {ds : List D} {vs : List V} (q : Reps K R ds vs) (h : Rep K R d v) : Reps K R (ds ++ [d]) (vs ++ [v]) := q.append (.one h)
theorem Reps.drop : ∀ {ds : List D} {vs : List V} (n : Nat), Reps K R ds vs → Reps K R (ds.drop n) (vs.drop n)
  | ds, vs, 0, h => h
  | [], vs, n + 1, h => by
    have e : vs = [] := h
    subst e
    exact h
  | d :: ds, vs, n + 1, h => by
    obtain ⟨v, r, e, _, h2⟩ := (show ∃ v r, vs = v :: r ∧ Rep K R d v ∧ Reps K R ds r from h)
    subst e
    exact Reps.drop n h2
theorem Reps.take : ∀ {ds : List D} {vs : List V} (n : Nat), Reps K R ds vs → Reps K R (ds.take n) (vs.take n)
  | ds, vs, 0, h => by
    rw [List.take_zero, List.take_zero]
    exact .nil
  | [], vs, n + 1, h => by
    have e : vs = [] := h
    subst e
    exact h
  | d :: ds, vs, n + 1, h => by
    obtain ⟨v, r, e, h1, h2⟩ := (show ∃ v r, vs = v :: r ∧ Rep K R d v ∧ Reps K R ds r from h)
    subst e
    exact .cons h1 (Reps.take n h2)
theorem Reps.set : ∀ {ds : List D} {vs : List V} (n : Nat) {d : D} {v : V}, Reps K R ds vs → Rep K R d v → Reps K R (ds.set n d) (vs.set n v)
  | [], vs, n, d, v, h, _ => by
    have e : vs = [] := h
    subst e
    exact h
  | c :: ds, vs, 0, d, v, h, q => by
    obtain ⟨u, r, e, h1, h2⟩ := (show ∃ v r, vs = v :: r ∧ Rep K R c v ∧ Reps K R ds r from h)
    subst e
    exact .cons q h2
  | c :: ds, vs, n + 1, d, v, h, q => by
    obtain ⟨u, r, e, h1, h2⟩ := (show ∃ v r, vs = v :: r ∧ Rep K R c v ∧ Reps K R ds r from h)
    subst e
    exact .cons h1 (Reps.set n h2 q)
/-- texts -/
theorem Reps.strs : ∀ {xs : List Str} {vs : List V}, Reps K R (xs.map D.str) vs → vs = xs.map V.str
  | [], vs, h => h
  | x :: xs, vs, h => by
    obtain ⟨v, r, e, h1, h2⟩ := (show ∃ v r, vs = v :: r ∧ Rep K R (.str x) v ∧ Reps K R (xs.map D.str) r from h)
    have h3 : v = .str x := h1
    rw [e, h3, Reps.strs h2]
    rfl
theorem Reps.ints : ∀ {xs : List Int} {vs : List V}, Reps K R (xs.map D.int) vs → vs = xs.map V.int
  | [], vs, h => h
  | x :: xs, vs, h => by
    obtain ⟨v, r, e, h1, h2⟩ := (show ∃ v r, vs = v :: r ∧ Rep K R (.int x) v ∧ Reps K R (xs.map D.int) r from h)
    have h3 : v = .int x := h1
    rw [e, h3, Reps.ints h2]
    rfl
theorem Reps.bls : ∀ {xs : List Bool} {vs : List V}, Reps K R (xs.map D.bl) vs → vs = xs.map V.bl
  | [], vs, h => h
  | x :: xs, vs, h => by
    obtain ⟨v, r, e, h1, h2⟩ := (show ∃ v r, vs = v :: r ∧ Rep K R (.bl x) v ∧ Reps K R (xs.map D.bl) r from h)
    have h3 : v = .bl x := h1
    rw [e, h3, Reps.bls h2]
    rfl
theorem RepF.length : ∀ {fs : List (Str × D)} {vs : List (Str × V)}, RepF K R fs vs → vs.length = fs.length
  | [], vs, h => by
    have e : vs = [] := h
    rw [e]; rfl
  | (f, d) :: ds, vs, h => by
    obtain ⟨v, r, e, _, h2⟩ := (show ∃ v r, vs = (f, v) :: r ∧ Rep K R d v ∧ RepF K R ds r from h)
    rw [e, List.length_cons, List.length_cons, RepF.length h2]
theorem RepF.look : ∀ {fs : List (Str × D)} {vs : List (Str × V)} {f : Str} {d : D}, RepF K R fs vs → fs.lookup f = some d → ∃ v, vs.lookup f = some v ∧ Rep K R d v
  | [], vs, f, d, h, e => by cases e
  | (g, c) :: ds, vs, f, d, h, e => by
    obtain ⟨v, r, ev, h1, h2⟩ := (show ∃ v r, vs = (g, v) :: r ∧ Rep K R c v ∧ RepF K R ds r from h)
    subst ev
    by_cases q : (f == g) = true
    · have e2 : c = d := by
        have e3 : (match f == g with | true => some c | false => ds.lookup f) = some d := e
        rw [q] at e3
        exact Option.some.inj e3
      subst e2
      refine ⟨v, ?_, h1⟩
      show (match f == g with | true => some v | false => r.lookup f) = some v
      rw [q]
    · have q' : (f == g) = false := by
        cases z : f == g with
        | true => exact absurd z q
        | false => rfl
      have e2 : ds.lookup f = some d := by
        have e3 : (match f == g with | true => some c | false => ds.lookup f) = some d := e
        rw [q'] at e3
        exact e3
      obtain ⟨u, z1, z2⟩ := RepF.look h2 e2
      refine ⟨u, ?_, z2⟩
      show (match f == g with | true => some v | false => r.lookup f) = some u
      rw [q']
      exact z1
theorem RepF.none : ∀ {fs : List (Str × D)} {vs : List (Str × V)} {f : Str}, RepF K R fs vs → fs.lookup f = Option.none → vs.lookup f = Option.none
  | [], vs, f, h, e => by
    have e : vs = [] := h
    subst e
    rfl
  | (g, c) :: ds, vs, f, h, e => by
    obtain ⟨v, r, ev, h1, h2⟩ := (show ∃ v r, vs = (g, v) :: r ∧ Rep K R c v ∧ RepF K R ds r from h)
    subst ev
    have e3 : (match f == g with | true => some c | false => ds.lookup f) = Option.none := e
    show (match f == g with | true => some v | false => r.lookup f) = Option.none
    cases q : f == g with
    | true =>
      rw [q] at e3
      cases e3
    | false =>
      rw [q] at e3
      exact RepF.none h2 e3
end
/-- a field stored, by what it holds -/
def putD (f : Str) (v : D) : List (Str × D) → List (Str × D)
  | [] => [(f, v)]
  | (g, u) :: r => if g = f then (g, v) :: r else (g, u) :: putD f v r
theorem RepF.put {K : PySem.W.Frag} {R : Hp} {f : Str} {d : D} {v : V} (h : Rep K R d v) : ∀ {fs : List (Str × D)} {vs : List (Str × V)}, RepF K R fs vs → RepF K R (putD f d fs) (putF f v vs)
  | [], vs, q => by
    have e : vs = [] := q
    subst e
    exact ⟨v, [], rfl, h, rfl⟩
  | (g, c) :: ds, vs, q => by
    obtain ⟨u, r, e, h1, h2⟩ := (show ∃ v r, vs = (g, v) :: r ∧ Rep K R c v ∧ RepF K R ds r from q)
    subst e
    unfold putD putF
    by_cases z : g = f
    · rw [if_pos z, if_pos z]
      exact ⟨v, r, rfl, h, h2⟩
    · rw [if_neg z, if_neg z]
      exact ⟨u, _, rfl, h1, RepF.put h h2⟩

/-! ### what may change, what stays -/
/-- the part of the memory that may change: where it stands, what holds of it -/
structure Wd where
  foot : Addr → Prop
  inv : Hp → Prop
  there : ∀ H b, inv H → foot b → ∃ o, H b = some o
  ext : ∀ H H', inv H → (∀ b o, foot b → H b = some o → H' b = some o) → (∀ b φ, H b = some (.ext φ) → H' b = some (.ext φ)) → inv H'
/-- nothing may change -/
def Wd.nil : Wd := ⟨fun _ => False, fun _ => True, fun _ _ _ h => h.elim, fun _ _ h _ _ => h⟩
/-- a step of the memory: R the part that never changes -/
structure Fin (w : Wd) (R H R' H' : Hp) : Prop where
  up : Same R R'
  sub : Same R' H'
  keep : ∀ b o, H b = some o → ¬ w.foot b → H' b = some o
  newX : ∀ b o, R b = none → H b = some o → (∀ φ, o ≠ .ext φ) → R' b = none
  inv : w.inv H'
  ft : ∀ b, w.foot b → R' b = none
structure Bas (w : Wd) (R H : Hp) : Prop where
  sub : Same R H
  inv : w.inv H
  ft : ∀ b, w.foot b → R b = none
section
variable {w : Wd} {R H R1 H1 R2 H2 : Hp}
theorem Fin.new (f : Fin w R H R1 H1) (b : Addr) (o : HO) (h1 : R b = none) (h2 : H b = some o) (h3 : ∀ φ, o ≠ .ext φ := by intro φ z; cases z) : R1 b = none := f.newX b o h1 h2 h3
theorem Fin.refl (b : Bas w R H) : Fin w R H R H := ⟨fun _ _ h => h, b.sub, fun _ _ h _ => h, fun _ _ h _ _ => h, b.inv, b.ft⟩
theorem Fin.bas (f : Fin w R H R1 H1) : Bas w R1 H1 := ⟨f.sub, f.inv, f.ft⟩
theorem Fin.there (f : Fin w R H R1 H1) {b : Addr} {o : HO} (h : H b = some o) : ∃ u, H1 b = some u := by
  by_cases q : w.foot b
  · exact w.there _ _ f.inv q
  · exact ⟨o, f.keep b o h q⟩
theorem Fin.trans (f : Fin w R H R1 H1) (g : Fin w R1 H1 R2 H2) : Fin w R H R2 H2 :=
  ⟨f.up.trans g.up, g.sub, fun b o h q => g.keep b o (f.keep b o h q) q, fun b o h q n => by
    by_cases z : w.foot b
    · exact g.ft b z
    · exact g.newX b o (f.newX b o h q n) (f.keep b o q z) n, g.inv, g.ft⟩
/-- a new thing that stays -/
theorem Fin.alloc (b : Bas w R H) {p : Addr} {o : HO} (hp : H p = none) : Fin w R H (upd R p o) (upd H p o) := by
  have hn : ∀ q, w.foot q → q ≠ p := fun q hq e => by
    obtain ⟨u, hu⟩ := w.there _ _ b.inv hq
    rw [e, hp] at hu
    cases hu
  have hR : R p = none := by
    cases z : R p with
    | none => rfl
    | some u =>
      rw [b.sub p u z] at hp
      cases hp
  refine ⟨fun q u h => ?_, fun q u h => ?_, fun q u h _ => ?_, fun q u h1 h2 _ => ?_, ?_, fun q hq => ?_⟩
  · rw [upd_ne (ne_of_none h hR)]; exact h
  · by_cases e : q = p
    · subst e
      rw [upd_same] at h ⊢
      exact h
    · rw [upd_ne e] at h ⊢
      exact b.sub q u h
  · rw [upd_ne (ne_of_none h hp)]; exact h
  · rw [upd_ne (ne_of_none h2 hp)]; exact h1
  · refine w.ext _ _ b.inv (fun q u hq h => ?_) fun q φ h => by rw [upd_ne (ne_of_none h hp)]; exact h
    rw [upd_ne (ne_of_none h hp)]; exact h
  · rw [upd_ne (hn q hq)]; exact b.ft q hq
/-- a new thing that may still change -/
theorem Fin.fresh (b : Bas w R H) {p : Addr} {o : HO} (hp : H p = none) : Fin w R H R (upd H p o) := by
  refine ⟨fun _ _ h => h, fun q u h => ?_, fun q u h _ => ?_, fun _ _ h _ _ => h, ?_, b.ft⟩
  · rw [upd_ne (ne_of_none (b.sub q u h) hp)]; exact b.sub q u h
  · rw [upd_ne (ne_of_none h hp)]; exact h
  · refine w.ext _ _ b.inv (fun q u hq h => ?_) fun q φ h => by rw [upd_ne (ne_of_none h hp)]; exact h
    rw [upd_ne (ne_of_none h hp)]; exact h
end

/-! ### the names of a def by what they hold -/
inductive Sl where
  | no | v (d : D)
  /-- a list, an instance, that this def alone holds: it may change -/
  | ol (p : Addr) (ds : List D) | oi (p : Addr) (C : Addr) (fs : List (Str × D))
def Sl.ad : Sl → Option Addr
  | .ol p _ => some p
  | .oi p _ _ => some p
  | _ => none
def SlOk (K : PySem.W.Frag) (R H : Hp) (o : Option V) : Sl → Prop
  | .no => True
  | .v d => ∃ v, o = some v ∧ Rep K R d v
  | .ol p ds => o = some (.ref p) ∧ ∃ xs, H p = some (.lst xs) ∧ Reps K R ds xs
  | .oi p C fs => o = some (.ref p) ∧ ∃ dx fvs, H p = some (.ins C dx fvs) ∧ RepF K R fs fvs
abbrev Ev := List Sl
/-- an error, by what it holds -/
structure Er where
  C : Addr
  fs : List (Str × D)
/-- what a piece of code runs in: what may change; what is wanted of an error -/
structure Ct where
  wd : Wd
  er : Er → Ev → Prop
structure Sta where
  c : Ct
  R0 : Hp
  H0 : Hp
  /-- what stays in any case -/
  Rb : Hp
def adAt (env : Ev) (i : Nat) : Option Addr := (env[i]?).bind Sl.ad
structure Ok3 (K : PySem.W.Frag) (S : Sta) (R H : Hp) (σ : L2.St) (env : Ev) : Prop where
  fin : Fin S.c.wd S.R0 S.H0 R H
  rb : Same S.Rb R
  sl : Paired (SlOk K R H) σ env
  own : ∀ i p, adAt env i = some p → R p = none ∧ S.H0 p = none ∧ ¬ S.c.wd.foot p
  dis : ∀ i j p, adAt env i = some p → adAt env j = some p → i = j
section
variable {K : PySem.W.Frag} {S : Sta} {R H R' H' : Hp} {σ : L2.St} {env : Ev}
theorem pair_get {α β : Type} {F : α → β → Prop} : ∀ {xs : List α} {ys : List β} {i : Nat} {y : β}, Paired F xs ys → ys[i]? = some y → ∃ x, xs[i]? = some x ∧ F x y
  | _, _, i, _, .nil, e => by simp at e
  | _, _, 0, _, .cons r _, e => by
    simp at e
    subst e
    exact ⟨_, rfl, r⟩
  | _, _, i + 1, _, .cons _ t, e => by
    obtain ⟨x, h1, h2⟩ := pair_get (i := i) t (by simpa using e)
    exact ⟨x, by simpa using h1, h2⟩
theorem pair_set {α β : Type} {F : α → β → Prop} {x : α} {y : β} (h : F x y) : ∀ {xs : List α} {ys : List β} (i : Nat), Paired F xs ys → Paired F (xs.set i x) (ys.set i y)
  | _, _, _, .nil => .nil
  | _, _, 0, .cons _ t => .cons h t
  | _, _, i + 1, .cons r t => .cons r (pair_set h i t)
theorem pair_imp {α β : Type} {F G : α → β → Prop} : ∀ {xs : List α} {ys : List β}, Paired F xs ys → (∀ (i : Nat) (x : α) (y : β), xs[i]? = some x → ys[i]? = some y → F x y → G x y) → Paired G xs ys
  | _, _, .nil, _ => .nil
  | _, _, .cons r t, f => .cons (f 0 _ _ rfl rfl r) (pair_imp t fun i x y h1 h2 => f (i + 1) x y (by simpa using h1) (by simpa using h2))
theorem Ok3.bas (o : Ok3 K S R H σ env) : Bas S.c.wd R H := o.fin.bas
theorem SlOk.through {w : Wd} {o : Option V} {s : Sl} (f : Fin w R H R' H') (h : SlOk K R H o s) (ho : ∀ p, s.ad = some p → ¬ w.foot p) : SlOk K R' H' o s := by
  cases s with
  | no => trivial
  | v d =>
    obtain ⟨v, e, r⟩ := h
    exact ⟨v, e, r.mono f.up⟩
  | ol p ds =>
    obtain ⟨e, xs, h1, h2⟩ := h
    exact ⟨e, xs, f.keep _ _ h1 (ho p rfl), h2.mono f.up⟩
  | oi p C fs =>
    obtain ⟨e, dx, xs, h1, h2⟩ := h
    exact ⟨e, dx, xs, f.keep _ _ h1 (ho p rfl), h2.mono f.up⟩
/-- a step of the memory that does not touch what the names hold alone -/
theorem Ok3.through (o : Ok3 K S R H σ env) (f : Fin S.c.wd R H R' H') : Ok3 K S R' H' σ env := by
  have hat : ∀ i s p, env[i]? = some s → s.ad = some p → adAt env i = some p := fun i s p e h => by
    unfold adAt
    rw [e]
    exact h
  refine ⟨o.fin.trans f, o.rb.trans f.up, pair_imp o.sl fun i x y _ h2 h => h.through f fun p hp => (o.own i p (hat i y p h2 hp)).2.2, fun i p h => ?_, o.dis⟩
  obtain ⟨h1, h2, h3⟩ := o.own i p h
  refine ⟨?_, h2, h3⟩
  unfold adAt at h
  cases e : env[i]? with
  | none =>
    rw [e] at h
    cases h
  | some s =>
    rw [e] at h
    obtain ⟨x, _, q⟩ := pair_get o.sl e
    have hs : s.ad = some p := h
    cases s with
    | no => cases hs
    | v d => cases hs
    | ol p' ds =>
      have : p' = p := Option.some.inj hs
      subst this
      obtain ⟨_, xs, hh, _⟩ := q
      exact f.new _ _ h1 hh
    | oi p' C fs =>
      have : p' = p := Option.some.inj hs
      subst this
      obtain ⟨_, dx, xs, hh, _⟩ := q
      exact f.new _ _ h1 hh
theorem Ok3.val (o : Ok3 K S R H σ env) {i : Nat} {d : D} (e : env[i]? = some (.v d)) : ∃ v, σ[i]? = some (some v) ∧ Rep K R d v := by
  obtain ⟨x, h1, v, h2, h3⟩ := pair_get o.sl e
  subst h2
  exact ⟨v, h1, h3⟩
theorem adAt_set {i j : Nat} {s : Sl} {p : Addr} (h : adAt (env.set i s) j = some p) : (j = i ∧ s.ad = some p) ∨ (j ≠ i ∧ adAt env j = some p) := by
  unfold adAt at h ⊢
  by_cases e : j = i
  · subst e
    by_cases hl : j < env.length
    · rw [List.getElem?_set_self hl] at h
      exact .inl ⟨rfl, h⟩
    · rw [List.getElem?_eq_none (by simpa using hl)] at h
      cases h
  · rw [List.getElem?_set_ne (Ne.symm e)] at h
    exact .inr ⟨e, h⟩
/-- a name takes a value -/
theorem Ok3.put (o : Ok3 K S R H σ env) {i : Nat} {d : D} {v : V} (r : Rep K R d v) : Ok3 K S R H (σ.set i (some v)) (env.set i (.v d)) := by
  refine ⟨o.fin, o.rb, pair_set (F := SlOk K R H) (show SlOk K R H (some v) (.v d) from ⟨v, rfl, r⟩) i o.sl, fun j p h => ?_, fun j k p h1 h2 => ?_⟩
  · rcases adAt_set h with ⟨_, z⟩ | ⟨_, z⟩
    · cases z
    · exact o.own j p z
  · rcases adAt_set h1 with ⟨_, z⟩ | ⟨_, z⟩
    · cases z
    · rcases adAt_set h2 with ⟨_, z'⟩ | ⟨_, z'⟩
      · cases z'
      · exact o.dis j k p z z'
/-- a name is forgotten -/
theorem Ok3.drop (o : Ok3 K S R H σ env) {i : Nat} {x : Option V} : Ok3 K S R H (σ.set i x) (env.set i .no) := by
  refine ⟨o.fin, o.rb, pair_set (F := SlOk K R H) (show SlOk K R H x .no from trivial) i o.sl, fun j p h => ?_, fun j k p h1 h2 => ?_⟩
  · rcases adAt_set h with ⟨_, z⟩ | ⟨_, z⟩
    · cases z
    · exact o.own j p z
  · rcases adAt_set h1 with ⟨_, z⟩ | ⟨_, z⟩
    · cases z
    · rcases adAt_set h2 with ⟨_, z'⟩ | ⟨_, z'⟩
      · cases z'
      · exact o.dis j k p z z'
abbrev Sta.base (S : Sta) (R : Hp) : Sta := ⟨S.c, S.R0, S.H0, R⟩
theorem Ok3.rebase (o : Ok3 K S R H σ env) : Ok3 K (S.base R) R H σ env := ⟨o.fin, fun _ _ h => h, o.sl, o.own, o.dis⟩
theorem Ok3.back {R1 : Hp} (o : Ok3 K (S.base R1) R H σ env) (s : Same S.Rb R1) : Ok3 K S R H σ env := ⟨o.fin, s.trans o.rb, o.sl, o.own, o.dis⟩
end
end L3
namespace L3
open PySem PySem.Spec PyProof.Rows L2

/-! ### readings by what is held -/
abbrev TD := Ct → Ev → (D → Prop) → Prop
abbrev TB := Ct → Ev → (Bool → Prop) → Prop
abbrev TL := Ct → Ev → (List D → Prop) → Prop
structure EndD where
  nx : Ev → Prop
  rt : D → Ev → Prop
  bk : Ev → Prop := fun _ => False
  ct : Ev → Prop := fun _ => False
abbrev TSD := Ct → EndD → Ev → Prop
/-- an error lies at its class with its own dict -/
def XRep (K : PySem.W.Frag) (R : Hp) (ex : Er) (cls : Value) (od : Option Addr) : Prop := cls = .ref ex.C ∧ ∃ dx fvs, od = some dx ∧ R dx = some (.xd fvs) ∧ RepF K R ex.fs fvs
/-- what is wanted of errors is met -/
def Lk (K : PySem.W.Frag) (S : Sta) (W : WX) : Prop := ∀ R H σ env cls od ex, Ok3 K S R H σ env → XRep K R ex cls od → S.c.er ex env → W cls od σ H
theorem Lk.base {K : PySem.W.Frag} {S : Sta} {W : WX} (lk : Lk K S W) {R1 : Hp} (s : Same S.Rb R1) : Lk K (S.base R1) W := fun R H σ env cls od ex ok xr e => lk R H σ env cls od ex (ok.back s) xr e
def Pst (K : PySem.W.Frag) (c : Ct) (R H : Hp) (φ : D → Prop) : VK := fun v H' => ∃ R' d, Fin c.wd R H R' H' ∧ Rep K R' d v ∧ φ d
def PstL (K : PySem.W.Frag) (c : Ct) (R H : Hp) (φ : List D → Prop) : List V → Hp → Prop := fun v H' => ∃ R' d, Fin c.wd R H R' H' ∧ Reps K R' d v ∧ φ d
def PstB (c : Ct) (R H : Hp) (φ : Bool → Prop) : Bool → Hp → Prop := fun b H' => ∃ R', Fin c.wd R H R' H' ∧ φ b
def tD (K : PySem.W.Frag) (W : WX) (T : TD) : TE := fun σ H Q => ∃ S R env φ, Lk K S W ∧ Ok3 K S R H σ env ∧ T S.c env φ ∧ ∀ v H', Pst K S.c R H φ v H' → Q v H'
def tB3 (K : PySem.W.Frag) (W : WX) (T : TB) : TT := fun σ H Q => ∃ S R env φ, Lk K S W ∧ Ok3 K S R H σ env ∧ T S.c env φ ∧ ∀ v H', PstB S.c R H φ v H' → Q v H'
def tL3 (K : PySem.W.Frag) (W : WX) (T : TL) : TA := fun σ H Q => ∃ S R env φ, Lk K S W ∧ Ok3 K S R H σ env ∧ T S.c env φ ∧ ∀ v H', PstL K S.c R H φ v H' → Q v H'
structure EndOk (K : PySem.W.Frag) (S : Sta) (D3 : EndD) (E : Ends) : Prop where
  nx : ∀ R H σ env, Ok3 K S R H σ env → D3.nx env → E.nx σ H
  rt : ∀ R H σ env d v, Ok3 K S R H σ env → Rep K R d v → D3.rt d env → E.rt v H
  bk : ∀ R H σ env, Ok3 K S R H σ env → D3.bk env → E.bk σ H
  ct : ∀ R H σ env, Ok3 K S R H σ env → D3.ct env → E.ct σ H
def tS3 (K : PySem.W.Frag) (W : WX) (T : TSD) : TS := fun E σ H => ∃ S R env D3, Lk K S W ∧ Ok3 K S R H σ env ∧ T S.c D3 env ∧ EndOk K S D3 E
abbrev DE (X : Cx) (W : WX) (e : Expr) (T : TD) : Prop := PE X e (tD X.K W T)
abbrev DT (X : Cx) (W : WX) (e : Expr) (T : TB) : Prop := PT X e (tB3 X.K W T)
abbrev DW (X : Cx) (W : WX) (e : Expr) (T : TB) : Prop := PW X e (tB3 X.K W T)
abbrev DA (X : Cx) (W : WX) (es : List Expr) (T : TL) : Prop := PA X es (tL3 X.K W T)
abbrev DS (X : Cx) (W : WX) (st : Stmt) (T : TSD) : Prop := PS X st (tS3 X.K W T)
abbrev DSs (X : Cx) (W : WX) (st : List Stmt) (T : TSD) : Prop := PSs X st (tS3 X.K W T)
section
variable {X : Cx} {W : WX}
theorem de_mk {e : Expr} {t : TE} {T : TD} (h : PE X e t) (k : ∀ S R H σ env φ, Lk X.K S W → Ok3 X.K S R H σ env → T S.c env φ → t σ H (Pst X.K S.c R H φ)) : DE X W e T :=
  ⟨fun pins s σ H Q I ⟨S, R, env, φ, lk, ok, hT, hQ⟩ => thn (h.run pins s σ H _ I (k S R H σ env φ lk ok hT)) fun v s' ⟨x, H', I', r, p⟩ => ⟨x, H', I', r, hQ x H' p⟩⟩
theorem dt_mk {e : Expr} {t : TT} {T : TB} (h : PT X e t) (k : ∀ S R H σ env φ, Lk X.K S W → Ok3 X.K S R H σ env → T S.c env φ → t σ H (PstB S.c R H φ)) : DT X W e T :=
  ⟨fun pins s σ H Q I ⟨S, R, env, φ, lk, ok, hT, hQ⟩ => thn (h.run pins s σ H _ I (k S R H σ env φ lk ok hT)) fun v s' ⟨H', I', p⟩ => ⟨H', I', hQ v H' p⟩⟩
theorem dw_mk {e : Expr} {t : TT} {T : TB} (h : PW X e t) (k : ∀ S R H σ env φ, Lk X.K S W → Ok3 X.K S R H σ env → T S.c env φ → t σ H (PstB S.c R H φ)) : DW X W e T :=
  ⟨fun whole pins s σ H Q I ⟨S, R, env, φ, lk, ok, hT, hQ⟩ => thn (h.run whole pins s σ H _ I (k S R H σ env φ lk ok hT)) fun v s' ⟨H', I', p⟩ => ⟨H', I', hQ v H' p⟩⟩
theorem da_mk {e : List Expr} {t : TA} {T : TL} (h : PA X e t) (k : ∀ S R H σ env φ, Lk X.K S W → Ok3 X.K S R H σ env → T S.c env φ → t σ H (PstL X.K S.c R H φ)) : DA X W e T :=
  ⟨fun pos pins s σ H Q I ⟨S, R, env, φ, lk, ok, hT, hQ⟩ => thn (h.run pos pins s σ H _ I (k S R H σ env φ lk ok hT)) fun v s' ⟨xs, H', I', r, p⟩ => ⟨xs, H', I', r, hQ xs H' p⟩⟩
/-- from what follows by what is held -/
def endsOf (K : PySem.W.Frag) (S : Sta) (D3 : EndD) : Ends where
  nx := fun σ H => ∃ R env, Ok3 K S R H σ env ∧ D3.nx env
  rt := fun v H => ∃ R σ env d, Ok3 K S R H σ env ∧ Rep K R d v ∧ D3.rt d env
  bk := fun σ H => ∃ R env, Ok3 K S R H σ env ∧ D3.bk env
  ct := fun σ H => ∃ R env, Ok3 K S R H σ env ∧ D3.ct env
theorem SP.to {pins : List (Addr × Obj)} {S : Sta} {D3 : EndD} {E : Ends} {f : Flow} {s' : Shared} (eo : EndOk X.K S D3 E) (h : SP X pins (endsOf X.K S D3) f s') : SP X pins E f s' := by
  cases f with
  | next =>
    obtain ⟨σ, H, I, R, env, ok, q⟩ := h
    exact ⟨σ, H, I, eo.nx R H σ env ok q⟩
  | brk =>
    obtain ⟨σ, H, I, R, env, ok, q⟩ := h
    exact ⟨σ, H, I, eo.bk R H σ env ok q⟩
  | cont =>
    obtain ⟨σ, H, I, R, env, ok, q⟩ := h
    exact ⟨σ, H, I, eo.ct R H σ env ok q⟩
  | ret u =>
    obtain ⟨v, σ, H, I, r, R, σ', env, d, ok, rep, q⟩ := h
    exact ⟨v, σ, H, I, r, eo.rt R H σ' env d v ok rep q⟩
theorem ds_mk {st : Stmt} {t : TS} {T : TSD} (h : PS X st t) (k : ∀ S R H σ env D3, Lk X.K S W → Ok3 X.K S R H σ env → T S.c D3 env → t (endsOf X.K S D3) σ H) : DS X W st T :=
  ⟨fun pins s σ H E I ⟨S, R, env, D3, lk, ok, hT, eo⟩ => thn (h.run pins s σ H _ I (k S R H σ env D3 lk ok hT)) fun f s' p => SP.to eo p⟩
theorem dss_mk {st : List Stmt} {t : TS} {T : TSD} (h : PSs X st t) (k : ∀ S R H σ env D3, Lk X.K S W → Ok3 X.K S R H σ env → T S.c D3 env → t (endsOf X.K S D3) σ H) : DSs X W st T :=
  ⟨fun pins s σ H E I ⟨S, R, env, D3, lk, ok, hT, eo⟩ => thn (h.run pins s σ H _ I (k S R H σ env D3 lk ok hT)) fun f s' p => SP.to eo p⟩
end
/-- a subexpression is asked -/
theorem tD.ask {K : PySem.W.Frag} {W : WX} {S : Sta} {R H : Hp} {σ : L2.St} {env : Ev} {T : TD} {φ : D → Prop} {Q : VK} (lk : Lk K S W) (ok : Ok3 K S R H σ env) (h : T S.c env φ) (k : ∀ R' H' d v, Fin S.c.wd R H R' H' → Ok3 K S R' H' σ env → Rep K R' d v → φ d → Q v H') : tD K W T σ H Q :=
  ⟨S, R, env, φ, lk, ok, h, fun v H' ⟨R', d, f, r, q⟩ => k R' H' d v f (ok.through f) r q⟩
theorem tB3.ask {K : PySem.W.Frag} {W : WX} {S : Sta} {R H : Hp} {σ : L2.St} {env : Ev} {T : TB} {φ : Bool → Prop} {Q : Bool → Hp → Prop} (lk : Lk K S W) (ok : Ok3 K S R H σ env) (h : T S.c env φ) (k : ∀ R' H' b, Fin S.c.wd R H R' H' → Ok3 K S R' H' σ env → φ b → Q b H') : tB3 K W T σ H Q :=
  ⟨S, R, env, φ, lk, ok, h, fun b H' ⟨R', f, q⟩ => k R' H' b f (ok.through f) q⟩
theorem tL3.ask {K : PySem.W.Frag} {W : WX} {S : Sta} {R H : Hp} {σ : L2.St} {env : Ev} {T : TL} {φ : List D → Prop} {Q : List V → Hp → Prop} (lk : Lk K S W) (ok : Ok3 K S R H σ env) (h : T S.c env φ) (k : ∀ R' H' ds vs, Fin S.c.wd R H R' H' → Ok3 K S R' H' σ env → Reps K R' ds vs → φ ds → Q vs H') : tL3 K W T σ H Q :=
  ⟨S, R, env, φ, lk, ok, h, fun vs H' ⟨R', ds, f, r, q⟩ => k R' H' ds vs f (ok.through f) r q⟩
theorem tS3.ask {K : PySem.W.Frag} {W : WX} {S : Sta} {R H : Hp} {σ : L2.St} {env : Ev} {T : TSD} {D3 : EndD} {E : Ends} (lk : Lk K S W) (ok : Ok3 K S R H σ env) (h : T S.c D3 env) (eo : EndOk K S D3 E) : tS3 K W T E σ H := ⟨S, R, env, D3, lk, ok, h, eo⟩
section
variable {K : PySem.W.Frag} {c : Ct} {R H R1 H1 : Hp} {φ : D → Prop} {v : V}
theorem Pst.now {d : D} (b : Bas c.wd R H) (r : Rep K R d v) (q : φ d) : Pst K c R H φ v H := ⟨R, d, Fin.refl b, r, q⟩
theorem Pst.from (f : Fin c.wd R H R1 H1) {v : V} {H2 : Hp} (h : Pst K c R1 H1 φ v H2) : Pst K c R H φ v H2 := by
  obtain ⟨R2, d, f2, r, q⟩ := h
  exact ⟨R2, d, f.trans f2, r, q⟩
/-- a new tuple, a new list -/
theorem Pst.tup {ds : List D} {vs : List V} {p : Addr} (b : Bas c.wd R H) (hp : H p = none) (r : Reps K R ds vs) (q : φ (.tup ds)) : Pst K c R H φ (.ref p) (upd H p (.tup vs)) :=
  ⟨_, .tup ds, Fin.alloc b hp, ⟨p, vs, rfl, upd_same, r.mono (Fin.alloc (o := .tup vs) b hp).up⟩, q⟩
theorem Pst.lst {ds : List D} {vs : List V} {p : Addr} (b : Bas c.wd R H) (hp : H p = none) (r : Reps K R ds vs) (q : φ (.lst ds)) : Pst K c R H φ (.ref p) (upd H p (.lst vs)) :=
  ⟨_, .lst ds, Fin.alloc b hp, ⟨p, vs, rfl, upd_same, r.mono (Fin.alloc (o := .lst vs) b hp).up⟩, q⟩
end

/-! ### names, constants -/
section
variable {X : Cx} {W : WX} {pos : Pos}
def TVar (i : Nat) : TD := fun _ env φ => ∃ d, env[i]? = some (.v d) ∧ φ d
def TC (d : D) : TD := fun _ _ φ => φ d
theorem dv (i : Nat) {x : Str} (hN : X.N[i]? = some x := by rfl) (hv : Vis X.env.scope x := by first | exact Or.inl rfl | exact Or.inr (Or.inl rfl) | exact Or.inr (Or.inr rfl)) (hd : (x == ("__debug__" : Str)) = false := by decide)
    (hcd : (x == ("__classdict__" : Str)) = false := by decide) : DE X W (.Name x pos) (TVar i) :=
  de_mk (pe_var hN hv hd hcd) fun S R H σ env φ _ ok ⟨d, e, q⟩ => by
    obtain ⟨v, h1, h2⟩ := ok.val e
    exact ⟨v, h1, Pst.now ok.bas h2 q⟩
theorem de_c {e : Expr} {v : V} {d : D} (h : PE X e (tC v)) (r : ∀ K R, Rep K R d v := by intro _ _; rfl) : DE X W e (TC d) :=
  de_mk h fun S R H σ env φ _ ok q => Pst.now ok.bas (r _ _) q
theorem de_int {i j} : DE X W (.Constant (.int i) j pos) (TC (.int i)) := de_c pe_int
theorem de_bl {b j} : DE X W (.Constant (.bool b) j pos) (TC (.bl b)) := de_c pe_bl
theorem de_non {j} : DE X W (.Constant .none j pos) (TC .non) := de_c pe_non
theorem de_str {x j} : DE X W (.Constant (.str x) j pos) (TC (.str x)) := de_c pe_str
theorem de_gref {x : Str} {a : Addr} (hg : Gl X x) (hm : X.mg x = some (.ref a)) (hd : (x == ("__debug__" : Str)) = false := by decide) : DE X W (.Name x pos) (TC (.ref a)) := de_c (pe_glob hg hm (show RelV (.ref a) _ from rfl) hd)
theorem de_gint {x : Str} {i : Int} (hg : Gl X x) (hm : ∃ t, X.mg x = some (.int i t)) (hd : (x == ("__debug__" : Str)) = false := by decide) : DE X W (.Name x pos) (TC (.int i)) := by
  obtain ⟨t, hm⟩ := hm
  exact de_c (pe_glob hg hm (show RelV (.int i) _ from ⟨t, rfl⟩) hd)
theorem de_gstr {x z : Str} (hg : Gl X x) (hm : ∃ t, X.mg x = some (.str z t)) (hd : (x == ("__debug__" : Str)) = false := by decide) : DE X W (.Name x pos) (TC (.str z)) := by
  obtain ⟨t, hm⟩ := hm
  exact de_c (pe_glob hg hm (show RelV (.str z) _ from ⟨t, rfl⟩) hd)

/-! ### operators -/
abbrev F2 := D → D → (D → Prop) → Prop
/-- an operator by what its sides hold -/
def OpD (K : PySem.W.Frag) (r : R2) (f : F2) : Prop := ∀ (c : Ct) (R H : Hp) (x y : V) (dx dy : D) (φ : D → Prop) (Q : VK), Bas c.wd R H → Rep K R dx x → Rep K R dy y → f dx dy φ → (∀ v H', Pst K c R H φ v H' → Q v H') → r x y H Q
def TOp (f : F2) (Ta Tb : TD) : TD := fun c env φ => Ta c env fun x => Tb c env fun y => f x y φ
variable {a b : Expr} {Ta Tb : TD}
theorem op_ask {r : R2} {f : F2} (k : OpD X.K r f) {S : Sta} {R H : Hp} {σ : L2.St} {env : Ev} {φ : D → Prop} {Q : VK} (lk : Lk X.K S W) (ok : Ok3 X.K S R H σ env) (h : TOp f Ta Tb S.c env φ) (kQ : ∀ v H', Pst X.K S.c R H φ v H' → Q v H') :
    tOp r (tD X.K W Ta) (tD X.K W Tb) σ H Q := by
  refine tD.ask lk ok h fun R1 H1 d1 v1 f1 ok1 r1 q1 => tD.ask lk ok1 q1 fun R2 H2 d2 v2 f2 ok2 r2 q2 => ?_
  exact k S.c R2 H2 v1 v2 d1 d2 φ _ ok2.bas (r1.mono f2.up) r2 q2 fun v H' p => kQ v H' (Pst.from (f1.trans f2) p)
theorem de_op {op : Operator} {r : R2} {f : F2} (ho : OpR X (binaryOp op) r) (k : OpD X.K r f) (ha : DE X W a Ta) (hb : DE X W b Tb) : DE X W (.BinOp a op b pos) (TOp f Ta Tb) :=
  de_mk (pe_op ho ha hb) fun S R H σ env φ lk ok h => op_ask k lk ok h fun _ _ p => p
theorem de_cmp {op : CmpOp} {r : R2} {f : F2} (ho : OpR X (compareOp op) r) (k : OpD X.K r f) (ha : DE X W a Ta) (hb : DE X W b Tb) (hm : behindInMarks op b = false) : DE X W (.Compare a [op] [b] pos) (TOp f Ta Tb) :=
  de_mk (pe_cmpR ho ha hb hm) fun S R H σ env φ lk ok h => op_ask k lk ok h fun _ _ p => p
/-- a value that is a bool, as a test -/
def TTst (T : TD) : TB := fun c env φ => T c env fun d => ∃ k, d = .bl k ∧ φ k
theorem rep_bl {K : PySem.W.Frag} {R : Hp} {k : Bool} {v : V} (h : Rep K R (.bl k) v) : v = .bl k := h
theorem rep_int {K : PySem.W.Frag} {R : Hp} {k : Int} {v : V} (h : Rep K R (.int k) v) : v = .int k := h
theorem rep_str {K : PySem.W.Frag} {R : Hp} {k : Str} {v : V} (h : Rep K R (.str k) v) : v = .str k := h
theorem tst_ask {T : TD} {S : Sta} {R H : Hp} {σ : L2.St} {env : Ev} {φ : Bool → Prop} (lk : Lk X.K S W) (ok : Ok3 X.K S R H σ env) (h : TTst T S.c env φ) : tB (tD X.K W T) σ H (PstB S.c R H φ) :=
  tD.ask lk ok h fun R1 H1 d v f ok1 r ⟨k, e, q⟩ => by
    subst e
    exact ⟨k, r, R1, f, q⟩
theorem dt_cmp {op : CmpOp} {r : R2} {f : F2} (ho : OpR X (compareOp op) r) (k : OpD X.K r f) (ha : DE X W a Ta) (hb : DE X W b Tb) (hm : behindInMarks op b = false) : DT X W (.Compare a [op] [b] pos) (TTst (TOp f Ta Tb)) :=
  dt_mk (pt_cmpR ho ha hb hm) fun S R H σ env φ lk ok h => by
    refine op_ask (φ := fun d => ∃ k, d = .bl k ∧ φ k) k lk ok h fun v H' ⟨R1, d, f1, rr, k, e, q⟩ => ?_
    subst e
    exact ⟨k, rr, R1, f1, q⟩
theorem dt_val {e : Expr} {T : TD} (h : DE X W e T) (he : ∀ whole, isTrue e X.env whole = (do let v ← whole; standAt e.pos; holding [v] (truthy v)) := by intro _; rfl) : DT X W e (TTst T) :=
  dt_mk (pt_val h he) fun S R H σ env φ lk ok h => tst_ask lk ok h
theorem OpD.or {K : PySem.W.Frag} {r r' : R2} {f f' : F2} (h : OpD K r f) (h' : OpD K r' f') : OpD K (fun x y H Q => r x y H Q ∨ r' x y H Q) (fun x y φ => f x y φ ∨ f' x y φ) := fun c R H x y dx dy φ Q b r1 r2 q k => by
  rcases q with q | q
  · exact .inl (h c R H x y dx dy φ Q b r1 r2 q k)
  · exact .inr (h' c R H x y dx dy φ Q b r1 r2 q k)
/-- two ints -/
def fI (C : Int → Int → Prop) (g : Int → Int → D) : F2 := fun x y φ => ∃ i j, x = .int i ∧ y = .int j ∧ C i j ∧ φ (g i j)
theorem opd_I {C : Int → Int → Prop} {g : Int → Int → V} {gd : Int → Int → D} (hg : ∀ K R i j, Rep K R (gd i j) (g i j)) {K : PySem.W.Frag} : OpD K (rI C g) (fI C gd) := fun c R H x y dx dy φ Q b r1 r2 ⟨i, j, e1, e2, hc, q⟩ k => by
  subst e1 e2
  exact ⟨i, j, r1, r2, hc, k _ _ (Pst.now b (hg _ _ _ _) q)⟩
theorem opd_I0 {g : Int → Int → V} {gd : Int → Int → D} (hg : ∀ K R i j, Rep K R (gd i j) (g i j)) {K : PySem.W.Frag} : OpD K (rI0 g) (fI (fun _ _ => True) gd) := fun c R H x y dx dy φ Q b r1 r2 ⟨i, j, e1, e2, _, q⟩ k => by
  subst e1 e2
  exact ⟨i, j, r1, r2, k _ _ (Pst.now b (hg _ _ _ _) q)⟩
/-- + of ints, texts, lists, tuples -/
def addF : F2
  | .int i, .int j, φ => φ (.int (i + j))
  | .str x, .str y, φ => x.length + y.length ≤ sizeLine ∧ φ (.str (x ++ y))
  | .lst a, .lst b, φ => a.length + b.length ≤ sizeLine ∧ φ (.lst (a ++ b))
  | .tup a, .tup b, φ => a.length + b.length ≤ sizeLine ∧ φ (.tup (a ++ b))
  | _, _, _ => False
abbrev rAddS : R2 := fun x y H Q => ∃ i j, x = .str i ∧ y = .str j ∧ i.length + j.length ≤ sizeLine ∧ Q (.str (i ++ j)) H
abbrev rAddA (K : PySem.W.Frag) : R2 := fun x y H Q => (fun x y H Q => rI0 (fun i j => .int (i + j)) x y H Q ∨ rAddS x y H Q) x y H Q ∨ (fun x y H Q => rCat x y H Q ∨ rCatA K x y H Q) x y H Q
theorem op_addA : OpR X (binaryOp .Add) (rAddA X.K) := OpR.or (OpR.or op_add op_add_str) (OpR.or op_cat op_catA)
theorem reps_nil {K : PySem.W.Frag} {R : Hp} {ds : List D} (h : Reps K R ds []) : ds = [] := by
  have := h.length
  cases ds with
  | nil => rfl
  | cons d r => simp at this
theorem opd_add {K : PySem.W.Frag} : OpD K (rAddA K) addF := fun c R H x y dx dy φ Q b r1 r2 q k => by
  cases dx <;> cases dy <;> try exact q.elim
  case int i j =>
    exact .inl (.inl ⟨i, j, r1, r2, k _ _ (Pst.now b (show Rep K R (.int (i + j)) _ from rfl) q)⟩)
  case str i j =>
    exact .inl (.inr ⟨i, j, r1, r2, q.1, k _ _ (Pst.now b (show Rep K R (.str (i ++ j)) _ from rfl) q.2)⟩)
  case lst ds es =>
    obtain ⟨p, xs, e1, h1, q1⟩ := (show ∃ p xs, x = .ref p ∧ R p = some (.lst xs) ∧ Reps K R ds xs from r1)
    obtain ⟨p2, ys, e2, h2, q2⟩ := (show ∃ p xs, y = .ref p ∧ R p = some (.lst xs) ∧ Reps K R es xs from r2)
    refine .inr (.inl ⟨p, p2, xs, ys, e1, e2, b.sub _ _ h1, b.sub _ _ h2, by rw [q1.length, q2.length]; exact q.1, fun n hn => k _ _ (Pst.lst b hn (q1.append q2) q.2)⟩)
  case tup ds es =>
    obtain ⟨p, xs, e1, h1, q1⟩ := (show ∃ p xs, x = .ref p ∧ R p = some (.tup xs) ∧ Reps K R ds xs from r1)
    obtain ⟨p2, ys, e2, h2, q2⟩ := (show ∃ p xs, y = .ref p ∧ R p = some (.tup xs) ∧ Reps K R es xs from r2)
    refine .inr (.inr ⟨p, p2, xs, ys, e1, e2, SqT.of (b.sub _ _ h1), SqT.of (b.sub _ _ h2), by rw [q1.length, q2.length]; exact q.1, fun e => ?_, fun _ e => ?_, fun _ _ n hn => k _ _ (Pst.tup b hn (q1.append q2) q.2)⟩)
    · subst e
      refine k _ _ (Pst.now b (d := .tup (ds ++ es)) ⟨p2, ys, rfl, h2, ?_⟩ q.2)
      rw [reps_nil q1]
      exact q2
    · subst e
      refine k _ _ (Pst.now b (d := .tup (ds ++ es)) ⟨p, xs, rfl, h1, ?_⟩ q.2)
      rw [reps_nil q2, List.append_nil]
      exact q1
theorem de_add (ha : DE X W a Ta) (hb : DE X W b Tb) : DE X W (.BinOp a .Add b pos) (TOp addF Ta Tb) := de_op op_addA opd_add ha hb
abbrev subF : F2 := fI (fun _ _ => True) fun i j => .int (i - j)
theorem de_sub (ha : DE X W a Ta) (hb : DE X W b Tb) : DE X W (.BinOp a .Sub b pos) (TOp subF Ta Tb) := de_op op_sub (opd_I0 (by intros; rfl)) ha hb
abbrev modF : F2 := fI (fun _ j => 0 < j) fun i j => .int (i % j)
theorem de_mod (ha : DE X W a Ta) (hb : DE X W b Tb) : DE X W (.BinOp a .Mod b pos) (TOp modF Ta Tb) := de_op op_mod (opd_I (by intros; rfl)) ha hb
abbrev fdivF : F2 := fI CDiv fun i j => .int (i / j)
theorem de_fdiv (ha : DE X W a Ta) (hb : DE X W b Tb) : DE X W (.BinOp a .FloorDiv b pos) (TOp fdivF Ta Tb) := de_op op_fdiv (opd_I (by intros; rfl)) ha hb
abbrev powF : F2 := fI CPow fun i j => .int (i ^ j.toNat)
theorem de_pow (ha : DE X W a Ta) (hb : DE X W b Tb) : DE X W (.BinOp a .Pow b pos) (TOp powF Ta Tb) := de_op op_pow (opd_I (by intros; rfl)) ha hb
/-- * of ints; a text, a list by an int -/
def mulF : F2
  | .int i, .int j, φ => CMul i j ∧ φ (.int (i * j))
  | .str x, .int n, φ => MulOk x n ∧ φ (.str (Txt.mul x n))
  | .lst ds, .int n, φ => -2 ^ 63 ≤ n ∧ n < 2 ^ 63 ∧ ds.length * n.toNat ≤ sizeLine ∧ φ (.lst (List.replicate n.toNat ds).flatten)
  | _, _, _ => False
abbrev rMulS : R2 := fun x y H Q => ∃ i j, x = .str i ∧ y = .int j ∧ MulOk i j ∧ Q (.str (Txt.mul i j)) H
theorem op_mulS : OpR X (binaryOp .Mult) rMulS := by
  intro pins s σ H x y v u Q I rx ry h
  obtain ⟨i, j, rfl, rfl, hm, q⟩ := h
  obtain ⟨t, rfl⟩ := rx
  obtain ⟨t', rfl⟩ := ry
  exact SB.mul hm fun t' k => ⟨.str _, H, I.tok k, ⟨_, rfl⟩, q⟩
abbrev rMulA : R2 := fun x y H Q => (fun x y H Q => rI CMul (fun i j => .int (i * j)) x y H Q ∨ rMulS x y H Q) x y H Q ∨ rRep x y H Q
theorem op_mulA : OpR X (binaryOp .Mult) rMulA := OpR.or (OpR.or op_mul op_mulS) op_rep
theorem Reps.flat {K : PySem.W.Frag} {R : Hp} {ds : List D} {xs : List V} (h : Reps K R ds xs) : ∀ n : Nat, Reps K R (List.replicate n ds).flatten (List.replicate n xs).flatten
  | 0 => rfl
  | n + 1 => by
    rw [List.replicate_succ, List.replicate_succ, List.flatten_cons, List.flatten_cons]
    exact h.append (Reps.flat h n)
theorem opd_mul {K : PySem.W.Frag} : OpD K rMulA mulF := fun c R H x y dx dy φ Q b r1 r2 q k => by
  cases dx <;> cases dy <;> try exact q.elim
  case int i j => exact .inl (.inl ⟨i, j, r1, r2, q.1, k _ _ (Pst.now b (show Rep K R (.int (i * j)) _ from rfl) q.2)⟩)
  case str i j => exact .inl (.inr ⟨i, j, r1, r2, q.1, k _ _ (Pst.now b (show Rep K R (.str _) _ from rfl) q.2)⟩)
  case lst ds n =>
    obtain ⟨p, xs, e1, h1, q1⟩ := (show ∃ p xs, x = .ref p ∧ R p = some (.lst xs) ∧ Reps K R ds xs from r1)
    exact .inr ⟨p, n, xs, e1, r2, b.sub _ _ h1, q.1, q.2.1, by rw [q1.length]; exact q.2.2.1, fun m hm => k _ _ (Pst.lst b hm (q1.flat _) q.2.2.2)⟩
theorem de_mul (ha : DE X W a Ta) (hb : DE X W b Tb) : DE X W (.BinOp a .Mult b pos) (TOp mulF Ta Tb) := de_op op_mulA opd_mul ha hb

/-! ### comparisons -/
abbrev ltF : F2 := fI (fun _ _ => True) fun i j => .bl (decide (i < j))
abbrev leF : F2 := fI (fun _ _ => True) fun i j => .bl (decide (i ≤ j))
abbrev gtF : F2 := fI (fun _ _ => True) fun i j => .bl (decide (j < i))
abbrev geF : F2 := fI (fun _ _ => True) fun i j => .bl (decide (j ≤ i))
theorem opd_lt {K : PySem.W.Frag} : OpD K (rI0 fun i j => .bl (decide (i < j))) ltF := opd_I0 (by intros; rfl)
theorem opd_le {K : PySem.W.Frag} : OpD K (rI0 fun i j => .bl (decide (i ≤ j))) leF := opd_I0 (by intros; rfl)
theorem opd_gt {K : PySem.W.Frag} : OpD K (rI0 fun i j => .bl (decide (j < i))) gtF := opd_I0 (by intros; rfl)
theorem opd_ge {K : PySem.W.Frag} : OpD K (rI0 fun i j => .bl (decide (j ≤ i))) geF := opd_I0 (by intros; rfl)
/-! what can be compared at any depth -/
mutual
def toP : D → PyData
  | .non => .none
  | .bl b => .bool b
  | .int i => .int i
  | .str x => .str x
  | .tup ds => .tuple (toPs ds)
  | .lst ds => .list (toPs ds)
  | _ => .none
def toPs : List D → List PyData
  | [] => []
  | d :: ds => toP d :: toPs ds
end
mutual
def isP : D → Bool
  | .non => true
  | .bl _ => true
  | .int _ => true
  | .str _ => true
  | .tup ds => isPs ds
  | .lst ds => isPs ds
  | _ => false
def isPs : List D → Bool
  | [] => true
  | d :: ds => isP d && isPs ds
end
mutual
theorem dp_of {K : PySem.W.Frag} {H : Hp} : ∀ {d : D} {v : V}, isP d = true → Rep K H d v → Dp K H v (toP d)
  | .non, v, _, r => by
    have e : v = .non := r
    subst e
    exact .non
  | .bl b, v, _, r => by
    have e : v = .bl b := r
    subst e
    exact .bl _
  | .int b, v, _, r => by
    have e : v = .int b := r
    subst e
    exact .int _
  | .str b, v, _, r => by
    have e : v = .str b := r
    subst e
    exact .str _
  | .tup ds, v, hp, r => by
    obtain ⟨p, xs, e, h, q⟩ := (show ∃ p xs, v = .ref p ∧ H p = some (.tup xs) ∧ Reps K H ds xs from r)
    subst e
    exact .tup (SqT.of h) (dps_of hp q)
  | .lst ds, v, hp, r => by
    obtain ⟨p, xs, e, h, q⟩ := (show ∃ p xs, v = .ref p ∧ H p = some (.lst xs) ∧ Reps K H ds xs from r)
    subst e
    exact .lst (SqL.of h) (dps_of hp q)
  | .ty n, _, hp, _ => by cases hp
  | .ref n, _, hp, _ => by cases hp
  | .ins n fs, _, hp, _ => by cases hp
  | .exc n fs, _, hp, _ => by cases hp
  | .clo n fs, _, hp, _ => by cases hp
  | .lam n fs, _, hp, _ => by cases hp
  | .dic n, _, hp, _ => by cases hp
theorem dps_of {K : PySem.W.Frag} {H : Hp} : ∀ {ds : List D} {vs : List V}, isPs ds = true → Reps K H ds vs → DpAll K H vs (toPs ds)
  | [], vs, _, r => by
    have e : vs = [] := r
    subst e
    exact .nil
  | d :: ds, vs, hp, r => by
    obtain ⟨v, t, e, h1, h2⟩ := (show ∃ v r, vs = v :: r ∧ Rep K H d v ∧ Reps K H ds r from r)
    subst e
    obtain ⟨p1, p2⟩ := Bool.and_eq_true_iff.mp (show (isP d && isPs ds) = true from hp)
    exact .cons (dp_of p1 h1) (dps_of p2 h2)
end
/-- == and != of plain data -/
def eqF : F2 := fun x y φ => isP x = true ∧ isP y = true ∧ SeqAt.shaped (toP x) = true ∧ SeqAt.shaped (toP y) = true ∧ φ (.bl (PyData.eqv (toP x) (toP y)))
def neF : F2 := fun x y φ => isP x = true ∧ isP y = true ∧ SeqAt.shaped (toP x) = true ∧ SeqAt.shaped (toP y) = true ∧ φ (.bl (!PyData.eqv (toP x) (toP y)))
theorem opd_eq {K : PySem.W.Frag} : OpD K (rEqD K) eqF := fun c R H x y dx dy φ Q b r1 r2 ⟨p1, p2, s1, s2, q⟩ k =>
  ⟨_, _, dp_of p1 (r1.mono b.sub), dp_of p2 (r2.mono b.sub), s1, s2, k _ _ (Pst.now b (show Rep K R (.bl _) _ from rfl) q)⟩
theorem opd_ne {K : PySem.W.Frag} : OpD K (rNeD K) neF := fun c R H x y dx dy φ Q b r1 r2 ⟨p1, p2, s1, s2, q⟩ k =>
  ⟨_, _, dp_of p1 (r1.mono b.sub), dp_of p2 (r2.mono b.sub), s1, s2, k _ _ (Pst.now b (show Rep K R (.bl _) _ from rfl) q)⟩
/-- is None -/
def flatD : D → Bool
  | .non => true
  | .bl _ => true
  | .int _ => true
  | .str _ => true
  | _ => false
def isND : D → Bool
  | .non => true
  | _ => false
theorem isN_rep {K : PySem.W.Frag} {R : Hp} {d : D} {v : V} (r : Rep K R d v) : decide (v = .non) = isND d := by
  cases d
  case non => exact decide_eq_true r
  case bl => rw [show v = .bl _ from r]; exact decide_eq_false (by intro e; cases e)
  case int => rw [show v = .int _ from r]; exact decide_eq_false (by intro e; cases e)
  case str => rw [show v = .str _ from r]; exact decide_eq_false (by intro e; cases e)
  case ty => rw [show v = .ty _ from r]; exact decide_eq_false (by intro e; cases e)
  case ref => rw [show v = .ref _ from r]; exact decide_eq_false (by intro e; cases e)
  case tup ds =>
    obtain ⟨p, xs, e, _⟩ := (show ∃ p xs, v = .ref p ∧ R p = some (.tup xs) ∧ Reps K R ds xs from r)
    rw [e]; exact decide_eq_false (by intro e; cases e)
  case lst ds =>
    obtain ⟨p, xs, e, _⟩ := (show ∃ p xs, v = .ref p ∧ R p = some (.lst xs) ∧ Reps K R ds xs from r)
    rw [e]; exact decide_eq_false (by intro e; cases e)
  case ins C fs =>
    obtain ⟨p, dx, xs, e, _⟩ := (show ∃ p dx fvs, v = .ref p ∧ R p = some (.ins C dx fvs) ∧ RepF K R fs fvs from r)
    rw [e]; exact decide_eq_false (by intro e; cases e)
  case exc C fs =>
    obtain ⟨p, dx, xs, e, _⟩ := (show ∃ p dx fvs, v = .ref p ∧ ExcAt R C dx p ∧ R dx = some (.xd fvs) ∧ RepF K R fs fvs from r)
    rw [e]; exact decide_eq_false (by intro e; cases e)
  case clo L ds =>
    obtain ⟨f, cl, xs, e, _⟩ := (show ∃ f cl xs, v = .ref f ∧ LamAt R L cl f ∧ CellsAt R cl xs ∧ Reps K R ds xs from r)
    rw [e]; exact decide_eq_false (by intro e; cases e)
  case lam L cl =>
    obtain ⟨f, e, _⟩ := (show ∃ f, v = .ref f ∧ LamAt R L cl f from r)
    rw [e]; exact decide_eq_false (by intro e; cases e)
  case dic kvs =>
    obtain ⟨p, xs, e, _⟩ := (show ∃ p xs, v = .ref p ∧ R p = some (.dK xs) ∧ RepK K R kvs xs from r)
    rw [e]; exact decide_eq_false (by intro e; cases e)
def isF : F2 := fun x y φ => y = .non ∧ φ (.bl (isND x))
def isntF : F2 := fun x y φ => y = .non ∧ φ (.bl (!isND x))
theorem opd_is {K : PySem.W.Frag} : OpD K (fun x y H Q => y = .non ∧ Q (.bl (decide (x = .non))) H) isF := fun c R H x y dx dy φ Q b r1 r2 ⟨e, q⟩ k => by
  subst e
  exact ⟨r2, k _ _ (Pst.now b (d := .bl (isND dx)) (by rw [isN_rep r1]; rfl) q)⟩
theorem opd_isnt {K : PySem.W.Frag} : OpD K (fun x y H Q => y = .non ∧ Q (.bl (!decide (x = .non))) H) isntF := fun c R H x y dx dy φ Q b r1 r2 ⟨e, q⟩ k => by
  subst e
  exact ⟨r2, k _ _ (Pst.now b (d := .bl (!isND dx)) (by rw [isN_rep r1]; rfl) q)⟩
/-- in: a text in a text; a flat value in a tuple, a list of such -/
def flV : D → V
  | .bl b => .bl b
  | .int i => .int i
  | .str x => .str x
  | _ => .non
def occ (x y : Str) : Bool := !(Builtin.Str.occurrences y x 0 y.length 1).isEmpty
def inF (neg : Bool) : F2
  | .str x, .str y, φ => φ (.bl (if neg then !occ x y else occ x y))
  | x, .tup ds, φ => flatD x = true ∧ ds.all flatD = true ∧ φ (.bl (if neg then !inV (flV x) (ds.map flV) else inV (flV x) (ds.map flV)))
  | x, .lst ds, φ => flatD x = true ∧ ds.all flatD = true ∧ φ (.bl (if neg then !inV (flV x) (ds.map flV) else inV (flV x) (ds.map flV)))
  | _, _, _ => False
theorem fl_rep {K : PySem.W.Frag} {R : Hp} {d : D} {v : V} (f : flatD d = true) (r : Rep K R d v) : v = flV d ∧ flatV v = true := by
  cases d <;> try (exact Bool.noConfusion f)
  case non => rw [show v = .non from r]; exact ⟨rfl, rfl⟩
  case bl => rw [show v = .bl _ from r]; exact ⟨rfl, rfl⟩
  case int => rw [show v = .int _ from r]; exact ⟨rfl, rfl⟩
  case str => rw [show v = .str _ from r]; exact ⟨rfl, rfl⟩
theorem fls_rep {K : PySem.W.Frag} {R : Hp} : ∀ {ds : List D} {vs : List V}, ds.all flatD = true → Reps K R ds vs → vs = ds.map flV ∧ vs.all flatV = true
  | [], vs, _, r => by
    have e : vs = [] := r
    subst e
    exact ⟨rfl, rfl⟩
  | d :: ds, vs, f, r => by
    obtain ⟨v, t, e, h1, h2⟩ := (show ∃ v r, vs = v :: r ∧ Rep K R d v ∧ Reps K R ds r from r)
    subst e
    rw [List.all_cons, Bool.and_eq_true] at f
    obtain ⟨e1, g1⟩ := fl_rep f.1 h1
    obtain ⟨e2, g2⟩ := fls_rep f.2 h2
    refine ⟨by rw [List.map_cons, ← e1, ← e2], by rw [List.all_cons, g1, g2]; rfl⟩
abbrev rInA (K : PySem.W.Frag) : R2 := fun x y H Q => (∃ i j, x = .str i ∧ y = .str j ∧ Q (.bl (!(Builtin.Str.occurrences j i 0 j.length 1).isEmpty)) H) ∨ rIn K false x y H Q
abbrev rNinA (K : PySem.W.Frag) : R2 := fun x y H Q => (∃ i j, x = .str i ∧ y = .str j ∧ Q (.bl (!(!(Builtin.Str.occurrences j i 0 j.length 1).isEmpty))) H) ∨ rIn K true x y H Q
theorem op_inA : OpR X (compareOp .In) (rInA X.K) := OpR.or op_in_str op_in_seq
theorem op_ninA : OpR X (compareOp .NotIn) (rNinA X.K) := OpR.or op_notin_str op_notIn_seq
theorem in_seq {K : PySem.W.Frag} {neg : Bool} {c : Ct} {R H : Hp} {x y : V} {dx : D} {ds : List D} {φ : D → Prop} {Q : VK} (b : Bas c.wd R H) (r1 : Rep K R dx x) (hy : ∃ p xs, y = .ref p ∧ (SqL K H p xs ∨ SqT K H p xs) ∧ Reps K R ds xs)
    (q : flatD dx = true ∧ ds.all flatD = true ∧ φ (.bl (if neg then !inV (flV dx) (ds.map flV) else inV (flV dx) (ds.map flV)))) (k : ∀ v H', Pst K c R H φ v H' → Q v H') : rIn K neg x y H Q := by
  obtain ⟨p, xs, e, h, q2⟩ := hy
  obtain ⟨f1, f2, q⟩ := q
  obtain ⟨e1, g1⟩ := fl_rep f1 r1
  obtain ⟨e2, g2⟩ := fls_rep f2 q2
  refine ⟨p, xs, e, h, g1, g2, k _ _ (Pst.now b (d := .bl (if neg then !inV (flV dx) (ds.map flV) else inV (flV dx) (ds.map flV))) ?_ q)⟩
  rw [← e1, ← e2]
  rfl
theorem rep_seq {K : PySem.W.Frag} {c : Ct} {R H : Hp} {y : V} {ds : List D} (b : Bas c.wd R H) (h : Rep K R (.tup ds) y ∨ Rep K R (.lst ds) y) : ∃ p xs, y = .ref p ∧ (SqL K H p xs ∨ SqT K H p xs) ∧ Reps K R ds xs := by
  rcases h with h | h
  · obtain ⟨p, xs, e, h, q⟩ := (show ∃ p xs, y = .ref p ∧ R p = some (.tup xs) ∧ Reps K R ds xs from h)
    exact ⟨p, xs, e, .inr (SqT.of (b.sub _ _ h)), q⟩
  · obtain ⟨p, xs, e, h, q⟩ := (show ∃ p xs, y = .ref p ∧ R p = some (.lst xs) ∧ Reps K R ds xs from h)
    exact ⟨p, xs, e, .inl (SqL.of (b.sub _ _ h)), q⟩
theorem opd_in {K : PySem.W.Frag} : OpD K (rInA K) (inF false) := fun c R H x y dx dy φ Q b r1 r2 q k => by
  cases dy
  case str j =>
    cases dx <;> try exact q.elim
    case str i => exact .inl ⟨i, j, r1, r2, k _ _ (Pst.now b (show Rep K R (.bl _) _ from rfl) q)⟩
  case tup ds => exact .inr (in_seq (neg := false) b r1 (rep_seq b (.inl r2)) (by cases dx <;> exact q) k)
  case lst ds => exact .inr (in_seq (neg := false) b r1 (rep_seq b (.inr r2)) (by cases dx <;> exact q) k)
  all_goals (exact absurd q (by cases dx <;> exact id))
theorem opd_nin {K : PySem.W.Frag} : OpD K (rNinA K) (inF true) := fun c R H x y dx dy φ Q b r1 r2 q k => by
  cases dy
  case str j =>
    cases dx <;> try exact q.elim
    case str i => exact .inl ⟨i, j, r1, r2, k _ _ (Pst.now b (show Rep K R (.bl _) _ from rfl) q)⟩
  case tup ds => exact .inr (in_seq (neg := true) b r1 (rep_seq b (.inl r2)) (by cases dx <;> exact q) k)
  case lst ds => exact .inr (in_seq (neg := true) b r1 (rep_seq b (.inr r2)) (by cases dx <;> exact q) k)
  all_goals (exact absurd q (by cases dx <;> exact id))
end
end L3
namespace L3
open PySem PySem.Spec PyProof.Rows L2
section
variable {X : Cx} {W : WX} {pos : Pos} {a b : Expr} {Ta Tb : TD} {A B : TB}
/-! ### tests -/
def TAnd (A B : TB) : TB := fun c env φ => A c env fun k => if k = true then B c env φ else φ false
def TOr (A B : TB) : TB := fun c env φ => A c env fun k => if k = true then φ true else B c env φ
def TNot (A : TB) : TB := fun c env φ => A c env fun k => φ (!k)
theorem PstB.from {c : Ct} {R H R1 H1 : Hp} {φ : Bool → Prop} (f : Fin c.wd R H R1 H1) {k : Bool} {H2 : Hp} (h : PstB c R1 H1 φ k H2) : PstB c R H φ k H2 := by
  obtain ⟨R2, f2, q⟩ := h
  exact ⟨R2, f.trans f2, q⟩
theorem tB3.go {K : PySem.W.Frag} {W : WX} {S : Sta} {R H R1 H1 : Hp} {σ : L2.St} {env : Ev} {T : TB} {φ : Bool → Prop} (lk : Lk K S W) (f : Fin S.c.wd R H R1 H1) (ok : Ok3 K S R1 H1 σ env) (h : T S.c env φ) : tB3 K W T σ H1 (PstB S.c R H φ) :=
  tB3.ask lk ok h fun R' H' b f' _ q => ⟨R', f.trans f', q⟩
theorem tD.go {K : PySem.W.Frag} {W : WX} {S : Sta} {R H R1 H1 : Hp} {σ : L2.St} {env : Ev} {T : TD} {φ : D → Prop} (lk : Lk K S W) (f : Fin S.c.wd R H R1 H1) (ok : Ok3 K S R1 H1 σ env) (h : T S.c env φ) : tD K W T σ H1 (Pst K S.c R H φ) :=
  tD.ask lk ok h fun R' H' d v f' _ r q => ⟨R', d, f.trans f', r, q⟩
theorem dw_and1 (ha : DT X W a A) : DW X W (.BoolOp .And [a] pos) A := pw_and1 ha
theorem dw_or1 (ha : DT X W a A) : DW X W (.BoolOp .Or [a] pos) A := pw_or1 ha
theorem dw_and {rest : List Expr} (ha : DT X W a A) (hb : DW X W (.BoolOp .And (b :: rest) pos) B) : DW X W (.BoolOp .And (a :: b :: rest) pos) (TAnd A B) :=
  dw_mk (pw_and ha hb) fun S R H σ env φ lk ok h => tB3.ask lk ok h fun R1 H1 k f ok1 q => by
    cases k with
    | true => exact iteT (tB3.go lk f ok1 (by rw [if_pos rfl] at q; exact q))
    | false => exact iteF ⟨R1, f, by rw [if_neg Bool.false_ne_true] at q; exact q⟩
theorem dw_or {rest : List Expr} (ha : DT X W a A) (hb : DW X W (.BoolOp .Or (b :: rest) pos) B) : DW X W (.BoolOp .Or (a :: b :: rest) pos) (TOr A B) :=
  dw_mk (pw_or ha hb) fun S R H σ env φ lk ok h => tB3.ask lk ok h fun R1 H1 k f ok1 q => by
    cases k with
    | false => exact iteF (tB3.go lk f ok1 (by rw [if_neg Bool.false_ne_true] at q; exact q))
    | true => exact iteT ⟨R1, f, by rw [if_pos rfl] at q; exact q⟩
theorem dt_bool {e : Expr} (h : DW X W e A) : DT X W e A := h.pt
theorem dt_not (ha : DT X W a A) : DT X W (.UnaryOp .Not a pos) (TNot A) :=
  dt_mk (pt_not ha) fun S R H σ env φ lk ok h => tB3.ask lk ok h fun R1 H1 k f ok1 q => ⟨R1, f, q⟩
/-- .. as values (bools) -/
def TAndV (Ta Tb : TD) : TD := fun c env φ => Ta c env fun x => ∃ k, x = .bl k ∧ if k = true then Tb c env φ else φ (.bl false)
def TOrV (Ta Tb : TD) : TD := fun c env φ => Ta c env fun x => ∃ k, x = .bl k ∧ if k = true then φ (.bl true) else Tb c env φ
def TNotV (Ta : TD) : TD := fun c env φ => Ta c env fun x => ∃ k, x = .bl k ∧ φ (.bl (!k))
theorem de_one {op} {T : TD} (h : DE X W a T) : DE X W (.BoolOp op [a] pos) T := pe_one h
theorem de_and {rest : List Expr} (ha : DE X W a Ta) (hb : DE X W (.BoolOp .And (b :: rest) pos) Tb) : DE X W (.BoolOp .And (a :: b :: rest) pos) (TAndV Ta Tb) :=
  de_mk (pe_and ha hb) fun S R H σ env φ lk ok h => tD.ask lk ok h fun R1 H1 d v f ok1 r ⟨k, e, q⟩ => by
    subst e
    refine ⟨k, r, ?_⟩
    cases k with
    | true => exact iteT (tD.go lk f ok1 (by rw [if_pos rfl] at q; exact q))
    | false => exact iteF ⟨R1, _, f, (show Rep X.K R1 (.bl false) _ from rfl), by rw [if_neg Bool.false_ne_true] at q; exact q⟩
theorem de_or {rest : List Expr} (ha : DE X W a Ta) (hb : DE X W (.BoolOp .Or (b :: rest) pos) Tb) : DE X W (.BoolOp .Or (a :: b :: rest) pos) (TOrV Ta Tb) :=
  de_mk (pe_or ha hb) fun S R H σ env φ lk ok h => tD.ask lk ok h fun R1 H1 d v f ok1 r ⟨k, e, q⟩ => by
    subst e
    refine ⟨k, r, ?_⟩
    cases k with
    | false => exact iteF (tD.go lk f ok1 (by rw [if_neg Bool.false_ne_true] at q; exact q))
    | true => exact iteT ⟨R1, _, f, (show Rep X.K R1 (.bl true) _ from rfl), by rw [if_pos rfl] at q; exact q⟩
theorem de_not (ha : DE X W a Ta) : DE X W (.UnaryOp .Not a pos) (TNotV Ta) :=
  de_mk (pe_not ha) fun S R H σ env φ lk ok h => tD.ask lk ok h fun R1 H1 d v f ok1 r ⟨k, e, q⟩ => by
    subst e
    exact ⟨k, r, R1, _, f, (show Rep X.K R1 (.bl (!k)) _ from rfl), q⟩
def TIf (A : TB) (Ta Tb : TD) : TD := fun c env φ => A c env fun k => if k = true then Ta c env φ else Tb c env φ
theorem de_ifExp {t : Expr} (hc : DT X W t A) (ha : DE X W a Ta) (hb : DE X W b Tb) : DE X W (.IfExp t a b pos) (TIf A Ta Tb) :=
  de_mk (pe_ifExp hc ha hb) fun S R H σ env φ lk ok h => tB3.ask lk ok h fun R1 H1 k f ok1 q => by
    cases k with
    | true => exact iteT (tD.go lk f ok1 (by rw [if_pos rfl] at q; exact q))
    | false => exact iteF (tD.go lk f ok1 (by rw [if_neg Bool.false_ne_true] at q; exact q))
/-- a < b < c -/
def TChain (f g : F2) (Ta Tb Tc : TD) : TD := fun c env φ => Ta c env fun x => Tb c env fun y => f x y fun z => ∃ k, z = .bl k ∧ if k = true then Tc c env fun w => g y w φ else φ (.bl false)
theorem tChain_ask {r r' : R2} {f g : F2} {Tc : TD} (k : OpD X.K r f) (k' : OpD X.K r' g) {S : Sta} {R H : Hp} {σ : L2.St} {env : Ev} {φ : D → Prop} {Q : VK} (lk : Lk X.K S W) (ok : Ok3 X.K S R H σ env) (h : TChain f g Ta Tb Tc S.c env φ)
    (kQ : ∀ v H', Pst X.K S.c R H φ v H' → Q v H') : tChain r r' (tD X.K W Ta) (tD X.K W Tb) (tD X.K W Tc) σ H Q := by
  refine tD.ask lk ok h fun R1 H1 d1 v1 f1 ok1 r1 q1 => tD.ask lk ok1 q1 fun R2 H2 d2 v2 f2 ok2 r2 q2 => ?_
  refine k S.c R2 H2 v1 v2 d1 d2 _ _ ok2.bas (r1.mono f2.up) r2 q2 fun z H3 p => ?_
  obtain ⟨R3, d3, f3, r3, b, e, q3⟩ := p
  subst e
  refine ⟨b, r3, ?_⟩
  have ok3 := ok2.through f3
  cases b with
  | true =>
    rw [if_pos rfl] at q3 ⊢
    refine tD.ask lk ok3 q3 fun R4 H4 d4 v4 f4 ok4 r4 q4 => ?_
    exact k' S.c R4 H4 v2 v4 d2 d4 φ _ ok4.bas (r2.mono (f3.trans f4).up) r4 q4 fun v H' p => kQ v H' (Pst.from (((f1.trans f2).trans f3).trans f4) p)
  | false =>
    rw [if_neg Bool.false_ne_true] at q3 ⊢
    exact kQ _ _ ⟨R3, _, (f1.trans f2).trans f3, (show Rep X.K R3 (.bl false) _ from rfl), q3⟩
theorem de_chain {op op' : CmpOp} {r r' : R2} {f g : F2} {cc : Expr} {Tc : TD} (ho : OpR X (compareOp op) r) (k : OpD X.K r f) (ho' : OpR X (compareOp op') r') (k' : OpD X.K r' g) (ha : DE X W a Ta) (hb : DE X W b Tb) (hc : DE X W cc Tc)
    (hm : lastMarks [op, op'] [b, cc] = false := by rfl) : DE X W (.Compare a [op, op'] [b, cc] pos) (TChain f g Ta Tb Tc) :=
  de_mk (pe_chain ho ho' ha hb hc hm) fun S R H σ env φ lk ok h => tChain_ask k k' lk ok h fun _ _ p => p

/-! ### items, slices -/
def ixF : F2
  | .lst ds, .int i, φ => ∃ d, atI ds i = some d ∧ φ d
  | .tup ds, .int i, φ => ∃ d, atI ds i = some d ∧ φ d
  | .str z, .int i, φ => z.length ≤ sizeLine ∧ ∃ c, atI z.cps.toList i = some c ∧ φ (.str ⟨#[c]⟩)
  | _, _, _ => False
theorem atI_rep {K : PySem.W.Frag} {R : Hp} {ds : List D} {vs : List V} {i : Int} {d : D} (r : Reps K R ds vs) (h : atI ds i = some d) : ∃ v, atI vs i = some v ∧ Rep K R d v := by
  unfold atI at h ⊢
  rw [r.length]
  cases e : ixN ds.length i with
  | none =>
    rw [e] at h
    cases h
  | some j =>
    rw [e] at h
    exact r.get (show ds[j]? = some d from h)
theorem opd_ix {K : PySem.W.Frag} : OpD K (rIx K) ixF := fun c R H x y dx dy φ Q b r1 r2 q k => by
  cases dx <;> cases dy <;> try exact q.elim
  case lst ds i =>
    obtain ⟨p, xs, e, h, q2⟩ := (show ∃ p xs, x = .ref p ∧ R p = some (.lst xs) ∧ Reps K R ds xs from r1)
    obtain ⟨d, hd, q⟩ := q
    obtain ⟨v, hv, rv⟩ := atI_rep q2 hd
    exact .inl ⟨p, xs, i, v, e, r2, SqL.of (b.sub _ _ h), hv, k _ _ (Pst.now b rv q)⟩
  case tup ds i =>
    obtain ⟨p, xs, e, h, q2⟩ := (show ∃ p xs, x = .ref p ∧ R p = some (.tup xs) ∧ Reps K R ds xs from r1)
    obtain ⟨d, hd, q⟩ := q
    obtain ⟨v, hv, rv⟩ := atI_rep q2 hd
    exact .inr (.inl ⟨p, xs, i, v, e, r2, SqT.of (b.sub _ _ h), hv, k _ _ (Pst.now b rv q)⟩)
  case str z i =>
    obtain ⟨hz, cc, hc, q⟩ := q
    exact .inr (.inr ⟨z, i, cc, r1, r2, hz, hc, k _ _ (Pst.now b (show Rep K R (.str _) _ from rfl) q)⟩)
theorem de_ix (ha : DE X W a Ta) (hb : DE X W b Tb) (hp : PlainIx b := by exact fun _ _ => rfl) : DE X W (.Subscript a b pos) (TOp ixF Ta Tb) :=
  de_mk (pe_ix ix_seq ha hb hp) fun S R H σ env φ lk ok h => op_ask opd_ix lk ok h fun _ _ p => p
/-- the parts of a slice -/
abbrev TPD := Ct → Ev → (Option Int → Prop) → Prop
def tO3 (K : PySem.W.Frag) (W : WX) (T : TPD) : TO := fun σ H Q => ∃ S R env φ, Lk K S W ∧ Ok3 K S R H σ env ∧ T S.c env φ ∧ ∀ v H', (∃ R', Fin S.c.wd R H R' H' ∧ φ v) → Q v H'
abbrev DO (X : Cx) (W : WX) (e : Option Expr) (T : TPD) : Prop := PO X e (tO3 X.K W T)
theorem do_mk {e : Option Expr} {t : TO} {T : TPD} (h : PO X e t) (k : ∀ S R H σ env φ, Lk X.K S W → Ok3 X.K S R H σ env → T S.c env φ → t σ H (fun v H' => ∃ R', Fin S.c.wd R H R' H' ∧ φ v)) : DO X W e T :=
  ⟨fun pins s σ H Q I ⟨S, R, env, φ, lk, ok, hT, hQ⟩ => thn (h.run pins s σ H _ I (k S R H σ env φ lk ok hT)) fun v s' ⟨x, H', I', r, p⟩ => ⟨x, H', I', r, hQ x H' p⟩⟩
def TNoPart : TPD := fun _ _ φ => φ none
def TPart (T : TD) : TPD := fun c env φ => T c env fun x => ∃ i, x = .int i ∧ φ (some i)
theorem do_none : DO X W none TNoPart := do_mk po_none fun S R H σ env φ lk ok h => ⟨R, Fin.refl ok.bas, h⟩
theorem do_some (h : DE X W a Ta) : DO X W (some a) (TPart Ta) := do_mk (po_some h) fun S R H σ env φ lk ok q => tD.ask lk ok q fun R1 H1 d v f ok1 r ⟨i, e, q⟩ => by
  subst e
  exact ⟨i, r, R1, f, q⟩
def cutD (xs : List D) (lo hi : Option Int) : List D := List.take (HT.sIx xs.length xs.length hi - HT.sIx xs.length 0 lo) (List.drop (HT.sIx xs.length 0 lo) xs)
def slF : D → Option Int → Option Int → (D → Prop) → Prop
  | .str z, lo, hi, φ => z.length ≤ sizeLine ∧ φ (.str (cutS z lo hi))
  | .lst ds, lo, hi, φ => φ (.lst (cutD ds lo hi))
  | .tup ds, lo, hi, φ => φ (.tup (cutD ds lo hi))
  | _, _, _, _ => False
theorem cut_rep {K : PySem.W.Frag} {R : Hp} {ds : List D} {vs : List V} {lo hi : Option Int} (r : Reps K R ds vs) : Reps K R (cutD ds lo hi) (cutV vs lo hi) := by
  unfold cutD cutV
  rw [r.length]
  exact (r.drop _).take _
abbrev rSlAll (K : PySem.W.Frag) : V → Option Int → Option Int → Hp → VK → Prop := fun x lo hi H Q => rSlS x lo hi H Q ∨ (fun x lo hi H Q => rSlL K x lo hi H Q ∨ rSlA K x lo hi H Q) x lo hi H Q
theorem sl_all : SlR X (rSlAll X.K) := SlR.or sl_str (SlR.or sl_list sl_tupA)
def TSl (T : TD) (Tl Th : TPD) : TD := fun c env φ => T c env fun x => Tl c env fun lo => Th c env fun hi => slF x lo hi φ
theorem tO3.ask {K : PySem.W.Frag} {W : WX} {S : Sta} {R H : Hp} {σ : L2.St} {env : Ev} {T : TPD} {φ : Option Int → Prop} {Q : Option Int → Hp → Prop} (lk : Lk K S W) (ok : Ok3 K S R H σ env) (h : T S.c env φ) (k : ∀ R' H' b, Fin S.c.wd R H R' H' → Ok3 K S R' H' σ env → φ b → Q b H') : tO3 K W T σ H Q :=
  ⟨S, R, env, φ, lk, ok, h, fun b H' ⟨R', f, q⟩ => k R' H' b f (ok.through f) q⟩
theorem cutV_all {vs : List V} {lo hi : Option Int} (h : HT.sIx vs.length 0 lo = 0 ∧ HT.sIx vs.length vs.length hi = vs.length) : cutV vs lo hi = vs := by
  unfold cutV
  rw [h.1, h.2]
  simp
theorem de_slice {lo hi : Option Expr} {p2 : Pos} {Tl Th : TPD} (ha : DE X W a Ta) (hl : DO X W lo Tl) (hu : DO X W hi Th) : DE X W (.Subscript a (.Slice lo hi none p2) pos) (TSl Ta Tl Th) :=
  de_mk (pe_slice sl_all ha hl hu) fun S R H σ env φ lk ok h => by
    refine tD.ask lk ok h fun R1 H1 d v f1 ok1 r1 q1 => tO3.ask lk ok1 q1 fun R2 H2 l f2 ok2 q2 => tO3.ask lk ok2 q2 fun R3 H3 u f3 ok3 q3 => ?_
    have r3 := r1.mono (f2.trans f3).up
    have ff := (f1.trans f2).trans f3
    cases d <;> try exact q3.elim
    case str z => exact .inl ⟨z, r3, q3.1, R3, _, ff, (show Rep X.K R3 (.str _) _ from rfl), q3.2⟩
    case lst ds =>
      obtain ⟨p, xs, e, hh, q⟩ := (show ∃ p xs, v = .ref p ∧ R3 p = some (.lst xs) ∧ Reps X.K R3 ds xs from r3)
      exact .inr (.inl ⟨p, xs, e, SqL.of (ok3.bas.sub _ _ hh), fun n hn => Pst.from ff (Pst.lst ok3.bas hn (cut_rep q) q3)⟩)
    case tup ds =>
      obtain ⟨p, xs, e, hh, q⟩ := (show ∃ p xs, v = .ref p ∧ R3 p = some (.tup xs) ∧ Reps X.K R3 ds xs from r3)
      refine .inr (.inr ⟨p, xs, e, SqT.of (ok3.bas.sub _ _ hh), fun hw => ?_, fun _ n hn => Pst.from ff (Pst.tup ok3.bas hn (cut_rep q) q3)⟩)
      have cr := cut_rep (lo := l) (hi := u) q
      rw [cutV_all hw] at cr
      exact Pst.from ff (Pst.now ok3.bas (d := .tup (cutD ds l u)) ⟨p, xs, rfl, hh, cr⟩ q3)

/-! ### attributes -/
structure AtK (K : PySem.W.Frag) (C : Addr) (f : Str) : Prop where
  cls : Cls K C
  no : NoAttr K C f
def TFld (K : PySem.W.Frag) (T : TD) (f : Str) : TD := fun c env φ => T c env fun x => ∃ C fs d, x = .ins C fs ∧ AtK K C f ∧ fs.lookup f = some d ∧ φ d
theorem de_fld {f : Str} (ha : DE X W a Ta) (hb : attributeBase a f X.env (eval a X.env) = eval a X.env := by rfl) : DE X W (.Attribute a f pos) (TFld X.K Ta f) :=
  de_mk (pe_fld ha hb) fun S R H σ env φ lk ok h => tD.ask lk ok h fun R1 H1 d v f1 ok1 r1 ⟨C, fs, d', e, ak, l, q⟩ => by
    subst e
    obtain ⟨p, dx, fvs, e2, hh, rf⟩ := (show ∃ p dx fvs, v = .ref p ∧ R1 p = some (.ins C dx fvs) ∧ RepF X.K R1 fs fvs from r1)
    obtain ⟨u, l2, r2⟩ := rf.look l
    exact ⟨p, C, dx, fvs, u, e2, ok1.bas.sub _ _ hh, ak.cls, ak.no, l2, R1, d', f1, r2, q⟩
/-- .. of the instance that this def alone holds -/
def TFldO (K : PySem.W.Frag) (i : Nat) (f : Str) : TD := fun _ env φ => ∃ p C fs d, env[i]? = some (.oi p C fs) ∧ AtK K C f ∧ fs.lookup f = some d ∧ φ d
theorem de_fldO (i : Nat) {x : Str} {p0 : Pos} {f : Str} (hN : X.N[i]? = some x := by rfl) (hv : Vis X.env.scope x := by first | exact Or.inl rfl | exact Or.inr (Or.inl rfl) | exact Or.inr (Or.inr rfl)) (hd : (x == ("__debug__" : Str)) = false := by decide)
    (hcd : (x == ("__classdict__" : Str)) = false := by decide) (hb : attributeBase (.Name x p0) f X.env (eval (.Name x p0) X.env) = eval (.Name x p0) X.env := by rfl) : DE X W (.Attribute (.Name x p0) f pos) (TFldO X.K i f) :=
  de_mk (pe_fld (pe_var hN hv hd hcd) hb) fun S R H σ env φ lk ok ⟨p, C, fs, d, e, ak, l, q⟩ => by
    obtain ⟨o, h1, e1, dx, fvs, h2, rf⟩ := pair_get ok.sl e
    subst e1
    obtain ⟨u, l2, r2⟩ := rf.look l
    exact ⟨_, h1, p, C, dx, fvs, u, rfl, h2, ak.cls, ak.no, l2, Pst.now ok.bas r2 q⟩
/-- a constant of the class -/
def TCon (K : PySem.W.Frag) (T : TD) (f : Str) : TD := fun c env φ => T c env fun x => ∃ C fs d u, x = .ins C fs ∧ Cls K C ∧ Con K C f (flV d) u ∧ flatD d = true ∧ fs.lookup f = none ∧ φ d
theorem flV_rep {K : PySem.W.Frag} {R : Hp} {d : D} (h : flatD d = true) : Rep K R d (flV d) := by
  cases d <;> first | exact Bool.noConfusion h | rfl
theorem de_con {f : Str} (ha : DE X W a Ta) (hb : attributeBase a f X.env (eval a X.env) = eval a X.env := by rfl) : DE X W (.Attribute a f pos) (TCon X.K Ta f) :=
  de_mk (pe_con ha hb) fun S R H σ env φ lk ok h => tD.ask lk ok h fun R1 H1 d v f1 ok1 r1 ⟨C, fs, d', u, e, ck, kk, fl, l, q⟩ => by
    subst e
    obtain ⟨p, dx, fvs, e2, hh, rf⟩ := (show ∃ p dx fvs, v = .ref p ∧ R1 p = some (.ins C dx fvs) ∧ RepF X.K R1 fs fvs from r1)
    exact ⟨p, C, dx, fvs, flV d', u, e2, ok1.bas.sub _ _ hh, ck, kk, rf.none l, R1, d', f1, flV_rep fl, q⟩

/-! ### several values, displays -/
def TNil : TL := fun _ _ φ => φ []
def TCons (T : TD) (U : TL) : TL := fun c env φ => T c env fun x => U c env fun xs => φ (x :: xs)
theorem da_nil : DA X W [] TNil := da_mk pa_nil fun S R H σ env φ lk ok h => ⟨R, [], Fin.refl ok.bas, rfl, h⟩
theorem da_cons {es : List Expr} {U : TL} (ha : DE X W a Ta) (hr : DA X W es U) (hs : starEach (a :: es) X.env = (false, eval a X.env) :: starEach es X.env := by rfl) : DA X W (a :: es) (TCons Ta U) :=
  da_mk (pa_cons ha hr hs) fun S R H σ env φ lk ok h => tD.ask lk ok h fun R1 H1 d v f1 ok1 r1 q1 => tL3.ask lk ok1 q1 fun R2 H2 ds vs f2 ok2 r2 q2 =>
    ⟨R2, d :: ds, f1.trans f2, ⟨v, vs, rfl, r1.mono f2.up, r2⟩, q2⟩
def TTup (U : TL) : TD := fun c env φ => U c env fun ds => ds.length ≤ sizeLine ∧ φ (.tup ds)
def TLst (U : TL) : TD := fun c env φ => U c env fun ds => ds.length ≤ sizeLine ∧ φ (.lst ds)
theorem de_tup {es : List Expr} {x1} {U : TL} (h : DA X W es U) : DE X W (.Tuple es x1 pos) (TTup U) :=
  de_mk (pe_tup h) fun S R H σ env φ lk ok q => tL3.ask lk ok q fun R1 H1 ds vs f1 ok1 r1 q1 => ⟨by rw [r1.length]; exact q1.1, fun p hp => Pst.from f1 (Pst.tup ok1.bas hp r1 q1.2)⟩
theorem de_lst {es : List Expr} {U : TL} (h : DA X W es U) : DE X W (.List es pos) (TLst U) :=
  de_mk (pe_lst h) fun S R H σ env φ lk ok q => tL3.ask lk ok q fun R1 H1 ds vs f1 ok1 r1 q1 => ⟨by rw [r1.length]; exact q1.1, fun p hp => Pst.from f1 (Pst.lst ok1.bas hp r1 q1.2)⟩

/-! ### built-in calls -/
abbrev F1 := List D → (D → Prop) → Prop
def CallD (K : PySem.W.Frag) (r : List V → Hp → VK → Prop) (f : F1) : Prop := ∀ (c : Ct) (R H : Hp) (xs : List V) (ds : List D) (φ : D → Prop) (Q : VK), Bas c.wd R H → Reps K R ds xs → f ds φ → (∀ v H', Pst K c R H φ v H' → Q v H') → r xs H Q
def TCB (f : F1) (U : TL) : TD := fun c env φ => U c env fun ds => f ds φ
theorem cb_ask {r : List V → Hp → VK → Prop} {f : F1} {U : TL} (k : CallD X.K r f) {S : Sta} {R H : Hp} {σ : L2.St} {env : Ev} {φ : D → Prop} (lk : Lk X.K S W) (ok : Ok3 X.K S R H σ env) (h : TCB f U S.c env φ) : tCB r (tL3 X.K W U) σ H (Pst X.K S.c R H φ) :=
  tL3.ask lk ok h fun R1 H1 ds vs f1 ok1 r1 q1 => k S.c R1 H1 vs ds φ _ ok1.bas r1 q1 fun v H' p => Pst.from f1 p
theorem de_callB {id : String} {x : Str} {e : Expr} {es : List Expr} {p : Pos} {r : List V → Hp → VK → Prop} {f : F1} {U : TL} (hc : CallR X (.builtin id) r) (k : CallD X.K r f) (hg : Gl X x) (hm : X.mg x = none) (hv : bootBuiltins x = some (.builtin id)) (ha : DA X W (e :: es) U)
    (hn : x ≠ "__name__" := by decide) (hdb : (x == ("__debug__" : Str)) = false := by decide) (he : starEach (e :: es) X.env = (false, eval e X.env) :: starEach es X.env := by rfl) (hpl : (backTo pos (starEach es X.env)).any (·.1) = false := by rfl) :
    DE X W (.Call (.Name x p) (e :: es) [] pos) (TCB f U) :=
  de_mk (pe_callB hc hg hm hv ha hn hdb he hpl) fun S R H σ env φ lk ok h => cb_ask k lk ok h
theorem de_callTy {T : String} {x : Str} {e : Expr} {es : List Expr} {p : Pos} {r : List V → Hp → VK → Prop} {f : F1} {U : TL} (hc : CallR X (.type T) r) (k : CallD X.K r f) (hg : Gl X x) (hm : X.mg x = none) (hv : bootBuiltins x = some (.type T)) (ha : DA X W (e :: es) U)
    (hn : x ≠ "__name__" := by decide) (hdb : (x == ("__debug__" : Str)) = false := by decide) (he : starEach (e :: es) X.env = (false, eval e X.env) :: starEach es X.env := by rfl) (hpl : (backTo pos (starEach es X.env)).any (·.1) = false := by rfl) :
    DE X W (.Call (.Name x p) (e :: es) [] pos) (TCB f U) :=
  de_mk (pe_callTy hc hg hm hv ha hn hdb he hpl) fun S R H σ env φ lk ok h => cb_ask k lk ok h
def lenF : F1
  | [.str z], φ => z.length ≤ sizeLine ∧ φ (.int (z.length : Nat))
  | [.lst ds], φ => φ (.int (ds.length : Nat))
  | [.tup ds], φ => φ (.int (ds.length : Nat))
  | _, _ => False
abbrev rLen3 (K : PySem.W.Frag) : List V → Hp → VK → Prop := fun xs H Q => ∃ (x : V) (n : Nat), xs = [x] ∧ LenV K x H n ∧ Q (V.int (n : Int)) H
theorem reps1 {K : PySem.W.Frag} {R : Hp} {d : D} {xs : List V} (h : Reps K R [d] xs) : ∃ v, xs = [v] ∧ Rep K R d v := by
  obtain ⟨v, r, e, h1, h2⟩ := (show ∃ v r, xs = v :: r ∧ Rep K R d v ∧ Reps K R [] r from h)
  have e2 : r = [] := h2
  subst e2
  exact ⟨v, e, h1⟩
theorem reps2 {K : PySem.W.Frag} {R : Hp} {d e : D} {xs : List V} (h : Reps K R [d, e] xs) : ∃ v u, xs = [v, u] ∧ Rep K R d v ∧ Rep K R e u := by
  obtain ⟨v, r, e, h1, h2⟩ := (show ∃ v r, xs = v :: r ∧ Rep K R d v ∧ Reps K R [_] r from h)
  obtain ⟨u, e2, h3⟩ := reps1 h2
  subst e2
  exact ⟨v, u, e, h1, h3⟩
theorem cd_len {K : PySem.W.Frag} : CallD K (rLen3 K) lenF := fun c R H xs ds φ Q b r q k => by
  unfold lenF at q
  split at q
  · obtain ⟨v, e, h⟩ := reps1 r
    subst e
    rw [rep_str h]
    exact ⟨_, _, rfl, ⟨q.1, rfl⟩, k _ _ (Pst.now b (show Rep K R (.int _) _ from rfl) q.2)⟩
  · obtain ⟨v, e, h⟩ := reps1 r
    subst e
    obtain ⟨p, xs, e, hh, hr⟩ := (show ∃ p xs, v = .ref p ∧ R p = some (.lst xs) ∧ Reps K R _ xs from h)
    subst e
    exact ⟨_, _, rfl, .inl ⟨xs, SqL.of (b.sub _ _ hh), rfl⟩, k _ _ (Pst.now b (show Rep K R (.int _) _ from rfl) (by rw [hr.length]; exact q))⟩
  · obtain ⟨v, e, h⟩ := reps1 r
    subst e
    obtain ⟨p, xs, e, hh, hr⟩ := (show ∃ p xs, v = .ref p ∧ R p = some (.tup xs) ∧ Reps K R _ xs from h)
    subst e
    exact ⟨_, _, rfl, .inr ⟨xs, SqT.of (b.sub _ _ hh), rfl⟩, k _ _ (Pst.now b (show Rep K R (.int _) _ from rfl) (by rw [hr.length]; exact q))⟩
  · exact q.elim
theorem de_len {e : Expr} {p : Pos} {U : TL} (hg : Gl X "len") (hm : X.mg "len" = none) (ha : DA X W [e] U) (he : starEach [e] X.env = (false, eval e X.env) :: starEach [] X.env := by rfl) : DE X W (.Call (.Name "len" p) [e] [] pos) (TCB lenF U) :=
  de_callB call_len cd_len hg hm boot_len ha (by decide) (by decide) he rfl
end
end L3
namespace L3
open PySem PySem.Spec PyProof.Rows L2
section
variable {X : Cx} {W : WX} {pos : Pos} {a b : Expr} {Ta Tb : TD} {A B : TB}
/-! ### more built-ins -/
def intsD : List D → Option (List Int)
  | [] => some []
  | .int i :: r => (intsD r).map (i :: ·)
  | _ => none
def blsD : List D → Option (List Bool)
  | [] => some []
  | .bl i :: r => (blsD r).map (i :: ·)
  | _ => none
def strsD : List D → Option (List Str)
  | [] => some []
  | .str i :: r => (strsD r).map (i :: ·)
  | _ => none
theorem intsD_eq : ∀ {ds : List D} {ns : List Int}, intsD ds = some ns → ds = ns.map D.int
  | [], ns, h => by
    cases h
    rfl
  | d :: r, ns, h => by
    cases d <;> try (cases h; done)
    case int i =>
      have h2 : (intsD r).map (i :: ·) = some ns := h
      obtain ⟨ms, h3, h4⟩ := Option.map_eq_some_iff.mp h2
      rw [← h4, intsD_eq h3]
      rfl
theorem blsD_eq : ∀ {ds : List D} {ns : List Bool}, blsD ds = some ns → ds = ns.map D.bl
  | [], ns, h => by
    cases h
    rfl
  | d :: r, ns, h => by
    cases d <;> try (cases h; done)
    case bl i =>
      have h2 : (blsD r).map (i :: ·) = some ns := h
      obtain ⟨ms, h3, h4⟩ := Option.map_eq_some_iff.mp h2
      rw [← h4, blsD_eq h3]
      rfl
theorem strsD_eq : ∀ {ds : List D} {ns : List Str}, strsD ds = some ns → ds = ns.map D.str
  | [], ns, h => by
    cases h
    rfl
  | d :: r, ns, h => by
    cases d <;> try (cases h; done)
    case str i =>
      have h2 : (strsD r).map (i :: ·) = some ns := h
      obtain ⟨ms, h3, h4⟩ := Option.map_eq_some_iff.mp h2
      rw [← h4, strsD_eq h3]
      rfl
@[simp] theorem intsD_map : ∀ ns : List Int, intsD (ns.map D.int) = some ns
  | [] => rfl
  | n :: r => by
    show (intsD (r.map D.int)).map (n :: ·) = _
    rw [intsD_map r]; rfl
@[simp] theorem blsD_map : ∀ ns : List Bool, blsD (ns.map D.bl) = some ns
  | [] => rfl
  | n :: r => by
    show (blsD (r.map D.bl)).map (n :: ·) = _
    rw [blsD_map r]; rfl
@[simp] theorem strsD_map : ∀ ns : List Str, strsD (ns.map D.str) = some ns
  | [] => rfl
  | n :: r => by
    show (strsD (r.map D.str)).map (n :: ·) = _
    rw [strsD_map r]; rfl
theorem rep_lst {K : PySem.W.Frag} {R : Hp} {ds : List D} {v : V} (h : Rep K R (.lst ds) v) : ∃ p xs, v = .ref p ∧ R p = some (.lst xs) ∧ Reps K R ds xs := h
theorem rep_tup {K : PySem.W.Frag} {R : Hp} {ds : List D} {v : V} (h : Rep K R (.tup ds) v) : ∃ p xs, v = .ref p ∧ R p = some (.tup xs) ∧ Reps K R ds xs := h
theorem rep_ins {K : PySem.W.Frag} {R : Hp} {C : Addr} {ds : List (Str × D)} {v : V} (h : Rep K R (.ins C ds) v) : ∃ p dx fvs, v = .ref p ∧ R p = some (.ins C dx fvs) ∧ RepF K R ds fvs := h
def sumF : F1
  | [.lst ds], φ => ∃ ns, intsD ds = some ns ∧ φ (.int ns.sum)
  | _, _ => False
theorem cd_sum {K : PySem.W.Frag} : CallD K (rSum K) sumF := fun c R H xs ds φ Q b r q k => by
  unfold sumF at q
  split at q
  · obtain ⟨v, e, h⟩ := reps1 r
    subst e
    obtain ⟨ns, h1, q⟩ := q
    rw [intsD_eq h1] at h
    obtain ⟨p, xs, e, hh, hr⟩ := rep_lst h
    subst e
    rw [hr.ints] at hh
    exact ⟨p, ns, rfl, SqL.of (b.sub _ _ hh), k _ _ (Pst.now b (show Rep K R (.int _) _ from rfl) q)⟩
  · exact q.elim
def allF : F1
  | [.lst ds], φ => ∃ ns, blsD ds = some ns ∧ φ (.bl (ns.all id))
  | _, _ => False
theorem cd_all {K : PySem.W.Frag} : CallD K (rAll K) allF := fun c R H xs ds φ Q b r q k => by
  unfold allF at q
  split at q
  · obtain ⟨v, e, h⟩ := reps1 r
    subst e
    obtain ⟨ns, h1, q⟩ := q
    rw [blsD_eq h1] at h
    obtain ⟨p, xs, e, hh, hr⟩ := rep_lst h
    subst e
    rw [hr.bls] at hh
    exact ⟨p, ns, rfl, SqL.of (b.sub _ _ hh), k _ _ (Pst.now b (show Rep K R (.bl _) _ from rfl) q)⟩
  · exact q.elim
def anyF : F1
  | [.lst ds], φ => ∃ ns, blsD ds = some ns ∧ φ (.bl (ns.any id))
  | _, _ => False
theorem cd_any {K : PySem.W.Frag} : CallD K (rAny K) anyF := fun c R H xs ds φ Q b r q k => by
  unfold anyF at q
  split at q
  · obtain ⟨v, e, h⟩ := reps1 r
    subst e
    obtain ⟨ns, h1, q⟩ := q
    rw [blsD_eq h1] at h
    obtain ⟨p, xs, e, hh, hr⟩ := rep_lst h
    subst e
    rw [hr.bls] at hh
    exact ⟨p, ns, rfl, SqL.of (b.sub _ _ hh), k _ _ (Pst.now b (show Rep K R (.bl _) _ from rfl) q)⟩
  · exact q.elim
def max2F : F1
  | [.int i, .int j], φ => φ (.int (if j > i then j else i))
  | _, _ => False
theorem cd_max2 {K : PySem.W.Frag} : CallD K (fun xs H Q => ∃ i j, xs = [.int i, .int j] ∧ Q (.int (if j > i then j else i)) H) max2F := fun c R H xs ds φ Q b r q k => by
  unfold max2F at q
  split at q
  · obtain ⟨v, u, e, h1, h2⟩ := reps2 r
    subst e
    exact ⟨_, _, by rw [rep_int h1, rep_int h2], k _ _ (Pst.now b (show Rep K R (.int _) _ from rfl) q)⟩
  · exact q.elim
def int1F : F1
  | [.int i], φ => φ (.int i)
  | [.bl i], φ => φ (.int (if i then 1 else 0))
  | _, _ => False
theorem cd_int1 {K : PySem.W.Frag} : CallD K (fun xs H Q => (∃ i, xs = [.int i] ∧ Q (.int i) H) ∨ ∃ k, xs = [.bl k] ∧ Q (.int (if k then 1 else 0)) H) int1F := fun c R H xs ds φ Q b r q k => by
  unfold int1F at q
  split at q
  · obtain ⟨v, e, h1⟩ := reps1 r
    subst e
    exact .inl ⟨_, by rw [rep_int h1], k _ _ (Pst.now b (show Rep K R (.int _) _ from rfl) q)⟩
  · obtain ⟨v, e, h1⟩ := reps1 r
    subst e
    exact .inr ⟨_, by rw [rep_bl h1], k _ _ (Pst.now b (show Rep K R (.int _) _ from rfl) q)⟩
  · exact q.elim
def tupleF : F1
  | [.lst ds], φ => φ (.tup ds)
  | [.tup ds], φ => φ (.tup ds)
  | _, _ => False
theorem cd_tuple {K : PySem.W.Frag} : CallD K (fun xs H Q => ∃ p ys, xs = [V.ref p] ∧ ((SqL K H p ys ∧ ∀ (l : Addr), H l = none → Q (V.ref l) (upd H l (HO.tup ys))) ∨ SqT K H p ys ∧ Q (V.ref p) H)) tupleF := fun c R H xs ds φ Q b r q k => by
  unfold tupleF at q
  split at q
  · obtain ⟨v, e, h⟩ := reps1 r
    subst e
    obtain ⟨p, xs, e, hh, hr⟩ := rep_lst h
    subst e
    exact ⟨p, xs, rfl, .inl ⟨SqL.of (b.sub _ _ hh), fun l hl => k _ _ (Pst.tup b hl hr q)⟩⟩
  · obtain ⟨v, e, h⟩ := reps1 r
    subst e
    obtain ⟨p, xs, e, hh, hr⟩ := rep_tup h
    subst e
    exact ⟨p, xs, rfl, .inr ⟨SqT.of (b.sub _ _ hh), k _ _ (Pst.now b (d := .tup _) ⟨p, xs, rfl, hh, hr⟩ q)⟩⟩
  · exact q.elim
def listF : F1
  | [.lst ds], φ => φ (.lst ds)
  | [.tup ds], φ => φ (.lst ds)
  | _, _ => False
theorem cd_list {K : PySem.W.Frag} : CallD K (fun xs H Q => ∃ p ys, xs = [V.ref p] ∧ (SqL K H p ys ∨ SqT K H p ys) ∧ ∀ (l : Addr), H l = none → Q (V.ref l) (upd H l (HO.lst ys))) listF := fun c R H xs ds φ Q b r q k => by
  unfold listF at q
  split at q
  · obtain ⟨v, e, h⟩ := reps1 r
    subst e
    obtain ⟨p, xs, e, hh, hr⟩ := rep_lst h
    subst e
    exact ⟨p, xs, rfl, .inl (SqL.of (b.sub _ _ hh)), fun l hl => k _ _ (Pst.lst b hl hr q)⟩
  · obtain ⟨v, e, h⟩ := reps1 r
    subst e
    obtain ⟨p, xs, e, hh, hr⟩ := rep_tup h
    subst e
    exact ⟨p, xs, rfl, .inr (SqT.of (b.sub _ _ hh)), fun l hl => k _ _ (Pst.lst b hl hr q)⟩
  · exact q.elim
def strF : F1
  | [.int i], φ => i.natAbs.log2 < 1920 ∧ φ (.str (toString i))
  | _, _ => False
theorem cd_str {K : PySem.W.Frag} : CallD K (fun xs H Q => ∃ i, xs = [.int i] ∧ i.natAbs.log2 < 1920 ∧ Q (.str (toString i)) H) strF := fun c R H xs ds φ Q b r q k => by
  unfold strF at q
  split at q
  · obtain ⟨v, e, h1⟩ := reps1 r
    subst e
    exact ⟨_, by rw [rep_int h1], q.1, k _ _ (Pst.now b (show Rep K R (.str _) _ from rfl) q.2)⟩
  · exact q.elim
/-- isinstance -/
structure InsK (K : PySem.W.Frag) (C : Addr) : Prop where
  cls : Cls K C
  c1 : PySem.W.findIn K (Value.ref C) (Str.ofString "__class__") = some (some (Value.builtin "object.__class__"))
  c2 : PySem.W.specialIn K (Value.builtin "object.__class__") (Str.ofString "__get__") = some (some (Value.builtin "getset_descriptor.__get__"))
  c3 : PySem.W.takesIn K (Value.builtin "object.__class__") = some true
  c4 : PySem.W.mroIn K C (Value.type "object") = some true
def tyOf : D → Value
  | .non => .type "NoneType"
  | .bl _ => .type "bool"
  | .int _ => .type "int"
  | .str _ => .type "str"
  | .tup _ => .type "tuple"
  | .lst _ => .type "list"
  | .ins C _ => .ref C
  | _ => .none
/-- its class is known there -/
def TyK (K : PySem.W.Frag) : D → Prop
  | .ins C _ => InsK K C
  | .ty _ => False
  | .ref _ => False
  | .exc _ _ => False
  | .clo _ _ => False
  | .lam _ _ => False
  | .dic _ => False
  | _ => True
theorem ty_rep {K : PySem.W.Frag} {c : Ct} {R H : Hp} {d : D} {v : V} (b : Bas c.wd R H) (r : Rep K R d v) (t : TyK K d) : TyX K H v (tyOf d) := by
  cases d
  case non => rw [show v = .non from r]; exact .base .non
  case bl => rw [show v = .bl _ from r]; exact .base (.bl _)
  case int => rw [show v = .int _ from r]; exact .base (.int _)
  case str => rw [show v = .str _ from r]; exact .base (.str _)
  case ty => exact t.elim
  case ref => exact t.elim
  case exc => exact t.elim
  case clo => exact t.elim
  case lam => exact t.elim
  case dic => exact t.elim
  case tup ds =>
    obtain ⟨p, xs, e, hh, hr⟩ := rep_tup r
    subst e
    exact .base (.tup (b.sub _ _ hh))
  case lst ds =>
    obtain ⟨p, xs, e, hh, hr⟩ := rep_lst r
    subst e
    exact .base (.lst (b.sub _ _ hh))
  case ins C fs =>
    obtain ⟨p, dx, xs, e, hh, hr⟩ := rep_ins r
    subst e
    have t' : InsK K C := t
    exact .base (.ins (b.sub _ _ hh) t'.cls t'.c1 t'.c2 t'.c3 t'.c4)
def clsOf : D → Option Value
  | .ty n => some (.type n)
  | .ref a => some (.ref a)
  | _ => none
def clsOfs : List D → Option (List Value)
  | [] => some []
  | d :: r => match clsOf d, clsOfs r with
    | some v, some vs => some (v :: vs)
    | _, _ => none
theorem cls_rep {K : PySem.W.Frag} {R : Hp} {d : D} {v : V} {u : Value} (r : Rep K R d v) (h : clsOf d = some u) : ClsV v u := by
  cases d <;> try (cases h; done)
  case ty n =>
    cases h
    rw [show v = .ty n from r]
    exact .ty n
  case ref n =>
    cases h
    rw [show v = .ref n from r]
    exact .own n
theorem clss_rep {K : PySem.W.Frag} {R : Hp} : ∀ {ds : List D} {vs : List V} {us : List Value}, Reps K R ds vs → clsOfs ds = some us → Paired ClsV vs us
  | [], vs, us, r, h => by
    have e : vs = [] := r
    subst e
    cases h
    exact .nil
  | d :: ds, vs, us, r, h => by
    obtain ⟨v, t, e, h1, h2⟩ := (show ∃ v r, vs = v :: r ∧ Rep K R d v ∧ Reps K R ds r from r)
    subst e
    have h3 : (match clsOf d, clsOfs ds with
      | some v, some vs => some (v :: vs)
      | _, _ => none) = some us := h
    cases e1 : clsOf d with
    | none =>
      rw [e1] at h3
      cases h3
    | some u =>
      cases e2 : clsOfs ds with
      | none =>
        rw [e1, e2] at h3
        cases h3
      | some ws =>
        rw [e1, e2] at h3
        cases h3
        exact .cons (cls_rep h1 e1) (clss_rep h2 e2)
def isiF (K : PySem.W.Frag) : F1
  | [x, c], φ => TyK K x ∧ ∃ u b, clsOf c = some u ∧ PySem.W.kitOne K (tyOf x) u = some b ∧ φ (.bl b)
  | _, _ => False
theorem cd_isi {K : PySem.W.Frag} : CallD K (rIsi K) (isiF K) := fun c R H xs ds φ Q b r q k => by
  unfold isiF at q
  split at q
  · obtain ⟨v, u, e, h1, h2⟩ := reps2 r
    subst e
    obtain ⟨t, u', bb, e1, e2, q⟩ := q
    exact ⟨v, u, _, u', bb, rfl, cls_rep h2 e1, ty_rep b h1 t, e2, k _ _ (Pst.now b (show Rep K R (.bl _) _ from rfl) q)⟩
  · exact q.elim
def isiTF (K : PySem.W.Frag) : F1
  | [x, .tup cs], φ => TyK K x ∧ ∃ us b, clsOfs cs = some us ∧ PySem.W.kitAny K (tyOf x) us = some b ∧ φ (.bl b)
  | _, _ => False
theorem cd_isiT {K : PySem.W.Frag} : CallD K (rIsiT K) (isiTF K) := fun c R H xs ds φ Q b r q k => by
  unfold isiTF at q
  split at q
  · obtain ⟨v, u, e, h1, h2⟩ := reps2 r
    subst e
    obtain ⟨t, us, bb, e1, e2, q⟩ := q
    obtain ⟨p, xs, e3, hh, hr⟩ := rep_tup h2
    subst e3
    exact ⟨v, p, xs, _, us, bb, rfl, b.sub _ _ hh, clss_rep hr e1, ty_rep b h1 t, e2, k _ _ (Pst.now b (show Rep K R (.bl _) _ from rfl) q)⟩
  · exact q.elim
theorem CallR.or {f : Value} {r r' : List V → Hp → VK → Prop} (h : CallR X f r) (h' : CallR X f r') : CallR X f (fun xs H Q => r xs H Q ∨ r' xs H Q) := fun pins s σ H xs us Q I v q => by
  rcases q with q | q
  · exact h pins s σ H xs us Q I v q
  · exact h' pins s σ H xs us Q I v q
/-- isinstance with a class or with a tuple of classes -/
def isiAF (K : PySem.W.Frag) : F1
  | [x, .tup cs], φ => isiTF K [x, .tup cs] φ
  | [x, c], φ => isiF K [x, c] φ
  | _, _ => False
theorem cd_isiA {K : PySem.W.Frag} : CallD K (fun xs H Q => rIsi K xs H Q ∨ rIsiT K xs H Q) (isiAF K) := fun c R H xs ds φ Q b r q k => by
  unfold isiAF at q
  split at q
  · exact .inr (cd_isiT c R H xs _ φ Q b r q k)
  · exact .inl (cd_isi c R H xs _ φ Q b r q k)
  · exact q.elim

/-! ### methods of texts -/
def MethD (K : PySem.W.Frag) (r : V → List V → Hp → VK → Prop) (f : D → List D → (D → Prop) → Prop) : Prop := ∀ (c : Ct) (R H : Hp) (x : V) (d : D) (xs : List V) (ds : List D) (φ : D → Prop) (Q : VK), Bas c.wd R H → Rep K R d x → Reps K R ds xs → f d ds φ →
  (∀ v H', Pst K c R H φ v H' → Q v H') → r x xs H Q
def joinF : D → List D → (D → Prop) → Prop
  | .str a, [.lst ds], φ => ∃ ys, strsD ds = some ys ∧ (List.map (fun x => x.length) ys).sum + ys.length * a.length ≤ 16777216 ∧ φ (.str (Txt.join a ys))
  | _, _, _ => False
def TM1 (f : D → List D → (D → Prop) → Prop) (To Te : TD) : TD := fun c env φ => To c env fun x => (∃ a, x = .str a) ∧ Te c env fun y => f x [y] φ
theorem de_join {o e : Expr} {apos : Pos} {To Te : TD} (ho : DE X W o To) (he : DE X W e Te) (hs : starEach [e] X.env = [(false, eval e X.env)] := by rfl) (hb : attributeBase o (Str.ofString "join") X.env (eval o X.env) = eval o X.env := by rfl)
    (hl : (apos.endLine == pos.line) = true := by rfl) : DE X W (.Call (.Attribute o (Str.ofString "join") apos) [e] [] pos) (TM1 joinF To Te) :=
  de_mk (pe_join ho he hs hb hl) fun S R H σ env φ lk ok h => tD.ask lk ok h fun R1 H1 d v f1 ok1 r1 ⟨⟨a, ea⟩, q1⟩ => by
    subst ea
    refine ⟨⟨a, r1⟩, ?_⟩
    refine tD.ask lk ok1 q1 fun R2 H2 d2 v2 f2 ok2 r2 q2 => ?_
    cases d2 <;> try exact q2.elim
    case lst ds =>
      obtain ⟨ys, e1, hz, q⟩ := q2
      rw [strsD_eq e1] at r2
      obtain ⟨p, xs, e, hh, hr⟩ := rep_lst r2
      subst e
      rw [hr.strs] at hh
      exact ⟨a, p, ys, r1, rfl, .inl (SqL.of (ok2.bas.sub _ _ hh)), hz, R2, _, f1.trans f2, (show Rep X.K R2 (.str _) _ from rfl), q⟩
/-! ### f-strings -/
def TFmt (T : TD) : TD := fun c env φ => T c env fun x => (∃ y : Str, x = .str y ∧ y.length ≤ sizeLine ∧ φ (.str y)) ∨ ∃ i : Int, x = .int i ∧ i.natAbs.log2 < 1920 ∧ φ (.str (toString i))
theorem de_fmt {e : Expr} {T : TD} (he : DE X W e T) : DE X W (.FormattedValue e (-1) none pos) (TFmt T) :=
  de_mk (pe_fmt he) fun S R H σ env φ lk ok h => tD.ask lk ok h fun R1 H1 d v f1 ok1 r1 q1 => by
    rcases q1 with ⟨y, e, hz, q⟩ | ⟨y, e, hz, q⟩
    · subst e
      exact .inl ⟨y, r1, hz, R1, _, f1, (show Rep X.K R1 (.str _) _ from rfl), q⟩
    · subst e
      exact .inr ⟨y, r1, hz, R1, _, f1, (show Rep X.K R1 (.str _) _ from rfl), q⟩
inductive DJ (X : Cx) (W : WX) : List Expr → List TD → Prop where
  | nil : DJ X W [] []
  | cons {e : Expr} {t : TD} {es : List Expr} {ts : List TD} (h : DE X W e t) (r : DJ X W es ts) : DJ X W (e :: es) (t :: ts)
theorem DJ.pj {es : List Expr} {ts : List TD} (h : DJ X W es ts) : PJ X es (ts.map (tD X.K W)) := by
  induction h with
  | nil => exact .nil
  | cons h _ ih => exact .cons h ih
def TJs : List TD → Str → Ct → Ev → (Str → Prop) → Prop
  | [], acc, _, _, φ => φ acc
  | t :: ts, acc, c, env, φ => t c env fun x => ∃ y : Str, x = .str y ∧ (acc ++ y).length ≤ sizeLine ∧ TJs ts (acc ++ y) c env φ
theorem tjs_ask {S : Sta} {σ : L2.St} {env : Ev} (lk : Lk X.K S W) : ∀ {ts : List TD} {acc : Str} {R H : Hp} {φ : Str → Prop} {Q : Str → Hp → Prop}, Ok3 X.K S R H σ env → TJs ts acc S.c env φ → (∀ R' H' out, Fin S.c.wd R H R' H' → φ out → Q out H') → tJs (ts.map (tD X.K W)) acc σ H Q
  | [], acc, R, H, φ, Q, ok, h, k => k R H acc (Fin.refl ok.bas) h
  | t :: ts, acc, R, H, φ, Q, ok, h, k => tD.ask lk ok (show t S.c env _ from h) fun R1 H1 d v f1 ok1 r1 ⟨y, e, hz, q⟩ => by
    subst e
    exact ⟨y, r1, hz, tjs_ask lk ok1 q fun R' H' out f q => k R' H' out (f1.trans f) q⟩
def TJoined (ts : List TD) : TD := fun c env φ => TJs ts Str.empty c env fun out => φ (.str out)
theorem de_joined {v1 v2 : Expr} {rest : List Expr} {ts : List TD} (h : DJ X W (v1 :: v2 :: rest) ts) : DE X W (.JoinedStr (v1 :: v2 :: rest) pos) (TJoined ts) :=
  de_mk (pe_joined h.pj) fun S R H σ env φ lk ok q => tjs_ask lk ok q fun R' H' out f q => ⟨R', _, f, (show Rep X.K R' (.str out) _ from rfl), q⟩
end
end L3
namespace L3
open PySem PySem.Spec PyProof.Rows L2
section
variable {X : Cx} {W : WX} {pos : Pos} {a b : Expr} {Ta Tb : TD} {A B : TB}
/-! ### statements -/
theorem EndOk.self {K : PySem.W.Frag} {S : Sta} {D3 : EndD} : EndOk K S D3 (endsOf K S D3) :=
  ⟨fun R H σ env ok q => ⟨R, env, ok, q⟩, fun R H σ env d v ok r q => ⟨R, σ, env, d, ok, r, q⟩, fun R H σ env ok q => ⟨R, env, ok, q⟩, fun R H σ env ok q => ⟨R, env, ok, q⟩⟩
def TNext : TSD := fun _ D env => D.nx env
def TSeq (T U : TSD) : TSD := fun c D env => T c { D with nx := U c D } env
theorem dss_nil : DSs X W [] TNext := dss_mk pss_nil fun S R H σ env D3 lk ok h => ⟨R, env, ok, h⟩
theorem dss_one {st : Stmt} {T : TSD} (h : DS X W st T) : DSs X W [st] T := pss_one h
theorem dss_cons {st : Stmt} {rest : List Stmt} {T U : TSD} (h1 : DS X W st T) (h2 : DSs X W rest U) : DSs X W (st :: rest) (TSeq T U) :=
  dss_mk (pss_cons h1 h2) fun S R H σ env D3 lk ok h => by
    refine tS3.ask lk ok h ⟨fun R' H' σ' env' ok' q => tS3.ask lk ok' q EndOk.self, fun R' H' σ' env' d v ok' r q => ⟨R', σ', env', d, ok', r, q⟩, fun R' H' σ' env' ok' q => ⟨R', env', ok', q⟩, fun R' H' σ' env' ok' q => ⟨R', env', ok', q⟩⟩
def TBreak : TSD := fun _ D env => D.bk env
def TCont : TSD := fun _ D env => D.ct env
theorem ds_pass : DS X W (.Pass pos) TNext := ds_mk ps_pass fun S R H σ env D3 lk ok h => ⟨R, env, ok, h⟩
theorem ds_break : DS X W (.Break pos) TBreak := ds_mk ps_break fun S R H σ env D3 lk ok h => ⟨R, env, ok, h⟩
theorem ds_continue : DS X W (.Continue pos) TCont := ds_mk ps_continue fun S R H σ env D3 lk ok h => ⟨R, env, ok, h⟩
def TNever : TSD := fun _ _ _ => False
theorem ds_never {st : Stmt} : DS X W st TNever := ds_mk ps_never fun S R H σ env D3 lk ok h => h
theorem dss_never {st : List Stmt} : DSs X W st TNever := dss_mk pss_never fun S R H σ env D3 lk ok h => h
def TRet (T : TD) : TSD := fun c D env => T c env fun d => D.rt d env
def TRetN : TSD := fun _ D env => D.rt .non env
theorem ds_ret {e : Expr} {T : TD} (h : DE X W e T) : DS X W (.Return (some e) pos) (TRet T) :=
  ds_mk (ps_ret h) fun S R H σ env D3 lk ok q => tD.ask lk ok q fun R1 H1 d v f1 ok1 r1 q1 => ⟨R1, σ, env, d, ok1, r1, q1⟩
theorem ds_retN : DS X W (.Return none pos) TRetN := ds_mk ps_retN fun S R H σ env D3 lk ok q => ⟨R, σ, env, .non, ok, rfl, q⟩
def TDrop (T : TD) : TSD := fun c D env => T c env fun _ => D.nx env
theorem ds_expr {e : Expr} {T : TD} (h : DE X W e T) (hs : swapsWith e none pos.line X.env = pure false := by rfl) : DS X W (.Expr e pos) (TDrop T) :=
  ds_mk (ps_expr h hs) fun S R H σ env D3 lk ok q => tD.ask lk ok q fun R1 H1 d v f1 ok1 r1 q1 => ⟨R1, env, ok1, q1⟩
theorem ds_doc {x j pos' } : DS X W (.Expr (.Constant (.str x) j pos) pos') TNext := ds_mk ps_doc fun S R H σ env D3 lk ok h => ⟨R, env, ok, h⟩
def TIfS (A : TB) (T U : TSD) : TSD := fun c D env => A c env fun k => if k = true then T c D env else U c D env
theorem ds_if {c : Expr} {s1 s2 : List Stmt} {T U : TSD} (hc : DT X W c A) (h1 : DSs X W s1 T) (h2 : DSs X W s2 U) : DS X W (.If c s1 s2 pos) (TIfS A T U) :=
  ds_mk (ps_if hc h1 h2) fun S R H σ env D3 lk ok q => tB3.ask lk ok q fun R1 H1 k f1 ok1 q1 => by
    cases k with
    | true => exact iteT (tS3.ask lk ok1 (by rw [if_pos rfl] at q1; exact q1) EndOk.self)
    | false => exact iteF (tS3.ask lk ok1 (by rw [if_neg Bool.false_ne_true] at q1; exact q1) EndOk.self)
def TSet (i : Nat) (T : TD) : TSD := fun c D env => T c env fun d => D.nx (env.set i (.v d))
theorem ds_set {i : Nat} {x : Str} {e : Expr} {pos' : Pos} {T : TD} (hN : X.N.Nodup) (hi : X.N[i]? = some x) (hx : Loc X.env.scope x) (he : DE X W e T) (hs : swapsWith e (some (.Name x pos')) pos.line X.env = pure false := by rfl)
    (hf : X.fn x = true ∨ X.env.scope.names.lookup x = some .local := by first | exact .inl rfl | exact .inr rfl | assumption) : DS X W (.Assign [.Name x pos'] e pos) (TSet i T) :=
  ds_mk (ps_set hN hi hx he hs hf) fun S R H σ env D3 lk ok q => tD.ask lk ok q fun R1 H1 d v f1 ok1 r1 q1 => ⟨R1, _, ok1.put r1, q1⟩
/-- name op= e -/
def TAug (i : Nat) (f : F2) (T : TD) : TSD := fun c D env => ∃ x, env[i]? = some (.v x) ∧ T c env fun y => f x y fun z => D.nx (env.set i (.v z))
theorem ds_augAdd {i : Nat} {x : Str} {e : Expr} {pos' : Pos} {T : TD} (hN : X.N.Nodup) (hi : X.N[i]? = some x) (hx : Loc X.env.scope x) (he : DE X W e T)
    (hf : X.fn x = true ∨ X.env.scope.names.lookup x = some .local := by first | exact .inl rfl | exact .inr rfl | assumption) : DS X W (.AugAssign (.Name x pos') .Add e pos) (TAug i (fI (fun _ _ => True) fun i j => .int (i + j)) T) :=
  ds_mk (ps_aug hN hi hx he ip_add hf) fun S R H σ env D3 lk ok ⟨d, e, q⟩ => by
    obtain ⟨v, h1, r⟩ := ok.val e
    refine ⟨v, h1, tD.ask lk ok q fun R1 H1 d1 v1 f1 ok1 r1 q1 => ?_⟩
    obtain ⟨i, j, e1, e2, _, q2⟩ := q1
    subst e1 e2
    exact ⟨i, j, r, r1, R1, _, ok1.put (show Rep X.K R1 (.int (i + j)) _ from rfl), q2⟩
theorem ds_augSub {i : Nat} {x : Str} {e : Expr} {pos' : Pos} {T : TD} (hN : X.N.Nodup) (hi : X.N[i]? = some x) (hx : Loc X.env.scope x) (he : DE X W e T)
    (hf : X.fn x = true ∨ X.env.scope.names.lookup x = some .local := by first | exact .inl rfl | exact .inr rfl | assumption) : DS X W (.AugAssign (.Name x pos') .Sub e pos) (TAug i (fI (fun _ _ => True) fun i j => .int (i - j)) T) :=
  ds_mk (ps_aug hN hi hx he ip_sub hf) fun S R H σ env D3 lk ok ⟨d, e, q⟩ => by
    obtain ⟨v, h1, r⟩ := ok.val e
    refine ⟨v, h1, tD.ask lk ok q fun R1 H1 d1 v1 f1 ok1 r1 q1 => ?_⟩
    obtain ⟨i, j, e1, e2, _, q2⟩ := q1
    subst e1 e2
    exact ⟨i, j, r, r1, R1, _, ok1.put (show Rep X.K R1 (.int (i - j)) _ from rfl), q2⟩
/-- a, b = e1, e2 (local names) -/
def TPar (i j : Nat) (U : TL) : TSD := fun c D env => U c env fun ds => ∃ d e, ds = [d, e] ∧ D.nx ((env.set i (.v d)).set j (.v e))
/-! ### while -/
def WhN (A : TB) (B : TSD) (c : Ct) (D : EndD) : Nat → Ev → Prop
  | 0, _ => False
  | n + 1, env => A c env fun k => if k = true then B c { D with nx := WhN A B c D n, ct := WhN A B c D n, bk := D.nx } env else D.nx env
def TWh (A : TB) (B : TSD) : TSD := fun c D env => ∃ n, WhN A B c D n env
theorem ds_while {c : Expr} {body : List Stmt} {T : TSD} (hp : PassesOwn (model X.prog X.w) X.A X.env X.xe) (hc : DT X W c A) (hb : DSs X W body T) : DS X W (.While c body [] pos) (TWh A T) :=
  ds_mk (ps_while hp hc hb) fun S R H σ env D3 lk ok ⟨n, q⟩ => by
    refine ⟨fun m σ H => ∃ R env, Ok3 X.K S R H σ env ∧ WhN A T S.c D3 m env, ⟨n, R, env, ok, q⟩, ?_⟩
    rintro m σ H ⟨R, env, ok, q⟩
    cases m with
    | zero => exact q.elim
    | succ m =>
      refine tB3.ask lk ok q fun R1 H1 k f1 ok1 q1 => ?_
      cases k with
      | true =>
        rw [if_pos rfl] at q1
        refine iteT ⟨fun σ H => ∃ R env, Ok3 X.K S R H σ env ∧ WhN A T S.c D3 m env, fun σ' H' h => ⟨m, Nat.lt_succ_self m, h⟩, ?_⟩
        exact tS3.ask lk ok1 q1 ⟨fun R H σ env ok q => ⟨R, env, ok, q⟩, fun R H σ env d v ok r q => ⟨R, σ, env, d, ok, r, q⟩, fun R H σ env ok q => ⟨R, env, ok, q⟩, fun R H σ env ok q => ⟨R, env, ok, q⟩⟩
      | false =>
        rw [if_neg Bool.false_ne_true] at q1
        exact iteF ⟨R1, env, ok1, q1⟩

/-! ### targets -/
abbrev TGD := D → Ev → (Ev → Prop) → Prop
abbrev TGsD := List D → Ev → (Ev → Prop) → Prop
def gD3 (K : PySem.W.Frag) (vs : List Nat) (g : TGD) : TG := fun v σ H Q => ∃ S R env d k, Ok3 K S R H σ env ∧ Rep K R d v ∧ g d env k ∧ ∀ env' σ', wipe σ' vs = wipe σ vs → Ok3 K S R H σ' env' → k env' → Q σ' H
def gsD3 (K : PySem.W.Frag) (vs : List Nat) (g : TGsD) : TGs := fun v σ H Q => ∃ S R env d k, Ok3 K S R H σ env ∧ Reps K R d v ∧ g d env k ∧ ∀ env' σ', wipe σ' vs = wipe σ vs → Ok3 K S R H σ' env' → k env' → Q σ' H
abbrev DG (X : Cx) (vs : List Nat) (e : Expr) (g : TGD) : Prop := PG X e (gD3 X.K vs g)
abbrev DGs (X : Cx) (vs : List Nat) (es : List Expr) (g : TGsD) : Prop := PGs X es (gsD3 X.K vs g)
theorem wipe_set {x : Option V} {i : Nat} {σ : L2.St} : ∀ {vs : List Nat}, i ∈ vs → wipe (σ.set i x) vs = wipe σ vs
  | [], h => by cases h
  | v :: vs, h => by
    unfold wipe
    by_cases e : i ∈ vs
    · rw [wipe_set e]
    · have ei : i = v := by
        rcases List.mem_cons.mp h with z | z
        · exact z
        · exact absurd z e
      subst ei
      have key : ∀ ws : List Nat, i ∉ ws → wipe (σ.set i x) ws = (wipe σ ws).set i x := by
        intro ws
        induction ws with
        | nil => intro _; rfl
        | cons w ws ih =>
          intro hn
          have h1 : w ≠ i := fun z => hn (by rw [z]; exact List.mem_cons_self)
          have h2 : i ∉ ws := fun z => hn (List.mem_cons_of_mem _ z)
          show (wipe (σ.set i x) ws).set w none = ((wipe σ ws).set w none).set i x
          rw [ih h2, List.set_comm _ _ h1.symm]
      rw [key vs e, List.set_set]
def GName (i : Nat) : TGD := fun d env k => k (env.set i (.v d))
theorem pg_imp {e : Expr} {g g' : TG} (h : PG X e g) (k : ∀ v σ H Q, g' v σ H Q → g v σ H Q) : PG X e g' := ⟨fun pins s σ H v u Q I r q => h.run pins s σ H v u Q I r (k _ _ _ _ q)⟩
theorem pgs_imp {e : List Expr} {g g' : TGs} (h : PGs X e g) (k : ∀ v σ H Q, g' v σ H Q → g v σ H Q) : PGs X e g' := ⟨fun pins s σ H v u Q I r q => h.run pins s σ H v u Q I r (k _ _ _ _ q)⟩
theorem dg_name {i : Nat} {x : Str} {vs : List Nat} (hN : X.N.Nodup) (hi : X.N[i]? = some x) (hx : Loc X.env.scope x) (hv : i ∈ vs := by decide) (hf : X.fn x = true ∨ X.env.scope.names.lookup x = some .local := by first | exact .inl rfl | exact .inr rfl | assumption) :
    DG X vs (.Name x pos) (GName i) :=
  pg_imp (pg_name hN hi hx hf) fun v σ H Q ⟨S, R, env, d, k, ok, r, q, hq⟩ => hq _ _ (wipe_set hv) (ok.put r) q
def GNil : TGsD := fun ds env k => ds = [] ∧ k env
def GCons (g : TGD) (u : TGsD) : TGsD := fun ds env k => ∃ d r, ds = d :: r ∧ g d env fun env' => u r env' k
theorem dgs_nil {vs : List Nat} : DGs X vs [] GNil :=
  pgs_imp pgs_nil fun v σ H Q ⟨S, R, env, d, k, ok, r, ⟨e, q⟩, hq⟩ => by
    subst e
    exact ⟨r, hq _ _ rfl ok q⟩
theorem dgs_cons {e : Expr} {es : List Expr} {vs : List Nat} {g : TGD} {u : TGsD} (h1 : DG X vs e g) (h2 : DGs X vs es u) (hs : (assignEach (e :: es) X.env).map (·.2) = assign e X.env :: (assignEach es X.env).map (·.2) := by rfl) : DGs X vs (e :: es) (GCons g u) :=
  pgs_imp (pgs_cons h1 h2 hs) fun v σ H Q ⟨S, R, env, ds, k, ok, r, ⟨d, rs, e, q⟩, hq⟩ => by
    subst e
    obtain ⟨v1, vr, e1, r1, r2⟩ := (show ∃ v' r, v = v' :: r ∧ Rep X.K R d v' ∧ Reps X.K R rs r from r)
    subst e1
    exact ⟨v1, vr, rfl, S, R, env, d, _, ok, r1, q, fun env' σ' hw ok' q' => ⟨S, R, env', rs, k, ok', r2, q', fun env2 σ2 hw2 ok2 q2 => hq _ _ (hw2.trans hw) ok2 q2⟩⟩
def GTup (n : Nat) (u : TGsD) : TGD := fun d env k => ∃ ds, d = .tup ds ∧ ds.length = n ∧ u ds env k
theorem dg_tup {es : List Expr} {kk : Nat} {vs : List Nat} {u : TGsD} {n : Nat} (hc : X.calm = true) (h : DGs X vs es u) (hn : (assignEach es X.env).length = n := by rfl) (hst : (assignEach es X.env).findIdx? (·.1) = none := by rfl) : DG X vs (.Tuple es kk pos) (GTup n u) :=
  pg_imp (pg_tup hc h hn hst) fun v σ H Q ⟨S, R, env, d, k, ok, r, ⟨ds, e, hl, q⟩, hq⟩ => by
    subst e
    obtain ⟨p, xs, e, hh, hr⟩ := rep_tup r
    subst e
    exact ⟨p, xs, rfl, SqT.of (ok.bas.sub _ _ hh), by rw [hr.length]; exact hl, S, R, env, ds, k, ok, hr, q, hq⟩
/-- target = e -/
def TAsg (T : TD) (g : TGD) : TSD := fun c D env => T c env fun d => g d env D.nx
theorem ds_asg {tg e : Expr} {vs : List Nat} {T : TD} {g : TGD} (he : DE X W e T) (hg : DG X vs tg g) (hs : swapsWithSole [tg] e pos.line X.env = pure false := by rfl) (hw : swappedStores [tg] e X.env = pure none := by rfl) (h1 : (assignEach [tg] X.env).map (·.2) = [assign tg X.env] := by rfl) : DS X W (.Assign [tg] e pos) (TAsg T g) :=
  ds_mk (ps_asg he hg hs hw h1) fun S R H σ env D3 lk ok q => tD.ask lk ok q fun R1 H1 d v f1 ok1 r1 q1 => ⟨S, R1, env, d, _, ok1, r1, q1, fun env' σ' _ ok' q' => ⟨R1, env', ok', q'⟩⟩
end
end L3
namespace L3
open PySem PySem.Spec PyProof.Rows L2
section
variable {X : Cx} {W : WX} {pos : Pos} {a b tg : Expr} {Ta Tb : TD} {A B : TB}
/-! ### what is walked -/
structure ItOk (K : PySem.W.Frag) (w : Wd) (J : It) (R : Hp) (ds : List D) : Prop where
  go : ∀ i R1 H d, Same R R1 → Bas w R1 H → ds[i]? = some d → J.go i H
  stop : ∀ i R1 H, Same R R1 → Bas w R1 H → ds.length ≤ i → J.stop i H
  yld : ∀ i R1 H x H' d, Same R R1 → Bas w R1 H → ds[i]? = some d → J.yld i H x H' → ∃ R', Fin w R1 H R' H' ∧ Rep K R' d x
def tI3 (K : PySem.W.Frag) (W : WX) (T : TL) : TI := fun σ H Q => ∃ S R env φ, Lk K S W ∧ Ok3 K S R H σ env ∧ T S.c env φ ∧ ∀ J H' R' ds, Fin S.c.wd R H R' H' → ItOk K S.c.wd J R' ds → φ ds → Q J H'
abbrev DI (X : Cx) (W : WX) (tg iter : Expr) (T : TL) : Prop := PI X tg iter (tI3 X.K W T)
theorem pi_imp {iter : Expr} {w w' : TI} (h : PI X tg iter w) (k : ∀ σ H Q, w' σ H Q → w σ H Q) : PI X tg iter w' := ⟨fun pins s σ H Q I q => h.run pins s σ H Q I (k _ _ _ q)⟩
def TIl (T : TD) : TL := fun c env φ => T c env fun d => ∃ ds, d = .lst ds ∧ φ ds
def TIt (T : TD) : TL := fun c env φ => T c env fun d => ∃ ds, d = .tup ds ∧ φ ds
def TIs (T : TD) : TL := fun c env φ => T c env fun d => ∃ z, d = .str z ∧ φ (z.cps.toList.map fun c => .str ⟨#[c]⟩)
theorem itok_list {K : PySem.W.Frag} {w : Wd} {R : Hp} {p : Addr} {xs : List V} {ds : List D} (h : R p = some (.lst xs)) (r : Reps K R ds xs) : ItOk K w (Itl K p) R ds where
  go := fun i R1 H d s b e => by
    obtain ⟨v, hv, _⟩ := r.get e
    exact ⟨xs, v, SqL.of (b.sub _ _ (s _ _ h)), hv⟩
  stop := fun i R1 H s b e => ⟨xs, SqL.of (b.sub _ _ (s _ _ h)), by rw [r.length]; exact e⟩
  yld := fun i R1 H x H' d s b e y => by
    obtain ⟨e1, y⟩ := y
    subst e1
    obtain ⟨v, hv, rv⟩ := r.get e
    have := y xs (SqL.of (b.sub _ _ (s _ _ h)))
    rw [hv] at this
    cases this
    exact ⟨R1, Fin.refl b, rv.mono s⟩
theorem itok_tup {K : PySem.W.Frag} {w : Wd} {R : Hp} {p : Addr} {xs : List V} {ds : List D} (h : R p = some (.tup xs)) (r : Reps K R ds xs) : ItOk K w (Itt K p) R ds where
  go := fun i R1 H d s b e => by
    obtain ⟨v, hv, _⟩ := r.get e
    exact ⟨xs, v, SqT.of (b.sub _ _ (s _ _ h)), hv⟩
  stop := fun i R1 H s b e => ⟨xs, SqT.of (b.sub _ _ (s _ _ h)), by rw [r.length]; exact e⟩
  yld := fun i R1 H x H' d s b e y => by
    obtain ⟨e1, y⟩ := y
    subst e1
    obtain ⟨v, hv, rv⟩ := r.get e
    have := y xs (SqT.of (b.sub _ _ (s _ _ h)))
    rw [hv] at this
    cases this
    exact ⟨R1, Fin.refl b, rv.mono s⟩
theorem itok_str {K : PySem.W.Frag} {w : Wd} {R : Hp} {z : Str} : ItOk K w (Its z) R (z.cps.toList.map fun c => .str ⟨#[c]⟩) where
  go := fun i R1 H d s b e => by
    have := (List.getElem?_eq_some_iff.mp e).1
    show i < z.cps.size
    simpa using this
  stop := fun i R1 H s b e => by
    show z.cps.size ≤ i
    simpa using e
  yld := fun i R1 H x H' d s b e y => by
    obtain ⟨e1, c, hc, ex⟩ := y
    subst e1 ex
    rw [List.getElem?_map, Array.getElem?_toList, hc] at e
    cases e
    exact ⟨R1, Fin.refl b, rfl⟩
theorem itok_range {K : PySem.W.Frag} {w : Wd} {R : Hp} {lo : Int} {n : Nat} : ItOk K w (Itr lo n) R ((List.range n).map fun i => .int (lo + (i : Nat))) where
  go := fun i R1 H d s b e => by
    have := (List.getElem?_eq_some_iff.mp e).1
    show i < n
    simpa using this
  stop := fun i R1 H s b e => by
    show n ≤ i
    simpa using e
  yld := fun i R1 H x H' d s b e y => by
    obtain ⟨e1, ex⟩ := y
    subst e1 ex
    have hl := (List.getElem?_eq_some_iff.mp e).1
    have hl2 : i < n := by simpa using hl
    rw [List.getElem?_map, List.getElem?_range hl2] at e
    cases e
    exact ⟨R1, Fin.refl b, rfl⟩
theorem di_list {l : Expr} (h : DE X W l Ta) : DI X W tg l (TIl Ta) :=
  pi_imp (pi_list h) fun σ H Q ⟨S, R, env, φ, lk, ok, q, hQ⟩ => tD.ask lk ok q fun R1 H1 d v f1 ok1 r1 ⟨ds, e, q1⟩ => by
    subst e
    obtain ⟨p, xs, e, hh, hr⟩ := rep_lst r1
    subst e
    exact ⟨p, rfl, ⟨xs, SqL.of (ok1.bas.sub _ _ hh)⟩, hQ _ _ R1 ds f1 (itok_list hh hr) q1⟩
theorem di_tup {l : Expr} (h : DE X W l Ta) : DI X W tg l (TIt Ta) :=
  pi_imp (pi_tup h) fun σ H Q ⟨S, R, env, φ, lk, ok, q, hQ⟩ => tD.ask lk ok q fun R1 H1 d v f1 ok1 r1 ⟨ds, e, q1⟩ => by
    subst e
    obtain ⟨p, xs, e, hh, hr⟩ := rep_tup r1
    subst e
    exact ⟨p, rfl, ⟨xs, SqT.of (ok1.bas.sub _ _ hh)⟩, hQ _ _ R1 ds f1 (itok_tup hh hr) q1⟩
theorem di_str {l : Expr} (h : DE X W l Ta) : DI X W tg l (TIs Ta) :=
  pi_imp (pi_str h) fun σ H Q ⟨S, R, env, φ, lk, ok, q, hQ⟩ => tD.ask lk ok q fun R1 H1 d v f1 ok1 r1 ⟨z, e, q1⟩ => by
    subst e
    exact ⟨z, r1, hQ _ _ R1 _ f1 itok_str q1⟩
def TIr1 (U : TL) : TL := fun c env φ => U c env fun ds => ∃ j : Int, ds = [.int j] ∧ -(2 ^ 62) ≤ j ∧ j < 2 ^ 62 ∧ φ ((List.range j.toNat).map fun i => .int (0 + (i : Nat)))
theorem di_range1 {e : Expr} {p : Pos} {U : TL} (hg : Gl X "range") (hm : X.mg "range" = none) (ha : DA X W [e] U) (hs : starEach [e] X.env = [(false, eval e X.env)] := by rfl) : DI X W tg (.Call (.Name "range" p) [e] [] pos) (TIr1 U) :=
  pi_imp (pi_range1 hg hm ha hs) fun σ H Q ⟨S, R, env, φ, lk, ok, q, hQ⟩ => tL3.ask lk ok q fun R1 H1 ds vs f1 ok1 r1 ⟨j, e, h1, h2, q1⟩ => by
    subst e
    obtain ⟨v, e, r⟩ := reps1 r1
    subst e
    exact ⟨j, by rw [rep_int r], h1, h2, hQ _ _ R1 _ f1 itok_range q1⟩
def TIr2 (U : TL) : TL := fun c env φ => U c env fun ds => ∃ i j : Int, ds = [.int i, .int j] ∧ (-(2 ^ 62) ≤ i ∧ i < 2 ^ 62 ∧ -(2 ^ 62) ≤ j ∧ j < 2 ^ 62) ∧ φ ((List.range (j - i).toNat).map fun k => .int (i + (k : Nat)))
theorem di_range2 {e e2 : Expr} {p : Pos} {U : TL} (hg : Gl X "range") (hm : X.mg "range" = none) (ha : DA X W [e, e2] U) (hs : starEach [e, e2] X.env = [(false, eval e X.env), (false, eval e2 X.env)] := by rfl) (hs2 : starEach [e2] X.env = [(false, eval e2 X.env)] := by rfl) :
    DI X W tg (.Call (.Name "range" p) [e, e2] [] pos) (TIr2 U) :=
  pi_imp (pi_range2 hg hm ha hs hs2) fun σ H Q ⟨S, R, env, φ, lk, ok, q, hQ⟩ => tL3.ask lk ok q fun R1 H1 ds vs f1 ok1 r1 ⟨i, j, e, h1, q1⟩ => by
    subst e
    obtain ⟨v, u, e, r, r'⟩ := reps2 r1
    subst e
    exact ⟨i, j, by rw [rep_int r, rep_int r'], h1, hQ _ _ R1 _ f1 itok_range q1⟩
/-- zip of two lists, of two tuples -/
def zipD : List D → List D → List D
  | d :: ds, e :: es => .tup [d, e] :: zipD ds es
  | _, _ => []
theorem zipD_len : ∀ {ds es : List D}, (zipD ds es).length = min ds.length es.length
  | [], _ => by simp [zipD]
  | d :: ds, [] => by simp [zipD]
  | d :: ds, e :: es => by
    show (zipD ds es).length + 1 = _
    rw [zipD_len, List.length_cons, List.length_cons]
    omega
theorem zipD_get : ∀ {ds es : List D} {i : Nat} {d : D}, (zipD ds es)[i]? = some d → ∃ x y, ds[i]? = some x ∧ es[i]? = some y ∧ d = .tup [x, y]
  | [], _, i, d, h => by simp [zipD] at h
  | x :: ds, [], i, d, h => by simp [zipD] at h
  | x :: ds, y :: es, 0, d, h => by
    have h2 : some (D.tup [x, y]) = some d := by simpa [zipD] using h
    cases h2
    exact ⟨x, y, rfl, rfl, rfl⟩
  | x :: ds, y :: es, i + 1, d, h => by
    obtain ⟨u, w, h1, h2, h3⟩ := zipD_get (ds := ds) (es := es) (i := i) (d := d) (by simpa [zipD] using h)
    exact ⟨u, w, by simpa using h1, by simpa using h2, h3⟩
theorem itok_zipL {K : PySem.W.Frag} {w : Wd} {R : Hp} {p q : Addr} {xs ys : List V} {ds es : List D} (h : R p = some (.lst xs)) (r : Reps K R ds xs) (h' : R q = some (.lst ys)) (r' : Reps K R es ys) : ItOk K w (Itz K p q) R (zipD ds es) where
  go := fun i R1 H d s b e => by
    obtain ⟨x, y, e1, e2, _⟩ := zipD_get e
    obtain ⟨v, hv, _⟩ := r.get e1
    obtain ⟨u, hu, _⟩ := r'.get e2
    exact ⟨xs, ys, v, u, SqL.of (b.sub _ _ (s _ _ h)), SqL.of (b.sub _ _ (s _ _ h')), hv, hu⟩
  stop := fun i R1 H s b e => by
    rw [zipD_len] at e
    exact ⟨xs, ys, SqL.of (b.sub _ _ (s _ _ h)), SqL.of (b.sub _ _ (s _ _ h')), by rw [r.length, r'.length]; omega⟩
  yld := fun i R1 H x H' d s b e y => by
    obtain ⟨T, x1, y1, ex, hT, eH, k1, k2⟩ := y
    subst ex eH
    obtain ⟨dx, dy, e1, e2, e3⟩ := zipD_get e
    subst e3
    obtain ⟨v, hv, rv⟩ := r.get e1
    obtain ⟨u, hu, ru⟩ := r'.get e2
    have a1 := k1 xs (SqL.of (b.sub _ _ (s _ _ h)))
    have a2 := k2 ys (SqL.of (b.sub _ _ (s _ _ h')))
    rw [hv] at a1
    rw [hu] at a2
    have z1 := Option.some.inj a1
    have z2 := Option.some.inj a2
    subst z1 z2
    have f := Fin.alloc (o := .tup [v, u]) b hT
    exact ⟨_, f, T, [v, u], rfl, upd_same, ⟨v, [u], rfl, (rv.mono s).mono f.up, u, [], rfl, (ru.mono s).mono f.up, rfl⟩⟩
theorem itok_zipT {K : PySem.W.Frag} {w : Wd} {R : Hp} {p q : Addr} {xs ys : List V} {ds es : List D} (h : R p = some (.tup xs)) (r : Reps K R ds xs) (h' : R q = some (.tup ys)) (r' : Reps K R es ys) : ItOk K w (RZ.ItzT K p q) R (zipD ds es) where
  go := fun i R1 H d s b e => by
    obtain ⟨x, y, e1, e2, _⟩ := zipD_get e
    obtain ⟨v, hv, _⟩ := r.get e1
    obtain ⟨u, hu, _⟩ := r'.get e2
    exact ⟨xs, ys, v, u, SqT.of (b.sub _ _ (s _ _ h)), SqT.of (b.sub _ _ (s _ _ h')), hv, hu⟩
  stop := fun i R1 H s b e => by
    rw [zipD_len] at e
    exact ⟨xs, ys, SqT.of (b.sub _ _ (s _ _ h)), SqT.of (b.sub _ _ (s _ _ h')), by rw [r.length, r'.length]; omega⟩
  yld := fun i R1 H x H' d s b e y => by
    obtain ⟨T, x1, y1, ex, hT, eH, k1, k2⟩ := y
    subst ex eH
    obtain ⟨dx, dy, e1, e2, e3⟩ := zipD_get e
    subst e3
    obtain ⟨v, hv, rv⟩ := r.get e1
    obtain ⟨u, hu, ru⟩ := r'.get e2
    have a1 := k1 xs (SqT.of (b.sub _ _ (s _ _ h)))
    have a2 := k2 ys (SqT.of (b.sub _ _ (s _ _ h')))
    rw [hv] at a1
    rw [hu] at a2
    have z1 := Option.some.inj a1
    have z2 := Option.some.inj a2
    subst z1 z2
    have f := Fin.alloc (o := .tup [v, u]) b hT
    exact ⟨_, f, T, [v, u], rfl, upd_same, ⟨v, [u], rfl, (rv.mono s).mono f.up, u, [], rfl, (ru.mono s).mono f.up, rfl⟩⟩
def zipF : List D → (List D → Prop) → Prop
  | [.lst ds, .lst es], φ => φ (zipD ds es)
  | [.tup ds, .tup es], φ => φ (zipD ds es)
  | _, _ => False
def TIz (U : TL) : TL := fun c env φ => U c env fun ds => zipF ds φ
theorem di_zip {e e2 : Expr} {p tpos : Pos} {elts : List Expr} {kk : Nat} {U : TL} (hg : Gl X "zip") (hm : X.mg "zip" = none) (ha : DA X W [e, e2] U)
    (hs : starEach [e, e2] X.env = (false, eval e X.env) :: starEach [e2] X.env := by rfl) (hpl : (backTo pos (starEach [e2] X.env)).any (·.1) = false := by rfl) : DI X W (.Tuple elts kk tpos) (.Call (.Name "zip" p) [e, e2] [] pos) (TIz U) :=
  pi_imp (RZ.pi_zipA hg hm ha hs hpl) fun σ H Q ⟨S, R, env, φ, lk, ok, q, hQ⟩ => tL3.ask lk ok q fun R1 H1 ds vs f1 ok1 r1 q1 => by
    unfold zipF at q1
    split at q1
    · obtain ⟨v, u, e, h1, h2⟩ := reps2 r1
      subst e
      obtain ⟨p1, xs, e, hh, hr⟩ := rep_lst h1
      obtain ⟨p2, ys, e', hh', hr'⟩ := rep_lst h2
      subst e e'
      exact ⟨p1, p2, xs, ys, rfl, .inl ⟨SqL.of (ok1.bas.sub _ _ hh), SqL.of (ok1.bas.sub _ _ hh'), hQ _ _ R1 _ f1 (itok_zipL hh hr hh' hr') q1⟩⟩
    · obtain ⟨v, u, e, h1, h2⟩ := reps2 r1
      subst e
      obtain ⟨p1, xs, e, hh, hr⟩ := rep_tup h1
      obtain ⟨p2, ys, e', hh', hr'⟩ := rep_tup h2
      subst e e'
      exact ⟨p1, p2, xs, ys, rfl, .inr ⟨SqT.of (ok1.bas.sub _ _ hh), SqT.of (ok1.bas.sub _ _ hh'), hQ _ _ R1 _ f1 (itok_zipT hh hr hh' hr') q1⟩⟩
    · exact q1.elim

/-! ### for -/
def ForD (g : TGD) (B : TSD) (c : Ct) (D : EndD) : List L3.D → Ev → Prop
  | [], env => D.nx env
  | d :: ds, env => g d env fun env' => B c { D with nx := ForD g B c D ds, ct := ForD g B c D ds, bk := D.nx } env'
def TFor (T : TL) (g : TGD) (B : TSD) : TSD := fun c D env => T c env fun ds => ForD g B c D ds env
theorem ds_for {iter : Expr} {body : List Stmt} {T : TL} {g : TGD} {Bb : TSD} {vs : List Nat} (hp : PassesOwn (model X.prog X.w) X.A X.env X.xe) (hc : X.calm = true) (hi : DI X W tg iter T) (hg : DG X vs tg g) (hb : DSs X W body Bb)
    (hs : ∀ x, foldedSetIterable iter X.env x = pure x := by intro _; rfl) : DS X W (.For tg iter body [] pos) (TFor T g Bb) :=
  ds_mk (ps_for hp hc hi hg hb hs) fun S R H σ env D3 lk ok q => by
    refine ⟨S, R, env, _, lk, ok, q, fun J H1 R1 ds f1 io q1 => ?_⟩
    have ok1 := ok.through f1
    refine ⟨fun i m σ H => m = ds.length - i ∧ ∃ R2 env, Ok3 X.K (S.base R1) R2 H σ env ∧ ForD g Bb S.c D3 (ds.drop i) env, ⟨ds.length, by simp, R1, env, ok1.rebase, by rw [List.drop_zero]; exact q1⟩, ?_⟩
    rintro i m σ H ⟨rfl, R2, env, ok2, q2⟩
    by_cases hi : i < ds.length
    · have hd := List.getElem?_eq_getElem hi
      refine .inr ⟨io.go i R2 H _ ok2.rb ok2.bas hd, fun σ H => ∃ R3 env, Ok3 X.K (S.base R1) R3 H σ env ∧ ForD g Bb S.c D3 (ds.drop (i + 1)) env, fun σ' H' ⟨R3, env', h1, h3⟩ => ⟨ds.length - (i + 1), by omega, rfl, R3, env', h1, h3⟩, fun x H' y => ?_⟩
      obtain ⟨R3, f3, r3⟩ := io.yld i R2 H x H' _ ok2.rb ok2.bas hd y
      have ok3 := ok2.through f3
      rw [List.drop_eq_getElem_cons hi] at q2
      refine ⟨S.base R1, R3, env, _, _, ok3, r3, q2, fun env' σ' _ ok' q' => ?_⟩
      exact tS3.ask (lk.base ok1.rb) ok' q' ⟨fun R4 H4 σ4 env4 ok4 q4 => ⟨R4, env4, ok4, q4⟩, fun R4 H4 σ4 env4 d v ok4 r q => ⟨R4, σ4, env4, d, ok4.back ok1.rb, r, q⟩, fun R4 H4 σ4 env4 ok4 q => ⟨R4, env4, ok4.back ok1.rb, q⟩, fun R4 H4 σ4 env4 ok4 q4 => ⟨R4, env4, ok4, q4⟩⟩
    · have e : ds.drop i = [] := List.drop_eq_nil_of_le (by omega)
      rw [e] at q2
      exact .inl ⟨io.stop i R2 H ok2.rb ok2.bas (by omega), R2, env, ok2.back ok1.rb, q2⟩

/-! ### a list that this def alone holds -/
theorem Fin.mut {w : Wd} {R H R1 H1 : Hp} (f : Fin w R H R1 H1) {p : Addr} {o : HO} (hp : H p = none) (h1 : R1 p = none) (hf : ¬ w.foot p) (hx : ∀ φ, H1 p ≠ some (.ext φ)) : Fin w R H R1 (upd H1 p o) := by
  refine ⟨f.up, fun b u h => ?_, fun b u h q => ?_, f.newX, ?_, f.ft⟩
  · rw [upd_ne (ne_of_none h h1)]; exact f.sub b u h
  · rw [upd_ne (ne_of_none h hp)]; exact f.keep b u h q
  · refine w.ext _ _ f.inv (fun b u hb h => ?_) fun b φ h => by rw [upd_ne (fun e => hx φ (by rw [← e]; exact h))]; exact h
    rw [upd_ne (fun e => hf (by rw [← e]; exact hb))]; exact h
theorem Fin.frz {w : Wd} {R H R1 H1 : Hp} (f : Fin w R H R1 H1) {p : Addr} {o : HO} (hp : H p = none) (h1 : H1 p = some o) (hn : R1 p = none) (hf : ¬ w.foot p) : Fin w R H (upd R1 p o) H1 := by
  refine ⟨fun b u h => ?_, fun b u h => ?_, f.keep, fun b u h q n => ?_, f.inv, fun b hb => ?_⟩
  · rw [upd_ne (ne_of_none (f.up b u h) hn)]; exact f.up b u h
  · by_cases e : b = p
    · subst e
      rw [upd_same] at h
      rw [← h]
      exact h1
    · rw [upd_ne e] at h
      exact f.sub b u h
  · rw [upd_ne (ne_of_none q hp)]; exact f.newX b u h q n
  · rw [upd_ne (fun e => hf (by rw [← e]; exact hb))]; exact f.ft b hb
theorem up_upd {R : Hp} {p : Addr} {o : HO} (h : R p = none) : Same R (upd R p o) := fun b u q => by
  rw [upd_ne (ne_of_none q h)]; exact q
section
variable {K : PySem.W.Frag} {S : Sta} {R H : Hp} {σ : L2.St} {env : Ev}
/-- a new list for a name -/
theorem Ok3.newOwn (o : Ok3 K S R H σ env) {i : Nat} {p : Addr} {ds : List L3.D} {xs : List V} (hp : H p = none) (r : Reps K R ds xs) : Ok3 K S R (upd H p (.lst xs)) (σ.set i (some (.ref p))) (env.set i (.ol p ds)) := by
  have f := Fin.fresh (o := .lst xs) o.bas hp
  have o1 := o.through f
  have hS : S.H0 p = none := by
    cases q : S.H0 p with
    | none => rfl
    | some u =>
      obtain ⟨z, hz⟩ := o.fin.there q
      rw [hp] at hz
      cases hz
  have hR : R p = none := by
    cases q : R p with
    | none => rfl
    | some u =>
      rw [o.bas.sub p u q] at hp
      cases hp
  have hF : ¬ S.c.wd.foot p := fun z => by
    obtain ⟨u, hu⟩ := S.c.wd.there _ _ o.bas.inv z
    rw [hp] at hu
    cases hu
  have nope : ∀ j, adAt env j ≠ some p := fun j z => by
    unfold adAt at z
    cases e : env[j]? with
    | none =>
      rw [e] at z
      cases z
    | some s =>
      rw [e] at z
      obtain ⟨x, _, q⟩ := pair_get o.sl e
      have hs : s.ad = some p := z
      cases s with
      | no => cases hs
      | v d => cases hs
      | ol p' ds =>
        have : p' = p := Option.some.inj hs
        subst this
        obtain ⟨_, xs, hh, _⟩ := q
        rw [hp] at hh
        cases hh
      | oi p' C fs =>
        have : p' = p := Option.some.inj hs
        subst this
        obtain ⟨_, dx, xs, hh, _⟩ := q
        rw [hp] at hh
        cases hh
  refine ⟨o1.fin, o1.rb, pair_set (F := SlOk K R (upd H p (.lst xs))) (show SlOk K R (upd H p (.lst xs)) (some (.ref p)) (.ol p ds) from ⟨rfl, xs, upd_same, r⟩) i o1.sl, fun j q h => ?_, fun j k q h1 h2 => ?_⟩
  · rcases adAt_set h with ⟨_, z⟩ | ⟨_, z⟩
    · have : p = q := Option.some.inj z
      subst this
      exact ⟨hR, hS, hF⟩
    · exact o1.own j q z
  · rcases adAt_set h1 with ⟨e1, z⟩ | ⟨e1, z⟩
    · have : p = q := Option.some.inj z
      subst this
      rcases adAt_set h2 with ⟨e2, z'⟩ | ⟨_, z'⟩
      · rw [e1, e2]
      · exact absurd z' (nope k)
    · rcases adAt_set h2 with ⟨_, z'⟩ | ⟨_, z'⟩
      · have : p = q := Option.some.inj z'
        subst this
        exact absurd z (nope j)
      · exact o1.dis j k q z z'
/-- its own thing changes -/
theorem Ok3.mut (o : Ok3 K S R H σ env) {i : Nat} {p : Addr} {s : Sl} {u : HO} (e : adAt env i = some p) (hs : s.ad = some p) (hx : ∀ x, σ[i]? = some x → x = some (.ref p) → SlOk K R (upd H p u) x s) : Ok3 K S R (upd H p u) σ (env.set i s) := by
  obtain ⟨h1, h2, h3⟩ := o.own i p e
  have h4 : ∀ φ, H p ≠ some (.ext φ) := fun φ z => by
    unfold adAt at e
    cases q : env[i]? with
    | none =>
      rw [q] at e
      cases e
    | some s0 =>
      rw [q] at e
      have e' : s0.ad = some p := e
      obtain ⟨x0, _, ok0⟩ := pair_get o.sl q
      cases s0 with
      | no => cases e'
      | v d => cases e'
      | ol p' ds =>
        have : p' = p := Option.some.inj e'
        subst this
        obtain ⟨_, xs, hh, _⟩ := ok0
        rw [hh] at z
        cases z
      | oi p' C fs =>
        have : p' = p := Option.some.inj e'
        subst this
        obtain ⟨_, dx, xs, hh, _⟩ := ok0
        rw [hh] at z
        cases z
  refine ⟨o.fin.mut h2 h1 h3 h4, o.rb, ?_, fun j q h => ?_, fun j k q a1 a2 => ?_⟩
  · have hl : σ = σ.set i (σ.getD i none) := by
      by_cases hi : i < σ.length
      · rw [List.getD_eq_getElem?_getD, List.getElem?_eq_getElem hi]
        simp
      · rw [List.set_eq_of_length_le (by omega)]
    have ei : ∃ s0, env[i]? = some s0 ∧ s0.ad = some p := by
      unfold adAt at e
      cases q : env[i]? with
      | none =>
        rw [q] at e
        cases e
      | some s0 =>
        rw [q] at e
        exact ⟨s0, rfl, e⟩
    obtain ⟨s0, q0, q1⟩ := ei
    obtain ⟨x0, hx0, ok0⟩ := pair_get o.sl q0
    have hr : x0 = some (.ref p) := by
      cases s0 with
      | no => cases q1
      | v d => cases q1
      | ol p' ds =>
        have : p' = p := Option.some.inj q1
        subst this
        exact ok0.1
      | oi p' C fs =>
        have : p' = p := Option.some.inj q1
        subst this
        exact ok0.1
    have key : ∀ {xs : L2.St} {ys : Ev} {j : Nat}, Paired (SlOk K R H) xs ys → (∀ (k : Nat) (s1 : Sl) (q : Addr), k ≠ j → ys[k]? = some s1 → s1.ad = some q → q ≠ p) → xs[j]? = some x0 → SlOk K R (upd H p u) x0 s → Paired (SlOk K R (upd H p u)) xs (ys.set j s) := by
      intro xs ys j pr
      induction pr generalizing j with
      | nil => intro _ h; simp at h
      | @cons x y xs ys r t ih =>
        intro hne hj hs2
        have ch : ∀ {x : Option V} {y : Sl}, SlOk K R H x y → (∀ q, y.ad = some q → q ≠ p) → SlOk K R (upd H p u) x y := by
          intro x y hy hq
          cases y with
          | no => trivial
          | v d => exact hy
          | ol q ds =>
            obtain ⟨a1, zs, a2, a3⟩ := hy
            exact ⟨a1, zs, by rw [upd_ne (hq q rfl)]; exact a2, a3⟩
          | oi q C fs =>
            obtain ⟨a1, dx, zs, a2, a3⟩ := hy
            exact ⟨a1, dx, zs, by rw [upd_ne (hq q rfl)]; exact a2, a3⟩
        cases j with
        | zero =>
          have : x = x0 := by simpa using hj
          subst this
          refine .cons hs2 ?_
          have go : ∀ {xs : L2.St} {ys : Ev}, Paired (SlOk K R H) xs ys → (∀ (k : Nat) (s1 : Sl) (q : Addr), ys[k]? = some s1 → s1.ad = some q → q ≠ p) → Paired (SlOk K R (upd H p u)) xs ys := by
            intro xs ys pr
            induction pr with
            | nil => intro _; exact .nil
            | cons r t ih => intro hq; exact .cons (ch r fun q hh => hq 0 _ q rfl hh) (ih fun k s1 q a b => hq (k + 1) s1 q (by simpa using a) b)
          exact go t fun k s1 q a b => hne (k + 1) s1 q (by omega) (by simpa using a) b
        | succ j => exact .cons (ch r fun q hh => hne 0 _ q (by omega) rfl hh) (ih (fun k s1 q hk a b => hne (k + 1) s1 q (by omega) (by simpa using a) b) (by simpa using hj) hs2)
    refine key o.sl (fun k s1 q hk a b z => hk ?_) hx0 (hx x0 hx0 hr)
    subst z
    exact o.dis k i q (by unfold adAt; rw [a]; exact b) e
  · rcases adAt_set h with ⟨_, z⟩ | ⟨_, z⟩
    · rw [hs] at z
      have : p = q := Option.some.inj z
      subst this
      exact ⟨h1, h2, h3⟩
    · exact o.own j q z
  · rcases adAt_set a1 with ⟨e1, z⟩ | ⟨e1, z⟩
    · rw [hs] at z
      have : p = q := Option.some.inj z
      subst this
      rcases adAt_set a2 with ⟨e2, z'⟩ | ⟨e2, z'⟩
      · rw [e1, e2]
      · exact absurd (o.dis k i p z' e) e2
    · rcases adAt_set a2 with ⟨e2, z'⟩ | ⟨_, z'⟩
      · rw [hs] at z'
        have : p = q := Option.some.inj z'
        subst this
        exact absurd (o.dis j i p z e) e1
      · exact o.dis j k q z z'
/-- from now on it stays -/
theorem Ok3.freezeP (o : Ok3 K S R H σ env) {i : Nat} {p : Addr} {ds : List L3.D} (e : env[i]? = some (.ol p ds)) : ∃ xs, R p = none ∧ Ok3 K S (upd R p (.lst xs)) H σ (env.set i (.v (.lst ds))) := by
  have ea : adAt env i = some p := by
    unfold adAt
    rw [e]
    rfl
  obtain ⟨h1, h2, h3⟩ := o.own i p ea
  obtain ⟨x0, hx0, ex, xs, hh, hr⟩ := pair_get o.sl e
  subst ex
  refine ⟨xs, h1, o.fin.frz h2 hh h1 h3, o.rb.trans (up_upd h1), ?_, fun j q h => ?_, fun j k q a1 a2 => ?_⟩
  · have hl : σ = σ.set i (some (.ref p)) := by
      apply List.ext_getElem?
      intro j
      by_cases ej : j = i
      · subst ej
        rw [List.getElem?_set_self (List.getElem?_eq_some_iff.mp hx0).1]
        exact hx0
      · rw [List.getElem?_set_ne (Ne.symm ej)]
    rw [hl]
    refine pair_set (F := SlOk K (upd R p (.lst xs)) H) (show SlOk K (upd R p (.lst xs)) H (some (.ref p)) (.v (.lst ds)) from ⟨.ref p, rfl, p, xs, rfl, upd_same, hr.mono (up_upd h1)⟩) i ?_
    refine pair_imp o.sl fun j x y _ _ h => ?_
    cases y with
    | no => trivial
    | v d =>
      obtain ⟨v, a, b⟩ := h
      exact ⟨v, a, b.mono (up_upd h1)⟩
    | ol q ds =>
      obtain ⟨a1, zs, a2, a3⟩ := h
      exact ⟨a1, zs, a2, a3.mono (up_upd h1)⟩
    | oi q C fs =>
      obtain ⟨a1, dx, zs, a2, a3⟩ := h
      exact ⟨a1, dx, zs, a2, a3.mono (up_upd h1)⟩
  · rcases adAt_set h with ⟨_, z⟩ | ⟨ej, z⟩
    · cases z
    · obtain ⟨b1, b2, b3⟩ := o.own j q z
      have hq : q ≠ p := fun z2 => ej (o.dis j i p (by rw [← z2]; exact z) ea)
      exact ⟨by rw [upd_ne hq]; exact b1, b2, b3⟩
  · rcases adAt_set a1 with ⟨_, z⟩ | ⟨_, z⟩
    · cases z
    · rcases adAt_set a2 with ⟨_, z'⟩ | ⟨_, z'⟩
      · cases z'
      · exact o.dis j k q z z'
theorem Ok3.freeze (o : Ok3 K S R H σ env) {i : Nat} {p : Addr} {ds : List L3.D} (e : env[i]? = some (.ol p ds)) : ∃ R', Ok3 K S R' H σ (env.set i (.v (.lst ds))) := let ⟨_, _, h⟩ := o.freezeP e; ⟨_, h⟩
end
end
end L3
namespace L3
open PySem PySem.Spec PyProof.Rows L2
section
variable {X : Cx} {W : WX} {pos : Pos} {a b tg e : Expr} {Ta Tb T : TD} {A B : TB}
theorem de_fs1 (he : DE X W e T) : DE X W (.JoinedStr [e] pos) T := pe_fs1 he
/-! ### lists that this def alone holds -/
theorem ad_of {env : Ev} {i : Nat} {s : Sl} {p : Addr} (e : env[i]? = some s) (h : s.ad = some p) : adAt env i = some p := by
  unfold adAt
  rw [e]
  exact h
/-- x = [..] -/
def TOwn (i : Nat) (U : TL) : TSD := fun c D env => U c env fun ds => ds.length ≤ sizeLine ∧ ∀ p, D.nx (env.set i (.ol p ds))
theorem ds_own {i : Nat} {x : Str} {es : List Expr} {pos' p2 : Pos} {U : TL} (hN : X.N.Nodup) (hi : X.N[i]? = some x) (hx : Loc X.env.scope x) (he : DA X W es U) (hs : swapsWith (.List es p2) (some (.Name x pos')) pos.line X.env = pure false := by rfl)
    (hf : X.fn x = true ∨ X.env.scope.names.lookup x = some .local := by first | exact .inl rfl | exact .inr rfl | assumption) : DS X W (.Assign [.Name x pos'] (.List es p2) pos) (TOwn i U) :=
  ds_mk (ps_set hN hi hx (pe_lst he) hs hf) fun S R H σ env D3 lk ok q => tL3.ask lk ok q fun R1 H1 ds vs f1 ok1 r1 q1 => ⟨by rw [r1.length]; exact q1.1, fun p hp => ⟨R1, _, ok1.newOwn hp r1, q1.2 p⟩⟩
/-- x = list(..) -/
def TOwnL (i : Nat) (T : TD) : TSD := fun c D env => T c env fun d => ∃ ds, (d = .lst ds ∨ d = .tup ds) ∧ ∀ p, D.nx (env.set i (.ol p ds))
theorem ds_ownList {i : Nat} {x : Str} {pos' p p2 : Pos} (hN : X.N.Nodup) (hi : X.N[i]? = some x) (hx : Loc X.env.scope x) (hg : Gl X "list") (hm : X.mg "list" = none) (hv : bootBuiltins "list" = some (.type "list")) (he : DE X W e T)
    (hs : swapsWith (.Call (.Name "list" p) [e] [] p2) (some (.Name x pos')) pos.line X.env = pure false := by rfl) (hst : starEach [e] X.env = (false, eval e X.env) :: starEach [] X.env := by rfl)
    (hf : X.fn x = true ∨ X.env.scope.names.lookup x = some .local := by first | exact .inl rfl | exact .inr rfl | assumption) : DS X W (.Assign [.Name x pos'] (.Call (.Name "list" p) [e] [] p2) pos) (TOwnL i T) :=
  ds_mk (ps_set hN hi hx (pe_callTy call_list_of hg hm hv (pa_cons he pa_nil hst) (by decide) (by decide) hst rfl) hs hf) fun S R H σ env D3 lk ok q => tD.ask lk ok q fun R1 H1 d v f1 ok1 r1 ⟨ds, e, q1⟩ => by
    rcases e with e | e
    · subst e
      obtain ⟨p, xs, e, hh, hr⟩ := rep_lst r1
      subst e
      exact ⟨p, xs, rfl, .inl (SqL.of (ok1.bas.sub _ _ hh)), fun l hl => ⟨R1, _, ok1.newOwn hl hr, q1 l⟩⟩
    · subst e
      obtain ⟨p, xs, e, hh, hr⟩ := rep_tup r1
      subst e
      exact ⟨p, xs, rfl, .inr (SqT.of (ok1.bas.sub _ _ hh)), fun l hl => ⟨R1, _, ok1.newOwn hl hr, q1 l⟩⟩
/-- x.append(e) -/
def TApp (i : Nat) (T : TD) : TSD := fun c D env => ∃ p ds, env[i]? = some (.ol p ds) ∧ T c env fun d => ds.length < sizeLine ∧ D.nx (env.set i (.ol p (ds ++ [d])))
theorem ol_mut {K : PySem.W.Frag} {S : Sta} {R H : Hp} {σ : L2.St} {env : Ev} (o : Ok3 K S R H σ env) {i : Nat} {p : Addr} {ds es : List L3.D} {xs : List V} (e : env[i]? = some (.ol p ds)) (r : Reps K R es xs) : Ok3 K S R (upd H p (.lst xs)) σ (env.set i (.ol p es)) :=
  o.mut (ad_of e rfl) rfl fun x _ hx => ⟨hx, xs, upd_same, r⟩
theorem ol_at {K : PySem.W.Frag} {S : Sta} {R H : Hp} {σ : L2.St} {env : Ev} (o : Ok3 K S R H σ env) {i : Nat} {p : Addr} {ds : List L3.D} (e : env[i]? = some (.ol p ds)) : σ[i]? = some (some (.ref p)) ∧ ∃ xs, H p = some (.lst xs) ∧ Reps K R ds xs := by
  obtain ⟨x, h1, h2, h3⟩ := pair_get o.sl e
  subst h2
  exact ⟨h1, h3⟩
theorem ds_append (i : Nat) {x : Str} {p0 apos cpos : Pos} (he : DE X W e T) (hN : X.N[i]? = some x := by rfl) (hv : Vis X.env.scope x := by first | exact Or.inl rfl | exact Or.inr (Or.inl rfl) | exact Or.inr (Or.inr rfl))
    (hd : (x == ("__debug__" : Str)) = false := by decide) (hcd : (x == ("__classdict__" : Str)) = false := by decide) (hbase : attributeBase (.Name x p0) ("append" : Str) X.env (eval (.Name x p0) X.env) = eval (.Name x p0) X.env := by rfl)
    (hfew : ((backTo cpos (starEach (e :: []) X.env)).all (fun x => !x.1) && (backToKw cpos (keywordEach [] X.env)).all (fun x => x.1.isSome) && decide ((e :: []).length + ([] : List Keyword).length + (if ([] : List Keyword).isEmpty then 0 else 1) < 30)) = true := by rfl)
    (hline : (apos.endLine == cpos.line) = true := by rfl) (hs : starEach (e :: []) X.env = (false, eval e X.env) :: starEach [] X.env := by rfl) (hsw : swapsWith (.Call (.Attribute (.Name x p0) ("append" : Str) apos) [e] [] cpos) none pos.line X.env = pure false := by rfl) :
    DS X W (.Expr (.Call (.Attribute (.Name x p0) ("append" : Str) apos) [e] [] cpos) pos) (TApp i T) :=
  ds_mk (ps_expr (pe_bm PySem.F.plainAttrs_list PySem.F.slot_list_append PySem.F.type_list_append mt_append (pe_var hN hv hd hcd) (pa_cons he pa_nil hs) hbase hfew hline hs rfl) hsw) fun S R H σ env D3 lk ok ⟨p, ds, e0, q⟩ => by
    obtain ⟨h1, xs, h2, h3⟩ := ol_at ok e0
    refine ⟨_, h1, .inl ⟨rfl, xs, SqL.of h2⟩, tD.ask lk ok q fun R1 H1 d v f1 ok1 r1 q1 => ?_⟩
    obtain ⟨_, ys, h4, h5⟩ := ol_at ok1 e0
    exact ⟨p, ys, v, rfl, rfl, h4, by rw [h5.length]; exact q1.1, R1, _, ol_mut ok1 e0 (h5.snoc r1), q1.2⟩
/-- x.extend(e) -/
def TExt (i : Nat) (T : TD) : TSD := fun c D env => ∃ p ds, env[i]? = some (.ol p ds) ∧ T c env fun d => ∃ es, d = .lst es ∧ ds.length + es.length ≤ sizeLine ∧ D.nx (env.set i (.ol p (ds ++ es)))
theorem ds_extend (i : Nat) {x : Str} {p0 apos cpos : Pos} (he : DE X W e T) (hN : X.N[i]? = some x := by rfl) (hv : Vis X.env.scope x := by first | exact Or.inl rfl | exact Or.inr (Or.inl rfl) | exact Or.inr (Or.inr rfl))
    (hd : (x == ("__debug__" : Str)) = false := by decide) (hcd : (x == ("__classdict__" : Str)) = false := by decide) (hbase : attributeBase (.Name x p0) ("extend" : Str) X.env (eval (.Name x p0) X.env) = eval (.Name x p0) X.env := by rfl)
    (hfew : ((backTo cpos (starEach (e :: []) X.env)).all (fun x => !x.1) && (backToKw cpos (keywordEach [] X.env)).all (fun x => x.1.isSome) && decide ((e :: []).length + ([] : List Keyword).length + (if ([] : List Keyword).isEmpty then 0 else 1) < 30)) = true := by rfl)
    (hline : (apos.endLine == cpos.line) = true := by rfl) (hs : starEach (e :: []) X.env = (false, eval e X.env) :: starEach [] X.env := by rfl) (hsw : swapsWith (.Call (.Attribute (.Name x p0) ("extend" : Str) apos) [e] [] cpos) none pos.line X.env = pure false := by rfl) :
    DS X W (.Expr (.Call (.Attribute (.Name x p0) ("extend" : Str) apos) [e] [] cpos) pos) (TExt i T) :=
  ds_mk (ps_expr (pe_bm PySem.F.plainAttrs_list PySem.F.slot_list_extend PySem.F.type_list_extend mt_extend (pe_var hN hv hd hcd) (pa_cons he pa_nil hs) hbase hfew hline hs rfl) hsw) fun S R H σ env D3 lk ok ⟨p, ds, e0, q⟩ => by
    obtain ⟨h1, xs, h2, h3⟩ := ol_at ok e0
    refine ⟨_, h1, .inl ⟨rfl, xs, SqL.of h2⟩, tD.ask lk ok q fun R1 H1 d v f1 ok1 r1 ⟨es, e1, q1⟩ => ?_⟩
    subst e1
    obtain ⟨_, ys, h4, h5⟩ := ol_at ok1 e0
    obtain ⟨p2, zs, e2, hh, hr⟩ := rep_lst r1
    subst e2
    exact ⟨p, p2, ys, zs, rfl, rfl, h4, ok1.bas.sub _ _ hh, by rw [h5.length, hr.length]; exact q1.1, R1, _, ol_mut ok1 e0 (h5.append hr), q1.2⟩
/-- x[k] = e -/
def TPutI (i : Nat) (Tk T : TD) : TSD := fun c D env => T c env fun d => Tk c env fun k => ∃ p ds n j, env[i]? = some (.ol p ds) ∧ k = .int n ∧ ixN ds.length n = some j ∧ D.nx (env.set i (.ol p (ds.set j d)))
/-- read as it stands: a flat answer -/
def TBor (i : Nat) (T : TD) : TD := fun c env φ => ∃ p ds, env[i]? = some (.ol p ds) ∧ T c (env.set i (.v (.lst ds))) fun d => flatD d = true ∧ φ d
def TBorB (i : Nat) (T : TB) : TB := fun c env φ => ∃ p ds, env[i]? = some (.ol p ds) ∧ T c (env.set i (.v (.lst ds))) φ
theorem Fin.under {w : Wd} {R R' H R1 H1 : Hp} (b : Bas w R H) (s : Same R R') (f : Fin w R' H R1 H1) : Fin w R H R H1 :=
  ⟨fun _ _ h => h, fun c o h => f.sub c o (f.up c o (s c o h)), f.keep, fun _ _ h _ _ => h, f.inv, b.ft⟩
theorem Ok3.borrow {K : PySem.W.Frag} {S : Sta} {R H : Hp} {σ : L2.St} {env : Ev} (o : Ok3 K S R H σ env) {i : Nat} {p : Addr} {ds : List L3.D} (e : env[i]? = some (.ol p ds)) : ∃ R', Same R R' ∧ Ok3 K S R' H σ (env.set i (.v (.lst ds))) := by
  obtain ⟨R', o'⟩ := (o.rebase).freeze e
  exact ⟨R', o'.rb, o'.back o.rb⟩
theorem rep_flat {K : PySem.W.Frag} {R R' : Hp} {d : L3.D} {v : V} (h : flatD d = true) (r : Rep K R d v) : Rep K R' d v := by
  cases d <;> first | exact Bool.noConfusion h | exact r
/-- no name is changed by an error's wish here: the wish stands at the names as they were lent -/
theorem de_bor (i : Nat) (he : DE X W e T) : DE X W e (TBor i T) :=
  ⟨fun pins s σ H Q I ⟨S, R, env, φ, lk, ok, ⟨p, ds, e0, q⟩, hQ⟩ => by
    obtain ⟨R', sm, ok'⟩ := ok.borrow e0
    exact he.run pins s σ H Q I ⟨S, R', _, _, lk, ok', q, fun v H' ⟨R2, d, f, r, hf, q2⟩ => hQ v H' ⟨R, d, Fin.under ok.bas sm f, rep_flat hf r, q2⟩⟩⟩
theorem dt_bor (i : Nat) (he : DT X W e A) : DT X W e (TBorB i A) :=
  ⟨fun pins s σ H Q I ⟨S, R, env, φ, lk, ok, ⟨p, ds, e0, q⟩, hQ⟩ => by
    obtain ⟨R', sm, ok'⟩ := ok.borrow e0
    exact he.run pins s σ H Q I ⟨S, R', _, _, lk, ok', q, fun v H' ⟨R2, f, q2⟩ => hQ v H' ⟨R, Fin.under ok.bas sm f, q2⟩⟩⟩
/-- from here on it stays -/
def TFrz (i : Nat) (T : TSD) : TSD := fun c D env => ∃ p ds, env[i]? = some (.ol p ds) ∧ T c D (env.set i (.v (.lst ds)))
theorem ds_frz (i : Nat) {st : Stmt} {U : TSD} (h : DS X W st U) : DS X W st (TFrz i U) :=
  ⟨fun pins s σ H E I ⟨S, R, env, D3, lk, ok, ⟨p, ds, e0, q⟩, eo⟩ => by
    obtain ⟨R', ok'⟩ := ok.freeze e0
    exact h.run pins s σ H E I ⟨S, R', _, D3, lk, ok', q, eo⟩⟩
theorem dss_frz (i : Nat) {st : List Stmt} {U : TSD} (h : DSs X W st U) : DSs X W st (TFrz i U) :=
  ⟨fun pins s σ H E I ⟨S, R, env, D3, lk, ok, ⟨p, ds, e0, q⟩, eo⟩ => by
    obtain ⟨R', ok'⟩ := ok.freeze e0
    exact h.run pins s σ H E I ⟨S, R', _, D3, lk, ok', q, eo⟩⟩
/-! ### the instance that an __init__ fills -/
def TPutF (K : PySem.W.Frag) (i : Nat) (f : Str) (T : TD) : TSD := fun c D env => T c env fun d => ∃ p C fs, env[i]? = some (.oi p C fs) ∧ AtK K C f ∧ fs.length < 1000 ∧ D.nx (env.set i (.oi p C (putD f d fs)))
theorem oi_at {K : PySem.W.Frag} {S : Sta} {R H : Hp} {σ : L2.St} {env : Ev} (o : Ok3 K S R H σ env) {i : Nat} {p C : Addr} {fs : List (Str × L3.D)} (e : env[i]? = some (.oi p C fs)) : σ[i]? = some (some (.ref p)) ∧ ∃ dx fvs, H p = some (.ins C dx fvs) ∧ RepF K R fs fvs := by
  obtain ⟨x, h1, h2, h3⟩ := pair_get o.sl e
  subst h2
  exact ⟨h1, h3⟩
theorem ds_putF (i : Nat) {x f : Str} {p0 pos' : Pos} (he : DE X W e T) (hN : X.N[i]? = some x := by rfl) (hv : Vis X.env.scope x := by first | exact Or.inl rfl | exact Or.inr (Or.inl rfl) | exact Or.inr (Or.inr rfl))
    (hd : (x == ("__debug__" : Str)) = false := by decide) (hcd : (x == ("__classdict__" : Str)) = false := by decide) (hs : swapsWith e (some (.Attribute (.Name x p0) f pos')) pos.line X.env = pure false := by rfl) :
    DS X W (.Assign [.Attribute (.Name x p0) f pos'] e pos) (TPutF X.K i f T) :=
  ds_mk (ps_fld (pe_var hN hv hd hcd) he hs) fun S R H σ env D3 lk ok q => tD.ask lk ok q fun R1 H1 d v f1 ok1 r1 ⟨p, C, fs, e0, ak, hl, q1⟩ => by
    obtain ⟨h1, dx, fvs, h2, h3⟩ := oi_at ok1 e0
    exact ⟨_, h1, p, C, dx, fvs, rfl, h2, ak.cls, ak.no, by rw [h3.length]; exact hl, R1, _, ok1.mut (s := .oi p C (putD f d fs)) (ad_of e0 rfl) rfl fun x _ hx => ⟨hx, dx, _, upd_same, h3.put r1⟩, q1⟩
end
end L3
namespace L3
open PySem PySem.Spec PyProof.Rows L2
/-- nothing is let out -/
abbrev WF : WX := fun _ _ _ _ => False
section
variable {X : Cx} {W : WX} {pos : Pos} {a b tg e elt iter : Expr} {Ta Tb T : TD} {A B : TB}
/-! ### comprehensions -/
def hideS : Sl → Sl
  | .v d => .v d
  | _ => .no
def wipeD (env : Ev) : List Nat → Ev
  | [] => env.map hideS
  | v :: vs => (wipeD env vs).set v .no
abbrev dtN : Nat := 0
def TYes : TB := fun _ _ φ => φ true
theorem dts_nil : PTs X [] (tB3 X.K W TYes) := ⟨fun pins s σ H Q I ⟨S, R, env, φ, lk, ok, hT, hQ⟩ => (pts_nil (X := X)).run pins s σ H Q I (hQ true H ⟨R, Fin.refl ok.bas, hT⟩)⟩
theorem dts_one {c : Expr} (h : DT X W c A) : PTs X [c] (tB3 X.K W A) := pts_one h
def CompD (g : TGD) (A : TB) (T : TD) (c : Ct) (env : Ev) : List L3.D → List L3.D → (List L3.D → Prop) → Prop
  | [], acc, φ => φ acc
  | d :: ds, acc, φ => g d env fun env' => A c env' fun k => if k = true then T c env' fun y => acc.length < sizeLine ∧ CompD g A T c env ds (acc ++ [y]) φ else CompD g A T c env ds acc φ
/-- what runs in a comprehension -/
abbrev Ct.in (c : Ct) : Ct := ⟨c.wd, fun _ _ => False⟩
def TLc (U : TL) (g : TGD) (A : TB) (T : TD) (vs : List Nat) : TD := fun c env φ => U c env fun ds => CompD g A T c.in (wipeD env vs) ds [] fun out => φ (.lst out)
theorem wipe_wipe {σ : L2.St} : ∀ {vs : List Nat}, wipe (wipe σ vs) vs = wipe σ vs := by
  have key : ∀ (ws vs : List Nat), (∀ x ∈ ws, x ∈ vs) → wipe (wipe σ vs) ws = wipe σ vs := by
    intro ws vs
    induction ws with
    | nil => intro _; rfl
    | cons w ws ih =>
      intro h
      show (wipe (wipe σ vs) ws).set w none = wipe σ vs
      rw [ih fun x hx => h x (List.mem_cons_of_mem _ hx)]
      have hw := h w List.mem_cons_self
      clear ih h
      induction vs with
      | nil => cases hw
      | cons v vs ih =>
        show ((wipe σ vs).set v none).set w none = (wipe σ vs).set v none
        by_cases e : w = v
        · subst e
          rw [List.set_set]
        · rw [List.set_comm _ _ (Ne.symm e)]
          rcases List.mem_cons.mp hw with z | z
          · exact absurd z e
          · rw [ih z]
  intro vs
  exact key _ _ fun x hx => hx
theorem pair_map {α β γ : Type} {F : α → β → Prop} {G : α → γ → Prop} {f : β → γ} : ∀ {xs : List α} {ys : List β}, Paired F xs ys → (∀ x y, F x y → G x (f y)) → Paired G xs (ys.map f)
  | _, _, .nil, _ => .nil
  | _, _, .cons r t, h => .cons (h _ _ r) (pair_map t h)
theorem wipe_ok {K : PySem.W.Frag} {R R' H H' : Hp} {σ : L2.St} {env : Ev} (s : Same R R') (h : Paired (SlOk K R H) σ env) : ∀ vs : List Nat, Paired (SlOk K R' H') (wipe σ vs) (wipeD env vs)
  | [] => pair_map h fun x y hy => by
    cases y with
    | no => trivial
    | v d =>
      obtain ⟨v, e, r⟩ := hy
      exact ⟨v, e, r.mono s⟩
    | ol p ds => trivial
    | oi p C fs => trivial
  | v :: vs => pair_set (F := SlOk K R' H') (show SlOk K R' H' none .no from trivial) v (wipe_ok s h vs)
theorem wipeD_ad {env : Ev} : ∀ {vs : List Nat} {i : Nat}, adAt (wipeD env vs) i = none
  | [], i => by
    unfold adAt wipeD
    rw [List.getElem?_map]
    cases e : env[i]? with
    | none => rfl
    | some s => cases s <;> rfl
  | v :: vs, i => by
    cases z : adAt (wipeD env (v :: vs)) i with
    | none => rfl
    | some p =>
      rcases adAt_set (show adAt ((wipeD env vs).set v .no) i = some p from z) with ⟨_, q⟩ | ⟨_, q⟩
      · cases q
      · rw [wipeD_ad] at q
        cases q
/-- the state of a comprehension's turn -/
theorem Ok3.block {K : PySem.W.Frag} {S : Sta} {R H R' H' : Hp} {σ : L2.St} {env : Ev} (o : Ok3 K S R H σ env) (f : Fin S.c.wd R H R' H') (vs : List Nat) : Ok3 K ⟨S.c.in, R', H', R'⟩ R' H' (wipe σ vs) (wipeD env vs) :=
  ⟨Fin.refl f.bas, fun _ _ h => h, wipe_ok f.up o.sl vs, fun i p h => (by rw [wipeD_ad] at h; cases h), fun i j p h _ => (by rw [wipeD_ad] at h; cases h)⟩
theorem lk_in {K : PySem.W.Frag} {c : Ct} {R H Rb : Hp} {W : WX} : Lk K ⟨c.in, R, H, Rb⟩ W := fun _ _ _ _ _ _ _ _ _ h => h.elim
theorem Fin.kept {w : Wd} {R H R1 H1 : Hp} (f : Fin w R H R1 H1) {p : Addr} {o : HO} (h : H p = some o) (hf : ¬ w.foot p) : H1 p = some o := f.keep p o h hf
theorem not_foot {w : Wd} {R H : Hp} (b : Bas w R H) {p : Addr} (h : H p = none) : ¬ w.foot p := fun z => by
  obtain ⟨u, hu⟩ := w.there _ _ b.inv z
  rw [h] at hu
  cases hu
theorem not_R {w : Wd} {R H : Hp} (b : Bas w R H) {p : Addr} (h : H p = none) : R p = none := by
  cases q : R p with
  | none => rfl
  | some u =>
    rw [b.sub p u q] at h
    cases h
theorem lc_ask {S : Sta} {R H : Hp} {σ : L2.St} {env : Ev} {U : TL} {g : TGD} {vs : List Nat} {φ : L3.D → Prop} (lk : Lk X.K S W) (ok : Ok3 X.K S R H σ env) {Q : VK} (q : TLc U g A T vs S.c env φ) (kQ : ∀ v H', Pst X.K S.c R H φ v H' → Q v H') :
    tLc (tI3 X.K W U) (gD3 X.K vs g) (tB3 X.K WF A) (tD X.K WF T) vs σ H Q := by
  refine ⟨S, R, env, _, lk, ok, q, fun J H1 R1 ds f1 io q1 D hD => ?_⟩
  have nf := not_foot f1.bas hD
  have nR := not_R f1.bas hD
  refine ⟨fun i m Hh => m = ds.length - i ∧ ∃ R2 acc accV, Fin S.c.wd R1 H1 R2 Hh ∧ R2 D = none ∧ Hh D = some (.lst accV) ∧ Reps X.K R2 acc accV ∧ CompD g A T S.c.in (wipeD env vs) (ds.drop i) acc fun out => φ (.lst out),
    ⟨ds.length, by simp, R1, [], [], Fin.fresh f1.bas hD, nR, upd_same, rfl, by rw [List.drop_zero]; exact q1⟩, ?_⟩
  rintro i m Hh ⟨rfl, R2, acc, accV, f2, n2, h2, r2, q2⟩
  by_cases hi : i < ds.length
  · have hd := List.getElem?_eq_getElem hi
    refine .inr ⟨io.go i R2 Hh _ f2.up f2.bas hd, fun H' => ∃ R3 acc accV, Fin S.c.wd R1 H1 R3 H' ∧ R3 D = none ∧ H' D = some (.lst accV) ∧ Reps X.K R3 acc accV ∧ CompD g A T S.c.in (wipeD env vs) (ds.drop (i + 1)) acc fun out => φ (.lst out),
      fun H' ⟨R3, ac, av, h1, h2, h3, h4, h5⟩ => ⟨ds.length - (i + 1), by omega, rfl, R3, ac, av, h1, h2, h3, h4, h5⟩, fun x H' y => ?_⟩
    obtain ⟨R3, f3, r3⟩ := io.yld i R2 Hh x H' _ f2.up f2.bas hd y
    have f03 := (f1.trans f2).trans f3
    have ok3 := ok.block f03 vs
    rw [List.drop_eq_getElem_cons hi] at q2
    have n3 := f3.new D _ n2 h2
    have h3 := f3.kept h2 nf
    refine ⟨⟨S.c.in, R3, H', R3⟩, R3, wipeD env vs, _, _, ok3, r3, q2, fun env' σ' hw ok' q' => ⟨hw.trans wipe_wipe, ?_⟩⟩
    refine tB3.ask lk_in ok' q' fun R4 H4 k f4 ok4 q4 => ?_
    have f34 := ok4.fin
    cases k with
    | true =>
      rw [if_pos rfl] at q4
      refine iteT (tD.ask lk_in ok4 q4 fun R5 H5 dy y f5 ok5 ry q5 => ?_)
      have f35 := ok5.fin
      have h5 := f35.kept h3 nf
      have n5 := f35.new D _ n3 h3
      refine ⟨accV, h5, by rw [r2.length]; exact q5.1, R5, acc ++ [dy], accV ++ [y], ((f2.trans f3).trans f35).mut hD n5 nf (fun φ z => by rw [h5] at z; cases z), n5, upd_same, ((r2.mono f3.up).mono f35.up).snoc ry, q5.2⟩
    | false =>
      rw [if_neg Bool.false_ne_true] at q4
      refine iteF ⟨R4, acc, accV, (f2.trans f3).trans f34, f34.new D _ n3 h3, f34.kept h3 nf, (r2.mono f3.up).mono f34.up, q4⟩
  · have e : ds.drop i = [] := List.drop_eq_nil_of_le (by omega)
    rw [e] at q2
    have fz := f2.frz hD h2 n2 nf
    exact .inl ⟨io.stop i R2 Hh f2.up f2.bas (by omega), kQ _ _ ⟨_, .lst acc, f1.trans fz, ⟨D, accV, rfl, upd_same, r2.mono (up_upd n2)⟩, q2⟩⟩
theorem de_lc {ifs : List Expr} {scope : Scope} {own : List (Str × Nat)} {U : TL} {g : TGD} (hc : X.calm = true) (hN : X.N.Nodup) (hi : DI X W tg iter U) (ok : BlkOk X.N X.env.scope scope own)
    (hg : ∀ (s : Shared) (H : Hp) (C : Addr) (cl : List (Str × Addr)) (fp : List Addr), DG (X.blk s H scope (compEnvC scope cl C X.env) fp) (own.map (·.2)) tg g)
    (ht : ∀ (s : Shared) (H : Hp) (C : Addr) (cl : List (Str × Addr)) (fp : List Addr), PTs (X.blk s H scope (compEnvC scope cl C X.env) fp) ifs (tB3 X.K WF A))
    (he : ∀ (s : Shared) (H : Hp) (C : Addr) (cl : List (Str × Addr)) (fp : List Addr), DE (X.blk s H scope (compEnvC scope cl C X.env) fp) WF elt T)
    (hs : ∀ x, foldedSetIterable iter X.env x = pure x := by intro _; rfl) :
    DE X W (.ListComp elt [{ target := tg, iter := iter, ifs := ifs, is_async := 0 }] scope pos) (TLc U g A T (own.map (·.2))) :=
  de_mk (pe_lc hc hN hi ok hg ht he hs) fun S R H σ env φ lk ok q => lc_ask lk ok q fun _ _ p => p
theorem ds_setLc {i : Nat} {y : Str} {py spos : Pos} {ifs : List Expr} {scope : Scope} {own : List (Str × Nat)} {U : TL} {g : TGD} (hc : X.calm = true) (hN : X.N.Nodup) (hy : X.N[i]? = some y) (hyl : X.env.scope.names.lookup y = some .local)
    (hsw : swapsWith (.ListComp elt [⟨tg, iter, ifs, 0⟩] scope pos) (some (.Name y py)) spos.line X.env = pure true) (hi : DI X W tg iter U) (ok : BlkOk X.N X.env.scope scope own)
    (hg : ∀ (s : Shared) (H : Hp) (C : Addr) (cl : List (Str × Addr)) (fp : List Addr), DG (X.blk s H scope (compEnvC scope cl C X.env) fp) (own.map (·.2)) tg g)
    (ht : ∀ (s : Shared) (H : Hp) (C : Addr) (cl : List (Str × Addr)) (fp : List Addr), PTs (X.blk s H scope (compEnvC scope cl C X.env) fp) ifs (tB3 X.K WF A))
    (he : ∀ (s : Shared) (H : Hp) (C : Addr) (cl : List (Str × Addr)) (fp : List Addr), DE (X.blk s H scope (compEnvC scope cl C X.env) fp) WF elt T)
    (hs : ∀ x, foldedSetIterable iter X.env x = pure x := by intro _; rfl) :
    DS X W (.Assign [.Name y py] (.ListComp elt [⟨tg, iter, ifs, 0⟩] scope pos) spos) (TSet i (TLc U g A T (own.map (·.2)))) :=
  ds_mk (ps_setLc hc hN hy hyl hsw hi ok hg ht he hs) fun S R H σ env D3 lk ok q => lc_ask lk ok q fun v H' ⟨R', d, f, r, q'⟩ => ⟨R', _, (ok.through f).put r, q'⟩
/-! ### two walks -/
def CompD1 (g : TGD) (A : TB) (T : TD) (c : Ct) (env : Ev) : List L3.D → List L3.D → (List L3.D → Prop) → Prop
  | [], acc, φ => φ acc
  | d :: ds, acc, φ => g d env fun env' => A c env' fun k => if k = true then T c env' fun y => acc.length < sizeLine ∧ CompD1 g A T c env ds (acc ++ [y]) φ else CompD1 g A T c env ds acc φ
def CompD2 (g : TGD) (A : TB) (U1 : TL) (g1 : TGD) (A1 : TB) (T : TD) (vs1 : List Nat) (c : Ct) (env : Ev) : List L3.D → List L3.D → (List L3.D → Prop) → Prop
  | [], acc, φ => φ acc
  | d :: ds, acc, φ => g d env fun env' => A c env' fun k => if k = true then U1 c env' fun es => CompD1 g1 A1 T c (wipeD env' vs1) es acc fun out => CompD2 g A U1 g1 A1 T vs1 c env ds out φ else CompD2 g A U1 g1 A1 T vs1 c env ds acc φ
def TLc2 (U : TL) (g : TGD) (A : TB) (U1 : TL) (g1 : TGD) (A1 : TB) (T : TD) (vs vs1 : List Nat) : TD := fun c env φ => U c env fun ds => CompD2 g A U1 g1 A1 T vs1 c.in (wipeD env vs) ds [] fun out => φ (.lst out)
theorem lc2_ask {S : Sta} {R H : Hp} {σ : L2.St} {env : Ev} {U U1 : TL} {g g1 : TGD} {A1 : TB} {vs vs1 : List Nat} {φ : L3.D → Prop} (lk : Lk X.K S W) (ok : Ok3 X.K S R H σ env) {Q : VK} (q : TLc2 U g A U1 g1 A1 T vs vs1 S.c env φ) (kQ : ∀ v H', Pst X.K S.c R H φ v H' → Q v H') :
    tLc2 (tI3 X.K W U) (gD3 X.K vs g) (tB3 X.K WF A) (tI3 X.K WF U1) (gD3 X.K vs1 g1) (tB3 X.K WF A1) (tD X.K WF T) vs vs1 σ H Q := by
  refine ⟨S, R, env, _, lk, ok, q, fun J H1 R1 ds f1 io q1 D hD => ?_⟩
  have nf := not_foot f1.bas hD
  have nR := not_R f1.bas hD
  refine ⟨fun i m Hh => m = ds.length - i ∧ ∃ R2 acc accV, Fin S.c.wd R1 H1 R2 Hh ∧ R2 D = none ∧ Hh D = some (.lst accV) ∧ Reps X.K R2 acc accV ∧ CompD2 g A U1 g1 A1 T vs1 S.c.in (wipeD env vs) (ds.drop i) acc fun out => φ (.lst out),
    ⟨ds.length, by simp, R1, [], [], Fin.fresh f1.bas hD, nR, upd_same, rfl, by rw [List.drop_zero]; exact q1⟩, ?_⟩
  rintro i m Hh ⟨rfl, R2, acc, accV, f2, n2, h2, r2, q2⟩
  by_cases hi : i < ds.length
  · have hd := List.getElem?_eq_getElem hi
    refine .inr ⟨io.go i R2 Hh _ f2.up f2.bas hd, fun H' => ∃ R3 acc accV, Fin S.c.wd R1 H1 R3 H' ∧ R3 D = none ∧ H' D = some (.lst accV) ∧ Reps X.K R3 acc accV ∧ CompD2 g A U1 g1 A1 T vs1 S.c.in (wipeD env vs) (ds.drop (i + 1)) acc fun out => φ (.lst out),
      fun H' ⟨R3, ac, av, h1, h2, h3, h4, h5⟩ => ⟨ds.length - (i + 1), by omega, rfl, R3, ac, av, h1, h2, h3, h4, h5⟩, fun x H' y => ?_⟩
    obtain ⟨R3, f3, r3⟩ := io.yld i R2 Hh x H' _ f2.up f2.bas hd y
    have f03 := (f1.trans f2).trans f3
    have ok3 := ok.block f03 vs
    rw [List.drop_eq_getElem_cons hi] at q2
    have n3 := f3.new D _ n2 h2
    have h3 := f3.kept h2 nf
    refine ⟨⟨S.c.in, R3, H', R3⟩, R3, wipeD env vs, _, _, ok3, r3, q2, fun env' σ' hw ok' q' => ⟨hw.trans wipe_wipe, ?_⟩⟩
    refine tB3.ask lk_in ok' q' fun R4 H4 k f4 ok4 q4 => ?_
    have f34 := ok4.fin
    have n4 := f34.new D _ n3 h3
    have h4 := f34.kept h3 nf
    cases k with
    | true =>
      rw [if_pos rfl] at q4
      refine iteT ⟨_, R4, env', _, lk_in, ok4, q4, fun J1 H5 R5 es f5 io1 q5 => ?_⟩
      have f45 := f5
      refine ⟨fun j m Hh => m = es.length - j ∧ ∃ R6 acc accV, Fin S.c.wd R1 H1 R6 Hh ∧ Same R5 R6 ∧ R6 D = none ∧ Hh D = some (.lst accV) ∧ Reps X.K R6 acc accV ∧ CompD1 g1 A1 T S.c.in (wipeD env' vs1) (es.drop j) acc fun out => CompD2 g A U1 g1 A1 T vs1 S.c.in (wipeD env vs) (ds.drop (i + 1)) out fun out => φ (.lst out),
        ⟨es.length, by simp, R5, acc, accV, ((f2.trans f3).trans f34).trans f45, fun _ _ h => h, f45.new D _ n4 h4, f45.kept h4 nf, ((r2.mono f3.up).mono f34.up).mono f45.up, by rw [List.drop_zero]; exact q5⟩, ?_⟩
      rintro j m Hk ⟨rfl, R6, ac6, av6, g6, s6, n6, h6, r6, q6⟩
      by_cases hj : j < es.length
      · have hdj := List.getElem?_eq_getElem hj
        refine .inr ⟨io1.go j R6 Hk _ s6 g6.bas hdj, fun H' => ∃ R7 acc accV, Fin S.c.wd R1 H1 R7 H' ∧ Same R5 R7 ∧ R7 D = none ∧ H' D = some (.lst accV) ∧ Reps X.K R7 acc accV ∧ CompD1 g1 A1 T S.c.in (wipeD env' vs1) (es.drop (j + 1)) acc fun out => CompD2 g A U1 g1 A1 T vs1 S.c.in (wipeD env vs) (ds.drop (i + 1)) out fun out => φ (.lst out),
          fun H' ⟨R7, ac, av, z1, z2, z3, z4, z5, z6⟩ => ⟨es.length - (j + 1), by omega, rfl, R7, ac, av, z1, z2, z3, z4, z5, z6⟩, fun x H' y => ?_⟩
        obtain ⟨R7, f7, r7⟩ := io1.yld j R6 Hk x H' _ s6 g6.bas hdj y
        have ok7 : Ok3 X.K ⟨S.c.in, R7, H', R7⟩ R7 H' (wipe σ' vs1) (wipeD env' vs1) :=
          ⟨Fin.refl f7.bas, fun _ _ h => h, wipe_ok ((f45.up.trans s6).trans f7.up) ok4.sl vs1, fun i p h => (by rw [wipeD_ad] at h; cases h), fun i j p h _ => (by rw [wipeD_ad] at h; cases h)⟩
        rw [List.drop_eq_getElem_cons hj] at q6
        have n7 := f7.new D _ n6 h6
        have h7 := f7.kept h6 nf
        refine ⟨⟨S.c.in, R7, H', R7⟩, R7, wipeD env' vs1, _, _, ok7, r7, q6, fun env2 σ2 hw2 ok2 q7 => ⟨hw2.trans wipe_wipe, ?_⟩⟩
        refine tB3.ask lk_in ok2 q7 fun R8 H8 k8 f8 ok8 q8 => ?_
        have f78 := ok8.fin
        cases k8 with
        | true =>
          rw [if_pos rfl] at q8
          refine iteT (tD.ask lk_in ok8 q8 fun R9 H9 dy y f9 ok9 ry q9 => ?_)
          have f79 := ok9.fin
          have h9 := f79.kept h7 nf
          have n9 := f79.new D _ n7 h7
          exact ⟨av6, h9, by rw [r6.length]; exact q9.1, R9, ac6 ++ [dy], av6 ++ [y], ((g6.trans f7).trans f79).mut hD n9 nf (fun φ z => by rw [h9] at z; cases z), (s6.trans f7.up).trans f79.up, n9, upd_same, ((r6.mono f7.up).mono f79.up).snoc ry, q9.2⟩
        | false =>
          rw [if_neg Bool.false_ne_true] at q8
          exact iteF ⟨R8, ac6, av6, (g6.trans f7).trans f78, (s6.trans f7.up).trans f78.up, f78.new D _ n7 h7, f78.kept h7 nf, (r6.mono f7.up).mono f78.up, q8⟩
      · have e : es.drop j = [] := List.drop_eq_nil_of_le (by omega)
        rw [e] at q6
        exact .inl ⟨io1.stop j R6 Hk s6 g6.bas (by omega), R6, ac6, av6, g6, n6, h6, r6, q6⟩
    | false =>
      rw [if_neg Bool.false_ne_true] at q4
      exact iteF ⟨R4, acc, accV, (f2.trans f3).trans f34, n4, h4, (r2.mono f3.up).mono f34.up, q4⟩
  · have e : ds.drop i = [] := List.drop_eq_nil_of_le (by omega)
    rw [e] at q2
    have fz := f2.frz hD h2 n2 nf
    exact .inl ⟨io.stop i R2 Hh f2.up f2.bas (by omega), kQ _ _ ⟨_, .lst acc, f1.trans fz, ⟨D, accV, rfl, upd_same, r2.mono (up_upd n2)⟩, q2⟩⟩
theorem de_lc2 {tg1 iter1 : Expr} {ifs ifs1 : List Expr} {scope : Scope} {own : List (Str × Nat)} {vs1 : List Nat} {U U1 : TL} {g g1 : TGD} {A1 : TB} (hc : X.calm = true) (hN : X.N.Nodup) (hi : DI X W tg iter U) (ok : BlkOk X.N X.env.scope scope own) (hv : ∀ i ∈ vs1, i ∈ own.map (·.2))
    (hg : ∀ (s : Shared) (H : Hp) (C : Addr) (cl : List (Str × Addr)) (fp : List Addr), DG (X.blk s H scope (compEnvC scope cl C X.env) fp) (own.map (·.2)) tg g)
    (ht : ∀ (s : Shared) (H : Hp) (C : Addr) (cl : List (Str × Addr)) (fp : List Addr), PTs (X.blk s H scope (compEnvC scope cl C X.env) fp) ifs (tB3 X.K WF A))
    (hi1 : ∀ (s : Shared) (H : Hp) (C : Addr) (cl : List (Str × Addr)) (fp : List Addr), DI (X.blk s H scope (compEnvC scope cl C X.env) fp) WF tg1 iter1 U1)
    (hg1 : ∀ (s : Shared) (H : Hp) (C : Addr) (cl : List (Str × Addr)) (fp : List Addr), DG (X.blk s H scope (compEnvC scope cl C X.env) fp) vs1 tg1 g1)
    (ht1 : ∀ (s : Shared) (H : Hp) (C : Addr) (cl : List (Str × Addr)) (fp : List Addr), PTs (X.blk s H scope (compEnvC scope cl C X.env) fp) ifs1 (tB3 X.K WF A1))
    (he : ∀ (s : Shared) (H : Hp) (C : Addr) (cl : List (Str × Addr)) (fp : List Addr), DE (X.blk s H scope (compEnvC scope cl C X.env) fp) WF elt T)
    (hs : ∀ x, foldedSetIterable iter X.env x = pure x := by intro _; rfl) (hs1 : ∀ env x, foldedSetIterable iter1 env x = pure x := by intro _ _; rfl) :
    DE X W (.ListComp elt [⟨tg, iter, ifs, 0⟩, ⟨tg1, iter1, ifs1, 0⟩] scope pos) (TLc2 U g A U1 g1 A1 T (own.map (·.2)) vs1) :=
  de_mk (pe_lc2 hc hN hi ok hv hg ht hi1 hg1 ht1 he hs hs1) fun S R H σ env φ lk ok q => lc2_ask lk ok q fun _ _ p => p
theorem ds_setLc2 {i : Nat} {y : Str} {py spos : Pos} {tg1 iter1 : Expr} {ifs ifs1 : List Expr} {scope : Scope} {own : List (Str × Nat)} {vs1 : List Nat} {U U1 : TL} {g g1 : TGD} {A1 : TB} (hc : X.calm = true) (hN : X.N.Nodup) (hy : X.N[i]? = some y) (hyl : X.env.scope.names.lookup y = some .local)
    (hsw : swapsWith (.ListComp elt [⟨tg, iter, ifs, 0⟩, ⟨tg1, iter1, ifs1, 0⟩] scope pos) (some (.Name y py)) spos.line X.env = pure true) (hi : DI X W tg iter U) (ok : BlkOk X.N X.env.scope scope own) (hv : ∀ i ∈ vs1, i ∈ own.map (·.2))
    (hg : ∀ (s : Shared) (H : Hp) (C : Addr) (cl : List (Str × Addr)) (fp : List Addr), DG (X.blk s H scope (compEnvC scope cl C X.env) fp) (own.map (·.2)) tg g)
    (ht : ∀ (s : Shared) (H : Hp) (C : Addr) (cl : List (Str × Addr)) (fp : List Addr), PTs (X.blk s H scope (compEnvC scope cl C X.env) fp) ifs (tB3 X.K WF A))
    (hi1 : ∀ (s : Shared) (H : Hp) (C : Addr) (cl : List (Str × Addr)) (fp : List Addr), DI (X.blk s H scope (compEnvC scope cl C X.env) fp) WF tg1 iter1 U1)
    (hg1 : ∀ (s : Shared) (H : Hp) (C : Addr) (cl : List (Str × Addr)) (fp : List Addr), DG (X.blk s H scope (compEnvC scope cl C X.env) fp) vs1 tg1 g1)
    (ht1 : ∀ (s : Shared) (H : Hp) (C : Addr) (cl : List (Str × Addr)) (fp : List Addr), PTs (X.blk s H scope (compEnvC scope cl C X.env) fp) ifs1 (tB3 X.K WF A1))
    (he : ∀ (s : Shared) (H : Hp) (C : Addr) (cl : List (Str × Addr)) (fp : List Addr), DE (X.blk s H scope (compEnvC scope cl C X.env) fp) WF elt T)
    (hs : ∀ x, foldedSetIterable iter X.env x = pure x := by intro _; rfl) (hs1 : ∀ env x, foldedSetIterable iter1 env x = pure x := by intro _ _; rfl) :
    DS X W (.Assign [.Name y py] (.ListComp elt [⟨tg, iter, ifs, 0⟩, ⟨tg1, iter1, ifs1, 0⟩] scope pos) spos) (TSet i (TLc2 U g A U1 g1 A1 T (own.map (·.2)) vs1)) :=
  ds_mk (ps_setLc2 hc hN hy hyl hsw hi ok hv hg ht hi1 hg1 ht1 he hs hs1) fun S R H σ env D3 lk ok q => lc2_ask lk ok q fun v H' ⟨R', d, f, r, q'⟩ => ⟨R', _, (ok.through f).put r, q'⟩
end
end L3
namespace L3
open PySem PySem.Spec PyProof.Rows L2
theorem cxUpN {P : Program} {w : World} : StX.CXUp (L2N.CX P w) := by
  rintro outer s H s2 H2 E e s' un kp ho ⟨a, B, H', cls, d, ea, fl, hok, ub, na, os, ag, he⟩
  refine ⟨a, B, H', cls, d, ea, fl, hok, ⟨fun b o q n hb => ub.keep b o (kp b o q) (un.free b o q n (by simp)) hb, fun b o q hb => ub.slot b o (kp b o q) hb, fun b o q n => ub.free b o (kp b o q) (un.free b o q n (by simp)),
    fun b o q hb => ub.there b o (kp b o q) hb, fun b xs q => ub.tups b xs (un.tups b xs q), fun b o xs q => ub.frzs b o xs (un.frzs b o xs q), fun b ps q => ?_⟩, na, os.trans ho, ag, he⟩
  obtain ⟨m1, e1⟩ := un.tbls b ps q
  obtain ⟨m2, e2⟩ := ub.tbls b _ e1
  exact ⟨m1 ++ m2, by rw [e2, Array.append_assoc]⟩
/-! ### what a def promises, by what is held -/
abbrev TF := Wd → List D → (D → Prop) → (Er → Prop) → Prop
def spW (K : PySem.W.Frag) (F : TF) : Sp := fun vs H Q E => ∃ (wd : Wd) (R : Hp) (ds : List D) (φ : D → Prop) (ε : Er → Prop), Bas wd R H ∧ Reps K R ds vs ∧ F wd ds φ ε ∧
  (∀ v R' H' d, Fin wd R H R' H' → Rep K R' d v → φ d → Q v H') ∧ ∀ cls od R' H' ex, Fin wd R H R' H' → XRep K R' ex cls od → ε ex → E cls od H'
/-- a def that keeps it, called by values -/
abbrev Fn3 (P : Program) (w : World) (K : PySem.W.Frag) (mg : Str → Option Value) (base : Heap) (k : Nat) (f : Addr) (F : TF) : Prop := FnR P w K mg base (L2N.CX P w) k f (spW K F)
theorem Fn3.mono {P : Program} {w : World} {K : PySem.W.Frag} {mg : Str → Option Value} {base : Heap} {j k : Nat} {f : Addr} {F : TF} (h : Fn3 P w K mg base j f F) (q : j ≤ k) : Fn3 P w K mg base k f F := FnR.mono h q
theorem Fn3.imp {P : Program} {w : World} {K : PySem.W.Frag} {mg : Str → Option Value} {base : Heap} {k : Nat} {f : Addr} {F G : TF} (h : Fn3 P w K mg base k f F) (q : ∀ wd ds φ ε, G wd ds φ ε → F wd ds φ ε) : Fn3 P w K mg base k f G :=
  FnR.imp h fun vs H Q E ⟨wd, R, ds, φ, ε, b, r, g, z⟩ => ⟨wd, R, ds, φ, ε, b, r, q _ _ _ _ g, z⟩
section
variable {X : Cx} {W : WX} {pos : Pos} {e : Expr} {es : List Expr} {U : TL} {F : TF} {k : Nat} {f : Addr} {x : Str} {p0 : Pos}
/-- a callee, at the names as they stand -/
theorem call_at {sp : Sp} {pins : List (Addr × Obj)} {σ : L2.St} {H : Hp} {s : Shared} {Q : VK} {us : List Value} {vs : List V} (F : FnR X.prog X.w X.K X.mg X.base (L2N.CX X.prog X.w) k f sp) (hr : Room k X.A) (tk : L2N.Takes X W)
    (I : Inv X pins σ H s) (r : Vals vs us) (h : sp vs H Q (WE W σ)) : wpAny (model X.prog X.w) X.A (call (.ref f) us) (EP X pins σ Q) X.xe s :=
  wpAny_call (codeAny_mono (F X.A X.stack s H us vs Q _ hr I.env0 r h) fun res s' hres => match res, hres with
    | .error er, hres => L2N.passAt tk σ pins H s er s' I hres
    | .ok (.ret u), hres => I.after hres)
/-- a new instance by its __init__, at the names as they stand -/
theorem make_at {sp : Sp} {C : Addr} {pins : List (Addr × Obj)} {σ : L2.St} {H : Hp} {s : Shared} {Q : VK} {us : List Value} {vs : List V} (M : Mk X.K C f) (F : FnR X.prog X.w X.K X.mg X.base (L2N.CX X.prog X.w) k f sp) (hr : Room (k + 1) X.A) (tk : L2N.Takes X W)
    (I : Inv X pins σ H s) (r : Vals vs us) (h : ∀ a dx, H a = none → H dx = none → dx ≠ a → sp (.ref a :: vs) (upd (upd H dx (.own a)) a (.ins C dx [])) (fun v H2 => v = .non ∧ Q (.ref a) H2) fun cls od H2 => WE W σ cls od H2) :
    wpAny (model X.prog X.w) X.A (call (.ref C) us) (EP X pins σ Q) X.xe s := by
  have J := Inv.made (C := C) I
  refine wpAny_call (make_map (f := f) I.kIn M.makes M.init (beq_iff_eq.mp M.fn) (codeAny_mono (F _ X.stack _ _ (.ref (s.heap.objs.size + 1) :: us) (.ref (s.heap.objs.size + 1) :: vs) _ _ (hr.make C us []) (J.env0.make C us []) (.cons rfl r)
    (h (s.heap.objs.size + 1) s.heap.objs.size (I.hok.fresh (Nat.le_succ _)) (I.hok.fresh (Nat.le_refl _)) (Nat.ne_of_lt (Nat.lt_succ_self _)))) fun res s' hres => ?_))
  match res, hres with
  | .error er, hres => exact L2N.passAt tk σ pins _ _ er s' J hres
  | .ok (.ret u), hres =>
    obtain ⟨v, H', J2, rv, ev, q⟩ := J.after hres
    subst ev
    exact ⟨rv, V.ref (s.heap.objs.size + 1), H', J2, rfl, q⟩
/-- the call of a def, by what is held -/
def TCall (F : TF) (U : TL) : TD := fun c env φ => U c env fun ds => F c.wd ds φ fun ex => c.er ex env
theorem spW_ask {S : Sta} {R H : Hp} {σ : L2.St} {env : Ev} {φ : D → Prop} {Q : VK} {vs : List V} {ds : List D} (lk : Lk X.K S W) (ok : Ok3 X.K S R H σ env) (r : Reps X.K R ds vs) (h : F S.c.wd ds φ fun ex => S.c.er ex env)
    (kQ : ∀ v H', Pst X.K S.c R H φ v H' → Q v H') : spW X.K F vs H Q (WE W σ) :=
  ⟨S.c.wd, R, ds, φ, _, ok.bas, r, h, fun v R' H' d f rv q => kQ v H' ⟨R', d, f, rv, q⟩, fun cls od R' H' ex f xr q => lk R' H' σ env cls od ex (ok.through f) xr q⟩
theorem tcall_ask {S : Sta} {R H : Hp} {σ : L2.St} {env : Ev} {φ : D → Prop} (lk : Lk X.K S W) (ok : Ok3 X.K S R H σ env) (h : TCall F U S.c env φ) : tL3 X.K W U σ H fun vs H1 => spW X.K F vs H1 (Pst X.K S.c R H φ) (WE W σ) :=
  tL3.ask lk ok h fun R1 H1 ds vs f1 ok1 r1 q1 => spW_ask lk ok1 r1 q1 fun v H' p => Pst.from f1 p
theorem de_call (G : Fn3 X.prog X.w X.K X.mg X.base k f F) (hr : Room k X.A) (hG : Gl X x) (hM : X.mg x = some (.ref f)) (hK : PySem.W.keepIn X.K (.ref f) = true) (tk : L2N.Takes X W) (ha : DA X W (e :: es) U)
    (hD : (x == ("__debug__" : Str)) = false := by decide) (hS : starEach (e :: es) X.env = (false, eval e X.env) :: starEach es X.env := by rfl) (hP : (backTo pos (starEach es X.env)).any (·.1) = false := by rfl) : DE X W (.Call (.Name x p0) (e :: es) [] pos) (TCall F U) :=
  de_mk (t := fun σ H Q => tL3 X.K W U σ H fun vs H1 => spW X.K F vs H1 Q (WE W σ)) ⟨fun pins s σ H Q I h => wpAny_Call_Name_kw (ld_glob I hG hM (PySem.W.callWith_K (h₀ := X.base) I.ok.mod.kin hK (thn (ha.run pos pins s σ H _ I h)
    fun us s1 ⟨vs, H1, I1, r, q⟩ => ⟨I1.kIn, call_at G hr tk I1 r q⟩) hS hP) hD)⟩ fun S R H σ env φ lk ok h => tcall_ask lk ok h
theorem de_call0 (G : Fn3 X.prog X.w X.K X.mg X.base k f F) (hr : Room k X.A) (hG : Gl X x) (hM : X.mg x = some (.ref f)) (hK : PySem.W.keepIn X.K (.ref f) = true) (tk : L2N.Takes X W)
    (hD : (x == ("__debug__" : Str)) = false := by decide) : DE X W (.Call (.Name x p0) [] [] pos) (TCall F TNil) :=
  de_mk (t := fun σ H Q => spW X.K F [] H Q (WE W σ)) ⟨fun pins s σ H Q I h => wpAny_Call_Name_kw (ld_glob I hG hM (PySem.W.callWith_K0 I.kIn hK (call_at (us := []) G hr tk I .nil h)) hD)⟩ fun S R H σ env φ lk ok h => spW_ask lk ok (show Reps X.K R [] [] from rfl) h fun _ _ p => p
/-- f(a, .., *xs) -/
theorem de_callS (G : Fn3 X.prog X.w X.K X.mg X.base k f F) (hr : Room k X.A) (hG : Gl X x) (hM : X.mg x = some (.ref f)) (hK : PySem.W.keepIn X.K (.ref f) = true) (tk : L2N.Takes X W) (ha : DA X W (e :: es) U)
    (hD : (x == ("__debug__" : Str)) = false := by decide) (hS : starEach (e :: es) X.env = (false, eval e X.env) :: starEach es X.env := by rfl) (hP : (backTo pos (starEach es X.env)).any (·.1) = true := by rfl) : DE X W (.Call (.Name x p0) (e :: es) [] pos) (TCall F U) :=
  de_mk (t := fun σ H Q => tL3 X.K W U σ H fun vs H1 => spW X.K F vs H1 Q (WE W σ)) ⟨fun pins s σ H Q I h => wpAny_Call_Name_kw (ld_glob I hG hM (PySem.W.callWith_S2 (h₀ := X.base) I.ok.mod.kin hK (thn (ha.run pos pins s σ H _ I h)
    fun us s1 ⟨vs, H1, I1, r, q⟩ => ⟨I1.kIn, call_at G hr tk I1 r q⟩) hS hP) hD)⟩ fun S R H σ env φ lk ok h => tcall_ask lk ok h
/-- *xs among the arguments -/
def TStar (T : TD) (U : TL) : TL := fun c env φ => T c env fun x => ∃ xs, (x = .tup xs ∨ x = .lst xs) ∧ U c env fun ys => φ (xs ++ ys)
theorem da_star {T : TD} {p : Pos} (he : DE X W e T) (hr : DA X W es U) (hs : starEach (.Starred e p :: es) X.env = (true, eval e X.env) :: starEach es X.env := by rfl) : DA X W (.Starred e p :: es) (TStar T U) :=
  da_mk (StX.pa_star he hr hs) fun S R H σ env φ lk ok h => tD.ask lk ok h fun R1 H1 d v f1 ok1 r1 ⟨xs, ed, q1⟩ => by
    rcases ed with ed | ed
    · subst ed
      obtain ⟨p, vs, e1, hh, hr1⟩ := rep_tup r1
      subst e1
      exact ⟨p, vs, rfl, .inl (SqT.of (ok1.bas.sub _ _ hh)), tL3.ask lk ok1 q1 fun R2 H2 ds us f2 ok2 r2 q2 => ⟨R2, xs ++ ds, f1.trans f2, (hr1.mono f2.up).append r2, q2⟩⟩
    · subst ed
      obtain ⟨p, vs, e1, hh, hr1⟩ := rep_lst r1
      subst e1
      exact ⟨p, vs, rfl, .inr (SqL.of (ok1.bas.sub _ _ hh)), tL3.ask lk ok1 q1 fun R2 H2 ds us f2 ok2 r2 q2 => ⟨R2, xs ++ ds, f1.trans f2, (hr1.mono f2.up).append r2, q2⟩⟩
end

/-! ### the promise of an __init__ -/
abbrev TFI := Wd → List D → (List (Str × D) → Prop) → (Er → Prop) → Prop
def spI (K : PySem.W.Frag) (C : Addr) (F : TFI) : Sp := fun vs H Q E => ∃ (a dx : Addr) (ws : List V) (wd : Wd) (R H1 : Hp) (ds : List D) (φ : List (Str × D) → Prop) (ε : Er → Prop), vs = .ref a :: ws ∧ H1 a = none ∧ H1 dx = none ∧ dx ≠ a ∧
  H = upd (upd H1 dx (.own a)) a (.ins C dx []) ∧ Bas wd R H1 ∧ Reps K R ds ws ∧ F wd ds φ ε ∧
  (∀ R' H' fs fvs dx', Fin wd R H1 R' H' → R' a = none → H' a = some (.ins C dx' fvs) → RepF K R' fs fvs → φ fs → Q .non H') ∧ ∀ cls od R' H' ex, Fin wd R H1 R' H' → XRep K R' ex cls od → ε ex → E cls od H'
abbrev FnI (P : Program) (w : World) (K : PySem.W.Frag) (mg : Str → Option Value) (base : Heap) (k : Nat) (C f : Addr) (F : TFI) : Prop := FnR P w K mg base (L2N.CX P w) k f (spI K C F)
section
variable {X : Cx} {W : WX} {pos : Pos} {e : Expr} {es : List Expr} {U : TL} {F : TFI} {k : Nat} {f C : Addr} {x : Str} {p0 : Pos}
def TMake (C : Addr) (F : TFI) (U : TL) : TD := fun c env φ => U c env fun ds => F c.wd ds (fun fs => φ (.ins C fs)) fun ex => c.er ex env
theorem spI_ask {S : Sta} {R H : Hp} {σ : L2.St} {env : Ev} {φ : D → Prop} {vs : List V} {ds : List D} {R0 H0 : Hp} (f0 : Fin S.c.wd R0 H0 R H) (lk : Lk X.K S W) (ok : Ok3 X.K S R H σ env) (r : Reps X.K R ds vs) (h : F S.c.wd ds (fun fs => φ (.ins C fs)) fun ex => S.c.er ex env) {a dx : Addr} (ha : H a = none) (hd : H dx = none) (hne : dx ≠ a) :
    spI X.K C F (.ref a :: vs) (upd (upd H dx (.own a)) a (.ins C dx [])) (fun v H2 => v = .non ∧ Pst X.K S.c R0 H0 φ (.ref a) H2) fun cls od H2 => WE W σ cls od H2 :=
  ⟨a, dx, vs, S.c.wd, R, H, ds, _, _, rfl, ha, hd, hne, rfl, ok.bas, r, h, fun R' H' fs fvs dx' f hR hH rf q => ⟨rfl, _, .ins C fs, f0.trans (f.frz ha hH hR (not_foot ok.bas ha)), ⟨a, dx', fvs, rfl, upd_same, rf.mono (up_upd hR)⟩, q⟩,
    fun cls od R' H' ex f xr q => lk R' H' σ env cls od ex (ok.through f) xr q⟩
theorem tmake_ask {S : Sta} {R H : Hp} {σ : L2.St} {env : Ev} {φ : D → Prop} (lk : Lk X.K S W) (ok : Ok3 X.K S R H σ env) (h : TMake C F U S.c env φ) :
    tL3 X.K W U σ H fun vs H1 => ∀ a dx, H1 a = none → H1 dx = none → dx ≠ a → spI X.K C F (.ref a :: vs) (upd (upd H1 dx (.own a)) a (.ins C dx [])) (fun v H2 => v = .non ∧ Pst X.K S.c R H φ (.ref a) H2) fun cls od H2 => WE W σ cls od H2 :=
  tL3.ask lk ok h fun R1 H1 ds vs f1 ok1 r1 q1 a dx ha hd hne => spI_ask f1 lk ok1 r1 q1 ha hd hne
abbrev tMk3 (K : PySem.W.Frag) (W : WX) (C : Addr) (F : TFI) (U : TL) : TE := fun σ H Q => tL3 K W U σ H fun vs H1 => ∀ a dx, H1 a = none → H1 dx = none → dx ≠ a → spI K C F (.ref a :: vs) (upd (upd H1 dx (.own a)) a (.ins C dx [])) (fun v H2 => v = .non ∧ Q (.ref a) H2) fun cls od H2 => WE W σ cls od H2
theorem de_make (M : Mk X.K C f) (G : FnI X.prog X.w X.K X.mg X.base k C f F) (hr : Room (k + 1) X.A) (hG : Gl X x) (hM : X.mg x = some (.ref C)) (tk : L2N.Takes X W) (ha : DA X W (e :: es) U)
    (hD : (x == ("__debug__" : Str)) = false := by decide) (hS : starEach (e :: es) X.env = (false, eval e X.env) :: starEach es X.env := by rfl) (hP : (backTo pos (starEach es X.env)).any (·.1) = false := by rfl) : DE X W (.Call (.Name x p0) (e :: es) [] pos) (TMake C F U) :=
  de_mk (t := tMk3 X.K W C F U) ⟨fun pins s σ H Q I h => wpAny_Call_Name_kw (ld_glob I hG hM (PySem.W.callWith_K (h₀ := X.base) I.ok.mod.kin M.kp (thn (ha.run pos pins s σ H _ I h)
    fun us s1 ⟨vs, H1, I1, r, q⟩ => ⟨I1.kIn, make_at M G hr tk I1 r q⟩) hS hP) hD)⟩ fun S R H σ env φ lk ok h => tmake_ask lk ok h
theorem de_makeS (M : Mk X.K C f) (G : FnI X.prog X.w X.K X.mg X.base k C f F) (hr : Room (k + 1) X.A) (hG : Gl X x) (hM : X.mg x = some (.ref C)) (tk : L2N.Takes X W) (ha : DA X W (e :: es) U)
    (hD : (x == ("__debug__" : Str)) = false := by decide) (hS : starEach (e :: es) X.env = (false, eval e X.env) :: starEach es X.env := by rfl) (hP : (backTo pos (starEach es X.env)).any (·.1) = true := by rfl) : DE X W (.Call (.Name x p0) (e :: es) [] pos) (TMake C F U) :=
  de_mk (t := tMk3 X.K W C F U) ⟨fun pins s σ H Q I h => wpAny_Call_Name_kw (ld_glob I hG hM (PySem.W.callWith_S2 (h₀ := X.base) I.ok.mod.kin M.kp (thn (ha.run pos pins s σ H _ I h)
    fun us s1 ⟨vs, H1, I1, r, q⟩ => ⟨I1.kIn, make_at M G hr tk I1 r q⟩) hS hP) hD)⟩ fun S R H σ env φ lk ok h => tmake_ask lk ok h
end
end L3
/-! != where a class has its own __eq__ and object's __ne__ -/
namespace L3
open PySem PySem.W PySem.Calls PyProof.Rows
section
variable {prog : Program} {w : World} {A : Around} {E : Value → Shared → Prop} {s : Shared} {K : Frag} {x C L f : Addr} {h₀ : Heap} {m : Str → Option Value} {ox : Obj} {od : Option Obj} {b tb : Value}
theorem objne_run (hu : A.units < cLine) (X : K.In s.heap) (I : InstAt s.heap x ox C od) (hs : findIn K (.ref C) "__eq__" = some (some (.ref f))) (hf : isFn K (.ref f) = true) {Q : PySem.Fin → Shared → Prop}
    (h : wpAny (model prog w) A (call (.ref f) [.ref x, b]) (fun v s' => ∃ k, v = .bool k ∧ Q (.done (.ret (.bool (!k)))) s') E s) : wpAny (model prog w) A (Builtin.«object.__ne__» ⟨[.ref x, b], []⟩) Q E s := by
  unfold Builtin.«object.__ne__»
  repeat (first
    | with_reducible refine wpAny_cRoomFor hu ?_
    | (refine wpAny_bind (m := callSpecialIfBound? (.ref x) (Str.ofString "__eq__") [b]) (ifBound_K X I hs hf (wpAny_mono h (fun r s' hr => by
          obtain ⟨k, rfl, hq⟩ := hr
          repeat (first | exact hq | exact wpAny_pure hq | exact wpAny_truthy_bool hq | (refine wpAny_bind (m := truthy (.bool _)) (wpAny_truthy_bool ?_)) | wp_step)) fun _ _ e => e)))
    | wp_step)
theorem ne_here {op : CmpOp} (hop : op = .NotEq) {Q : Value → Shared → Prop} (hu : A.units + 1 < cLine) (X : K.In s.heap) (I : InstAt s.heap x ox C od) (hb : Looks (model prog w) s.heap (typeOf b) tb) (hn : notFirst K C tb = true)
    (hN : findIn K (.ref C) "__ne__" = some (some (.builtin "object.__ne__"))) (hob : mroIn K C (.type "object") = some true) (hs : findIn K (.ref C) "__eq__" = some (some (.ref f))) (hf : isFn K (.ref f) = true)
    (h : wpAny (model prog w) A.in1 (call (.ref f) [.ref x, b]) (fun v s' => ∃ k, v = .bool k ∧ Q (.bool (!k)) s') E s) : wpAny (model prog w) A (richCompare op (.ref x) b) Q E s := by
  subst hop
  have called : wpAny (model prog w) A (call (.builtin "object.__ne__") [.ref x, b]) (fun v s' => ∃ k, v = .bool k ∧ Q (.bool k) s') E s := by
    refine wpAny_call (codeAny_call_builtin PySem.F.cmp_object.ne.plain PySem.F.cmpEntry_ne (check_slot (owner := "object") (n := "__ne__") PySem.F.cmpKind_ne PySem.F.cmpSplit_ne (I.type.andThen (looks_mroIn X hob)) (PySem.F.cmpArgs_ne _ _) ?_))
    refine objne_run (A := A.in1) hu X I hs hf (wpAny_mono h (fun v s' hv => ?_) fun _ _ e => e)
    obtain ⟨k, rfl, q⟩ := hv
    exact ⟨k, rfl, _, rfl, q⟩
  have one : wpAny (model prog w) A (tryCompare (.ref x) "__ne__" b) (fun r s' => ∃ v, r = some v ∧ Q v s') E s := by
    unfold tryCompare
    simp only [callSpecialIfBound?, bindSpecialIfBound?]
    refine wpAny_bind (wpAny_holding (wpAny_bind (wpAny_bind (wpAny_bind (I.type.here ((looks_findIn X hN).here ?_))))))
    refine wpAny_bind (wpAny_askSetting (wpAny_ite ?_))
    have fin : wpAny (model prog w) A (call (.builtin "object.__ne__") ([.ref x] ++ [b]) >>= fun v => pure (some v)) (fun a s => wpAny (model prog w) A (match a with
        | some Value.notImplemented => pure none
        | none => pure none
        | some v => pure (some v)) (fun r s' => ∃ v, r = some v ∧ Q v s') E s) E s := wpAny_bind (wpAny_mono called (fun v s' hv => by
      obtain ⟨k, rfl, q⟩ := hv
      exact wpAny_pure (wpAny_pure ⟨_, rfl, q⟩)) fun _ _ e => e)
    have bnd := PySem.F.cmp_object.ne.bind (.ref x)
    split
    · exact wpAny_bind (wpAny_of_eq bnd (wpAny_pure (by exact fin)))
    · exact wpAny_tryCatch (wpAny_bind (wpAny_of_eq bnd (wpAny_pure (by exact fin))))
  unfold richCompare
  simp only [oneThing_ref]
  refine wpAny_holding (wpAny_bind (wpAny_cRoomFor (Nat.lt_of_succ_lt hu) ?_))
  refine wpAny_bind (I.type.here (wpAny_bind (hb.here ?_)))
  split
  · rename_i q
    have e : subIn K tb (.ref C) = some false := by
      rcases Bool.or_eq_true_iff.mp hn with e | e
      · rw [beq_iff_eq.mp e] at q
        simp at q
      · exact beq_iff_eq.mp e
    refine wpAny_bind ((looks_subIn X e).here ?_)
    simp only [Bool.false_eq_true, if_false]
    refine wpAny_bind (wpAny_mono one (fun r s' z => ?_) fun _ _ e => e)
    obtain ⟨v, rfl, hq⟩ := z
    exact wpAny_pure hq
  · refine wpAny_bind (wpAny_pure ?_)
    simp only [Bool.false_eq_true, if_false]
    refine wpAny_bind (wpAny_mono one (fun r s' z => ?_) fun _ _ e => e)
    obtain ⟨v, rfl, hq⟩ := z
    exact wpAny_pure hq
end
end L3
namespace L3
open PySem PySem.Spec PyProof.Rows L2
section
variable {X : Cx} {W : WX} {pos apos : Pos} {o e : Expr} {es : List Expr} {Ta : TD} {U : TL} {F : TF} {k : Nat} {f C : Addr} {m : Str}
/-! ### methods -/
def TMeth (C : Addr) (m : Str) (F : TF) (Ta : TD) (U : TL) : TD := fun c env φ => Ta c env fun x => ∃ fs, x = .ins C fs ∧ fs.lookup m = none ∧ U c env fun ds => F c.wd (x :: ds) φ fun ex => c.er ex env
theorem de_meth {pl : Sem Bool} (he : DE X W o Ta) (hc : Cls X.K C) (hm : Meth X.K C m f) (G : Fn3 X.prog X.w X.K X.mg X.base k f F) (hr : Room k X.A) (tk : L2N.Takes X W) (ha : DA X W (e :: es) U)
    (hS : starEach (e :: es) X.env = (false, eval e X.env) :: starEach es X.env := by rfl) (hP : (backTo pos (starEach es X.env)).any (·.1) = false := by rfl)
    (ht : eval (.Call (.Attribute o m apos) (e :: es) [] pos) X.env = (do let ov ← eval o X.env; standAt apos.atName; let (g, first) ← holding [ov] (getMethod ov m pl); callWith pos g first (backTo pos (starEach (e :: es) X.env)) (backToKw pos (keywordEach [] X.env))) := by rfl) :
    DE X W (.Call (.Attribute o m apos) (e :: es) [] pos) (TMeth C m F Ta U) :=
  de_mk (t := fun σ H Q => tD X.K W Ta σ H fun x H1 => ∃ a dx fs, x = .ref a ∧ H1 a = some (.ins C dx fs) ∧ fs.lookup m = none ∧ tL3 X.K W U σ H1 fun vs H2 => spW X.K F (x :: vs) H2 Q (WE W σ))
    ⟨fun pins s σ H Q I h => PySem.W.methodCall_KW (pl := pl) (thn (he.run pins s σ H _ I h) fun u s1 ⟨x, H1, I1, rx, a, dx, fs, ex, ea, l, q⟩ => by
      subst ex
      obtain rfl : u = Value.ref a := rx
      exact getmeth_ok I1 ea hc hm l (PySem.W.callWith_K (first := [.ref a]) (h₀ := X.base) I.ok.mod.kin hm.kp (thn (ha.run pos pins s1 σ H1 _ I1 q) fun us s2 ⟨vs, H2, I2, r, q2⟩ => ⟨I2.kIn, call_at (us := .ref a :: us) (vs := .ref a :: vs) G hr tk I2 (.cons rfl r) q2⟩) hS hP)) ht⟩
    fun S R H σ env φ lk ok h => tD.ask lk ok h fun R1 H1 d v f1 ok1 r1 ⟨fs, ed, l, q⟩ => by
      subst ed
      obtain ⟨p, dx, fvs, e2, hh, rf⟩ := rep_ins r1
      subst e2
      refine ⟨p, dx, fvs, rfl, ok1.bas.sub _ _ hh, rf.none l, tL3.ask lk ok1 q fun R2 H2 ds vs f2 ok2 r2 q2 => ?_⟩
      exact spW_ask lk ok2 (.cons (r1.mono f2.up) r2) q2 fun v H' p => Pst.from (f1.trans f2) p
theorem de_meth0 {pl : Sem Bool} (he : DE X W o Ta) (hc : Cls X.K C) (hm : Meth X.K C m f) (G : Fn3 X.prog X.w X.K X.mg X.base k f F) (hr : Room k X.A) (tk : L2N.Takes X W)
    (ht : eval (.Call (.Attribute o m apos) [] [] pos) X.env = (do let ov ← eval o X.env; standAt apos.atName; let (g, first) ← holding [ov] (getMethod ov m pl); callWith pos g first (backTo pos (starEach [] X.env)) (backToKw pos (keywordEach [] X.env))) := by rfl) :
    DE X W (.Call (.Attribute o m apos) [] [] pos) (TMeth C m F Ta TNil) :=
  de_mk (t := fun σ H Q => tD X.K W Ta σ H fun x H1 => ∃ a dx fs, x = .ref a ∧ H1 a = some (.ins C dx fs) ∧ fs.lookup m = none ∧ spW X.K F [x] H1 Q (WE W σ))
    ⟨fun pins s σ H Q I h => PySem.W.methodCall_KW (pl := pl) (thn (he.run pins s σ H _ I h) fun u s1 ⟨x, H1, I1, rx, a, dx, fs, ex, ea, l, q⟩ => by
      subst ex
      obtain rfl : u = Value.ref a := rx
      exact getmeth_ok I1 ea hc hm l (PySem.W.callWith_K0 (first := [.ref a]) I1.kIn hm.kp (call_at (us := [.ref a]) (vs := [.ref a]) G hr tk I1 (.cons rfl .nil) q))) ht⟩
    fun S R H σ env φ lk ok h => tD.ask lk ok h fun R1 H1 d v f1 ok1 r1 ⟨fs, ed, l, q⟩ => by
      subst ed
      obtain ⟨p, dx, fvs, e2, hh, rf⟩ := rep_ins r1
      subst e2
      exact ⟨p, dx, fvs, rfl, ok1.bas.sub _ _ hh, rf.none l, spW_ask lk ok1 (.one r1) q fun v H' p => Pst.from f1 p⟩
/-! ### a staticmethod of a class -/
structure SMet (K : PySem.W.Frag) (C : Addr) (m : Str) (p g : Addr) : Prop where
  cr : ClX.CRead K C (.type "type")
  at_ : PySem.W.findCls K (.ref C) (.type "type") m = some (.get (.builtin "staticmethod.__get__") (.ref p) .none (.ref C))
  rc : ∃ rest, PySem.W.recIn K p "staticmethod" = some (.ref g :: rest)
  kp : PySem.W.keepIn K (.ref g) = true
theorem de_smeth {pl : Sem Bool} {x : Str} {p0 : Pos} {p : Addr} (hm : SMet X.K C m p f) (G : Fn3 X.prog X.w X.K X.mg X.base k f F) (hr : Room k X.A) (hG : Gl X x) (hM : X.mg x = some (.ref C)) (tk : L2N.Takes X W) (ha : DA X W (e :: es) U) (hD : (x == ("__debug__" : Str)) = false := by decide)
    (hS : starEach (e :: es) X.env = (false, eval e X.env) :: starEach es X.env := by rfl) (hP : (backTo pos (starEach es X.env)).any (·.1) = false := by rfl)
    (ht : eval (.Call (.Attribute (.Name x p0) m apos) (e :: es) [] pos) X.env = (do let ov ← eval (.Name x p0) X.env; standAt apos.atName; let (g, first) ← holding [ov] (getMethod ov m pl); callWith pos g first (backTo pos (starEach (e :: es) X.env)) (backToKw pos (keywordEach [] X.env))) := by rfl) :
    DE X W (.Call (.Attribute (.Name x p0) m apos) (e :: es) [] pos) (TCall F U) :=
  de_mk (t := fun σ H Q => tL3 X.K W U σ H fun vs H1 => spW X.K F vs H1 Q (WE W σ))
    ⟨fun pins s σ H Q I h => PySem.W.methodCall_KW (pl := pl) (ld_glob I hG hM (by
      obtain ⟨rest, hp⟩ := hm.rc
      refine PySem.W.method_cls I.kIn hm.cr.ga (PySem.W.cls_bind I.kIn hm.cr.rd hm.at_ (wpAny_call (PySem.W.sm_get (s := { s with toks := s.toks + 1 }) I.kIn hp (PySem.W.handed_on rfl ?_))))
      have I' : Inv X pins σ H { s with toks := s.toks + 1 } := I.tok _
      exact PySem.W.callWith_K (first := []) (h₀ := X.base) I.ok.mod.kin hm.kp (thn (ha.run pos pins _ σ H _ I' h) fun us s2 ⟨vs, H2, I2, r, q2⟩ => ⟨I2.kIn, call_at (us := us) (vs := vs) G hr tk I2 r q2⟩) hS hP) hD) ht⟩
    fun S R H σ env φ lk ok h => tcall_ask lk ok h

/-! ### == and != by an own __eq__ that raises nothing -/
theorem call_q {sp : Sp} {A : Around} {E' : Value → Shared → Prop} {pins : List (Addr × Obj)} {σ : L2.St} {H : Hp} {s : Shared} {Q : VK} {us : List Value} {vs : List V} (G : FnR X.prog X.w X.K X.mg X.base (L2N.CX X.prog X.w) k f sp) (hr : Room k A) (e0 : Env0 X.prog X.w X.K X.mg X.base A X.stack s H)
    (I : Inv X pins σ H s) (r : Vals vs us) (h : sp vs H Q E0) : wpAny (model X.prog X.w) A (call (.ref f) us) (EP X pins σ Q) E' s :=
  wpAny_call (codeAny_mono (G A X.stack s H us vs Q _ hr e0 r h) fun res s' hres => match res, hres with
    | .error er, hres => by
      obtain ⟨_, _, _, _, _, _, _, _, _, _, _, _, z⟩ := hres
      exact z.elim
    | .ok (.ret u), hres => I.after hres)
theorem looks_ty {pins : List (Addr × Obj)} {σ : L2.St} {H R : Hp} {s : Shared} {M : Model} {d : D} {v : V} {u : Value} {w : Wd} (I : Inv X pins σ H s) (b : Bas w R H) (r : Rep X.K R d v) (ru : RelV v u) (t : tyOf d ≠ .none) : PySem.W.Looks M s.heap (typeOf u) (tyOf d) := by
  cases d
  case non =>
    rw [show v = .non from r] at ru
    obtain rfl : u = .none := ru
    exact .of_pure rfl
  case bl =>
    rw [show v = .bl _ from r] at ru
    obtain rfl : u = .bool _ := ru
    exact .of_pure rfl
  case int =>
    rw [show v = .int _ from r] at ru
    obtain ⟨t, rfl⟩ := ru
    exact .of_pure rfl
  case str =>
    rw [show v = .str _ from r] at ru
    obtain ⟨t, rfl⟩ := ru
    exact .of_pure rfl
  case ty => exact absurd rfl t
  case ref => exact absurd rfl t
  case exc => exact absurd rfl t
  case clo => exact absurd rfl t
  case lam => exact absurd rfl t
  case dic => exact absurd rfl t
  case tup ds =>
    obtain ⟨p, xs, e, hh, hr⟩ := rep_tup r
    subst e
    obtain rfl : u = Value.ref p := ru
    obtain ⟨_, its, _, ob, ho, hc, _⟩ := I.hok p _ (b.sub _ _ hh)
    intro A Q E s' kk q
    exact wpAny_typeOf_ref (kk _ _ ho) (by rw [hc]; exact q)
  case lst ds =>
    obtain ⟨p, xs, e, hh, hr⟩ := rep_lst r
    subst e
    obtain rfl : u = Value.ref p := ru
    obtain ⟨_, its, _, _, ho⟩ := I.hok p _ (b.sub _ _ hh)
    intro A Q E s' kk q
    exact wpAny_typeOf_ref (kk _ _ ho) q
  case ins C fs =>
    obtain ⟨p, dx, xs, e, hh, hr⟩ := rep_ins r
    subst e
    obtain rfl : u = Value.ref p := ru
    obtain ⟨mA, J, _⟩ := ins_get I.hok (b.sub _ _ hh)
    obtain ⟨od, J, _⟩ := J.look
    exact J.type
/-- what an own == must be -/
structure EqK (K : PySem.W.Frag) (C f : Addr) : Prop where
  eq : PySem.W.findIn K (.ref C) "__eq__" = some (some (.ref f))
  fn : PySem.W.isFn K (.ref f) = true
  ne : PySem.W.findIn K (.ref C) "__ne__" = some (some (.builtin "object.__ne__"))
  ob : PySem.W.mroIn K C (.type "object") = some true
def rOwnEq (K : PySem.W.Frag) (C : Addr) (F : TF) (neg : Bool) : R2 := fun x y H Q => ∃ wd R dx dy, Bas wd R H ∧ Rep K R dx x ∧ Rep K R dy y ∧ (∃ fs, dx = .ins C fs) ∧ tyOf dy ≠ .none ∧ PySem.W.notFirst K C (tyOf dy) = true ∧
  ∃ φ : D → Prop, F wd [dx, dy] (fun d => ∃ b, d = .bl b ∧ φ (.bl (if neg then !b else b))) (fun _ => False) ∧ ∀ v R' H' d, Fin wd R H R' H' → Rep K R' d v → φ d → Q v H'
def eqOwnF (K : PySem.W.Frag) (C : Addr) (F : TF) (neg : Bool) : Ct → F2 := fun c x y φ => (∃ fs, x = .ins C fs) ∧ tyOf y ≠ .none ∧ PySem.W.notFirst K C (tyOf y) = true ∧ F c.wd [x, y] (fun d => ∃ b, d = .bl b ∧ φ (.bl (if neg then !b else b))) (fun _ => False)
theorem op_ownEq (q : EqK X.K C f) (G : Fn3 X.prog X.w X.K X.mg X.base k f F) (hr : Room k X.A) : OpR X (compareOp .Eq) (rOwnEq X.K C F false) := by
  intro pins s σ H x y v u Q I rx ry ⟨wd, R, dx, dy, b, r1, r2, ⟨fs, e⟩, hty, hnf, φ, hF, hQ⟩
  have hl := looks_ty (M := model X.prog X.w) I b r2 ry hty
  subst e
  obtain ⟨p, d', fvs, e1, hh, rf⟩ := rep_ins r1
  subst e1
  obtain rfl : v = Value.ref p := rx
  obtain ⟨mA, J, _⟩ := ins_get I.hok (b.sub _ _ hh)
  obtain ⟨od, J, _⟩ := J.look
  obtain ⟨m, hF0⟩ := I.fr
  show wpAny (model X.prog X.w) X.A (richCompare .Eq (.ref p) u) (EP X pins σ Q) X.xe s
  refine PySem.W.cmp_K (op := .Eq) hr.units0 hF0 I.ok.mod.kin J hl hnf q.eq q.fn ?_
  refine thn (call_q (us := [.ref p, u]) (vs := [.ref p, y]) (Q := fun v H' => ∃ kk, v = .bl kk ∧ Q (.bl kk) H') G hr I.env0 I (.cons rfl (.cons ry .nil)) ⟨wd, R, [.ins C fs, dy], _, _, b, ⟨_, _, rfl, r1, _, _, rfl, r2, rfl⟩, hF, fun v R' H' d f r z => ?_, fun _ _ _ _ _ _ _ z => z.elim⟩) fun w s' ⟨z, H', I', rz, kk, ez, qq⟩ => ?_
  · obtain ⟨kk, ed, hφ⟩ := z
    subst ed
    exact ⟨kk, r, hQ _ R' H' (.bl kk) f rfl hφ⟩
  · subst ez
    obtain rfl : w = Value.bool kk := rz
    exact ⟨.bl kk, H', I', rfl, qq⟩
theorem op_ownNe (q : EqK X.K C f) (G : Fn3 X.prog X.w X.K X.mg X.base k f F) (hr : Room (k + 1) X.A) : OpR X (compareOp .NotEq) (rOwnEq X.K C F true) := by
  intro pins s σ H x y v u Q I rx ry ⟨wd, R, dx, dy, b, r1, r2, ⟨fs, e⟩, hty, hnf, φ, hF, hQ⟩
  have hl := looks_ty (M := model X.prog X.w) I b r2 ry hty
  subst e
  obtain ⟨p, d', fvs, e1, hh, rf⟩ := rep_ins r1
  subst e1
  obtain rfl : v = Value.ref p := rx
  obtain ⟨mA, J, _⟩ := ins_get I.hok (b.sub _ _ hh)
  obtain ⟨od, J, _⟩ := J.look
  show wpAny (model X.prog X.w) X.A (richCompare .NotEq (.ref p) u) (EP X pins σ Q) X.xe s
  refine ne_here rfl (hu_of hr) I.kIn J hl hnf q.ne q.ob q.eq q.fn ?_
  refine thn (call_q (us := [.ref p, u]) (vs := [.ref p, y]) (Q := fun v H' => ∃ kk, v = .bl kk ∧ Q (.bl (!kk)) H') G hr.in1 I.env0.in1 I (.cons rfl (.cons ry .nil)) ⟨wd, R, [.ins C fs, dy], _, _, b, ⟨_, _, rfl, r1, _, _, rfl, r2, rfl⟩, hF, fun v R' H' d f r z => ?_, fun _ _ _ _ _ _ _ z => z.elim⟩) fun w s' ⟨z, H', I', rz, kk, ez, qq⟩ => ?_
  · obtain ⟨kk, ed, hφ⟩ := z
    subst ed
    exact ⟨kk, r, hQ _ R' H' (.bl (!kk)) f rfl hφ⟩
  · subst ez
    obtain rfl : w = Value.bool kk := rz
    exact ⟨kk, rfl, .bl (!kk), H', I', rfl, qq⟩
end
end L3
namespace L3
open PySem PySem.Spec PyProof.Rows L2
section
variable {X : Cx} {W : WX} {pos : Pos} {a b : Expr} {Ta Tb : TD}
abbrev F2C := Ct → D → D → (D → Prop) → Prop
def OpDC (K : PySem.W.Frag) (r : R2) (f : F2C) : Prop := ∀ (c : Ct) (R H : Hp) (x y : V) (dx dy : D) (φ : D → Prop) (Q : VK), Bas c.wd R H → Rep K R dx x → Rep K R dy y → f c dx dy φ → (∀ v H', Pst K c R H φ v H' → Q v H') → r x y H Q
def TOpC (f : F2C) (Ta Tb : TD) : TD := fun c env φ => Ta c env fun x => Tb c env fun y => f c x y φ
theorem opc_ask {r : R2} {f : F2C} (k : OpDC X.K r f) {S : Sta} {R H : Hp} {σ : L2.St} {env : Ev} {φ : D → Prop} {Q : VK} (lk : Lk X.K S W) (ok : Ok3 X.K S R H σ env) (h : TOpC f Ta Tb S.c env φ) (kQ : ∀ v H', Pst X.K S.c R H φ v H' → Q v H') :
    tOp r (tD X.K W Ta) (tD X.K W Tb) σ H Q := by
  refine tD.ask lk ok h fun R1 H1 d1 v1 f1 ok1 r1 q1 => tD.ask lk ok1 q1 fun R2 H2 d2 v2 f2 ok2 r2 q2 => ?_
  exact k S.c R2 H2 v1 v2 d1 d2 φ _ ok2.bas (r1.mono f2.up) r2 q2 fun v H' p => kQ v H' (Pst.from (f1.trans f2) p)
theorem de_cmpC {op : CmpOp} {r : R2} {f : F2C} (ho : OpR X (compareOp op) r) (k : OpDC X.K r f) (ha : DE X W a Ta) (hb : DE X W b Tb) (hm : behindInMarks op b = false) : DE X W (.Compare a [op] [b] pos) (TOpC f Ta Tb) :=
  de_mk (pe_cmpR ho ha hb hm) fun S R H σ env φ lk ok h => opc_ask k lk ok h fun _ _ p => p
theorem dt_cmpC {op : CmpOp} {r : R2} {f : F2C} (ho : OpR X (compareOp op) r) (k : OpDC X.K r f) (ha : DE X W a Ta) (hb : DE X W b Tb) (hm : behindInMarks op b = false) : DT X W (.Compare a [op] [b] pos) (TTst (TOpC f Ta Tb)) :=
  dt_mk (pt_cmpR ho ha hb hm) fun S R H σ env φ lk ok h => by
    refine opc_ask (φ := fun d => ∃ k, d = .bl k ∧ φ k) k lk ok h fun v H' ⟨R1, d, f1, rr, k, e, q⟩ => ?_
    subst e
    exact ⟨k, rr, R1, f1, q⟩
theorem OpDC.or {K : PySem.W.Frag} {r r' : R2} {f f' : F2C} (h : OpDC K r f) (h' : OpDC K r' f') : OpDC K (fun x y H Q => r x y H Q ∨ r' x y H Q) (fun c x y φ => f c x y φ ∨ f' c x y φ) := fun c R H x y dx dy φ Q b r1 r2 q k => by
  rcases q with q | q
  · exact .inl (h c R H x y dx dy φ Q b r1 r2 q k)
  · exact .inr (h' c R H x y dx dy φ Q b r1 r2 q k)
theorem OpD.c {K : PySem.W.Frag} {r : R2} {f : F2} (h : OpD K r f) : OpDC K r (fun _ => f) := h
theorem opd_own {K : PySem.W.Frag} {C : Addr} {F : TF} {neg : Bool} : OpDC K (rOwnEq K C F neg) (eqOwnF K C F neg) := fun c R H x y dx dy φ Q b r1 r2 ⟨h1, h2, h3, h4⟩ k =>
  ⟨c.wd, R, dx, dy, b, r1, r2, h1, h2, h3, φ, h4, fun v R' H' d f r q => k v H' ⟨R', d, f, r, q⟩⟩
end

/-! ### the defs -/
def startD (N : List Str) (ds : List D) : Ev := ds.map .v ++ List.replicate (N.length - ds.length) .no
theorem start_ok {K : PySem.W.Frag} {R H : Hp} {N : List Str} : ∀ {ds : List D} {vs : List V}, Reps K R ds vs → Paired (SlOk K R H) (start N vs) (startD N ds) := by
  have key : ∀ {ds : List D} {vs : List V} (n : Nat), Reps K R ds vs → Paired (SlOk K R H) (vs.map some ++ List.replicate n none) (ds.map Sl.v ++ List.replicate n Sl.no) := by
    intro ds
    induction ds with
    | nil =>
      intro vs n h
      have e : vs = [] := h
      subst e
      show Paired (SlOk K R H) (List.replicate n none) (List.replicate n .no)
      induction n with
      | zero => exact .nil
      | succ n ih => exact .cons trivial ih
    | cons d ds ih =>
      intro vs n h
      obtain ⟨v, r, e, h1, h2⟩ := (show ∃ v r, vs = v :: r ∧ Rep K R d v ∧ Reps K R ds r from h)
      subst e
      exact .cons ⟨v, rfl, h1⟩ (ih n h2)
  intro ds vs h
  unfold L2.start startD
  rw [h.length]
  exact key _ h
theorem startD_ad {N : List Str} {ds : List D} {i : Nat} : adAt (startD N ds) i = none := by
  unfold adAt startD
  cases e : (ds.map Sl.v ++ List.replicate (N.length - ds.length) Sl.no)[i]? with
  | none => rfl
  | some s =>
    have hm := List.mem_of_getElem? e
    rcases List.mem_append.mp hm with h | h
    · obtain ⟨d, _, rfl⟩ := List.mem_map.mp h
      rfl
    · rw [(List.mem_replicate.mp h).2]
      rfl
section
variable {P : Program} {w : World} {K : PySem.W.Frag} {mg : Str → Option Value} {base : Heap} {x qual : Str} {params : Arguments} {body : List Stmt} {scope : Scope} {dvs : List V} {kws : List (Str × V)} {f : Addr} {fd : FuncData}
/-- the context of a def's body here -/
abbrev cx3 (P : Program) (w : World) (K : PySem.W.Frag) (mg : Str → Option Value) (base : Heap) (N : List Str) (qual : Str) (scope : Scope) (f : Addr) (cdv : Value) (A : Around) (outer : List Env) (s : Shared) (H : Hp) (E : XK) : Cx := cxOf (L2N.CX P w) P w K mg base N qual scope f cdv A outer s H E
/-- its wish about errors -/
abbrev W3 (E : XK) : WX := fun cls d _ H => E cls d H
theorem tk3 {N : List Str} {cdv : Value} {A : Around} {outer : List Env} {s : Shared} {H : Hp} {E : XK} : L2N.Takes (cx3 P w K mg base N qual scope f cdv A outer s H E) (W3 E) := L2N.takes_of rfl rfl rfl rfl
theorem ps3 {N : List Str} {cdv : Value} {A : Around} {outer : List Env} {s : Shared} {H : Hp} {E : XK} : PassesOwn (model P w) (cx3 P w K mg base N qual scope f cdv A outer s H E).A (cx3 P w K mg base N qual scope f cdv A outer s H E).env (cx3 P w K mg base N qual scope f cdv A outer s H E).xe := passes_of rfl
abbrev retD (φ : D → Prop) : EndD := { nx := fun _ => φ .non, rt := fun d _ => φ d }
/-- the reading of a body, from a def's entry -/
theorem body_ok {S : Sta} {R H : Hp} {σ : L2.St} {env : Ev} {W : WX} {T : TSD} {φ : D → Prop} {Q : VK} (lk : Lk K S W) (ok : Ok3 K S R H σ env) (h : T S.c (retD φ) env) (kQ : ∀ v R' H' d, Fin S.c.wd S.R0 S.H0 R' H' → Rep K R' d v → φ d → Q v H') :
    tS3 K W T { nx := fun _ H' => Q .non H', rt := Q } σ H :=
  ⟨S, R, env, _, lk, ok, h, ⟨fun R H σ env ok q => kQ _ R H .non ok.fin rfl q, fun R H σ env d v ok r q => kQ v R H d ok.fin r q, fun _ _ _ _ _ q => q.elim, fun _ _ _ _ _ q => q.elim⟩⟩
theorem start_ok3 {R H : Hp} {N : List Str} {ds : List D} {vs : List V} {c : Ct} (b : Bas c.wd R H) (r : Reps K R ds vs) : Ok3 K ⟨c, R, H, R⟩ R H (start N vs) (startD N ds) :=
  ⟨Fin.refl b, fun _ _ h => h, start_ok r, fun i p h => (by rw [startD_ad] at h; cases h), fun i j p h _ => (by rw [startD_ad] at h; cases h)⟩
/-- a def with plain parameters: n of them -/
theorem fn3 {N ps : List Str} {k : Nat} {F : TF} {T : TSD} (FD : FunD K x qual params body scope [] [] f fd) (Sc : FnScope N ps scope) (hb : Binds K fd ps []) (hn : ∀ wd ds φ ε, F wd ds φ ε → ds.length = ps.length)
    (hbody : ∀ (cdv : Value) (A : Around) (outer : List Env) (s : Shared) (H : Hp) (E : XK), Room k (A.deeper (envOfC qual scope s.heap.objs.size f cdv)) → DSs (cx3 P w K mg base N qual scope f cdv A outer s H E) (W3 E) body T)
    (hT : ∀ wd ds φ ε, F wd ds φ ε → T ⟨wd, fun ex _ => ε ex⟩ (retD φ) (startD N ds)) : Fn3 P w K mg base (k + 1) f F := by
  have G : FnOk P w K mg base (L2N.CX P w) (k + 1) f fd ps (spW K F) := by
    refine FD.ok Sc (fun vs H Q E h => ?_) fun cdv A outer s H vs Q E hr h => ?_
    · obtain ⟨wd, R, ds, φ, ε, b, r, hf, _⟩ := h
      rw [r.length]
      exact hn _ _ _ _ hf
    · obtain ⟨wd, R, ds, φ, ε, b, r, hf, hQ, hE⟩ := h
      exact ⟨_, hbody cdv A outer s H E hr, body_ok (S := ⟨⟨wd, fun ex _ => ε ex⟩, R, H, R⟩) (fun R' H' σ env cls od ex ok xr q => hE cls od R' H' ex ok.fin xr q) (start_ok3 (c := ⟨wd, fun ex _ => ε ex⟩) b r) (hT wd ds φ ε hf) hQ⟩
  have z := G.raw (ds := []) (dvs := []) hb .nil
  intro A outer s H us vs Q E hr e0 r hs
  exact z A outer s H us vs Q E hr e0 r (by show spW K F (vs ++ []) H Q E; rw [List.append_nil]; exact hs)
/-- a def with plain parameters and *rest -/
theorem fn3star {N ps : List Str} {pv : Str} {k : Nat} {F : TF} {T : TSD} (FD : FunD K x qual params body scope [] [] f fd) (Sc : FnScope N (ps ++ [pv]) scope)
    (hb : ∀ (kV doc pm : Value) (an : Option Addr) (cdv ct : Value) (us rest : List Value), us.length = ps.length → bindArgs (PySem.W.fnOf x qual params body scope .none kV doc pm an cdv ct) ⟨us ++ rest, []⟩ = (newTuple rest >>= fun t => pure (ps.zip us ++ [(pv, t)])))
    (hn : ∀ wd ds φ ε, F wd ds φ ε → ps.length ≤ ds.length ∧ ds.length ≤ sizeLine)
    (hbody : ∀ (cdv : Value) (A : Around) (outer : List Env) (s : Shared) (H : Hp) (E : XK), Room k (A.deeper (envOfC qual scope s.heap.objs.size f cdv)) → DSs (cx3 P w K mg base N qual scope f cdv A outer s H E) (W3 E) body T)
    (hT : ∀ wd ds φ ε, F wd ds φ ε → T ⟨wd, fun ex _ => ε ex⟩ (retD φ) (startD N (ds.take ps.length ++ [.tup (ds.drop ps.length)]))) : Fn3 P w K mg base (k + 1) f F := by
  obtain ⟨oc, od, dV, kV, doc, pm, an, cdv, ct, osl, rfl, lk, hcd, hD, _⟩ := FD.ex
  have eD : dV = .none := by
    rcases hD with ⟨_, e⟩ | ⟨e, _⟩
    · exact e
    · exact absurd rfl e
  subst eD
  have G := StX.fn_star (P := P) (w := w) (mg := mg) (base := base) (k := k) (sp := fun vs H Q E => ∃ (wd : Wd) (R : Hp) (ds : List D) (φ : D → Prop) (ε : Er → Prop), Bas wd R H ∧ Reps K R (ds.take ps.length ++ [.tup (ds.drop ps.length)]) vs ∧ F wd ds φ ε ∧
    (∀ v R' H' d, Fin wd R H R' H' → Rep K R' d v → φ d → Q v H') ∧ ∀ cls od R' H' ex, Fin wd R H R' H' → XRep K R' ex cls od → ε ex → E cls od H') lk hcd Sc cxUpN (hb kV doc pm an cdv ct) fun A outer s H vs Q E hr h => by
      obtain ⟨wd, R, ds, φ, ε, b, r, hf, hQ, hE⟩ := h
      exact ⟨_, hbody cdv A outer s H E hr, body_ok (S := ⟨⟨wd, fun ex _ => ε ex⟩, R, H, R⟩) (fun R' H' σ env cls od ex ok xr q => hE cls od R' H' ex ok.fin xr q) (start_ok3 (c := ⟨wd, fun ex _ => ε ex⟩) b r) (hT wd ds φ ε hf) hQ⟩
  refine FnR.imp G fun vs H Q E ⟨wd, R, ds, φ, ε, b, r, hf, hQ, hE⟩ => ?_
  obtain ⟨h1, h2⟩ := hn _ _ _ _ hf
  refine ⟨vs.take ps.length, vs.drop ps.length, (List.take_append_drop _ _).symm, by rw [List.length_take, r.length]; omega, by rw [List.length_drop, r.length]; omega, fun p hp => ?_⟩
  have fa := Fin.alloc (o := .tup (vs.drop ps.length)) b hp
  exact ⟨wd, _, ds, φ, ε, fa.bas, ((r.take _).mono fa.up).append (.one ⟨p, _, rfl, upd_same, (r.drop _).mono fa.up⟩), hf, fun v R' H' d f q => hQ v R' H' d (fa.trans f) q, fun cls od R' H' ex f q => hE cls od R' H' ex (fa.trans f) q⟩
/-! ### an __init__ -/
abbrev retI (C a : Addr) (φ : List (Str × D) → Prop) : EndD := { nx := fun env => ∃ fs, env[0]? = some (.oi a C fs) ∧ φ fs, rt := fun d env => d = .non ∧ ∃ fs, env[0]? = some (.oi a C fs) ∧ φ fs }
def startI (N : List Str) (C a : Addr) (ds : List D) : Ev := .oi a C [] :: startD (N.drop 1) ds
theorem startI_ok {C a dx : Addr} {N : List Str} {ds : List D} {ws : List V} {R H1 : Hp} {c : Ct} (hN : N ≠ []) (b : Bas c.wd R H1) (r : Reps K R ds ws) (ha : H1 a = none) (hd : H1 dx = none) (hne : dx ≠ a) :
    Ok3 K ⟨c, R, H1, R⟩ R (upd (upd H1 dx (.own a)) a (.ins C dx [])) (start N (.ref a :: ws)) (startI N C a ds) := by
  have f1 := Fin.fresh (o := .own a) b hd
  have ha2 : upd H1 dx (.own a) a = none := by rw [upd_ne hne.symm]; exact ha
  have f2 := f1.trans (Fin.fresh (o := .ins C dx []) f1.bas ha2)
  have e1 : start N (.ref a :: ws) = some (.ref a) :: start (N.drop 1) ws := by
    unfold L2.start
    rw [List.map_cons, List.cons_append, List.length_drop, List.length_cons]
    have : N.length - (ws.length + 1) = N.length - 1 - ws.length := by omega
    rw [this]
  rw [e1]
  refine ⟨f2, fun _ _ h => h, .cons ⟨rfl, dx, [], upd_same, rfl⟩ (start_ok r), fun i p h => ?_, fun i j p h1 h2 => ?_⟩
  · have hp : p = a := by
      cases i with
      | zero => exact (Option.some.inj h).symm
      | succ i =>
        have h' : adAt (startD (N.drop 1) ds) i = some p := h
        rw [startD_ad] at h'
        cases h'
    subst hp
    exact ⟨not_R b ha, ha, not_foot b ha⟩
  · cases i with
    | zero =>
      cases j with
      | zero => rfl
      | succ j =>
        have h' : adAt (startD (N.drop 1) ds) j = some p := h2
        rw [startD_ad] at h'
        cases h'
    | succ i =>
      have h' : adAt (startD (N.drop 1) ds) i = some p := h1
      rw [startD_ad] at h'
      cases h'
theorem bodyI_ok {C a : Addr} {S : Sta} {R H : Hp} {σ : L2.St} {env : Ev} {W : WX} {T : TSD} {φ : List (Str × D) → Prop} {Q : VK} (lk : Lk K S W) (ok : Ok3 K S R H σ env) (h : T S.c (retI C a φ) env)
    (kQ : ∀ R' H' fs fvs dx', Fin S.c.wd S.R0 S.H0 R' H' → R' a = none → H' a = some (.ins C dx' fvs) → RepF K R' fs fvs → φ fs → Q .non H') : tS3 K W T { nx := fun _ H' => Q .non H', rt := Q } σ H := by
  have go : ∀ R' H' σ' env', Ok3 K S R' H' σ' env' → (∃ fs, env'[0]? = some (.oi a C fs) ∧ φ fs) → Q .non H' := fun R' H' σ' env' ok' ⟨fs, e, q⟩ => by
    obtain ⟨_, dx, fvs, h1, h2⟩ := oi_at ok' e
    exact kQ R' H' fs fvs dx ok'.fin (ok'.own 0 a (ad_of e rfl)).1 h1 h2 q
  exact ⟨S, R, env, _, lk, ok, h, ⟨fun R H σ env ok q => go R H σ env ok q, fun R H σ env d v ok r ⟨ed, q⟩ => (by
    subst ed
    obtain rfl : v = .non := r
    exact go R H σ env ok q), fun _ _ _ _ _ q => q.elim, fun _ _ _ _ _ q => q.elim⟩⟩
/-- .. with plain parameters -/
theorem fnI3 {N ps : List Str} {k : Nat} {C : Addr} {F : TFI} {T : TSD} (FD : FunD K x qual params body scope [] [] f fd) (Sc : FnScope N ps scope) (hN : N ≠ []) (hb : Binds K fd ps []) (hn : ∀ wd ds φ ε, F wd ds φ ε → ds.length + 1 = ps.length)
    (hbody : ∀ (cdv : Value) (A : Around) (outer : List Env) (s : Shared) (H : Hp) (E : XK), Room k (A.deeper (envOfC qual scope s.heap.objs.size f cdv)) → DSs (cx3 P w K mg base N qual scope f cdv A outer s H E) (W3 E) body T)
    (hT : ∀ a wd ds φ ε, F wd ds φ ε → T ⟨wd, fun ex _ => ε ex⟩ (retI C a φ) (startI N C a ds)) : FnI P w K mg base (k + 1) C f F := by
  have G : FnOk P w K mg base (L2N.CX P w) (k + 1) f fd ps (spI K C F) := by
    refine FD.ok Sc (fun vs H Q E h => ?_) fun cdv A outer s H vs Q E hr h => ?_
    · obtain ⟨a, dx, ws, wd, R, H1, ds, φ, ε, e, _, _, _, _, b, r, hf, _⟩ := h
      subst e
      rw [List.length_cons, r.length]
      exact hn _ _ _ _ hf
    · obtain ⟨a, dx, ws, wd, R, H1, ds, φ, ε, e, ha, hd, hne, eH, b, r, hf, hQ, hE⟩ := h
      subst e eH
      exact ⟨_, hbody cdv A outer s _ E hr, bodyI_ok (S := ⟨⟨wd, fun ex _ => ε ex⟩, R, H1, R⟩) (fun R' H' σ env cls od ex ok xr q => hE cls od R' H' ex ok.fin xr q) (startI_ok (c := ⟨wd, fun ex _ => ε ex⟩) hN b r ha hd hne) (hT a wd ds φ ε hf) hQ⟩
  have z := G.raw (ds := []) (dvs := []) hb .nil
  intro A outer s H us vs Q E hr e0 r hs
  exact z A outer s H us vs Q E hr e0 r (by show spI K C F (vs ++ []) H Q E; rw [List.append_nil]; exact hs)
/-- .. with plain parameters and *rest -/
theorem fnI3star {N ps : List Str} {pv : Str} {k : Nat} {C : Addr} {F : TFI} {T : TSD} (FD : FunD K x qual params body scope [] [] f fd) (Sc : FnScope N (ps ++ [pv]) scope) (hN : N ≠ [])
    (hb : ∀ (kV doc pm : Value) (an : Option Addr) (cdv ct : Value) (us rest : List Value), us.length = ps.length → bindArgs (PySem.W.fnOf x qual params body scope .none kV doc pm an cdv ct) ⟨us ++ rest, []⟩ = (newTuple rest >>= fun t => pure (ps.zip us ++ [(pv, t)])))
    (hn : ∀ wd ds φ ε, F wd ds φ ε → ps.length ≤ ds.length + 1 ∧ ds.length ≤ sizeLine) (h1 : 1 ≤ ps.length)
    (hbody : ∀ (cdv : Value) (A : Around) (outer : List Env) (s : Shared) (H : Hp) (E : XK), Room k (A.deeper (envOfC qual scope s.heap.objs.size f cdv)) → DSs (cx3 P w K mg base N qual scope f cdv A outer s H E) (W3 E) body T)
    (hT : ∀ a wd ds φ ε, F wd ds φ ε → T ⟨wd, fun ex _ => ε ex⟩ (retI C a φ) (startI N C a (ds.take (ps.length - 1) ++ [.tup (ds.drop (ps.length - 1))]))) : FnI P w K mg base (k + 1) C f F := by
  obtain ⟨oc, od, dV, kV, doc, pm, an, cdv, ct, osl, rfl, lk, hcd, hD, _⟩ := FD.ex
  have eD : dV = .none := by
    rcases hD with ⟨_, e⟩ | ⟨e, _⟩
    · exact e
    · exact absurd rfl e
  subst eD
  have G := StX.fn_star (P := P) (w := w) (mg := mg) (base := base) (k := k) (sp := fun vs H Q E => ∃ (a dx p : Addr) (ws rest : List V) (wd : Wd) (R H1 : Hp) (ds : List D) (φ : List (Str × D) → Prop) (ε : Er → Prop), vs = .ref a :: (ws ++ [.ref p]) ∧ H1 a = none ∧ H1 dx = none ∧ dx ≠ a ∧
      (upd (upd H1 dx (.own a)) a (.ins C dx [])) p = none ∧ H = upd (upd (upd H1 dx (.own a)) a (.ins C dx [])) p (.tup rest) ∧ Bas wd R H1 ∧ Reps K R (ds.take (ps.length - 1)) ws ∧ Reps K R (ds.drop (ps.length - 1)) rest ∧ F wd ds φ ε ∧
      (∀ R' H' fs fvs dx', Fin wd R H1 R' H' → R' a = none → H' a = some (.ins C dx' fvs) → RepF K R' fs fvs → φ fs → Q .non H') ∧ ∀ cls od R' H' ex, Fin wd R H1 R' H' → XRep K R' ex cls od → ε ex → E cls od H') lk hcd Sc cxUpN (hb kV doc pm an cdv ct) fun A outer s H vs Q E hr h => by
      obtain ⟨a, dx, p, ws, rest, wd, R, H1, ds, φ, ε, e, ha, hd, hne, hp, eH, b, r1, r2, hf, hQ, hE⟩ := h
      subst e eH
      have o0 := startI_ok (K := K) (C := C) (c := ⟨wd, fun ex _ => ε ex⟩) (ds := ds.take (ps.length - 1)) (N := N) hN b r1 ha hd hne
      have fa := Fin.alloc (o := .tup rest) o0.bas hp
      have o1 := o0.through fa
      refine ⟨_, hbody cdv A outer s _ E hr, bodyI_ok (S := ⟨⟨wd, fun ex _ => ε ex⟩, R, H1, R⟩) (fun R' H' σ env cls od ex ok xr q => hE cls od R' H' ex ok.fin xr q) (R := upd R p (.tup rest)) ?_ (hT a wd ds φ ε hf) hQ⟩
      have f1 := Fin.fresh (o := .own a) b hd
      have ha2 : upd H1 dx (.own a) a = none := by rw [upd_ne hne.symm]; exact ha
      have f2 := (f1.trans (Fin.fresh (o := .ins C dx []) f1.bas ha2)).trans fa
      have hpa : p ≠ a := fun e => by
        rw [e, upd_same] at hp
        cases hp
      have rr : Reps K (upd R p (.tup rest)) (ds.take (ps.length - 1) ++ [.tup (ds.drop (ps.length - 1))]) (ws ++ [.ref p]) := (r1.mono fa.up).append (.one ⟨p, rest, rfl, upd_same, r2.mono fa.up⟩)
      have e1 : L2.start N (.ref a :: (ws ++ [.ref p])) = some (.ref a) :: L2.start (N.drop 1) (ws ++ [.ref p]) := by
        unfold L2.start
        rw [List.map_cons, List.cons_append, List.length_drop, List.length_cons]
        have : N.length - ((ws ++ [V.ref p]).length + 1) = N.length - 1 - (ws ++ [V.ref p]).length := by omega
        rw [this]
      rw [e1]
      refine ⟨f2, fa.up, .cons ⟨rfl, dx, [], by rw [upd_ne hpa.symm, upd_same], rfl⟩ (start_ok rr), fun i q h => ?_, fun i j q h1 h2 => ?_⟩
      · have hq : q = a := by
          cases i with
          | zero => exact (Option.some.inj h).symm
          | succ i =>
            have h' : adAt (startD (N.drop 1) (ds.take (ps.length - 1) ++ [.tup (ds.drop (ps.length - 1))])) i = some q := h
            rw [startD_ad] at h'
            cases h'
        subst hq
        exact ⟨by rw [upd_ne hpa.symm]; exact not_R b ha, ha, not_foot b ha⟩
      · cases i with
        | zero =>
          cases j with
          | zero => rfl
          | succ j =>
            have h' : adAt (startD (N.drop 1) (ds.take (ps.length - 1) ++ [.tup (ds.drop (ps.length - 1))])) j = some q := h2
            rw [startD_ad] at h'
            cases h'
        | succ i =>
          have h' : adAt (startD (N.drop 1) (ds.take (ps.length - 1) ++ [.tup (ds.drop (ps.length - 1))])) i = some q := h1
          rw [startD_ad] at h'
          cases h'
  refine FnR.imp G fun vs H Q E ⟨a, dx, ws, wd, R, H1, ds, φ, ε, e, ha, hd, hne, eH, b, r, hf, hQ, hE⟩ => ?_
  subst e eH
  obtain ⟨l1, l2⟩ := hn _ _ _ _ hf
  have hl := r.length
  refine ⟨.ref a :: ws.take (ps.length - 1), ws.drop (ps.length - 1), by rw [List.cons_append, List.take_append_drop], by rw [List.length_cons, List.length_take]; omega, by rw [List.length_drop]; omega, fun p hp => ?_⟩
  exact ⟨a, dx, p, ws.take (ps.length - 1), ws.drop (ps.length - 1), wd, R, H1, ds, φ, ε, rfl, ha, hd, hne, hp, rfl, b, r.take _, r.drop _, hf, hQ, hE⟩
end
end L3
namespace L3
open PySem PySem.Spec PyProof.Rows L2
section
variable {K : PySem.W.Frag} {S : Sta} {R H R1 H1 : Hp} {σ : L2.St} {env : Ev}
/-- a list made ahead, now for a name -/
theorem Ok3.lateOwn (o : Ok3 K S R H σ env) {i : Nat} {p : Addr} {ds : List L3.D} {xs : List V} (hp : H p = some (.lst xs)) (r : Reps K R ds xs) (hR : R p = none) (hS : S.H0 p = none) (hF : ¬ S.c.wd.foot p) (nope : ∀ j, adAt env j ≠ some p) :
    Ok3 K S R H (σ.set i (some (.ref p))) (env.set i (.ol p ds)) := by
  refine ⟨o.fin, o.rb, pair_set (F := SlOk K R H) (show SlOk K R H (some (.ref p)) (.ol p ds) from ⟨rfl, xs, hp, r⟩) i o.sl, fun j q h => ?_, fun j k q h1 h2 => ?_⟩
  · rcases adAt_set h with ⟨_, z⟩ | ⟨_, z⟩
    · have : p = q := Option.some.inj z
      subst this
      exact ⟨hR, hS, hF⟩
    · exact o.own j q z
  · rcases adAt_set h1 with ⟨e1, z⟩ | ⟨e1, z⟩
    · have : p = q := Option.some.inj z
      subst this
      rcases adAt_set h2 with ⟨e2, z'⟩ | ⟨_, z'⟩
      · rw [e1, e2]
      · exact absurd z' (nope k)
    · rcases adAt_set h2 with ⟨_, z'⟩ | ⟨_, z'⟩
      · have : p = q := Option.some.inj z'
        subst this
        exact absurd z (nope j)
      · exact o.dis j k q z z'
theorem Ok3.fresh_not (o : Ok3 K S R H σ env) {p : Addr} (hp : H p = none) : R p = none ∧ S.H0 p = none ∧ ¬ S.c.wd.foot p ∧ ∀ j, adAt env j ≠ some p := by
  refine ⟨not_R o.bas hp, ?_, not_foot o.bas hp, fun j z => ?_⟩
  · cases q : S.H0 p with
    | none => rfl
    | some u =>
      obtain ⟨z, hz⟩ := o.fin.there q
      rw [hp] at hz
      cases hz
  · have h := o.newOwn (i := env.length) (p := p) (ds := []) (xs := []) hp rfl
    unfold adAt at z
    cases e : env[j]? with
    | none =>
      rw [e] at z
      cases z
    | some s =>
      rw [e] at z
      obtain ⟨x, _, q⟩ := pair_get o.sl e
      have hs : s.ad = some p := z
      cases s with
      | no => cases hs
      | v d => cases hs
      | ol p' ds =>
        have : p' = p := Option.some.inj hs
        subst this
        obtain ⟨_, xs, hh, _⟩ := q
        rw [hp] at hh
        cases hh
      | oi p' C fs =>
        have : p' = p := Option.some.inj hs
        subst this
        obtain ⟨_, dx, xs, hh, _⟩ := q
        rw [hp] at hh
        cases hh
end
section
variable {X : Cx} {W : WX} {pos : Pos} {a b : Expr} {Ta Tb : TD} {A B : TB}
/-- a built-in class's name -/
theorem de_bty {x : Str} {n : String} (hg : Gl X x) (hm : X.mg x = none) (hv : bootBuiltins x = some (.type n) := by rfl) (hn : x ≠ "__name__" := by decide) (hd : (x == ("__debug__" : Str)) = false := by decide) : DE X W (.Name x pos) (TC (.ty n)) :=
  de_c (pe_bltn (v := .ty n) hg hm hv rfl hn hd)
def TChainB (f g : F2) (Ta Tb Tc : TD) : TB := fun c env φ => TChain f g Ta Tb Tc c env fun d => ∃ k, d = .bl k ∧ φ k
theorem dt_chain {op op' : CmpOp} {r r' : R2} {f g : F2} {cc : Expr} {Tc : TD} (ho : OpR X (compareOp op) r) (k : OpD X.K r f) (ho' : OpR X (compareOp op') r') (k' : OpD X.K r' g) (ha : DE X W a Ta) (hb : DE X W b Tb) (hc : DE X W cc Tc)
    (hm : lastMarks [op, op'] [b, cc] = false := by rfl) : DT X W (.Compare a [op, op'] [b, cc] pos) (TChainB f g Ta Tb Tc) :=
  dt_mk (pt_chain ho ho' ha hb hc hm) fun S R H σ env φ lk ok h => tChain_ask k k' lk ok h fun v H' ⟨R1, d, f1, r, kk, e, q⟩ => by
    subst e
    exact ⟨kk, r, R1, f1, q⟩
/-- a, b = e1, e2 -/
theorem ds_par {i j : Nat} {x y : Str} {px py pt : Pos} {kt k2 pt2} {U : TL} (hc : X.calm = true) (hN : X.N.Nodup) (hi : X.N[i]? = some x) (hj : X.N[j]? = some y) (hij : i ≠ j)
    (hx : X.env.scope.names.lookup x = some .local) (hy : X.env.scope.names.lookup y = some .local) (ha : DA X W [a, b] U)
    (hw : swappedStores [.Tuple [.Name x px, .Name y py] kt pt] (.Tuple [a, b] k2 pt2) X.env = pure (some [x, y]) := by rfl)
    (hs : swapsWithSole [.Tuple [.Name x px, .Name y py] kt pt] (.Tuple [a, b] k2 pt2) pos.line X.env = pure false := by rfl) :
    DS X W (.Assign [.Tuple [.Name x px, .Name y py] kt pt] (.Tuple [a, b] k2 pt2) pos) (TPar i j U) :=
  ds_mk (ps_par hc hN hi hj hij hx hy ha hw hs) fun S R H σ env D3 lk ok q => tL3.ask lk ok q fun R1 H1 ds vs f1 ok1 r1 ⟨d, e, ed, q1⟩ => by
    subst ed
    obtain ⟨v, w, ev, r2, r3⟩ := reps2 r1
    subst ev
    exact ⟨v, w, rfl, R1, _, (ok1.put r2).put r3, q1⟩
/-- a, b = e, [] -/
def TParO1 (i j : Nat) (T : TD) : TSD := fun c D env => T c env fun d => ∀ p, D.nx ((env.set i (.v d)).set j (.ol p []))
def TParO0 (i j : Nat) (T : TD) : TSD := fun c D env => T c env fun d => ∀ p, D.nx ((env.set i (.ol p [])).set j (.v d))
theorem ds_parOwn1 {i j : Nat} {x y : Str} {px py pt pl : Pos} {kt k2 pt2} (hc : X.calm = true) (hN : X.N.Nodup) (hi : X.N[i]? = some x) (hj : X.N[j]? = some y) (hij : i ≠ j)
    (hx : X.env.scope.names.lookup x = some .local) (hy : X.env.scope.names.lookup y = some .local) (ha : DE X W a Ta)
    (hw : swappedStores [.Tuple [.Name x px, .Name y py] kt pt] (.Tuple [a, .List [] pl] k2 pt2) X.env = pure (some [x, y]) := by rfl)
    (hs : swapsWithSole [.Tuple [.Name x px, .Name y py] kt pt] (.Tuple [a, .List [] pl] k2 pt2) pos.line X.env = pure false := by rfl) (hst : starEach [a, .List [] pl] X.env = (false, eval a X.env) :: starEach [.List [] pl] X.env := by rfl) :
    DS X W (.Assign [.Tuple [.Name x px, .Name y py] kt pt] (.Tuple [a, .List [] pl] k2 pt2) pos) (TParO1 i j Ta) :=
  ds_mk (ps_par hc hN hi hj hij hx hy (pa_cons ha (pa_cons (pe_lst pa_nil) pa_nil) hst) hw hs) fun S R H σ env D3 lk ok q => tD.ask lk ok q fun R1 H1 d v f1 ok1 r1 q1 =>
    ⟨by decide, fun p hp => ⟨v, .ref p, rfl, R1, _, by
      have o2 := (ok1.put (i := i) r1).newOwn (i := j) (p := p) (ds := []) (xs := []) hp rfl
      exact o2, q1 p⟩⟩
theorem ds_parOwn0 {i j : Nat} {x y : Str} {px py pt pl : Pos} {kt k2 pt2} (hc : X.calm = true) (hN : X.N.Nodup) (hi : X.N[i]? = some x) (hj : X.N[j]? = some y) (hij : i ≠ j)
    (hx : X.env.scope.names.lookup x = some .local) (hy : X.env.scope.names.lookup y = some .local) (ha : DE X W a Ta)
    (hw : swappedStores [.Tuple [.Name x px, .Name y py] kt pt] (.Tuple [.List [] pl, a] k2 pt2) X.env = pure (some [x, y]) := by rfl)
    (hs : swapsWithSole [.Tuple [.Name x px, .Name y py] kt pt] (.Tuple [.List [] pl, a] k2 pt2) pos.line X.env = pure false := by rfl) (hst : starEach [a] X.env = (false, eval a X.env) :: starEach [] X.env := by rfl) :
    DS X W (.Assign [.Tuple [.Name x px, .Name y py] kt pt] (.Tuple [.List [] pl, a] k2 pt2) pos) (TParO0 i j Ta) :=
  ds_mk (ps_par hc hN hi hj hij hx hy (pa_cons (pe_lst pa_nil) (pa_cons ha pa_nil hst)) hw hs) fun S R H σ env D3 lk ok q => by
    refine ⟨by decide, fun p hp => ?_⟩
    obtain ⟨n1, n2, n3, n4⟩ := ok.fresh_not hp
    have ok0 := ok.through (Fin.fresh (o := .lst []) ok.bas hp)
    refine tD.ask lk ok0 q fun R1 H1 d v f1 ok1 r1 q1 => ⟨.ref p, v, rfl, R1, _, ?_, q1 p⟩
    have hk : H1 p = some (.lst []) := f1.keep p _ upd_same n3
    have hr : R1 p = none := f1.new p _ n1 upd_same
    exact (ok1.lateOwn (i := i) (ds := []) (xs := []) hk rfl hr n2 n3 n4).put r1
/-! ### enumerate(list) -/
def enumD : Nat → List D → List D
  | _, [] => []
  | n, d :: ds => .tup [.int (n : Nat), d] :: enumD (n + 1) ds
theorem enumD_len : ∀ {ds : List D} {n : Nat}, (enumD n ds).length = ds.length
  | [], _ => rfl
  | _ :: ds, n => congrArg Nat.succ (enumD_len (ds := ds) (n := n + 1))
theorem enumD_get : ∀ {ds : List D} {n i : Nat} {d : D}, (enumD n ds)[i]? = some d → ∃ x, ds[i]? = some x ∧ d = .tup [.int ((n + i : Nat) : Int), x]
  | [], n, i, d, h => by simp [enumD] at h
  | x :: ds, n, 0, d, h => by
    have h2 : some (D.tup [.int (n : Nat), x]) = some d := by simpa [enumD] using h
    cases h2
    exact ⟨x, rfl, rfl⟩
  | x :: ds, n, i + 1, d, h => by
    obtain ⟨u, h1, h2⟩ := enumD_get (ds := ds) (n := n + 1) (i := i) (d := d) (by simpa [enumD] using h)
    refine ⟨u, by simpa using h1, ?_⟩
    rw [h2]
    have e : n + 1 + i = n + (i + 1) := by omega
    rw [e]
theorem itok_enum {K : PySem.W.Frag} {w : Wd} {R : Hp} {p : Addr} {xs : List V} {ds : List D} (h : R p = some (.lst xs)) (r : Reps K R ds xs) : ItOk K w (Ite K p) R (enumD 0 ds) where
  go := fun i R1 H d s b e => by
    obtain ⟨x, e1, _⟩ := enumD_get e
    obtain ⟨v, hv, _⟩ := r.get e1
    exact ⟨xs, v, SqL.of (b.sub _ _ (s _ _ h)), hv⟩
  stop := fun i R1 H s b e => ⟨xs, SqL.of (b.sub _ _ (s _ _ h)), by rw [r.length]; rw [enumD_len] at e; exact e⟩
  yld := fun i R1 H x H' d s b e y => by
    obtain ⟨T, x1, ex, hT, eH, k1⟩ := y
    subst ex eH
    obtain ⟨dx, e1, e3⟩ := enumD_get e
    subst e3
    obtain ⟨v, hv, rv⟩ := r.get e1
    have a1 := k1 xs (SqL.of (b.sub _ _ (s _ _ h)))
    rw [hv] at a1
    have z1 := Option.some.inj a1
    subst z1
    have f := Fin.alloc (o := .tup [.int (i : Nat), v]) b hT
    have e0 : ((0 + i : Nat) : Int) = (i : Nat) := by omega
    exact ⟨_, f, T, [.int (i : Nat), v], rfl, upd_same, ⟨_, [v], rfl, by rw [e0]; rfl, v, [], rfl, (rv.mono s).mono f.up, rfl⟩⟩
def TIen (U : TL) : TL := fun c env φ => U c env fun ds => ∃ es, ds = [.lst es] ∧ φ (enumD 0 es)
theorem di_enum {e : Expr} {p tpos : Pos} {elts : List Expr} {kk : Nat} {U : TL} (hg : Gl X "enumerate") (hm : X.mg "enumerate" = none) (ha : DA X W [e] U) (hs : starEach [e] X.env = [(false, eval e X.env)] := by rfl) :
    DI X W (.Tuple elts kk tpos) (.Call (.Name "enumerate" p) [e] [] pos) (TIen U) :=
  pi_imp (pi_enum hg hm ha hs) fun σ H Q ⟨S, R, env, φ, lk, ok, q, hQ⟩ => tL3.ask lk ok q fun R1 H1 ds vs f1 ok1 r1 ⟨es, e, q1⟩ => by
    subst e
    obtain ⟨v, e, h1⟩ := reps1 r1
    subst e
    obtain ⟨p1, xs, e, hh, hr⟩ := rep_lst h1
    subst e
    exact ⟨p1, xs, rfl, SqL.of (ok1.bas.sub _ _ hh), hQ _ _ R1 _ f1 (itok_enum hh hr) q1⟩
/-! ### x[k] = e of an own list -/
def TPutJ (i : Nat) (Tk T : TD) : TSD := fun c D env => ∃ p ds, env[i]? = some (.ol p ds) ∧ T c env fun d => Tk c env fun k => ∃ n j, k = .int n ∧ ixN ds.length n = some j ∧ D.nx (env.set i (.ol p (ds.set j d)))
theorem ds_putI (i : Nat) {x : Str} {k e : Expr} {p0 pos' : Pos} {Tk T : TD} (he : DE X W e T) (hk : DE X W k Tk) (hN : X.N[i]? = some x := by rfl) (hv : Vis X.env.scope x := by first | exact Or.inl rfl | exact Or.inr (Or.inl rfl) | exact Or.inr (Or.inr rfl))
    (hd : (x == ("__debug__" : Str)) = false := by decide) (hcd : (x == ("__classdict__" : Str)) = false := by decide)
    (ha : ∀ v, assign (.Subscript (.Name x p0) k pos') X.env v = (do
      let ov ← holding [v] (eval (.Name x p0) X.env)
      let iv ← holding [v, ov] (eval k X.env)
      standAt pos'
      holding [v, ov, iv] (setItem ov iv v)
      release [v, ov, iv] []) := by intro _; rfl)
    (hs : swapsWithSole [.Subscript (.Name x p0) k pos'] e pos.line X.env = pure false := by rfl) (hw : swappedStores [.Subscript (.Name x p0) k pos'] e X.env = pure none := by rfl)
    (h1 : (assignEach [.Subscript (.Name x p0) k pos'] X.env).map (·.2) = [assign (.Subscript (.Name x p0) k pos') X.env] := by rfl) :
    DS X W (.Assign [.Subscript (.Name x p0) k pos'] e pos) (TPutJ i Tk T) :=
  ds_mk (ps_asg he (pg_sub (pe_var hN hv hd hcd) hk set_list ha) hs hw h1) fun S R H σ env D3 lk ok ⟨p, ds, e0, q⟩ => tD.ask lk ok q fun R1 H1 d v f1 ok1 r1 q1 => by
    obtain ⟨h1, xs, h2, h3⟩ := ol_at ok1 e0
    refine ⟨_, h1, tD.ask lk ok1 q1 fun R2 H2 dk vk f2 ok2 rk ⟨n, j, ek, hj, q2⟩ => ?_⟩
    subst ek
    obtain ⟨_, ys, h4, h5⟩ := ol_at ok2 e0
    exact ⟨p, ys, n, j, rfl, rk, h4, by rw [h5.length]; exact hj, R2, _, ol_mut ok2 e0 (h5.set j (r1.mono f2.up)), q2⟩
/-! ### max(ints, default = d) -/
def mxV (d : V) : List Int → V
  | [] => d
  | n :: r => .int (r.foldl max n)
def mxD (d : D) : List Int → D
  | [] => d
  | n :: r => .int (r.foldl max n)
theorem ints_max {X : Cx} {pins : List (Addr × Obj)} {σ : L2.St} {H : Hp} {s : Shared} {Q : VK} {p : Addr} {ns : List Int} {d : V} {u : Value} (hc : X.calm = true) (hu : X.A.units + 64 < cLine) (I : Inv X pins σ H s) (h : SqL X.K H p (ns.map V.int)) (rd : RelV d u)
    (q : Q (mxV d ns) H) : wpAny (model X.prog X.w) X.A (call (.builtin "max") [.ref p] [(Str.ofString "default", u)]) (EP X pins σ Q) X.xe s := by
  obtain ⟨its, rv, hl, _⟩ := I.list h
  have dp : ∀ ns : List Int, DpAll X.K H (ns.map V.int) (ns.map PyData.int) := by
    intro ns
    induction ns with
    | nil => exact .nil
    | cons n r ih => exact .cons (.int n) ih
  obtain ⟨as, ra⟩ := Dp.readsAll I _ _ _ (dp ns) rv
  have hd0 : ∀ ns : List Int, PyData.depthAll (ns.map PyData.int) ≤ 1 := by
    intro ns
    induction ns with
    | nil => exact Nat.zero_le _
    | cons n r ih => exact Nat.max_le.mpr ⟨Nat.zero_le _, ih⟩
  have hal : PySem.W.AlikeAll (ns.map PyData.int) := by
    refine ⟨fun x hx y hy => ?_, fun x hx e => ?_⟩
    · obtain ⟨i, _, rfl⟩ := List.mem_map.mp hx
      obtain ⟨j, _, rfl⟩ := List.mem_map.mp hy
      rfl
    · obtain ⟨i, _, rfl⟩ := List.mem_map.mp hx
      cases e
  refine PySem.W.max_list_default (I.ok.hd hc) hl.isList (by simpa using ra) hal (by have := hd0 ns; omega) (fun e h' tk k => ?_) fun y ys i v h' tk bs e hv hr k => ?_
  · cases ns with
    | nil => exact ⟨_, H, I.kept k, rd, q⟩
    | cons n r => cases e
  · cases ns with
    | nil => cases e
    | cons n r =>
      injection e with e1 e2
      subst e1 e2
      rw [PySem.W.maxD_ints] at hr
      cases hr
      exact ⟨.int (r.foldl max n), H, I.kept k, ⟨_, rfl⟩, q⟩
theorem boot_max' : bootBuiltins "max" = some (.builtin "max") := by rfl
def TMaxd (Ta Tb : TD) : TD := fun c env φ => Ta c env fun x => Tb c env fun y => ∃ ns : List Int, x = .lst (ns.map D.int) ∧ φ (mxD y ns)
theorem de_maxd {e e2 : Expr} {p kp : Pos} {Ta Tb : TD} (hc : X.calm = true) (hu : X.A.units + 64 < cLine) (hg : Gl X "max") (hm : X.mg "max" = none) (ha : DE X W e Ta) (hb : DE X W e2 Tb)
    (he : starEach [e] X.env = (false, eval e X.env) :: starEach [] X.env := by rfl) (he2 : backTo pos (starEach [e] X.env) = (false, eval e X.env) :: backTo pos (starEach [] X.env) := by rfl) (hpl : (backTo pos (starEach [e] X.env)).any (·.1) = false := by rfl) : DE X W (.Call (.Name "max" p) [e] [⟨some "default", e2, kp⟩] pos) (TMaxd Ta Tb) :=
  de_mk (t := fun σ H Q => tCons (tD X.K W Ta) tNil σ H fun vs H1 => tCons (tD X.K W Tb) tNil σ H1 fun zs H2 => ∃ (q : Addr) (ns : List Int) (y : V), vs = [.ref q] ∧ zs = [y] ∧ SqL X.K H2 q (ns.map V.int) ∧ Q (mxV y ns) H2)
    ⟨fun pins s σ H Q I h => wpAny_Call_Name_kw (ld_blt I hg hm boot_max' (callWith_kw (thn ((pa_cons ha pa_nil he).run pos pins s σ H _ I h) fun us s1 ⟨vs, H1, I1, r, q1⟩ => by
      refine thn ((pk_cons (nm := some "default") (kpos := kp) hb pk_nil).run pos pins s1 σ H1 _ I1 q1) fun ws s2 ⟨zs, H2, I2, rz, q, ns, y, e1, e2, hq, q2⟩ => ?_
      subst e1 e2
      obtain ⟨u, rfl, r1⟩ := vals1 r
      obtain ⟨w, rfl, r2⟩ := vals1 rz
      cases r1
      exact ints_max hc hu I2 hq r2 q2) he2 hpl))⟩ fun S R H σ env φ lk ok h => tD.ask lk ok h fun R1 H1 d v f1 ok1 r1 q1 => tD.ask lk ok1 q1 fun R2 H2 d2 v2 f2 ok2 r2 ⟨ns, e, q2⟩ => by
    subst e
    obtain ⟨q, xs, e, hh, hr⟩ := rep_lst (r1.mono f2.up)
    subst e
    rw [hr.ints] at hh
    refine ⟨q, ns, v2, rfl, rfl, SqL.of (ok2.bas.sub _ _ hh), R2, _, f1.trans f2, ?_, q2⟩
    cases ns with
    | nil => exact r2
    | cons n r => rfl
/-! ### calls with keywords -/
def permL {α : Type} (ix : List Nat) (xs : List α) : List α := ix.filterMap (xs[·]?)
theorem vals_perm {vs : List V} {us : List Value} (r : Vals vs us) : ∀ ix : List Nat, Vals (permL ix vs) (permL ix us)
  | [] => .nil
  | i :: ix => by
    have ih := vals_perm r ix
    unfold permL at ih ⊢
    rw [List.filterMap_cons, List.filterMap_cons]
    cases e : vs[i]? with
    | none =>
      have hl := r.length
      have : us[i]? = none := by
        rw [List.getElem?_eq_none_iff] at e ⊢
        omega
      rw [this]
      exact ih
    | some x =>
      obtain ⟨u, hu, ru⟩ := r.get e
      rw [hu]
      exact .cons ru ih
theorem Reps.perm {K : PySem.W.Frag} {R : Hp} {ds : List D} {vs : List V} (r : Reps K R ds vs) : ∀ ix : List Nat, Reps K R (permL ix ds) (permL ix vs)
  | [] => rfl
  | i :: ix => by
    have ih := Reps.perm r ix
    unfold permL at ih ⊢
    rw [List.filterMap_cons, List.filterMap_cons]
    cases e : ds[i]? with
    | none =>
      have hl := r.length
      have : vs[i]? = none := by
        rw [List.getElem?_eq_none_iff] at e ⊢
        omega
      rw [this]
      exact ih
    | some x =>
      obtain ⟨u, hu, ru⟩ := r.get e
      rw [hu]
      exact .cons ru ih
abbrev DK (X : Cx) (W : WX) (kws : List Keyword) (T : TL) : Prop := PK X kws (tL3 X.K W T)
theorem dk_nil : DK X W [] TNil := ⟨fun pos pins s σ H Q I ⟨S, R, env, φ, lk, ok, hT, hQ⟩ => thn (pk_nil.run pos pins s σ H _ I (show tNil σ H _ from hQ [] H ⟨R, [], Fin.refl ok.bas, rfl, hT⟩)) fun us s' p => p⟩
theorem dk_cons {e : Expr} {T : TD} {U : TL} {kws : List Keyword} {nm : Option Str} {kpos : Pos} (ha : DE X W e T) (hr : DK X W kws U) : DK X W (⟨nm, e, kpos⟩ :: kws) (TCons T U) :=
  ⟨fun pos pins s σ H Q I ⟨S, R, env, φ, lk, ok, hT, hQ⟩ => thn ((pk_cons (nm := nm) (kpos := kpos) ha hr).run pos pins s σ H (PstL X.K S.c R H φ) I (tD.ask lk ok hT fun R1 H1 d v f1 ok1 r1 q1 => tL3.ask lk ok1 q1 fun R2 H2 ds vs f2 ok2 r2 q2 =>
    ⟨R2, d :: ds, f1.trans f2, .cons (r1.mono f2.up) r2, q2⟩)) fun us s' ⟨vs, H', I', r, p⟩ => ⟨vs, H', I', r, hQ vs H' p⟩⟩
/-- a def that keeps it, called in any way -/
abbrev Fn3O (P : Program) (w : World) (K : PySem.W.Frag) (mg : Str → Option Value) (base : Heap) (k : Nat) (f : Addr) (fd : FuncData) (ps : List Str) (F : TF) : Prop := FnOk P w K mg base (L2N.CX P w) k f fd ps (spW K F)
/-- how keywords ks behind n values bind -/
def KwB (K : PySem.W.Frag) (fd : FuncData) (ps : List Str) (n : Nat) (ks : List Str) (ix : List Nat) : Prop := ∀ (s : Shared) (us ws : List Value), K.In s.heap → us.length = n → ws.length = ks.length → BindsTo s fd ⟨us, ks.zip ws⟩ (ps.zip (permL ix (us ++ ws)))
section
variable {F : TF} {U Uk : TL} {k n : Nat} {f C : Addr} {fd : FuncData} {ps ks : List Str} {ix : List Nat} {x m : Str} {p0 apos : Pos} {e : Expr} {es : List Expr} {kws : List Keyword}
theorem call_kw {sp : Sp} {pins : List (Addr × Obj)} {σ : L2.St} {H : Hp} {s : Shared} {Q : VK} {args : Args} {us : List Value} {vs : List V} (G : FnOk X.prog X.w X.K X.mg X.base (L2N.CX X.prog X.w) k f fd ps sp) (hr : Room k X.A) (tk : L2N.Takes X W)
    (I : L2.Inv X pins σ H s) (hb : BindsTo s fd args (ps.zip us)) (r : Vals vs us) (h : sp vs H Q (WE W σ)) : wpAny (model X.prog X.w) X.A (call (.ref f) args.pos args.kw) (EP X pins σ Q) X.xe s :=
  wpAny_call (codeAny_mono (G.run X.A X.stack s H args us vs Q _ hr I.env0 hb r h) fun res s' hres => match res, hres with
    | .error er, hres => L2N.passAt tk σ pins H s er s' I hres
    | .ok (.ret u), hres => I.after hres)
/-- f(.., k = v, ..) -/
def TCallK (F : TF) (n m : Nat) (ix : List Nat) (U Uk : TL) : TD := fun c env φ => U c env fun ds => Uk c env fun zs => ds.length = n ∧ zs.length = m ∧ F c.wd (permL ix (ds ++ zs)) φ fun ex => c.er ex env
theorem tcallk_ask {S : Sta} {R H : Hp} {σ : L2.St} {env : Ev} {φ : D → Prop} (lk : Lk X.K S W) (ok : Ok3 X.K S R H σ env) (h : TCallK F n ks.length ix U Uk S.c env φ) :
    tL3 X.K W U σ H fun vs H1 => tL3 X.K W Uk σ H1 fun zs H2 => vs.length = n ∧ zs.length = ks.length ∧ spW X.K F (permL ix (vs ++ zs)) H2 (Pst X.K S.c R H φ) (WE W σ) :=
  tL3.ask lk ok h fun R1 H1 ds vs f1 ok1 r1 q1 => tL3.ask lk ok1 q1 fun R2 H2 zs ws f2 ok2 r2 ⟨l1, l2, q2⟩ =>
    ⟨by rw [r1.length]; exact l1, by rw [r2.length]; exact l2, spW_ask lk ok2 (((r1.mono f2.up).append r2).perm ix) q2 fun v H' p => Pst.from (f1.trans f2) p⟩
theorem de_callK (G : Fn3O X.prog X.w X.K X.mg X.base k f fd ps F) (hb : KwB X.K fd ps n ks ix) (hr : Room k X.A) (hG : Gl X x) (hM : X.mg x = some (.ref f)) (hK : PySem.W.keepIn X.K (.ref f) = true) (tk : L2N.Takes X W) (ha : DA X W (e :: es) U) (hkw : DK X W kws Uk)
    (hall : (backToKw pos (keywordEach kws X.env)).all (·.1.isSome) = true := by rfl) (hks : (backToKw pos (keywordEach kws X.env)).filterMap (·.1) = ks := by rfl)
    (hD : (x == ("__debug__" : Str)) = false := by decide) (he : starEach (e :: es) X.env = (false, eval e X.env) :: starEach es X.env := by rfl)
    (hpl : ((backTo pos (starEach (e :: es) X.env)).any (·.1) || (backToKw pos (keywordEach kws X.env)).any (·.1.isNone)) = false := by rfl) : DE X W (.Call (.Name x p0) (e :: es) kws pos) (TCallK F n ks.length ix U Uk) :=
  de_mk (t := fun σ H Q => tL3 X.K W U σ H fun vs H1 => tL3 X.K W Uk σ H1 fun zs H2 => vs.length = n ∧ zs.length = ks.length ∧ spW X.K F (permL ix (vs ++ zs)) H2 Q (WE W σ))
    ⟨fun pins s σ H Q I h => wpAny_Call_Name_kw (ld_glob I hG hM (PySem.W.callWith_KW (h₀ := X.base) I.ok.mod.kin hK hall (thn (ha.run pos pins s σ H _ I h) fun us s1 ⟨vs, H1, I1, r, q⟩ => by
      refine thn (hkw.run pos pins s1 σ H1 _ I1 q) fun ws s2 ⟨zs, H2, I2, rz, l1, l2, q2⟩ => ⟨I2.kIn, ?_⟩
      rw [hks]
      exact call_kw (args := ⟨us, ks.zip ws⟩) G hr tk I2 (hb s2 us ws I2.kIn (r.length.symm.trans l1) (rz.length.symm.trans l2)) (vals_perm (r.append rz) ix) q2) hpl he) hD)⟩ fun S R H σ env φ lk ok h => tcallk_ask lk ok h
theorem de_callK0 (G : Fn3O X.prog X.w X.K X.mg X.base k f fd ps F) (hb : KwB X.K fd ps 0 ks ix) (hr : Room k X.A) (hG : Gl X x) (hM : X.mg x = some (.ref f)) (hK : PySem.W.keepIn X.K (.ref f) = true) (tk : L2N.Takes X W) (hkw : DK X W kws Uk)
    (hall : (backToKw pos (keywordEach kws X.env)).all (·.1.isSome) = true := by rfl) (hks : (backToKw pos (keywordEach kws X.env)).filterMap (·.1) = ks := by rfl)
    (hD : (x == ("__debug__" : Str)) = false := by decide)
    (hpl : ((backTo pos (starEach [] X.env)).any (·.1) || (backToKw pos (keywordEach kws X.env)).any (·.1.isNone)) = false := by rfl) : DE X W (.Call (.Name x p0) [] kws pos) (TCallK F 0 ks.length ix TNil Uk) :=
  de_mk (t := fun σ H Q => tL3 X.K W TNil σ H fun vs H1 => tL3 X.K W Uk σ H1 fun zs H2 => vs.length = 0 ∧ zs.length = ks.length ∧ spW X.K F (permL ix (vs ++ zs)) H2 Q (WE W σ))
    ⟨fun pins s σ H Q I h => wpAny_Call_Name_kw (ld_glob I hG hM (PySem.W.callWith_KW0 I.kIn hK hall (by
      obtain ⟨vs, H1, I1, r, q⟩ : AP X pins σ (fun vs H1 => tL3 X.K W Uk σ H1 fun zs H2 => vs.length = 0 ∧ zs.length = ks.length ∧ spW X.K F (permL ix (vs ++ zs)) H2 Q (WE W σ)) [] s := by
        obtain ⟨S, R, env, φ, lk, ok, hT, hQ⟩ := h
        exact ⟨[], H, I, .nil, hQ [] H ⟨R, [], Fin.refl ok.bas, rfl, hT⟩⟩
      refine thn (hkw.run pos pins s σ H1 _ I1 q) fun ws s2 ⟨zs, H2, I2, rz, l1, l2, q2⟩ => ⟨I2.kIn, ?_⟩
      rw [hks]
      exact call_kw (args := ⟨[], ks.zip ws⟩) G hr tk I2 (hb s2 [] ws I2.kIn rfl (rz.length.symm.trans l2)) (vals_perm (r.append rz) ix) q2) hpl) hD)⟩ fun S R H σ env φ lk ok h => tcallk_ask lk ok h
/-- C.m(k = v, ..), m a staticmethod -/
theorem de_smethK0 {pl : Sem Bool} {p : Addr} (hm : SMet X.K C m p f) (G : Fn3O X.prog X.w X.K X.mg X.base k f fd ps F) (hb : KwB X.K fd ps 0 ks ix) (hr : Room k X.A) (hG : Gl X x) (hM : X.mg x = some (.ref C)) (tk : L2N.Takes X W) (hkw : DK X W kws Uk)
    (hD : (x == ("__debug__" : Str)) = false := by decide) (hall : (backToKw pos (keywordEach kws X.env)).all (·.1.isSome) = true := by rfl) (hks : (backToKw pos (keywordEach kws X.env)).filterMap (·.1) = ks := by rfl)
    (hpl : ((backTo pos (starEach [] X.env)).any (·.1) || (backToKw pos (keywordEach kws X.env)).any (·.1.isNone)) = false := by rfl)
    (ht : eval (.Call (.Attribute (.Name x p0) m apos) [] kws pos) X.env = (do let ov ← eval (.Name x p0) X.env; standAt apos.atName; let (g, first) ← holding [ov] (getMethod ov m pl); callWith pos g first (backTo pos (starEach [] X.env)) (backToKw pos (keywordEach kws X.env))) := by rfl) :
    DE X W (.Call (.Attribute (.Name x p0) m apos) [] kws pos) (TCallK F 0 ks.length ix TNil Uk) :=
  de_mk (t := fun σ H Q => tL3 X.K W TNil σ H fun vs H1 => tL3 X.K W Uk σ H1 fun zs H2 => vs.length = 0 ∧ zs.length = ks.length ∧ spW X.K F (permL ix (vs ++ zs)) H2 Q (WE W σ))
    ⟨fun pins s σ H Q I h => PySem.W.methodCall_KW (pl := pl) (ld_glob I hG hM (by
      obtain ⟨rest, hp⟩ := hm.rc
      refine PySem.W.method_cls I.kIn hm.cr.ga (PySem.W.cls_bind I.kIn hm.cr.rd hm.at_ (wpAny_call (PySem.W.sm_get (s := { s with toks := s.toks + 1 }) I.kIn hp (PySem.W.handed_on rfl ?_))))
      have I' : L2.Inv X pins σ H { s with toks := s.toks + 1 } := I.tok _
      refine PySem.W.callWith_KW0 (first := []) I'.kIn hm.kp hall ?_ hpl
      obtain ⟨vs, H1, I1, r, q⟩ : AP X pins σ (fun vs H1 => tL3 X.K W Uk σ H1 fun zs H2 => vs.length = 0 ∧ zs.length = ks.length ∧ spW X.K F (permL ix (vs ++ zs)) H2 Q (WE W σ)) [] { s with toks := s.toks + 1 } := by
        obtain ⟨S, R, env, φ, lk, ok, hT, hQ⟩ := h
        exact ⟨[], H, I', .nil, hQ [] H ⟨R, [], Fin.refl ok.bas, rfl, hT⟩⟩
      refine thn (hkw.run pos pins _ σ H1 _ I1 q) fun ws s2 ⟨zs, H2, I2, rz, l1, l2, q2⟩ => ⟨I2.kIn, ?_⟩
      rw [hks]
      exact call_kw (args := ⟨[], ks.zip ws⟩) G hr tk I2 (hb s2 [] ws I2.kIn rfl (rz.length.symm.trans l2)) (vals_perm (r.append rz) ix) q2) hD) ht⟩
    fun S R H σ env φ lk ok h => tcallk_ask lk ok h
end
/-! ### the same rules, their readings free of the body's own names -/
theorem de_fldK {K : PySem.W.Frag} {f : Str} {T : TD} (ha : DE X W a T) (hK : X.K = K := by rfl) (hb : attributeBase a f X.env (eval a X.env) = eval a X.env := by rfl) : DE X W (.Attribute a f pos) (TFld K T f) := by
  subst hK
  exact de_fld ha hb
theorem de_conK {K : PySem.W.Frag} {f : Str} {T : TD} (ha : DE X W a T) (hK : X.K = K := by rfl) (hb : attributeBase a f X.env (eval a X.env) = eval a X.env := by rfl) : DE X W (.Attribute a f pos) (TCon K T f) := by
  subst hK
  exact de_con ha hb
theorem de_fldOK {K : PySem.W.Frag} (i : Nat) {x : Str} {p0 : Pos} {f : Str} (hK : X.K = K := by rfl) (hN : X.N[i]? = some x := by rfl) (hv : Vis X.env.scope x := by first | exact Or.inl rfl | exact Or.inr (Or.inl rfl) | exact Or.inr (Or.inr rfl)) (hd : (x == ("__debug__" : Str)) = false := by decide)
    (hcd : (x == ("__classdict__" : Str)) = false := by decide) (hb : attributeBase (.Name x p0) f X.env (eval (.Name x p0) X.env) = eval (.Name x p0) X.env := by rfl) : DE X W (.Attribute (.Name x p0) f pos) (TFldO K i f) := by
  subst hK
  exact de_fldO i hN hv hd hcd hb
theorem ds_putFK {K : PySem.W.Frag} (i : Nat) {x f : Str} {p0 pos' : Pos} {e : Expr} {T : TD} (he : DE X W e T) (hK : X.K = K := by rfl) (hN : X.N[i]? = some x := by rfl) (hv : Vis X.env.scope x := by first | exact Or.inl rfl | exact Or.inr (Or.inl rfl) | exact Or.inr (Or.inr rfl))
    (hd : (x == ("__debug__" : Str)) = false := by decide) (hcd : (x == ("__classdict__" : Str)) = false := by decide) (hs : swapsWith e (some (.Attribute (.Name x p0) f pos')) pos.line X.env = pure false := by rfl) :
    DS X W (.Assign [.Attribute (.Name x p0) f pos'] e pos) (TPutF K i f T) := by
  subst hK
  exact ds_putF i he hN hv hd hcd hs
end
/-! ### xs != [] -/
section
variable {X : Cx}
def rNeNil (K : PySem.W.Frag) : R2 := fun x y H Q => ∃ a b xs, x = .ref a ∧ y = .ref b ∧ SqL K H a xs ∧ SqL K H b [] ∧ Q (.bl (!xs.isEmpty)) H
theorem op_neNil (hu : X.A.units + 64 < cLine) : OpR X (compareOp .NotEq) (rNeNil X.K) := by
  intro pins s σ H x y v u Q I rx ry ⟨a, b, xs, e1, e2, h1, h2, q⟩
  subst e1 e2
  cases xs with
  | nil => exact op_neD hu pins s σ H _ _ v u Q I rx ry ⟨.list [], .list [], .lst h1 .nil, .lst h2 .nil, rfl, rfl, q⟩
  | cons z zs =>
    obtain rfl : v = Value.ref a := rx
    obtain rfl : u = Value.ref b := ry
    obtain ⟨its, r1, l1, _⟩ := I.list h1
    obtain ⟨its2, r2, l2, _⟩ := I.list h2
    cases r2
    have hl := r1.length
    refine SeqAt.RcNeAt.lists_lengths l1.isList l2.isList (by
      rw [List.size_toArray, ← hl]
      rfl) (by omega) X.prog X.w X.xe _ ⟨.bl true, H, I, rfl, q⟩
def neNilF : F2
  | .lst ds, .lst [], φ => φ (.bl (!ds.isEmpty))
  | _, _, _ => False
theorem opd_neNil {K : PySem.W.Frag} : OpD K (rNeNil K) neNilF := fun c R H x y dx dy φ Q b r1 r2 q k => by
  unfold neNilF at q
  split at q
  · obtain ⟨p, xs, e, hh, hr⟩ := rep_lst r1
    obtain ⟨p2, ys, e2, hh2, hr2⟩ := rep_lst r2
    subst e e2
    have e3 : ys = [] := hr2
    subst e3
    refine ⟨p, p2, xs, rfl, rfl, SqL.of (b.sub _ _ hh), SqL.of (b.sub _ _ hh2), k _ _ (Pst.now b (d := .bl _) ?_ q)⟩
    have hE : ∀ (xs : List V) (es : List D), xs.length = es.length → xs.isEmpty = es.isEmpty := by
      intro xs es
      cases xs <;> cases es <;> simp
    rw [← hE _ _ hr.length]
    rfl
  · exact q.elim
end
end L3
/-! L3o: order of plain data, enumerate over a tuple, a list lent for an answer that holds no list, an own list by a comprehension -/
namespace L3
open PySem PySem.Spec PyProof.Rows L2
section
variable {X : Cx} {W : WX} {pos : Pos} {a b e elt tg iter : Expr} {T Ta Tb : TD} {A : TB}
theorem takesN : L2N.Takes X (fun _ _ _ _ => False) := fun _ _ ⟨_, _, _, _, _, _, _, _, _, _, _, _, _, _, _, _, h⟩ => h.elim
/-! ### order -/
def rLtD (K : PySem.W.Frag) : R2 := fun x y H Q => ∃ d e, Dp K H x d ∧ Dp K H y e ∧ PySem.W.alike d e = true ∧ d ≠ .none ∧ d.depth ≤ 63 ∧ Q (.bl (PySem.W.dataLt d e)) H
def rGtD (K : PySem.W.Frag) : R2 := fun x y H Q => ∃ d e, Dp K H x d ∧ Dp K H y e ∧ PySem.W.alike d e = true ∧ d ≠ .none ∧ d.depth ≤ 63 ∧ Q (.bl (PySem.W.dataLt e d)) H
theorem op_ltD (hu : X.A.units + 64 < cLine) : OpR X (compareOp .Lt) (rLtD X.K) := by
  intro pins s σ H x y v u Q I rx ry h
  obtain ⟨d, e, hd, he, ha, hn, hz, q⟩ := h
  obtain ⟨as, r1⟩ := Dp.reads I d x v hd rx
  obtain ⟨bs, r2⟩ := Dp.reads I e y u he ry
  exact PySem.W.lt_data r1 r2 ha hn (by omega) ⟨.bl _, H, I, rfl, q⟩
theorem op_gtD (hu : X.A.units + 64 < cLine) : OpR X (compareOp .Gt) (rGtD X.K) := by
  intro pins s σ H x y v u Q I rx ry h
  obtain ⟨d, e, hd, he, ha, hn, hz, q⟩ := h
  obtain ⟨as, r1⟩ := Dp.reads I d x v hd rx
  obtain ⟨bs, r2⟩ := Dp.reads I e y u he ry
  exact PySem.W.gt_data r1 r2 ha hn (by omega) ⟨.bl _, H, I, rfl, q⟩
def ltDF : F2 := fun x y φ => isP x = true ∧ isP y = true ∧ PySem.W.alike (toP x) (toP y) = true ∧ toP x ≠ .none ∧ (toP x).depth ≤ 63 ∧ φ (.bl (PySem.W.dataLt (toP x) (toP y)))
def gtDF : F2 := fun x y φ => isP x = true ∧ isP y = true ∧ PySem.W.alike (toP x) (toP y) = true ∧ toP x ≠ .none ∧ (toP x).depth ≤ 63 ∧ φ (.bl (PySem.W.dataLt (toP y) (toP x)))
theorem opd_ltD {K : PySem.W.Frag} : OpD K (rLtD K) ltDF := fun c R H x y dx dy φ Q b r1 r2 ⟨p1, p2, s1, s2, s3, q⟩ k =>
  ⟨_, _, dp_of p1 (r1.mono b.sub), dp_of p2 (r2.mono b.sub), s1, s2, s3, k _ _ (Pst.now b (show Rep K R (.bl _) _ from rfl) q)⟩
theorem opd_gtD {K : PySem.W.Frag} : OpD K (rGtD K) gtDF := fun c R H x y dx dy φ Q b r1 r2 ⟨p1, p2, s1, s2, s3, q⟩ k =>
  ⟨_, _, dp_of p1 (r1.mono b.sub), dp_of p2 (r2.mono b.sub), s1, s2, s3, k _ _ (Pst.now b (show Rep K R (.bl _) _ from rfl) q)⟩
/-! ### enumerate(tuple) -/
def IteT (K : PySem.W.Frag) (a : Addr) : It :=
  ⟨fun i H => ∃ (xs : List V) (x : V), SqT K H a xs ∧ xs[i]? = some x, fun i H v H' => ∃ T x, v = .ref T ∧ H T = none ∧ H' = upd H T (.tup [.int (i : Nat), x]) ∧ ∀ xs, SqT K H a xs → xs[i]? = some x, fun i H => ∃ xs : List V, SqT K H a xs ∧ xs.length ≤ i⟩
theorem turn_enumT {P : Program} {w : World} {K : PySem.W.Frag} {elts : List Expr} {kk : Nat} {tpos : Pos} (a e it : Addr) :
    Turn P w K (.Tuple elts kk tpos) (IteT K a) [e, it] e (fun i h => (∃ old, IsEnum h e it ((i : Nat) : Int) old) ∧ h.IsTupleIter it a i ∧ e ≠ it ∧ a ≠ it ∧ a ≠ e) where
  mem := by simp
  obj := fun i h st b hb => by
    obtain ⟨⟨old, he⟩, ⟨o, ho, hc, hd⟩, _⟩ := st
    have e' : b = e ∨ b = it := by simpa using hb
    rcases e' with z | z
    · rw [z]; exact ⟨_, he, fun v q => nomatch q⟩
    · rw [z]; exact ⟨o, ho, fun v q => by rw [hd] at q; cases q⟩
  keep := fun i h h' st k => let ⟨⟨old, he⟩, hi, hne⟩ := st; ⟨⟨old, k e (by simp) _ he⟩, hi.at fun o q => k it (by simp) o q, hne⟩
  item := by
    intro X hP hw hK hc i pins s σ H E I hf st hg
    subst hP hw hK
    obtain ⟨⟨old, he⟩, hit, hne, hn1, hn2⟩ := st
    obtain ⟨xs, x, hq, hx⟩ := hg
    obtain ⟨its, rv, p, hz⟩ := I.tuple hq
    obtain ⟨u, hu, ru⟩ := rv.get hx
    have hel : e < s.heap.objs.size := Heap.lt_size he
    have hil : it < s.heap.objs.size := by obtain ⟨_, q, _⟩ := hit; exact Heap.lt_size q
    have hlt : i < its.toArray.size := by
      have := (List.getElem?_eq_some_iff.mp hu).1
      simpa using this
    refine wpAny_pyNext_enum_itemC (Draws.tuple (A := X.A.in1) (show X.A.in1.handled = none from I.ok.hd hc) it a hn1 its.toArray) he ⟨hit, p⟩ hlt hne (by simp [hne, Ne.symm hn2]) fun u' h' tk hP' ho ⟨hit', _⟩ hT hsz hk => ?_
    have eu : u' = u := by
      have h1 : its.toArray[i]? = some u := by simpa using hu
      rw [h1] at hP'
      exact (Option.some.inj hP').symm
    subst eu
    refine ⟨_, rfl, wpAny_letOwnedTupleGo_enum (s := { s with heap := h', toks := tk + 1 }) ho fun h'' he' sb => ?_⟩
    have hT2 : h''.get? s.heap.objs.size = some { cls := .type "tuple", data := .seq #[.int i tk, u'] } := (sb.2 _ (Nat.ne_of_gt hel)).trans hT
    have new : ObjOk X.prog X.w (upd H s.heap.objs.size (.tup [.int (i : Nat), x])) h'' s.heap.objs.size (.tup [.int (i : Nat), x]) :=
      ⟨by show 2 ≤ sizeLine; decide, [.int i tk, u'], .cons ⟨_, rfl⟩ (.cons ru .nil), ⟨_, hT2, rfl, _, rfl⟩⟩
    have I1 : Inv X pins σ (upd H s.heap.objs.size (.tup [.int (i : Nat), x])) { s with heap := h'', toks := tk + 1 } :=
      I.turnedNew (ch := [e, it]) (fun b ob hb q => (sb.2 b (fun z => hb (by simp [z]))).trans (hk b ob (fun z => hb (by simp [z])) (fun z => hb (by simp [z])) q)) hf (Nat.le_refl _) new
    refine ⟨.ref s.heap.objs.size, _, I1, rfl, ⟨_, x, rfl, I.hok.fresh (Nat.le_refl _), rfl, fun ys hy => by rw [I.tuple_inj hy hq]; exact hx⟩, ⟨⟨u', ?_⟩, hit'.at fun o q => (sb.2 it (Ne.symm hne)).trans q, hne, hn1, hn2⟩, fun b hb => ?_⟩
    · have e1 : ((i + 1 : Nat) : Int) = (i : Int) + 1 := by omega
      rw [e1]; exact he'
    · have hb' : b < s.heap.objs.size := by
        have e' : b = e ∨ b = it := by simpa using hb
        rcases e' with z | z
        · rw [z]; exact hel
        · rw [z]; exact hil
      rw [upd_ne (Nat.ne_of_lt hb')]
      exact (hf b hb).1
  done := by
    intro X hP hw hK hc i pins s σ H E I hf st hg
    subst hP hw hK
    obtain ⟨⟨old, he⟩, hit, hne, hn1, hn2⟩ := st
    obtain ⟨xs, hq, hx⟩ := hg
    obtain ⟨its, rv, p, hz⟩ := I.tuple hq
    obtain ⟨f0, f1, f2, f3, f4, f5⟩ := hf it (by simp)
    have hl := rv.length
    have hT : s.TypeIs (.ref e) "enumerate" := ⟨_, he, rfl⟩
    unfold pyNext
    refine wpAny_bind (wpAny_attempt (wpAny_callSpecial?_slot (name := Str.ofString "__next__") hT F.slot_enumerate_next (wpAny_call_entry F.slot_enumerate_next hT F.entry_enumerate_next ?_ (F.args_enumerate_next_1 _))))
    show wpAny _ _ (field (.ref e) 2 >>= _) _ _ _
    refine wpAny_bind (wpAny_field he rfl (x := .ref it) rfl ?_)
    refine wpAny_bind (wpAny_nextOf_tuple_end (I.ok.hd hc) hit p (by simp; omega) fun h' x eb hx' => ?_)
    obtain ⟨o, ho, hc'⟩ := hx'
    refine wpAny_bind (wpAny_isInstance (T := "StopIteration") (b := true) ⟨o, ho, hc'⟩ isSubtype_stop ?_)
    exact wpAny_pure ⟨rfl, I.turned (t' := s.toks) (fun b o hb q => eb b o hb q) f0 f1 f3 f4 f5⟩
  self := fun A i s Q E st h => let ⟨⟨_, he⟩, _⟩ := st; wpAny_pyIter_enum he h
theorem meets_enumT {v : Value} {o : Obj} {H : Heap → Prop} (B : Begins v o H) :
    Meets (Builtin.«enumerate.__new__» ⟨[.type "enumerate", v], []⟩) (fun _ R s => H s.heap ∧
      R (.ok (.ret (.ref (s.heap.push o).objs.size))) { s with heap := (s.heap.push o).push { cls := .type "enumerate", data := .fields #[.none, .bool false, .ref s.heap.objs.size, rawInt 0, .none, .none] } }) :=
  .of_wp fun prog w A R s h => by
    obtain ⟨hp, g, d, tk, os⟩ := s; obtain ⟨h1, h⟩ := h
    have hsub := sub_enumerate
    have q1 : ∀ {A' : Around} {E : Value → Shared → Prop} {Q : Value → Shared → Prop}, Q (.ref hp.objs.size) ⟨hp.push o, g, d, tk, os⟩ → wpAny (model prog w) A' (pyIter v) Q E ⟨hp, g, d, tk, os⟩ :=
      fun q => B.iter prog w _ _ ⟨hp, g, d, tk, os⟩ _ h1 q
    wp_walk using q1
    refine wpAny_stack_any fun st => wpAny_pure ?_
    split
    · rename_i c _ _ _ _ _
      cases (c == Value.type "enumerate")
      · wp_walk using q1
        exact ⟨_, rfl, h⟩
      · wp_walk using q1
        exact ⟨_, rfl, h⟩
    · wp_walk using q1
      exact ⟨_, rfl, h⟩
theorem call_enumT {prog : Program} {w : World} {A : Around} {E : Value → Shared → Prop} {s : Shared} {l : Addr} {items : Array Value} {Q : Value → Shared → Prop} (hL : s.heap.IsTuple l items)
    (h : ∀ h', IsEnum h' (s.heap.objs.size + 1) s.heap.objs.size 0 .none → h'.IsTupleIter s.heap.objs.size l 0 → h'.objs.size = s.heap.objs.size + 2 →
      (∀ b o, s.heap.get? b = some o → h'.get? b = some o) → Q (.ref (s.heap.objs.size + 1)) { s with heap := h' }) :
    wpAny (model prog w) A (call (.type "enumerate") [.ref l]) Q E s := by
  refine callType_new F.called_enumerate (by decide) (F.typeCall_enumerate_1 _) (F.newCall_enumerate_1 _) (fun obj => F.args_object_init_2 obj _) F.entry_enumerate_new
    (meets_enumT (begins_tuple l items)) ⟨hL, ?_⟩
  have hz : (s.heap.push { cls := .type "tuple_iterator", data := .fields #[.ref l, .int 0 0] }).objs.size = s.heap.objs.size + 1 := Heap.size_push ..
  show _ ∧ _
  rw [hz]
  have he : IsEnum ((s.heap.push { cls := .type "tuple_iterator", data := .fields #[.ref l, .int 0 0] }).push
      { cls := .type "enumerate", data := .fields #[.none, .bool false, .ref s.heap.objs.size, rawInt 0, .none, .none] }) (s.heap.objs.size + 1) s.heap.objs.size 0 .none := by
    have := Heap.get?_push_size (s.heap.push { cls := .type "tuple_iterator", data := .fields #[.ref l, .int 0 0] })
      (o := { cls := .type "enumerate", data := .fields #[.none, .bool false, .ref s.heap.objs.size, rawInt 0, .none, .none] }) rfl
    rw [hz] at this; exact this
  refine ⟨⟨_, he, rfl⟩, h _ he ⟨_, Heap.get?_push_of_some _ (Heap.get?_push_size _ rfl), rfl, rfl⟩ (by rw [Heap.size_push, hz]) fun b o x => Heap.get?_push_of_some _ (Heap.get?_push_of_some _ x)⟩
def iEnumT (K : PySem.W.Frag) (ta : TA) : TI := fun σ H R => ta σ H fun vs H1 => ∃ a xs, vs = [.ref a] ∧ SqT K H1 a xs ∧ R (IteT K a) H1
theorem pi_enumT {X : Cx} {e : Expr} {ta : TA} {p pos tpos : Pos} {elts : List Expr} {kk : Nat} (hg : Gl X "enumerate") (hm : X.mg "enumerate" = none) (ha : PA X [e] ta) (hs : starEach [e] X.env = [(false, eval e X.env)] := by rfl) :
    PI X (.Tuple elts kk tpos) (.Call (.Name "enumerate" p) [e] [] pos) (iEnumT X.K ta) := by
  refine ⟨fun pins s σ H R I h => ?_⟩
  refine Call_ (ld_blt I hg hm boot_enumerate (PyProof.Rows.callWith_type1 (thn (ha.run pos pins s σ H _ I h) fun us s1 ⟨vs, H1, I1, r1, q1⟩ => ?_) hs rfl))
  obtain ⟨a, xs, ex, hq, q⟩ := q1
  subst ex
  cases r1 with
  | cons r rr =>
    cases rr
    cases r
    obtain ⟨its, rv, p', hz⟩ := I1.tuple hq
    have hal : a < s1.heap.objs.size := by obtain ⟨_, q, _⟩ := p'; exact Heap.lt_size q
    refine call_enumT p' fun h' he hit hsz hk => wpAny_pyIter_enum he ?_
    have I2 : Inv X pins σ H1 { s1 with heap := h' } := I1.kept (t' := s1.toks) hk
    refine ⟨s1.heap.objs.size + 1, [s1.heap.objs.size + 1, s1.heap.objs.size], _, _, H1, rfl, I2, turn_enumT a (s1.heap.objs.size + 1) s1.heap.objs.size, ⟨⟨.none, he⟩, hit, Nat.succ_ne_self _, Nat.ne_of_lt hal, Nat.ne_of_lt (Nat.lt_succ_of_lt hal)⟩, fun b hb => ?_, q⟩
    have e' : b = s1.heap.objs.size + 1 ∨ b = s1.heap.objs.size := by simpa using hb
    have hle : s1.heap.objs.size ≤ b := by
      rcases e' with z | z
      · rw [z]; exact Nat.le_add_right _ _
      · rw [z]; exact Nat.le_refl _
    exact I1.fpOk hle (I1.hok.fresh hle)
theorem itok_enumT {K : PySem.W.Frag} {w : Wd} {R : Hp} {p : Addr} {xs : List V} {ds : List D} (h : R p = some (.tup xs)) (r : Reps K R ds xs) : ItOk K w (IteT K p) R (enumD 0 ds) where
  go := fun i R1 H d s b e => by
    obtain ⟨x, e1, _⟩ := enumD_get e
    obtain ⟨v, hv, _⟩ := r.get e1
    exact ⟨xs, v, SqT.of (b.sub _ _ (s _ _ h)), hv⟩
  stop := fun i R1 H s b e => ⟨xs, SqT.of (b.sub _ _ (s _ _ h)), by rw [r.length]; rw [enumD_len] at e; exact e⟩
  yld := fun i R1 H x H' d s b e y => by
    obtain ⟨T, x1, ex, hT, eH, k1⟩ := y
    subst ex eH
    obtain ⟨dx, e1, e3⟩ := enumD_get e
    subst e3
    obtain ⟨v, hv, rv⟩ := r.get e1
    have a1 := k1 xs (SqT.of (b.sub _ _ (s _ _ h)))
    rw [hv] at a1
    have z1 := Option.some.inj a1
    subst z1
    have f := Fin.alloc (o := .tup [.int (i : Nat), v]) b hT
    have e0 : ((0 + i : Nat) : Int) = (i : Nat) := by omega
    exact ⟨_, f, T, [.int (i : Nat), v], rfl, upd_same, ⟨_, [v], rfl, by rw [e0]; rfl, v, [], rfl, (rv.mono s).mono f.up, rfl⟩⟩
def TIenT (U : TL) : TL := fun c env φ => U c env fun ds => ∃ es, ds = [.tup es] ∧ φ (enumD 0 es)
theorem di_enumT {e : Expr} {p tpos : Pos} {elts : List Expr} {kk : Nat} {U : TL} (hg : Gl X "enumerate") (hm : X.mg "enumerate" = none) (ha : DA X W [e] U) (hs : starEach [e] X.env = [(false, eval e X.env)] := by rfl) :
    DI X W (.Tuple elts kk tpos) (.Call (.Name "enumerate" p) [e] [] pos) (TIenT U) :=
  pi_imp (pi_enumT hg hm ha hs) fun σ H Q ⟨S, R, env, φ, lk, ok, q, hQ⟩ => tL3.ask lk ok q fun R1 H1 ds vs f1 ok1 r1 ⟨es, e, q1⟩ => by
    subst e
    obtain ⟨v, e, h1⟩ := reps1 r1
    subst e
    obtain ⟨p1, xs, e, hh, hr⟩ := rep_tup h1
    subst e
    exact ⟨p1, xs, rfl, SqT.of (ok1.bas.sub _ _ hh), hQ _ _ R1 _ f1 (itok_enumT hh hr) q1⟩
/-! ### lent, the answer holds no list -/
mutual
def noL : D → Bool
  | .non => true
  | .bl _ => true
  | .int _ => true
  | .str _ => true
  | .ty _ => true
  | .ref _ => true
  | .tup ds => noLs ds
  | .ins _ fs => noLf fs
  | _ => false
def noLs : List D → Bool
  | [] => true
  | d :: r => noL d && noLs r
def noLf : List (Str × D) → Bool
  | [] => true
  | (_, d) :: r => noL d && noLf r
end
theorem noLs_map {α : Type} {f : α → D} : ∀ {xs : List α}, (∀ x ∈ xs, noL (f x) = true) → noLs (xs.map f) = true
  | [], _ => rfl
  | x :: xs, h => by
    show (noL (f x) && noLs (xs.map f)) = true
    rw [h x List.mem_cons_self, noLs_map fun y hy => h y (List.mem_cons_of_mem _ hy)]
    rfl
def offL (p : Addr) (R : Hp) : Hp := fun b => if b = p then none else R b
theorem offL_ne {p b : Addr} {R : Hp} (h : b ≠ p) : offL p R b = R b := if_neg h
theorem offL_at {p : Addr} {R : Hp} : offL p R p = none := if_pos rfl
mutual
theorem rep_off {K : PySem.W.Frag} {R : Hp} {p : Addr} {xs : List V} (hp : R p = some (.lst xs)) : ∀ {d : D} {v : V}, noL d = true → Rep K R d v → Rep K (offL p R) d v
  | .non, _, _, r => r
  | .bl _, _, _, r => r
  | .int _, _, _, r => r
  | .str _, _, _, r => r
  | .ty _, _, _, r => r
  | .ref _, _, _, r => r
  | .tup ds, v, n, r => by
    obtain ⟨q, ys, e, hh, hr⟩ := rep_tup r
    have hq : q ≠ p := fun z => by rw [z, hp] at hh; cases hh
    exact ⟨q, ys, e, by rw [offL_ne hq]; exact hh, reps_off hp n hr⟩
  | .ins C fs, v, n, r => by
    obtain ⟨q, dx, ys, e, hh, hr⟩ := (show ∃ p dx fvs, v = .ref p ∧ R p = some (.ins C dx fvs) ∧ RepF K R fs fvs from r)
    have hq : q ≠ p := fun z => by rw [z, hp] at hh; cases hh
    exact ⟨q, dx, ys, e, by rw [offL_ne hq]; exact hh, repf_off hp n hr⟩
  | .lst _, _, n, _ => Bool.noConfusion n
  | .exc _ _, _, n, _ => Bool.noConfusion n
  | .clo _ _, _, n, _ => Bool.noConfusion n
  | .lam _ _, _, n, _ => Bool.noConfusion n
  | .dic _, _, n, _ => Bool.noConfusion n
theorem reps_off {K : PySem.W.Frag} {R : Hp} {p : Addr} {xs : List V} (hp : R p = some (.lst xs)) : ∀ {ds : List D} {vs : List V}, noLs ds = true → Reps K R ds vs → Reps K (offL p R) ds vs
  | [], _, _, r => r
  | d :: ds, vs, n, r => by
    obtain ⟨v, t, e, h1, h2⟩ := (show ∃ v r, vs = v :: r ∧ Rep K R d v ∧ Reps K R ds r from r)
    obtain ⟨n1, n2⟩ := Bool.and_eq_true_iff.mp (show (noL d && noLs ds) = true from n)
    exact ⟨v, t, e, rep_off hp n1 h1, reps_off hp n2 h2⟩
theorem repf_off {K : PySem.W.Frag} {R : Hp} {p : Addr} {xs : List V} (hp : R p = some (.lst xs)) : ∀ {ds : List (Str × D)} {vs : List (Str × V)}, noLf ds = true → RepF K R ds vs → RepF K (offL p R) ds vs
  | [], _, _, r => r
  | (f, d) :: ds, vs, n, r => by
    obtain ⟨v, t, e, h1, h2⟩ := (show ∃ v r, vs = (f, v) :: r ∧ Rep K R d v ∧ RepF K R ds r from r)
    obtain ⟨n1, n2⟩ := Bool.and_eq_true_iff.mp (show (noL d && noLf ds) = true from n)
    exact ⟨v, t, e, rep_off hp n1 h1, repf_off hp n2 h2⟩
end
def TBorN (i : Nat) (T : TD) : TD := fun c env φ => ∃ p ds, env[i]? = some (.ol p ds) ∧ T c (env.set i (.v (.lst ds))) fun d => noL d = true ∧ φ d
theorem de_borN (i : Nat) (he : DE X W e T) : DE X W e (TBorN i T) :=
  ⟨fun pins s σ H Q I ⟨S, R, env, φ, lk, ok, ⟨p, ds, e0, q⟩, hQ⟩ => by
    obtain ⟨xs, hn, o'⟩ := (ok.rebase).freezeP e0
    have sm : Same R (upd R p (.lst xs)) := o'.rb
    have ok' := o'.back ok.rb
    refine he.run pins s σ H Q I ⟨S, upd R p (.lst xs), _, _, lk, ok', q, fun v H' ⟨R2, d, f, r, hf, q2⟩ => hQ v H' ⟨offL p R2, d, ⟨fun b o h => ?_, fun b o h => ?_, f.keep, fun b o h1 h2 h3 => ?_, f.inv, fun b hb => ?_⟩, rep_off (f.up _ _ upd_same) hf r, q2⟩⟩
    · have hb : b ≠ p := fun z => by rw [z, hn] at h; cases h
      rw [offL_ne hb]
      exact f.up b o (sm b o h)
    · have hb : b ≠ p := fun z => by rw [z, offL_at] at h; cases h
      rw [offL_ne hb] at h
      exact f.sub b o h
    · by_cases hb : b = p
      · rw [hb]; exact offL_at
      · rw [offL_ne hb]
        exact f.newX b o (by rw [upd_ne hb]; exact h1) h2 h3
    · by_cases hb : b = p
      · subst hb; exact offL_at
      · rw [offL_ne hb]; exact f.ft b ‹_›⟩
/-! ### x = [.. for ..], an own list -/
def TOwnLc (i : Nat) (U : TL) (g : TGD) (A : TB) (T : TD) (vs : List Nat) : TSD := fun c D env => U c env fun ds => CompD g A T c.in (wipeD env vs) ds [] fun out => ∀ p, D.nx (env.set i (.ol p out))
theorem lcO_ask {S : Sta} {R H : Hp} {σ : L2.St} {env : Ev} {U : TL} {g : TGD} {vs : List Nat} {φ : List L3.D → Prop} (lk : Lk X.K S W) (ok : Ok3 X.K S R H σ env) {Q : VK} (q : U S.c env fun ds => CompD g A T S.c.in (wipeD env vs) ds [] φ)
    (kQ : ∀ p accV acc R2 Hh, Fin S.c.wd R H R2 Hh → R2 p = none → Hh p = some (.lst accV) → Reps X.K R2 acc accV → S.H0 p = none → ¬ S.c.wd.foot p → (∀ j, adAt env j ≠ some p) → φ acc → Q (.ref p) Hh) :
    tLc (tI3 X.K W U) (gD3 X.K vs g) (tB3 X.K WF A) (tD X.K WF T) vs σ H Q := by
  refine ⟨S, R, env, _, lk, ok, q, fun J H1 R1 ds f1 io q1 D hD => ?_⟩
  have nf := not_foot f1.bas hD
  have nR := not_R f1.bas hD
  obtain ⟨_, m2, m3, m4⟩ := (ok.through f1).fresh_not hD
  refine ⟨fun i m Hh => m = ds.length - i ∧ ∃ R2 acc accV, Fin S.c.wd R1 H1 R2 Hh ∧ R2 D = none ∧ Hh D = some (.lst accV) ∧ Reps X.K R2 acc accV ∧ CompD g A T S.c.in (wipeD env vs) (ds.drop i) acc φ,
    ⟨ds.length, by simp, R1, [], [], Fin.fresh f1.bas hD, nR, upd_same, rfl, by rw [List.drop_zero]; exact q1⟩, ?_⟩
  rintro i m Hh ⟨rfl, R2, acc, accV, f2, n2, h2, r2, q2⟩
  by_cases hi : i < ds.length
  · have hd := List.getElem?_eq_getElem hi
    refine .inr ⟨io.go i R2 Hh _ f2.up f2.bas hd, fun H' => ∃ R3 acc accV, Fin S.c.wd R1 H1 R3 H' ∧ R3 D = none ∧ H' D = some (.lst accV) ∧ Reps X.K R3 acc accV ∧ CompD g A T S.c.in (wipeD env vs) (ds.drop (i + 1)) acc φ,
      fun H' ⟨R3, ac, av, h1, h2, h3, h4, h5⟩ => ⟨ds.length - (i + 1), by omega, rfl, R3, ac, av, h1, h2, h3, h4, h5⟩, fun x H' y => ?_⟩
    obtain ⟨R3, f3, r3⟩ := io.yld i R2 Hh x H' _ f2.up f2.bas hd y
    have f03 := (f1.trans f2).trans f3
    have ok3 := ok.block f03 vs
    rw [List.drop_eq_getElem_cons hi] at q2
    have n3 := f3.new D _ n2 h2
    have h3 := f3.kept h2 nf
    refine ⟨⟨S.c.in, R3, H', R3⟩, R3, wipeD env vs, _, _, ok3, r3, q2, fun env' σ' hw ok' q' => ⟨hw.trans wipe_wipe, ?_⟩⟩
    refine tB3.ask lk_in ok' q' fun R4 H4 k f4 ok4 q4 => ?_
    have f34 := ok4.fin
    cases k with
    | true =>
      rw [if_pos rfl] at q4
      refine iteT (tD.ask lk_in ok4 q4 fun R5 H5 dy y f5 ok5 ry q5 => ?_)
      have f35 := ok5.fin
      have h5 := f35.kept h3 nf
      have n5 := f35.new D _ n3 h3
      refine ⟨accV, h5, by rw [r2.length]; exact q5.1, R5, acc ++ [dy], accV ++ [y], ((f2.trans f3).trans f35).mut hD n5 nf (fun φ z => by rw [h5] at z; cases z), n5, upd_same, ((r2.mono f3.up).mono f35.up).snoc ry, q5.2⟩
    | false =>
      rw [if_neg Bool.false_ne_true] at q4
      refine iteF ⟨R4, acc, accV, (f2.trans f3).trans f34, f34.new D _ n3 h3, f34.kept h3 nf, (r2.mono f3.up).mono f34.up, q4⟩
  · have e : ds.drop i = [] := List.drop_eq_nil_of_le (by omega)
    rw [e] at q2
    exact .inl ⟨io.stop i R2 Hh f2.up f2.bas (by omega), kQ D accV acc R2 Hh (f1.trans f2) n2 h2 r2 m2 nf m4 q2⟩
theorem ds_ownLc {i : Nat} {y : Str} {py spos : Pos} {ifs : List Expr} {scope : Scope} {own : List (Str × Nat)} {U : TL} {g : TGD} (hc : X.calm = true) (hN : X.N.Nodup) (hy : X.N[i]? = some y) (hyl : X.env.scope.names.lookup y = some .local)
    (hsw : swapsWith (.ListComp elt [⟨tg, iter, ifs, 0⟩] scope pos) (some (.Name y py)) spos.line X.env = pure true) (hi : DI X W tg iter U) (ok : BlkOk X.N X.env.scope scope own)
    (hg : ∀ (s : Shared) (H : Hp) (C : Addr) (cl : List (Str × Addr)) (fp : List Addr), DG (X.blk s H scope (compEnvC scope cl C X.env) fp) (own.map (·.2)) tg g)
    (ht : ∀ (s : Shared) (H : Hp) (C : Addr) (cl : List (Str × Addr)) (fp : List Addr), PTs (X.blk s H scope (compEnvC scope cl C X.env) fp) ifs (tB3 X.K WF A))
    (he : ∀ (s : Shared) (H : Hp) (C : Addr) (cl : List (Str × Addr)) (fp : List Addr), DE (X.blk s H scope (compEnvC scope cl C X.env) fp) WF elt T)
    (hs : ∀ x, foldedSetIterable iter X.env x = pure x := by intro _; rfl) :
    DS X W (.Assign [.Name y py] (.ListComp elt [⟨tg, iter, ifs, 0⟩] scope pos) spos) (TOwnLc i U g A T (own.map (·.2))) :=
  ds_mk (ps_setLc hc hN hy hyl hsw hi ok hg ht he hs) fun S R H σ env D3 lk ok q => lcO_ask lk ok q fun p accV acc R2 Hh f n h r m2 m3 m4 q' => ⟨R2, _, (ok.through f).lateOwn h r n m2 m3 m4, q' p⟩
end
end L3
/-! L3: the plain side: comprehensions, loops, lists of values -/
namespace L3
open PySem PySem.Spec PyProof.Rows L2
/-- a comprehension that keeps every item -/
theorem compD_map {α : Type} {g : TGD} {A : TB} {T : TD} {c : Ct} {env : Ev} {enc f : α → D} {φ : List D → Prop} : ∀ (xs : List α) (acc : List D),
    (∀ x ∈ xs, ∀ (acc : List D) (ψ : List D → Prop), acc.length < sizeLine → ψ (acc ++ [f x]) → g (enc x) env fun env' => A c env' fun k => if k = true then T c env' fun y => acc.length < sizeLine ∧ ψ (acc ++ [y]) else ψ acc) →
    acc.length + xs.length ≤ sizeLine → φ (acc ++ xs.map f) → CompD g A T c env (xs.map enc) acc φ
  | [], acc, _, _, q => show φ acc by simpa using q
  | x :: xs, acc, h, hl, q => by
    refine h x List.mem_cons_self acc (fun out => CompD g A T c env (xs.map enc) out φ) (by rw [List.length_cons] at hl; omega) ?_
    refine compD_map xs (acc ++ [f x]) (fun y hy => h y (List.mem_cons_of_mem _ hy)) (by rw [List.length_append, List.length_singleton]; rw [List.length_cons] at hl; omega) ?_
    simpa using q
/-- one that keeps some -/
theorem compD_fil {α : Type} {g : TGD} {A : TB} {T : TD} {c : Ct} {env : Ev} {enc : α → D} {f : α → Option D} {φ : List D → Prop} : ∀ (xs : List α) (acc : List D),
    (∀ x ∈ xs, ∀ (acc : List D) (ψ : List D → Prop), acc.length < sizeLine → ψ (acc ++ (f x).toList) → g (enc x) env fun env' => A c env' fun k => if k = true then T c env' fun y => acc.length < sizeLine ∧ ψ (acc ++ [y]) else ψ acc) →
    acc.length + xs.length ≤ sizeLine → φ (acc ++ xs.filterMap f) → CompD g A T c env (xs.map enc) acc φ
  | [], acc, _, _, q => show φ acc by simpa using q
  | x :: xs, acc, h, hl, q => by
    refine h x List.mem_cons_self acc (fun out => CompD g A T c env (xs.map enc) out φ) (by rw [List.length_cons] at hl; omega) ?_
    refine compD_fil xs (acc ++ (f x).toList) (fun y hy => h y (List.mem_cons_of_mem _ hy)) ?_ ?_
    · rw [List.length_append]
      rw [List.length_cons] at hl
      cases f x <;> simp <;> omega
    · rw [List.filterMap_cons] at q
      cases e : f x with
      | none =>
        rw [e] at q
        simpa using q
      | some y =>
        rw [e] at q
        simpa using q
theorem compD1_map {α : Type} {g : TGD} {A : TB} {T : TD} {c : Ct} {env : Ev} {enc f : α → D} {φ : List D → Prop} : ∀ (xs : List α) (acc : List D),
    (∀ x ∈ xs, ∀ (acc : List D) (ψ : List D → Prop), acc.length < sizeLine → ψ (acc ++ [f x]) → g (enc x) env fun env' => A c env' fun k => if k = true then T c env' fun y => acc.length < sizeLine ∧ ψ (acc ++ [y]) else ψ acc) →
    acc.length + xs.length ≤ sizeLine → φ (acc ++ xs.map f) → CompD1 g A T c env (xs.map enc) acc φ
  | [], acc, _, _, q => show φ acc by simpa using q
  | x :: xs, acc, h, hl, q => by
    refine h x List.mem_cons_self acc (fun out => CompD1 g A T c env (xs.map enc) out φ) (by rw [List.length_cons] at hl; omega) ?_
    refine compD1_map xs (acc ++ [f x]) (fun y hy => h y (List.mem_cons_of_mem _ hy)) (by rw [List.length_append, List.length_singleton]; rw [List.length_cons] at hl; omega) ?_
    simpa using q
theorem compD2_map {α : Type} {g : TGD} {A : TB} {U1 : TL} {g1 : TGD} {A1 : TB} {T : TD} {vs1 : List Nat} {c : Ct} {env : Ev} {enc : α → D} {f : α → List D} {φ : List D → Prop} : ∀ (xs : List α) (acc : List D),
    (∀ x ∈ xs, ∀ (acc : List D) (ψ : List D → Prop), acc.length + (f x).length ≤ sizeLine → ψ (acc ++ f x) → g (enc x) env fun env' => A c env' fun k => if k = true then U1 c env' fun es => CompD1 g1 A1 T c (wipeD env' vs1) es acc ψ else ψ acc) →
    acc.length + (xs.flatMap f).length ≤ sizeLine → φ (acc ++ xs.flatMap f) → CompD2 g A U1 g1 A1 T vs1 c env (xs.map enc) acc φ
  | [], acc, _, _, q => show φ acc by simpa using q
  | x :: xs, acc, h, hl, q => by
    rw [List.flatMap_cons, List.length_append] at hl
    refine h x List.mem_cons_self acc (fun out => CompD2 g A U1 g1 A1 T vs1 c env (xs.map enc) out φ) (by omega) ?_
    refine compD2_map xs (acc ++ f x) (fun y hy => h y (List.mem_cons_of_mem _ hy)) (by rw [List.length_append]; omega) ?_
    simpa using q
/-- a for over items -/
theorem forD_of {α : Type} {g : TGD} {B : TSD} {c : Ct} {D : EndD} {enc : α → L3.D} (I : List α → Ev → Prop) : ∀ (xs : List α) (env : Ev), I xs env →
    (∀ x rest env (D2 : EndD), D2.rt = D.rt → (∀ env', I rest env' → D2.nx env') → (∀ env', I rest env' → D2.ct env') → D2.bk = D.nx → I (x :: rest) env → g (enc x) env fun env' => B c D2 env') →
    (∀ env, I [] env → D.nx env) → ForD g B c D (xs.map enc) env
  | [], env, h, _, k => k env h
  | x :: xs, env, h, s, k => by
    show g (enc x) env fun env' => B c { D with nx := ForD g B c D (xs.map enc), ct := ForD g B c D (xs.map enc), bk := D.nx } env'
    exact s x xs env _ rfl (fun env' h' => forD_of I xs env' h' s k) (fun env' h' => forD_of I xs env' h' s k) rfl h
/-- a while -/
theorem whD_of {A : TB} {B : TSD} {c : Ct} {D : EndD} (I : Nat → Ev → Prop) (s : ∀ n env (D2 : EndD), D2.rt = D.rt → D2.bk = D.nx → (∀ m env', m < n → I m env' → D2.nx env') → (∀ m env', m < n → I m env' → D2.ct env') → I n env →
    A c env fun k => if k = true then B c D2 env else D.nx env) : ∀ (n : Nat) (env : Ev), I n env → TWh A B c D env := by
  have key : ∀ (N : Nat) (n : Nat) (env : Ev), n ≤ N → I n env → WhN A B c D (N + 1) env := by
    intro N
    induction N with
    | zero =>
      intro n env hn h
      have : n = 0 := by omega
      subst this
      exact s 0 env { D with nx := WhN A B c D 0, ct := WhN A B c D 0, bk := D.nx } rfl rfl (fun m _ hm _ => absurd hm (Nat.not_lt_zero _)) (fun m _ hm _ => absurd hm (Nat.not_lt_zero _)) h
    | succ N ih =>
      intro n env hn h
      exact s n env { D with nx := WhN A B c D (N + 1), ct := WhN A B c D (N + 1), bk := D.nx } rfl rfl (fun m env' hm h' => ih m env' (by omega) h') (fun m env' hm h' => ih m env' (by omega) h') h
  intro n env h
  exact ⟨n + 1, key n n env (Nat.le_refl _) h⟩
@[simp] theorem ko_NoneType_bool {K : PySem.W.Frag} : PySem.W.kitOne K (Value.type "NoneType") (Value.type "bool") = some false := rfl
@[simp] theorem ko_NoneType_int {K : PySem.W.Frag} : PySem.W.kitOne K (Value.type "NoneType") (Value.type "int") = some false := rfl
@[simp] theorem ko_NoneType_str {K : PySem.W.Frag} : PySem.W.kitOne K (Value.type "NoneType") (Value.type "str") = some false := rfl
@[simp] theorem ko_NoneType_tuple {K : PySem.W.Frag} : PySem.W.kitOne K (Value.type "NoneType") (Value.type "tuple") = some false := rfl
@[simp] theorem ko_NoneType_list {K : PySem.W.Frag} : PySem.W.kitOne K (Value.type "NoneType") (Value.type "list") = some false := rfl
@[simp] theorem ko_NoneType_dict {K : PySem.W.Frag} : PySem.W.kitOne K (Value.type "NoneType") (Value.type "dict") = some false := rfl
@[simp] theorem ko_bool_bool {K : PySem.W.Frag} : PySem.W.kitOne K (Value.type "bool") (Value.type "bool") = some true := rfl
@[simp] theorem ko_bool_int {K : PySem.W.Frag} : PySem.W.kitOne K (Value.type "bool") (Value.type "int") = some true := rfl
@[simp] theorem ko_bool_str {K : PySem.W.Frag} : PySem.W.kitOne K (Value.type "bool") (Value.type "str") = some false := rfl
@[simp] theorem ko_bool_tuple {K : PySem.W.Frag} : PySem.W.kitOne K (Value.type "bool") (Value.type "tuple") = some false := rfl
@[simp] theorem ko_bool_list {K : PySem.W.Frag} : PySem.W.kitOne K (Value.type "bool") (Value.type "list") = some false := rfl
@[simp] theorem ko_bool_dict {K : PySem.W.Frag} : PySem.W.kitOne K (Value.type "bool") (Value.type "dict") = some false := rfl
@[simp] theorem ko_int_bool {K : PySem.W.Frag} : PySem.W.kitOne K (Value.type "int") (Value.type "bool") = some false := rfl
@[simp] theorem ko_int_int {K : PySem.W.Frag} : PySem.W.kitOne K (Value.type "int") (Value.type "int") = some true := rfl
@[simp] theorem ko_int_str {K : PySem.W.Frag} : PySem.W.kitOne K (Value.type "int") (Value.type "str") = some false := rfl
@[simp] theorem ko_int_tuple {K : PySem.W.Frag} : PySem.W.kitOne K (Value.type "int") (Value.type "tuple") = some false := rfl
@[simp] theorem ko_int_list {K : PySem.W.Frag} : PySem.W.kitOne K (Value.type "int") (Value.type "list") = some false := rfl
@[simp] theorem ko_int_dict {K : PySem.W.Frag} : PySem.W.kitOne K (Value.type "int") (Value.type "dict") = some false := rfl
@[simp] theorem ko_str_bool {K : PySem.W.Frag} : PySem.W.kitOne K (Value.type "str") (Value.type "bool") = some false := rfl
@[simp] theorem ko_str_int {K : PySem.W.Frag} : PySem.W.kitOne K (Value.type "str") (Value.type "int") = some false := rfl
@[simp] theorem ko_str_str {K : PySem.W.Frag} : PySem.W.kitOne K (Value.type "str") (Value.type "str") = some true := rfl
@[simp] theorem ko_str_tuple {K : PySem.W.Frag} : PySem.W.kitOne K (Value.type "str") (Value.type "tuple") = some false := rfl
@[simp] theorem ko_str_list {K : PySem.W.Frag} : PySem.W.kitOne K (Value.type "str") (Value.type "list") = some false := rfl
@[simp] theorem ko_str_dict {K : PySem.W.Frag} : PySem.W.kitOne K (Value.type "str") (Value.type "dict") = some false := rfl
@[simp] theorem ko_tuple_bool {K : PySem.W.Frag} : PySem.W.kitOne K (Value.type "tuple") (Value.type "bool") = some false := rfl
@[simp] theorem ko_tuple_int {K : PySem.W.Frag} : PySem.W.kitOne K (Value.type "tuple") (Value.type "int") = some false := rfl
@[simp] theorem ko_tuple_str {K : PySem.W.Frag} : PySem.W.kitOne K (Value.type "tuple") (Value.type "str") = some false := rfl
@[simp] theorem ko_tuple_tuple {K : PySem.W.Frag} : PySem.W.kitOne K (Value.type "tuple") (Value.type "tuple") = some true := rfl
@[simp] theorem ko_tuple_list {K : PySem.W.Frag} : PySem.W.kitOne K (Value.type "tuple") (Value.type "list") = some false := rfl
@[simp] theorem ko_tuple_dict {K : PySem.W.Frag} : PySem.W.kitOne K (Value.type "tuple") (Value.type "dict") = some false := rfl
@[simp] theorem ko_list_bool {K : PySem.W.Frag} : PySem.W.kitOne K (Value.type "list") (Value.type "bool") = some false := rfl
@[simp] theorem ko_list_int {K : PySem.W.Frag} : PySem.W.kitOne K (Value.type "list") (Value.type "int") = some false := rfl
@[simp] theorem ko_list_str {K : PySem.W.Frag} : PySem.W.kitOne K (Value.type "list") (Value.type "str") = some false := rfl
@[simp] theorem ko_list_tuple {K : PySem.W.Frag} : PySem.W.kitOne K (Value.type "list") (Value.type "tuple") = some false := rfl
@[simp] theorem ko_list_list {K : PySem.W.Frag} : PySem.W.kitOne K (Value.type "list") (Value.type "list") = some true := rfl
@[simp] theorem ko_list_dict {K : PySem.W.Frag} : PySem.W.kitOne K (Value.type "list") (Value.type "dict") = some false := rfl
/-! == and != of flat values -/
@[simp] theorem eqF_int {i j : Int} {φ : D → Prop} : eqF (.int i) (.int j) φ ↔ φ (.bl (decide (i = j))) := by
  have e : eqF (.int i) (.int j) φ ↔ (true = true ∧ true = true ∧ true = true ∧ true = true ∧ φ (.bl ((i == j)))) := Iff.rfl
  have e2 : (i == j) = decide (i = j) := by
    by_cases h : i = j
    · rw [decide_eq_true h]; exact beq_iff_eq.mpr h
    · rw [decide_eq_false h]; exact beq_eq_false_iff_ne.mpr h
  rw [e, e2]
  simp
@[simp] theorem eqF_str {i j : Str} {φ : D → Prop} : eqF (.str i) (.str j) φ ↔ (SeqAt.shaped (.str i) = true ∧ SeqAt.shaped (.str j) = true ∧ φ (.bl (decide (i = j)))) := by
  have e : eqF (.str i) (.str j) φ ↔ (true = true ∧ true = true ∧ SeqAt.shaped (.str i) = true ∧ SeqAt.shaped (.str j) = true ∧ φ (.bl ((i == j)))) := Iff.rfl
  have e2 : (i == j) = decide (i = j) := by
    by_cases h : i = j
    · rw [decide_eq_true h]; exact beq_iff_eq.mpr h
    · rw [decide_eq_false h]; exact beq_eq_false_iff_ne.mpr h
  rw [e, e2]
  simp
@[simp] theorem eqF_bl {i j : Bool} {φ : D → Prop} : eqF (.bl i) (.bl j) φ ↔ φ (.bl (decide (i = j))) := by
  have e : eqF (.bl i) (.bl j) φ ↔ (true = true ∧ true = true ∧ true = true ∧ true = true ∧ φ (.bl ((i == j)))) := Iff.rfl
  have e2 : (i == j) = decide (i = j) := by
    by_cases h : i = j
    · rw [decide_eq_true h]; exact beq_iff_eq.mpr h
    · rw [decide_eq_false h]; exact beq_eq_false_iff_ne.mpr h
  rw [e, e2]
  simp
@[simp] theorem neF_int {i j : Int} {φ : D → Prop} : neF (.int i) (.int j) φ ↔ φ (.bl (!decide (i = j))) := by
  have e : neF (.int i) (.int j) φ ↔ (true = true ∧ true = true ∧ true = true ∧ true = true ∧ φ (.bl (!(i == j)))) := Iff.rfl
  have e2 : (i == j) = decide (i = j) := by
    by_cases h : i = j
    · rw [decide_eq_true h]; exact beq_iff_eq.mpr h
    · rw [decide_eq_false h]; exact beq_eq_false_iff_ne.mpr h
  rw [e, e2]
  simp
@[simp] theorem neF_str {i j : Str} {φ : D → Prop} : neF (.str i) (.str j) φ ↔ (SeqAt.shaped (.str i) = true ∧ SeqAt.shaped (.str j) = true ∧ φ (.bl (!decide (i = j)))) := by
  have e : neF (.str i) (.str j) φ ↔ (true = true ∧ true = true ∧ SeqAt.shaped (.str i) = true ∧ SeqAt.shaped (.str j) = true ∧ φ (.bl (!(i == j)))) := Iff.rfl
  have e2 : (i == j) = decide (i = j) := by
    by_cases h : i = j
    · rw [decide_eq_true h]; exact beq_iff_eq.mpr h
    · rw [decide_eq_false h]; exact beq_eq_false_iff_ne.mpr h
  rw [e, e2]
  simp
@[simp] theorem neF_bl {i j : Bool} {φ : D → Prop} : neF (.bl i) (.bl j) φ ↔ φ (.bl (!decide (i = j))) := by
  have e : neF (.bl i) (.bl j) φ ↔ (true = true ∧ true = true ∧ true = true ∧ true = true ∧ φ (.bl (!(i == j)))) := Iff.rfl
  have e2 : (i == j) = decide (i = j) := by
    by_cases h : i = j
    · rw [decide_eq_true h]; exact beq_iff_eq.mpr h
    · rw [decide_eq_false h]; exact beq_eq_false_iff_ne.mpr h
  rw [e, e2]
  simp
/-! ### texts as lists -/
abbrev lc (z : Str) : List Nat := z.cps.toList
def mks (l : List Nat) : Str := ⟨l.toArray⟩
theorem lc_mks (l : List Nat) : lc (mks l) = l := by unfold mks lc; simp
theorem mks_lc (z : Str) : mks (lc z) = z := by unfold mks lc; simp
theorem lc_app (a b : Str) : lc (a ++ b) = lc a ++ lc b := by
  show (a.cps ++ b.cps).toList = _
  rw [Array.toList_append]
theorem mks_app (a b : List Nat) : mks a ++ mks b = mks (a ++ b) := by
  rw [← mks_lc (mks a ++ mks b), lc_app, lc_mks, lc_mks]
theorem len_mks (l : List Nat) : (mks l).length = l.length := by
  show l.toArray.size = _
  simp
theorem lc_inj {a b : Str} (h : lc a = lc b) : a = b := by rw [← mks_lc a, h, mks_lc]
theorem mks_inj {a b : List Nat} (h : mks a = mks b) : a = b := by rw [← lc_mks a, h, lc_mks]
theorem len_lc (z : Str) : z.length = (lc z).length := by
  show z.cps.size = _
  simp
theorem atI_nat {α : Type} {xs : List α} {n : Nat} (h : n < xs.length) : atI xs (n : Int) = xs[n]? := by
  unfold atI ixN
  rw [if_pos (by omega), if_pos (by omega)]
  rfl
theorem at_pos {z : Str} {P R : List Nat} {c : Nat} (h : lc z = P ++ c :: R) : atI z.cps.toList (P.length : Int) = some c := by
  have h2 : z.cps.toList = P ++ c :: R := h
  rw [h2, atI_nat (by simp)]
  simp
theorem cut_mid {z : Str} {P S R : List Nat} (h : lc z = P ++ (S ++ R)) : cutS z (some (P.length : Int)) (some ((P.length + S.length : Nat) : Int)) = mks S := by
  have h2 : z.cps.toList = P ++ (S ++ R) := h
  have hl : z.length = P.length + (S.length + R.length) := by rw [len_lc, h]; simp
  unfold cutS mks
  rw [HT.sIx_nat, HT.sIx_nat, h2, hl]
  have e1 : min P.length (P.length + (S.length + R.length)) = P.length := by omega
  have e2 : min (P.length + S.length) (P.length + (S.length + R.length)) = P.length + S.length := by omega
  rw [e1, e2]
  have e3 : P.length + S.length - P.length = S.length := by omega
  rw [e3]
  simp
theorem cut_one {z : Str} {P R : List Nat} (h : lc z = P ++ R) : cutS z (some (P.length : Int)) (some ((P.length : Int) + 1)) = mks (R.take 1) := by
  have h2 : z.cps.toList = P ++ R := h
  have hl : z.length = P.length + R.length := by rw [len_lc, h]; simp
  unfold cutS mks
  have e0 : ((P.length : Int) + 1) = ((P.length + 1 : Nat) : Int) := by omega
  rw [e0, HT.sIx_nat, HT.sIx_nat, h2, hl]
  have e1 : min P.length (P.length + R.length) = P.length := by omega
  rw [e1]
  cases R with
  | nil => simp
  | cons c R =>
    have e2 : min (P.length + 1) (P.length + (c :: R).length) - P.length = 1 := by rw [List.length_cons]; omega
    rw [e2]
    simp
@[simp] theorem atI_0 {α : Type} {x : α} {xs : List α} : atI (x :: xs) 0 = some x := by
  have := atI_nat (xs := x :: xs) (n := 0) (by simp)
  simpa using this
@[simp] theorem atI_1 {α : Type} {x y : α} {xs : List α} : atI (x :: y :: xs) 1 = some y := by
  have := atI_nat (xs := x :: y :: xs) (n := 1) (by simp)
  simpa using this
@[simp] theorem atI_2 {α : Type} {x y z : α} {xs : List α} : atI (x :: y :: z :: xs) 2 = some z := by
  have := atI_nat (xs := x :: y :: z :: xs) (n := 2) (by simp)
  simpa using this
@[simp] theorem atI_3 {α : Type} {x y z u : α} {xs : List α} : atI (x :: y :: z :: u :: xs) 3 = some u := by
  have := atI_nat (xs := x :: y :: z :: u :: xs) (n := 3) (by simp)
  simpa using this
theorem go_else {A : TB} {c : Ct} {env : Ev} {X Y : Prop} (hA : ∀ ψ : Bool → Prop, ψ false → A c env ψ) (hY : Y) : A c env fun k => if k = true then X else Y := hA _ (by simpa using hY)
theorem go_then {A : TB} {c : Ct} {env : Ev} {X Y : Prop} (hA : ∀ ψ : Bool → Prop, ψ true → A c env ψ) (hX : X) : A c env fun k => if k = true then X else Y := hA _ (by simpa using hX)
@[simp] theorem sz_1 : (1 ≤ sizeLine) := by rw [sizeLine_eq]; decide
@[simp] theorem sz_2 : (2 ≤ sizeLine) := by rw [sizeLine_eq]; decide
@[simp] theorem sz_3 : (3 ≤ sizeLine) := by rw [sizeLine_eq]; decide
@[simp] theorem sz_4 : (4 ≤ sizeLine) := by rw [sizeLine_eq]; decide
@[simp] theorem sz_5 : (5 ≤ sizeLine) := by rw [sizeLine_eq]; decide
@[simp] theorem sz_6 : (6 ≤ sizeLine) := by rw [sizeLine_eq]; decide
@[simp] theorem sz_7 : (7 ≤ sizeLine) := by rw [sizeLine_eq]; decide
@[simp] theorem sz_8 : (8 ≤ sizeLine) := by rw [sizeLine_eq]; decide
@[simp] theorem sz_9 : (9 ≤ sizeLine) := by rw [sizeLine_eq]; decide
@[simp] theorem sz_10 : (10 ≤ sizeLine) := by rw [sizeLine_eq]; decide
@[simp] theorem sz_11 : (11 ≤ sizeLine) := by rw [sizeLine_eq]; decide
@[simp] theorem sz_12 : (12 ≤ sizeLine) := by rw [sizeLine_eq]; decide
end L3
/-! L3u: more of the plain side -/
namespace L3
open PySem PySem.Spec PyProof.Rows L2
theorem foldl_rep (l : List Nat) : ∀ (k : Nat) (acc : Array Nat), ((List.replicate k l.toArray).foldl (· ++ ·) acc).toList = acc.toList ++ (List.replicate k l).flatten
  | 0, acc => by simp
  | k + 1, acc => by
    rw [List.replicate_succ, List.foldl_cons, foldl_rep l k]
    simp [List.replicate_succ]
theorem mul_mks (l : List Nat) (n : Nat) : Txt.mul (mks l) (n : Int) = mks (List.replicate n l).flatten := by
  apply lc_inj
  rw [lc_mks]
  unfold Txt.mul
  by_cases h1 : (n : Int) < 1
  · rw [if_pos h1]
    have e : n = 0 := by omega
    subst e; rfl
  · rw [if_neg h1]
    by_cases h2 : (n : Int) = 1
    · have e : n = 1 := by omega
      subst e
      rw [if_pos (by simp)]
      simp [lc_mks]
    · by_cases h3 : l = []
      · subst h3
        have e : ((n : Int) == 1 || (mks []).length == 0) = true := by
          rw [len_mks]; simp
        rw [if_pos e]
        have : (List.replicate n ([] : List Nat)).flatten = [] := by simp
        rw [this]; rfl
      · have e : ((n : Int) == 1 || (mks l).length == 0) = false := by
          rw [len_mks]
          have a1 : ((n : Int) == 1) = false := by simpa using h2
          have a2 : (l.length == 0) = false := by
            cases l with
            | nil => exact absurd rfl h3
            | cons a b => rfl
          rw [a1, a2]; rfl
        rw [e, if_neg Bool.false_ne_true]
        show ((List.replicate (n : Int).toNat l.toArray).foldl (· ++ ·) #[]).toList = _
        rw [foldl_rep]; simp
theorem mulOk_mks {l : List Nat} {n : Nat} (h : l.length * n ≤ 16777216) (hn : n < 1000000) : MulOk (mks l) (n : Int) := by
  unfold MulOk
  rw [len_mks]
  refine ⟨?_, fun h1 h2 => ?_, fun h1 h2 => ?_⟩
  · simp
    omega
  · have hl : l.length ≤ 16777216 := by
      have : l.length * 1 ≤ l.length * n := Nat.mul_le_mul_left _ (by omega)
      omega
    intro hc
    have : (9223372036854775807 : Int) / n ≥ 16777216 := by
      apply Int.le_ediv_of_mul_le (by omega)
      omega
    have e : ((2 : Int) ^ 63 - 1) = 9223372036854775807 := by decide
    rw [e] at hc
    omega
  · unfold PySem.Builtin.Str.tooLong
    rw [sizeLine_eq]
    simp
    exact h
end L3
/-! L3: trees of the program, plainly -/
namespace L3
open PySem PySem.Spec PyProof.Rows L2
/-! ### signs -/
def letters : Str := "abcdefghijklmnopqrstuvwxyz"
def isLet (c : Nat) : Bool := occ ⟨#[c]⟩ letters
def isSg (s : List Nat) : Bool := decide (1 ≤ s.length) && (decide (s.length ≤ 6) && s.all isLet)
theorem letters_list : lc letters = List.range' 97 26 := by decide +kernel
theorem isLet_iff {c : Nat} : isLet c = true ↔ 97 ≤ c ∧ c ≤ 122 := by
  have e : isLet c = decide (c ∈ lc letters) := StrLaws.found_one letters c
  rw [e, letters_list, decide_eq_true_iff, List.mem_range'_1]
  omega
theorem let_open : isLet 40 = false := by decide +kernel
theorem let_close : isLet 41 = false := by decide +kernel
theorem let_comma : isLet 44 = false := by decide +kernel
/-! ### trees -/
inductive Tr where
  | nd (s : List Nat) (ks : List Tr)
/-- texts with commas between -/
def joinL : List (List Nat) → List Nat
  | [] => []
  | [x] => x
  | x :: y :: r => x ++ 44 :: joinL (y :: r)
def wrapL (s : List Nat) : List (List Nat) → List Nat
  | [] => s
  | x :: r => s ++ 40 :: (joinL (x :: r) ++ [41])
mutual
def Tr.txt : Tr → List Nat
  | .nd s ks => wrapL s (txts ks)
def txts : List Tr → List (List Nat)
  | [] => []
  | t :: r => t.txt :: txts r
end
mutual
def Tr.siz : Tr → Nat
  | .nd _ ks => 1 + sizs ks
def sizs : List Tr → Nat
  | [] => 0
  | t :: r => t.siz + sizs r
end
mutual
def Tr.dep : Tr → Nat
  | .nd _ ks => 1 + deps ks
def deps : List Tr → Nat
  | [] => 0
  | t :: r => max t.dep (deps r)
end
mutual
def Tr.ins : Tr → List (List Nat)
  | .nd s ks => inss ks ++ [(Tr.nd s ks).txt]
def inss : List Tr → List (List Nat)
  | [] => []
  | t :: r => t.ins ++ inss r
end
mutual
def Tr.key : Tr → D
  | .nd s ks => .tup [.int ((1 + sizs ks : Nat) : Int), .str (mks s), .int (ks.length : Nat), .tup (keys ks)]
def keys : List Tr → List D
  | [] => []
  | t :: r => t.key :: keys r
end
mutual
def Tr.ok : Tr → Prop
  | .nd s ks => isSg s = true ∧ ks.length ≤ 3 ∧ oks ks
def oks : List Tr → Prop
  | [] => True
  | t :: r => t.ok ∧ oks r
end
theorem txts_eq : ∀ ks : List Tr, txts ks = ks.map Tr.txt
  | [] => rfl
  | t :: r => congrArg (t.txt :: ·) (txts_eq r)
theorem sizs_eq : ∀ ks : List Tr, sizs ks = (ks.map Tr.siz).sum
  | [] => rfl
  | t :: r => by
    show t.siz + sizs r = _
    rw [sizs_eq r, List.map_cons, List.sum_cons]
theorem inss_eq : ∀ ks : List Tr, inss ks = ks.flatMap Tr.ins
  | [] => rfl
  | t :: r => by
    show t.ins ++ inss r = _
    rw [inss_eq r, List.flatMap_cons]
theorem keys_eq : ∀ ks : List Tr, keys ks = ks.map Tr.key
  | [] => rfl
  | t :: r => congrArg (t.key :: ·) (keys_eq r)
theorem oks_iff : ∀ {ks : List Tr}, oks ks ↔ ∀ t ∈ ks, t.ok
  | [] => by simp [oks]
  | t :: r => by
    show t.ok ∧ oks r ↔ _
    rw [oks_iff (ks := r)]
    simp
theorem deps_le : ∀ {ks : List Tr} {t : Tr}, t ∈ ks → t.dep ≤ deps ks
  | u :: r, t, h => by
    show _ ≤ max u.dep (deps r)
    rcases List.mem_cons.mp h with e | e
    · subst e; exact Nat.le_max_left _ _
    · exact Nat.le_trans (deps_le e) (Nat.le_max_right _ _)
theorem sizs_le : ∀ {ks : List Tr} {t : Tr}, t ∈ ks → t.siz ≤ sizs ks
  | u :: r, t, h => by
    show _ ≤ u.siz + sizs r
    rcases List.mem_cons.mp h with e | e
    · subst e; omega
    · have := sizs_le e; omega
theorem deps_fold : ∀ (ks : List Tr) (a : Nat), (ks.map fun t => ((t.dep : Nat) : Int)).foldl max (a : Int) = ((max a (deps ks) : Nat) : Int)
  | [], a => by
    show (a : Int) = ((max a 0 : Nat) : Int)
    omega
  | t :: r, a => by
    rw [List.map_cons, List.foldl_cons]
    have e : max (a : Int) (t.dep : Nat) = ((max a t.dep : Nat) : Int) := by omega
    rw [e, deps_fold r]
    show ((max (max a t.dep) (deps r) : Nat) : Int) = ((max a (max t.dep (deps r)) : Nat) : Int)
    omega
/-! the fields of a tree -/
mutual
def trD (C : Addr) : Tr → D
  | .nd s ks => .ins C [("sign", .str (mks s)), ("branches", .tup (trDs C ks)), ("size", .int ((1 + sizs ks : Nat) : Int)), ("depth", .int ((1 + deps ks : Nat) : Int)), ("text", .str (mks (wrapL s (txts ks)))),
      ("inside", .tup ((inss ks ++ [wrapL s (txts ks)]).map fun l => .str (mks l))), ("key", Tr.key (.nd s ks))]
def trDs (C : Addr) : List Tr → List D
  | [] => []
  | t :: r => trD C t :: trDs C r
end
theorem trDs_eq {C : Addr} : ∀ ks : List Tr, trDs C ks = ks.map (trD C)
  | [] => rfl
  | t :: r => congrArg (trD C t :: ·) (trDs_eq r)
/-- a tree's field -/
def Tr.fld (C : Addr) (t : Tr) : List (Str × D) := match trD C t with
  | .ins _ fs => fs
  | _ => []
theorem trD_ins {C : Addr} (t : Tr) : trD C t = .ins C (t.fld C) := by
  cases t with
  | nd s ks => rfl
section
variable {C : Addr} (t : Tr)
theorem fld_sign : (t.fld C).lookup ("sign" : Str) = some (.str (mks (match t with | .nd s _ => s))) := by cases t; rfl
theorem fld_branches : (t.fld C).lookup ("branches" : Str) = some (.tup (match t with | .nd _ ks => ks.map (trD C))) := by
  cases t with
  | nd s ks =>
    show some (D.tup (trDs C ks)) = _
    rw [trDs_eq]
theorem fld_size : (t.fld C).lookup ("size" : Str) = some (.int (t.siz : Nat)) := by cases t; rfl
theorem fld_depth : (t.fld C).lookup ("depth" : Str) = some (.int (t.dep : Nat)) := by cases t; rfl
theorem fld_text : (t.fld C).lookup ("text" : Str) = some (.str (mks t.txt)) := by cases t; rfl
theorem fld_inside : (t.fld C).lookup ("inside" : Str) = some (.tup (t.ins.map fun l => .str (mks l))) := by cases t; rfl
theorem fld_key : (t.fld C).lookup ("key" : Str) = some t.key := by cases t; rfl
end
/-! lengths -/
theorem ok_sg_len {s : List Nat} (h : isSg s = true) : 1 ≤ s.length ∧ s.length ≤ 6 ∧ ∀ c ∈ s, isLet c = true := by
  unfold isSg at h
  simp only [Bool.and_eq_true, decide_eq_true_eq, List.all_eq_true] at h
  exact h
theorem joinL_len : ∀ ls : List (List Nat), (ls.map List.length).sum ≤ (joinL ls).length
  | [] => Nat.le_refl _
  | [x] => by simp [joinL]
  | x :: y :: r => by
    have := joinL_len (y :: r)
    rw [List.map_cons, List.sum_cons]
    show _ ≤ (x ++ 44 :: joinL (y :: r)).length
    rw [List.length_append, List.length_cons]
    omega
theorem joinL_le : ∀ ls : List (List Nat), (joinL ls).length ≤ (ls.map List.length).sum + ls.length
  | [] => Nat.le_refl _
  | [x] => by simp [joinL]
  | x :: y :: r => by
    have := joinL_le (y :: r)
    rw [List.map_cons, List.sum_cons, List.length_cons]
    show (x ++ 44 :: joinL (y :: r)).length ≤ _
    rw [List.length_append, List.length_cons]
    omega
theorem wrapL_len (s : List Nat) (ls : List (List Nat)) : s.length + (ls.map List.length).sum ≤ (wrapL s ls).length := by
  cases ls with
  | nil => simp [wrapL]
  | cons x r =>
    have := joinL_len (x :: r)
    show _ ≤ (s ++ 40 :: (joinL (x :: r) ++ [41])).length
    rw [List.length_append, List.length_cons, List.length_append]
    omega
mutual
theorem siz_txt : ∀ {t : Tr}, t.ok → t.siz ≤ t.txt.length
  | .nd s ks, h => by
    have h1 := (ok_sg_len h.1).1
    have h2 := sizs_txts h.2.2
    have h3 := wrapL_len s (txts ks)
    show 1 + sizs ks ≤ (wrapL s (txts ks)).length
    omega
theorem sizs_txts : ∀ {ks : List Tr}, oks ks → sizs ks ≤ ((txts ks).map List.length).sum
  | [], _ => Nat.le_refl _
  | t :: r, h => by
    have h1 := siz_txt h.1
    have h2 := sizs_txts h.2
    show t.siz + sizs r ≤ ((t.txt :: txts r).map List.length).sum
    rw [List.map_cons, List.sum_cons]
    omega
end
mutual
theorem ins_len : ∀ t : Tr, t.ins.length = t.siz
  | .nd s ks => by
    show (inss ks ++ [_]).length = 1 + sizs ks
    rw [List.length_append, inss_len ks, List.length_singleton]
    omega
theorem inss_len : ∀ ks : List Tr, (inss ks).length = sizs ks
  | [] => rfl
  | t :: r => by
    show (t.ins ++ inss r).length = t.siz + sizs r
    rw [List.length_append, ins_len t, inss_len r]
end
theorem txt_ne {t : Tr} (h : t.ok) : t.txt ≠ [] := by
  cases t with
  | nd s ks =>
    have h1 := (ok_sg_len h.1).1
    have h2 := wrapL_len s (txts ks)
    intro e
    have e2 : wrapL s (txts ks) = [] := e
    have e3 : (wrapL s (txts ks)).length = 0 := by rw [e2]; rfl
    omega
theorem join_mks (ls : List (List Nat)) : Txt.join (mks [44]) (ls.map mks) = mks (joinL ls) := by
  have key : ∀ ls : List (List Nat), Str.join (mks [44]) (ls.map mks) = mks (joinL ls) := by
    intro ls
    induction ls with
    | nil => rfl
    | cons x r ih =>
      cases r with
      | nil => rfl
      | cons y r =>
        show mks x ++ mks [44] ++ Str.join (mks [44]) ((y :: r).map mks) = _
        rw [ih, mks_app, mks_app]
        show _ = mks (x ++ 44 :: joinL (y :: r))
        rw [List.append_assoc]
        rfl
  rw [← key ls]
  exact StrLaws.glued_eq_join _ _
/-! the signs of a text -/
theorem joinL_mem {P : Nat → Prop} (hc : P 44) : ∀ {ls : List (List Nat)}, (∀ l ∈ ls, ∀ c ∈ l, P c) → ∀ c ∈ joinL ls, P c
  | [], _, c, h => by cases h
  | [x], hx, c, h => hx x List.mem_cons_self c h
  | x :: y :: r, hx, c, h => by
    rcases List.mem_append.mp (show c ∈ x ++ 44 :: joinL (y :: r) from h) with h | h
    · exact hx x List.mem_cons_self c h
    · rcases List.mem_cons.mp h with h | h
      · subst h; exact hc
      · exact joinL_mem hc (fun l hl => hx l (List.mem_cons_of_mem _ hl)) c h
mutual
theorem txt_mem {P : Nat → Prop} (h1 : P 40) (h2 : P 41) (h3 : P 44) (hl : ∀ c, isLet c = true → P c) : ∀ {t : Tr}, t.ok → ∀ c ∈ t.txt, P c
  | .nd s ks, h, c, hc => by
    have hs := (ok_sg_len h.1).2.2
    have hk := txts_mem h1 h2 h3 hl h.2.2
    have hc2 : c ∈ wrapL s (txts ks) := hc
    cases e : txts ks with
    | nil =>
      rw [e] at hc2
      exact hl c (hs c hc2)
    | cons x r =>
      rw [e] at hc2 hk
      rcases List.mem_append.mp (show c ∈ s ++ 40 :: (joinL (x :: r) ++ [41]) from hc2) with h | h
      · exact hl c (hs c h)
      · rcases List.mem_cons.mp h with h | h
        · subst h; exact h1
        · rcases List.mem_append.mp h with h | h
          · exact joinL_mem h3 hk c h
          · rw [List.mem_singleton.mp h]; exact h2
theorem txts_mem {P : Nat → Prop} (h1 : P 40) (h2 : P 41) (h3 : P 44) (hl : ∀ c, isLet c = true → P c) : ∀ {ks : List Tr}, oks ks → ∀ l ∈ txts ks, ∀ c ∈ l, P c
  | [], _, l, hl2 => by cases hl2
  | t :: r, h, l, hl2 => by
    rcases List.mem_cons.mp (show l ∈ t.txt :: txts r from hl2) with e | e
    · subst e; exact txt_mem h1 h2 h3 hl h.1
    · exact txts_mem h1 h2 h3 hl h.2 l e
end
theorem shaped_mks {l : List Nat} (h : ∀ c ∈ l, c < 128) : SeqAt.shaped (.str (mks l)) = true := by
  have e : PyData.strOk (mks l) = true := by
    show l.toArray.all (· < 0x110000) = true
    rw [Array.all_eq_true']
    intro c hc
    have := h c (by simpa using hc)
    exact decide_eq_true (by omega)
  show (PyData.strOk (mks l) && decide (0 ≤ 64)) = true
  rw [e]
  rfl
theorem shaped_txt {t : Tr} (h : t.ok) : SeqAt.shaped (.str (mks t.txt)) = true :=
  shaped_mks (txt_mem (P := fun c => c < 128) (by decide) (by decide) (by decide) (fun c hc => by have := isLet_iff.mp hc; omega) h)
theorem sizs_int (ks : List Tr) : ((1 + sizs ks : Nat) : Int) = 1 + (ks.map fun t => ((t.siz : Nat) : Int)).sum := by
  have key : ∀ ks : List Tr, ((sizs ks : Nat) : Int) = (ks.map fun t => ((t.siz : Nat) : Int)).sum := by
    intro ks
    induction ks with
    | nil => rfl
    | cons t r ih =>
      rw [List.map_cons, List.sum_cons, ← ih]
      show ((t.siz + sizs r : Nat) : Int) = _
      omega
  rw [← key]
  omega
theorem fld_nd {C : Addr} {s : List Nat} {ks : List Tr} : (Tr.nd s ks).fld C = ([("sign", .str (mks s)), ("branches", .tup (ks.map (trD C))), ("size", .int (1 + (ks.map fun t => ((t.siz : Nat) : Int)).sum)), ("depth", .int (1 + (deps ks : Nat))), ("text", .str (mks (wrapL s (txts ks)))),
    ("inside", .tup ((ks.flatMap fun t => t.ins.map fun l => D.str (mks l)) ++ [.str (mks (wrapL s (txts ks)))])), ("key", .tup [.int (1 + (ks.map fun t => ((t.siz : Nat) : Int)).sum), .str (mks s), .int (ks.length : Nat), .tup (ks.map Tr.key)])] : List (Str × D)) := by
  show ([("sign", D.str (mks s)), ("branches", .tup (trDs C ks)), ("size", .int ((1 + sizs ks : Nat) : Int)), ("depth", .int ((1 + deps ks : Nat) : Int)), ("text", .str (mks (wrapL s (txts ks)))),
      ("inside", .tup ((inss ks ++ [wrapL s (txts ks)]).map fun l => .str (mks l))), ("key", .tup [.int ((1 + sizs ks : Nat) : Int), .str (mks s), .int (ks.length : Nat), .tup (keys ks)])] : List (Str × D)) = _
  have ed : ((1 + deps ks : Nat) : Int) = 1 + (deps ks : Nat) := by omega
  rw [trDs_eq, sizs_int, ed, keys_eq, List.map_append, inss_eq, List.map_flatMap]
  rfl
theorem mxD_deps (ks : List Tr) : mxD (.int 0) (ks.map fun t => ((t.dep : Nat) : Int)) = .int (deps ks : Nat) := by
  cases ks with
  | nil => rfl
  | cons t r =>
    show D.int ((r.map fun t => ((t.dep : Nat) : Int)).foldl max ((t.dep : Nat) : Int)) = _
    rw [deps_fold r]
    rfl
theorem inss_map_len (ks : List Tr) : (ks.flatMap fun t => t.ins.map fun l => D.str (mks l)).length = sizs ks := by
  rw [← List.map_flatMap, List.length_map, ← inss_eq, inss_len]
/-! what follows the sign of a tree -/
def sepR : Bool → List Tr → List Nat → List Nat
  | _, [], post => 41 :: post
  | first, t :: r, post => (if first then 40 else 44) :: (t.txt ++ sepR false r post)
theorem join_sep : ∀ (t : Tr) (r : List Tr) (post : List Nat), joinL (txts (t :: r)) ++ 41 :: post = t.txt ++ sepR false r post
  | t, [], post => rfl
  | t, u :: r, post => by
    show (t.txt ++ 44 :: joinL (txts (u :: r))) ++ 41 :: post = t.txt ++ 44 :: (u.txt ++ sepR false r post)
    rw [← join_sep u r post]
    simp
theorem txt_sep (s : List Nat) (t : Tr) (r : List Tr) (post : List Nat) : (Tr.nd s (t :: r)).txt ++ post = s ++ sepR true (t :: r) post := by
  show (s ++ 40 :: (joinL (txts (t :: r)) ++ [41])) ++ post = s ++ 40 :: (t.txt ++ sepR false r post)
  rw [← join_sep t r post]
  simp
def sepOk : List Nat → Prop
  | [] => True
  | c :: _ => c = 44 ∨ c = 41
theorem sepR_ok : ∀ (r : List Tr) (post : List Nat), sepOk (sepR false r post)
  | [], _ => .inr rfl
  | _ :: _, _ => .inl rfl
end L3
/-! L3to: the order of trees: keys, texts tell trees apart; an exchanged piece -/
namespace L3
open PySem PySem.Spec PyProof.Rows L2
theorem dep_pos (t : Tr) : 1 ≤ t.dep := by
  cases t with
  | nd s ks =>
    show 1 ≤ 1 + deps ks
    omega
mutual
theorem dep_siz : ∀ t : Tr, t.dep ≤ t.siz
  | .nd s ks => by
    have := deps_sizs ks
    show 1 + deps ks ≤ 1 + sizs ks
    omega
theorem deps_sizs : ∀ ks : List Tr, deps ks ≤ sizs ks
  | [] => Nat.le_refl _
  | t :: r => by
    have h1 := dep_siz t
    have h2 := deps_sizs r
    show max t.dep (deps r) ≤ t.siz + sizs r
    omega
end
theorem siz_pos (t : Tr) : 1 ≤ t.siz := Nat.le_trans (dep_pos t) (dep_siz t)
theorem sizs_snoc : ∀ (ks : List Tr) (t : Tr), sizs (ks ++ [t]) = sizs ks + t.siz
  | [], t => by show t.siz + 0 = 0 + t.siz; omega
  | u :: r, t => by
    show u.siz + sizs (r ++ [t]) = u.siz + sizs r + t.siz
    rw [sizs_snoc r t]
    omega
mutual
theorem txt9 : ∀ {t : Tr}, t.ok → t.txt.length + 1 ≤ 9 * t.siz
  | .nd s [], h => by
    have := (ok_sg_len h.1).2.1
    show s.length + 1 ≤ 9 * (1 + 0)
    omega
  | .nd s (t :: r), h => by
    have h1 := (ok_sg_len h.1).2.1
    have h2 := txts9 h.2.2
    have h3 := joinL_le (txts (t :: r))
    have h4 : (txts (t :: r)).length = (t :: r).length := by rw [txts_eq, List.length_map]
    show (s ++ 40 :: (joinL (txts (t :: r)) ++ [41])).length + 1 ≤ 9 * (1 + sizs (t :: r))
    rw [List.length_append, List.length_cons, List.length_append, List.length_singleton]
    omega
theorem txts9 : ∀ {ks : List Tr}, oks ks → ((txts ks).map List.length).sum + ks.length ≤ 9 * sizs ks
  | [], _ => Nat.le_refl _
  | t :: r, h => by
    have h1 := txt9 h.1
    have h2 := txts9 h.2
    show ((t.txt :: txts r).map List.length).sum + (r.length + 1) ≤ 9 * (t.siz + sizs r)
    rw [List.map_cons, List.sum_cons]
    omega
end
/-! ### texts tell trees apart -/
theorem let_split : ∀ {s s' R R' : List Nat}, (∀ c ∈ s, isLet c = true) → (∀ c ∈ s', isLet c = true) → (∀ c r, R = c :: r → isLet c = false) → (∀ c r, R' = c :: r → isLet c = false) → s ++ R = s' ++ R' → s = s' ∧ R = R'
  | [], [], _, _, _, _, _, _, h => ⟨rfl, h⟩
  | [], c :: s', R, R', _, h2, h3, _, h => by
    have := h3 c (s' ++ R') h
    rw [h2 c List.mem_cons_self] at this
    cases this
  | c :: s, [], R, R', h1, _, _, h4, h => by
    have := h4 c (s ++ R) h.symm
    rw [h1 c List.mem_cons_self] at this
    cases this
  | c :: s, d :: s', R, R', h1, h2, h3, h4, h => by
    injection h with e1 e2
    obtain ⟨a, b⟩ := let_split (fun c hc => h1 c (List.mem_cons_of_mem _ hc)) (fun c hc => h2 c (List.mem_cons_of_mem _ hc)) h3 h4 e2
    exact ⟨by rw [e1, a], b⟩
theorem sepOk_let {l : List Nat} (h : sepOk l) : ∀ c r, l = c :: r → isLet c = false := fun c r e => by
  subst e
  rcases h with e | e
  · subst e; exact let_comma
  · subst e; exact let_close
theorem sepR_let {t : Tr} {r : List Tr} {l : List Nat} : ∀ c q, sepR true (t :: r) l = c :: q → isLet c = false := fun c q e => by
  have : 40 = c := by injection e
  subst this
  exact let_open
mutual
theorem txt_app_inj : ∀ {a b : Tr} {l m : List Nat}, a.ok → b.ok → sepOk l → sepOk m → a.txt ++ l = b.txt ++ m → a = b ∧ l = m
  | .nd s [], .nd s' [], l, m, ha, hb, hl, hm, h => by
    obtain ⟨e1, e2⟩ := let_split (ok_sg_len ha.1).2.2 (ok_sg_len hb.1).2.2 (sepOk_let hl) (sepOk_let hm) (show s ++ l = s' ++ m from h)
    rw [e1]
    exact ⟨rfl, e2⟩
  | .nd s [], .nd s' (u :: q), l, m, ha, hb, hl, hm, h => by
    rw [txt_sep] at h
    obtain ⟨e1, e2⟩ := let_split (ok_sg_len ha.1).2.2 (ok_sg_len hb.1).2.2 (sepOk_let hl) sepR_let (show s ++ l = _ from h)
    rw [e2] at hl
    rcases hl with e | e <;> cases e
  | .nd s (t :: r), .nd s' [], l, m, ha, hb, hl, hm, h => by
    rw [txt_sep] at h
    obtain ⟨e1, e2⟩ := let_split (ok_sg_len ha.1).2.2 (ok_sg_len hb.1).2.2 sepR_let (sepOk_let hm) (show _ = s' ++ m from h)
    rw [← e2] at hm
    rcases hm with e | e <;> cases e
  | .nd s (t :: r), .nd s' (u :: q), l, m, ha, hb, hl, hm, h => by
    rw [txt_sep, txt_sep] at h
    obtain ⟨e1, e2⟩ := let_split (ok_sg_len ha.1).2.2 (ok_sg_len hb.1).2.2 sepR_let sepR_let h
    have e3 : t.txt ++ sepR false r l = u.txt ++ sepR false q m := by
      have e4 : 40 :: (t.txt ++ sepR false r l) = 40 :: (u.txt ++ sepR false q m) := e2
      injection e4
    obtain ⟨e5, e6⟩ := txt_app_inj ha.2.2.1 hb.2.2.1 (sepR_ok _ _) (sepR_ok _ _) e3
    obtain ⟨e7, e8⟩ := seps_inj ha.2.2.2 hb.2.2.2 hl hm e6
    rw [e1, e5, e7]
    exact ⟨rfl, e8⟩
theorem seps_inj : ∀ {r q : List Tr} {l m : List Nat}, oks r → oks q → sepOk l → sepOk m → sepR false r l = sepR false q m → r = q ∧ l = m
  | [], [], l, m, _, _, _, _, h => by
    have h2 : 41 :: l = 41 :: m := h
    injection h2 with _ e
    exact ⟨rfl, e⟩
  | [], u :: q, l, m, _, _, _, _, h => by
    have h2 : 41 :: l = 44 :: (u.txt ++ sepR false q m) := h
    injection h2 with e
    cases e
  | t :: r, [], l, m, _, _, _, _, h => by
    have h2 : 44 :: (t.txt ++ sepR false r l) = 41 :: m := h
    injection h2 with e
    cases e
  | t :: r, u :: q, l, m, hr, hq, hl, hm, h => by
    have h2 : 44 :: (t.txt ++ sepR false r l) = 44 :: (u.txt ++ sepR false q m) := h
    injection h2 with _ e3
    obtain ⟨e5, e6⟩ := txt_app_inj hr.1 hq.1 (sepR_ok _ _) (sepR_ok _ _) e3
    obtain ⟨e7, e8⟩ := seps_inj hr.2 hq.2 hl hm e6
    rw [e5, e7]
    exact ⟨rfl, e8⟩
end
theorem txt_inj {a b : Tr} (ha : a.ok) (hb : b.ok) (h : a.txt = b.txt) : a = b :=
  (txt_app_inj ha hb (l := []) (m := []) trivial trivial (by rw [h])).1
/-! ### keys -/
mutual
theorem key_alike : ∀ a b : Tr, PySem.W.alike (toP a.key) (toP b.key) = true
  | .nd s ks, .nd s' ks' => by
    show (true && (true && (true && (PySem.W.alikeAll (toPs (keys ks)) (toPs (keys ks')) && true)))) = true
    rw [keys_alike ks ks']; rfl
theorem keys_alike : ∀ a b : List Tr, PySem.W.alikeAll (toPs (keys a)) (toPs (keys b)) = true
  | [], b => by cases b <;> rfl
  | a :: r, [] => rfl
  | a :: r, b :: q => by
    show (PySem.W.alike (toP a.key) (toP b.key) && PySem.W.alikeAll (toPs (keys r)) (toPs (keys q))) = true
    rw [key_alike a b, keys_alike r q]; rfl
end
mutual
theorem key_p : ∀ t : Tr, isP t.key = true ∧ (toP t.key).depth ≤ 2 * t.dep
  | .nd s ks => by
    obtain ⟨h1, h3⟩ := keys_p ks
    refine ⟨?_, ?_⟩
    · show (true && (true && (true && (isPs (keys ks) && true)))) = true
      rw [h1]; rfl
    · show max 0 (max 0 (max 0 (max (PyData.depthAll (toPs (keys ks)) + 1) 0))) + 1 ≤ 2 * (1 + deps ks)
      omega
theorem keys_p : ∀ ks : List Tr, isPs (keys ks) = true ∧ PyData.depthAll (toPs (keys ks)) ≤ 2 * deps ks
  | [] => ⟨rfl, Nat.zero_le _⟩
  | t :: r => by
    obtain ⟨a1, a3⟩ := key_p t
    obtain ⟨b1, b3⟩ := keys_p r
    refine ⟨?_, ?_⟩
    · show (isP t.key && isPs (keys r)) = true
      rw [a1, b1]; rfl
    · show max (PyData.depth (toP t.key)) (PyData.depthAll (toPs (keys r))) ≤ 2 * max t.dep (deps r)
      omega
end
abbrev Tok2 := Int ⊕ List Nat
def tks (t : Tr) : List Tok2 := PySem.W.keyToks (toP t.key)
def tkss (ks : List Tr) : List Tok2 := PySem.W.keyToksAll (toPs (keys ks))
theorem tks_nd (s : List Nat) (ks : List Tr) : tks (.nd s ks) = .inl 1 :: .inl ((1 + sizs ks : Nat) : Int) :: .inl 1 :: .inr s :: .inl 1 :: .inl (ks.length : Nat) :: .inl 1 :: (tkss ks ++ [.inl 0]) := by
  show PySem.W.keyToksAll _ = _
  have e : (mks s).cps.toList = s := lc_mks s
  show Sum.inl 1 :: ([Sum.inl ((1 + sizs ks : Nat) : Int)] ++ Sum.inl 1 :: ([Sum.inr (mks s).cps.toList] ++ Sum.inl 1 :: ([Sum.inl ((ks.length : Nat) : Int)] ++ Sum.inl 1 :: (tkss ks ++ [Sum.inl 0])))) = _
  rw [e]; rfl
theorem tkss_cons (t : Tr) (r : List Tr) : tkss (t :: r) = .inl 1 :: (tks t ++ tkss r) := PySem.W.toks_all_cons _ _
theorem tkss_nil : tkss [] = [.inl 0] := rfl
mutual
theorem tks_inj : ∀ {a b : Tr} {l m : List Tok2}, tks a ++ l = tks b ++ m → a = b ∧ l = m
  | .nd s ks, .nd s' ks', l, m, h => by
    rw [tks_nd, tks_nd] at h
    simp only [List.cons_append, List.append_assoc] at h
    injection h with _ h
    injection h with _ h
    injection h with _ h
    injection h with e1 h
    injection h with _ h
    injection h with _ h
    injection h with _ h
    obtain ⟨e2, e3⟩ := tkss_inj h
    injection e1 with e1
    injection e3 with _ e3
    rw [e1, e2]
    exact ⟨rfl, e3⟩
theorem tkss_inj : ∀ {a b : List Tr} {l m : List Tok2}, tkss a ++ l = tkss b ++ m → a = b ∧ l = m
  | [], [], l, m, h => by
    injection h with _ h
    exact ⟨rfl, h⟩
  | [], b :: q, l, m, h => by
    rw [tkss_cons] at h
    injection h with e _
    injection e with e
    cases e
  | a :: r, [], l, m, h => by
    rw [tkss_cons] at h
    injection h with e _
    injection e with e
    cases e
  | a :: r, b :: q, l, m, h => by
    rw [tkss_cons, tkss_cons] at h
    simp only [List.cons_append, List.append_assoc] at h
    injection h with _ h
    obtain ⟨e1, e2⟩ := tks_inj h
    obtain ⟨e3, e4⟩ := tkss_inj e2
    rw [e1, e3]
    exact ⟨rfl, e4⟩
end
/-- the order of the keys -/
def ltT (a b : Tr) : Bool := PySem.W.dataLt (toP a.key) (toP b.key)
theorem ltT_eq (a b : Tr) : ltT a b = PyProof.Rows.lexLt itemOrd (tks a) (tks b) := rfl
theorem ltT_self (a : Tr) : ltT a a = false := lex_irrefl (O := itemOrd) _
theorem ltT_total {a b : Tr} (h1 : ltT a b = false) (h2 : ltT b a = false) : a = b := by
  have e : tks a = tks b := lex_total (O := itemOrd) _ _ h1 h2
  exact (tks_inj (l := []) (m := []) (by rw [e])).1
theorem ltT_asymm {a b : Tr} (h : ltT a b = true) : ltT b a = false := by
  cases z : ltT b a with
  | false => rfl
  | true =>
    have := lex_trans (O := itemOrd) _ _ _ h z
    rw [lex_irrefl] at this
    cases this
/-- compare_trees -/
def cmpT (a b : Tr) : Int := (if ltT b a = true then 1 else 0) - (if ltT a b = true then 1 else 0)
theorem cmpT_swap (a b : Tr) : cmpT b a = 0 - cmpT a b := by unfold cmpT; omega
theorem cmpT_zero {a b : Tr} : cmpT a b = 0 ↔ a = b := by
  constructor
  · intro h
    unfold cmpT at h
    cases h1 : ltT a b with
    | true =>
      have h2 := ltT_asymm h1
      rw [h1, h2] at h
      cases h
    | false =>
      cases h2 : ltT b a with
      | true =>
        rw [h1, h2] at h
        cases h
      | false => exact ltT_total h1 h2
  · intro e
    subst e
    unfold cmpT
    omega
theorem ltT_app {a b : Tr} (h : a ≠ b) (l m : List Tok2) : PyProof.Rows.lexLt itemOrd (tks a ++ l) (tks b ++ m) = ltT a b := by
  obtain ⟨h1, h2⟩ := PySem.W.toks_eqv _ _ (key_alike a b)
  cases z : PyData.eqv (toP a.key) (toP b.key) with
  | true =>
    have e : tks a = tks b := h1 z
    exact absurd (tks_inj (l := []) (m := []) (by rw [e])).1 h
  | false => exact h2 z l m
/-! ### an exchanged piece -/
def isAt : List Nat → Tr → Tr → Prop
  | [], t, v => v = t
  | i :: p, .nd _ ks, v => ∃ k, ks[i]? = some k ∧ isAt p k v
def putT : List Nat → Tr → Tr → Tr
  | [], _, u => u
  | i :: p, .nd s ks, u => .nd s (ks.set i (putT p (ks.getD i (.nd [] [])) u))
theorem getD_some {ks : List Tr} {i : Nat} {k d : Tr} (h : ks[i]? = some k) : ks.getD i d = k := by
  rw [List.getD_eq_getElem?_getD, h]; rfl
theorem putT_step {i : Nat} {p : List Nat} {s : List Nat} {ks : List Tr} {k u : Tr} (h : ks[i]? = some k) : putT (i :: p) (.nd s ks) u = .nd s (ks.set i (putT p k u)) := by
  show Tr.nd s (ks.set i (putT p (ks.getD i (.nd [] [])) u)) = _
  rw [getD_some h]
theorem sizs_set : ∀ {ks : List Tr} {i : Nat} {k u : Tr}, ks[i]? = some k → sizs (ks.set i u) + k.siz = sizs ks + u.siz
  | x :: r, 0, k, u, h => by
    have e : x = k := by simpa using h
    subst e
    show u.siz + sizs r + x.siz = x.siz + sizs r + u.siz
    omega
  | x :: r, i + 1, k, u, h => by
    have := sizs_set (ks := r) (i := i) (k := k) (u := u) (by simpa using h)
    show x.siz + sizs (r.set i u) + k.siz = x.siz + sizs r + u.siz
    omega
  | [], i, k, u, h => by simp at h
theorem siz_put : ∀ {p : List Nat} {t v u : Tr}, isAt p t v → (putT p t u).siz + v.siz = t.siz + u.siz
  | [], t, v, u, h => by
    have e : v = t := h
    subst e
    show u.siz + v.siz = v.siz + u.siz
    omega
  | i :: p, .nd s ks, v, u, ⟨k, h1, h2⟩ => by
    rw [putT_step h1]
    have a1 := siz_put (u := u) h2
    have a2 := sizs_set (u := putT p k u) h1
    show 1 + sizs (ks.set i (putT p k u)) + v.siz = 1 + sizs ks + u.siz
    omega
theorem oks_get {ks : List Tr} {i : Nat} {k : Tr} (h : oks ks) (e : ks[i]? = some k) : k.ok := oks_iff.mp h k (List.mem_of_getElem? e)
theorem oks_set {ks : List Tr} {i : Nat} {u : Tr} (h : oks ks) (hu : u.ok) : oks (ks.set i u) := oks_iff.mpr fun t ht => by
  rcases List.mem_or_eq_of_mem_set ht with z | z
  · exact oks_iff.mp h t z
  · rw [z]; exact hu
theorem ok_put : ∀ {p : List Nat} {t v u : Tr}, isAt p t v → t.ok → u.ok → (putT p t u).ok
  | [], t, v, u, _, _, hu => hu
  | i :: p, .nd s ks, v, u, ⟨k, h1, h2⟩, ht, hu => by
    rw [putT_step h1]
    exact ⟨ht.1, by rw [List.length_set]; exact ht.2.1, oks_set ht.2.2 (ok_put h2 (oks_get ht.2.2 h1) hu)⟩
theorem ok_at : ∀ {p : List Nat} {t v : Tr}, isAt p t v → t.ok → v.ok
  | [], t, v, h, ht => by
    have e : v = t := h
    rw [e]; exact ht
  | i :: p, .nd s ks, v, ⟨k, h1, h2⟩, ht => ok_at h2 (oks_get ht.2.2 h1)
theorem siz_at {p : List Nat} {t v : Tr} (h : isAt p t v) : v.siz ≤ t.siz := by
  have h1 := siz_put (u := .nd [] []) h
  have h2 := siz_pos (putT p t (.nd [] []))
  have h3 : (Tr.nd [] []).siz = 1 := rfl
  omega
theorem tkss_app : ∀ (A : List Tr) (k : Tr) (B : List Tr), ∃ P Q : List Tok2, ∀ u, tkss (A ++ u :: B) = P ++ (tks u ++ Q)
  | [], k, B => ⟨[.inl 1], tkss B, fun u => by rw [List.nil_append, tkss_cons]; rfl⟩
  | a :: A, k, B => by
    obtain ⟨P, Q, h⟩ := tkss_app A k B
    exact ⟨.inl 1 :: (tks a ++ P), Q, fun u => by rw [List.cons_append, tkss_cons, h u]; simp⟩
theorem set_split {ks : List Tr} {i : Nat} {k : Tr} (h : ks[i]? = some k) : ∃ A B, ks = A ++ k :: B ∧ ∀ u, ks.set i u = A ++ u :: B := by
  have hi := (List.getElem?_eq_some_iff.mp h)
  obtain ⟨hl, e⟩ := hi
  refine ⟨ks.take i, ks.drop (i + 1), ?_, fun u => ?_⟩
  · rw [← e, List.getElem_cons_drop, List.take_append_drop]
  · rw [List.set_eq_take_append_cons_drop, if_pos hl]
theorem ltT_nd {s : List Nat} {A B : List Tr} {a b : Tr} : ltT (.nd s (A ++ a :: B)) (.nd s (A ++ b :: B)) = ltT a b := by
  by_cases hab : a = b
  · subst hab
    rw [ltT_self, ltT_self]
  have hs : ∀ u, sizs (A ++ u :: B) = sizs A + (u.siz + sizs B) := fun u => by
    have z : ∀ A : List Tr, sizs (A ++ u :: B) = sizs A + (u.siz + sizs B) := fun A => by
      induction A with
      | nil => show u.siz + sizs B = 0 + (u.siz + sizs B); omega
      | cons x A ih =>
        show x.siz + sizs (A ++ u :: B) = x.siz + sizs A + (u.siz + sizs B)
        rw [ih]; omega
    exact z A
  rw [ltT_eq, tks_nd, tks_nd, hs, hs, lex_self]
  by_cases hz : a.siz = b.siz
  · rw [hz, lex_self, lex_self, lex_self, lex_self]
    have hl : (A ++ a :: B).length = (A ++ b :: B).length := by simp
    rw [hl, lex_self, lex_self]
    obtain ⟨P, Q, h⟩ := tkss_app A a B
    rw [h a, h b]
    simp only [List.append_assoc]
    rw [PySem.W.lex_pre]
    exact ltT_app hab _ _
  · have hne : (Sum.inl ((1 + (sizs A + (a.siz + sizs B)) : Nat) : Int) : Tok2) ≠ .inl ((1 + (sizs A + (b.siz + sizs B)) : Nat) : Int) := fun e => by
      injection e with e
      omega
    rw [lex_diff (O := itemOrd) hne]
    cases a with
    | nd sa ka =>
      cases b with
      | nd sb kb =>
        rw [ltT_eq, tks_nd, tks_nd, lex_self]
        have hz' : ¬ (1 + sizs ka = 1 + sizs kb) := hz
        have hne2 : (Sum.inl ((1 + sizs ka : Nat) : Int) : Tok2) ≠ .inl ((1 + sizs kb : Nat) : Int) := fun e => by
          injection e with e
          omega
        rw [lex_diff (O := itemOrd) hne2]
        show decide _ = decide _
        rw [decide_eq_decide]
        show ((1 + (sizs A + ((1 + sizs ka) + sizs B)) : Nat) : Int) < ((1 + (sizs A + ((1 + sizs kb) + sizs B)) : Nat) : Int) ↔ ((1 + sizs ka : Nat) : Int) < ((1 + sizs kb : Nat) : Int)
        omega
theorem ltT_put : ∀ {p : List Nat} {t v a b : Tr}, isAt p t v → ltT (putT p t a) (putT p t b) = ltT a b
  | [], t, v, a, b, _ => rfl
  | i :: p, .nd s ks, v, a, b, ⟨k, h1, h2⟩ => by
    rw [putT_step h1, putT_step h1]
    obtain ⟨A, B, _, h⟩ := set_split h1
    rw [h, h, ltT_nd, ltT_put h2]
theorem cmpT_put {p : List Nat} {t v a b : Tr} (h : isAt p t v) : cmpT (putT p t a) (putT p t b) = cmpT a b := by
  unfold cmpT
  rw [ltT_put h, ltT_put h]
/-! ### all places -/
mutual
def plc : Tr → List (List Nat × Tr)
  | .nd s ks => ([], .nd s ks) :: plcs 0 ks
def plcs : Nat → List Tr → List (List Nat × Tr)
  | _, [] => []
  | i, t :: r => (plc t).map (fun x => (i :: x.1, x.2)) ++ plcs (i + 1) r
end
mutual
theorem plc_at : ∀ {t : Tr} {x : List Nat × Tr}, x ∈ plc t → isAt x.1 t x.2
  | .nd s ks, x, h => by
    rcases List.mem_cons.mp (show x ∈ ([], Tr.nd s ks) :: plcs 0 ks from h) with e | e
    · subst e; rfl
    · obtain ⟨i, p, k, e1, e2, e3⟩ := plcs_at e
      rw [e1]
      exact ⟨k, by simpa using e2, e3⟩
theorem plcs_at : ∀ {ks : List Tr} {n : Nat} {x : List Nat × Tr}, x ∈ plcs n ks → ∃ i p k, x.1 = (n + i) :: p ∧ ks[i]? = some k ∧ isAt p k x.2
  | [], n, x, h => by cases h
  | t :: r, n, x, h => by
    rcases List.mem_append.mp (show x ∈ (plc t).map (fun x => (n :: x.1, x.2)) ++ plcs (n + 1) r from h) with e | e
    · obtain ⟨y, hy, e⟩ := List.mem_map.mp e
      subst e
      exact ⟨0, y.1, t, rfl, rfl, plc_at hy⟩
    · obtain ⟨i, p, k, e1, e2, e3⟩ := plcs_at e
      refine ⟨i + 1, p, k, ?_, by simpa using e2, e3⟩
      rw [e1]
      congr 1
      omega
end
mutual
theorem plc_len : ∀ t : Tr, (plc t).length = t.siz
  | .nd s ks => by
    show (plcs 0 ks).length + 1 = 1 + sizs ks
    rw [plcs_len]; omega
theorem plcs_len : ∀ {ks : List Tr} {n : Nat}, (plcs n ks).length = sizs ks
  | [], n => rfl
  | t :: r, n => by
    show ((plc t).map _ ++ plcs (n + 1) r).length = t.siz + sizs r
    rw [List.length_append, List.length_map, plc_len t, plcs_len]
end
mutual
theorem plc_pl : ∀ {t : Tr} {x : List Nat × Tr}, x ∈ plc t → x.1.length + 1 ≤ t.dep
  | .nd s ks, x, h => by
    rcases List.mem_cons.mp (show x ∈ ([], Tr.nd s ks) :: plcs 0 ks from h) with e | e
    · subst e
      show 0 + 1 ≤ 1 + deps ks
      omega
    · have := plcs_pl e
      show x.1.length + 1 ≤ 1 + deps ks
      omega
theorem plcs_pl : ∀ {ks : List Tr} {n : Nat} {x : List Nat × Tr}, x ∈ plcs n ks → x.1.length ≤ deps ks
  | [], n, x, h => by cases h
  | t :: r, n, x, h => by
    rcases List.mem_append.mp (show x ∈ (plc t).map (fun x => (n :: x.1, x.2)) ++ plcs (n + 1) r from h) with e | e
    · obtain ⟨y, hy, e⟩ := List.mem_map.mp e
      have := plc_pl hy
      subst e
      show y.1.length + 1 ≤ max t.dep (deps r)
      omega
    · have := plcs_pl e
      show x.1.length ≤ max t.dep (deps r)
      omega
end
end L3
/-! L3w: the hand that the laws draw from: a list that changes -/
namespace L3
open PySem PySem.Spec PyProof.Rows L2
/-! lists as they stand, by H itself -/
def rHx : R2 := fun x y H Q => ∃ p xs i v, x = .ref p ∧ y = .int i ∧ H p = some (.lst xs) ∧ atI xs i = some v ∧ Q v H
def rHlen : List V → Hp → VK → Prop := fun vs H Q => ∃ p xs, vs = [.ref p] ∧ H p = some (.lst xs) ∧ Q (.int (xs.length : Nat)) H
section
variable {X : Cx}
theorem ix_h : IxR X rHx := by
  intro value slice pins s σ H x y v u Q I rx ry ⟨p, xs, i, z, e1, e2, h, ha, q⟩ hs
  exact ix_list value slice pins s σ H x y v u Q I rx ry ⟨p, xs, i, z, e1, e2, SqL.of h, ha, q⟩ hs
theorem call_hlen : CallR X (.builtin "len") rHlen := by
  intro pins s σ H xs us Q I r ⟨p, ys, e, h, q⟩
  exact call_len pins s σ H xs us Q I r ⟨.ref p, ys.length, e, .inl ⟨ys, SqL.of h, rfl⟩, q⟩
end
/-- the hand at h, its cells at c -/
def hw (h c : Addr) (cells : List Int) : Wd where
  foot := fun b => b = h ∨ b = c
  inv := fun H => ∃ i j m : Int, 0 ≤ i ∧ h ≠ c ∧ H h = some (.lst [.ref c, .int i, .int j, .int m]) ∧ H c = some (.lst (cells.map V.int))
  there := fun H b ⟨i, j, m, _, _, h1, h2⟩ hb => by
    rcases hb with e | e
    · exact ⟨_, by rw [e]; exact h1⟩
    · exact ⟨_, by rw [e]; exact h2⟩
  ext := fun H H' ⟨i, j, m, h0, hn, h1, h2⟩ hk _ => ⟨i, j, m, h0, hn, hk _ _ (.inl rfl) h1, hk _ _ (.inr rfl) h2⟩
def sp_pick : Sp := fun vs H Q _ => ∃ (h c : Addr) (cells : List Int) (i j m many : Int), vs = [.ref h, .int many] ∧ 0 ≤ i ∧ h ≠ c ∧ H h = some (.lst [.ref c, .int i, .int j, .int m]) ∧ H c = some (.lst (cells.map V.int)) ∧ 0 < many ∧ many < 1000000 ∧
  ∀ i' j' r : Int, 0 ≤ i' → 0 ≤ r → r < many → Q (.int r) (upd H h (.lst [.ref c, .int i', .int j', .int m]))
def F_pick : TF := fun wd ds φ _ => ∃ (h c : Addr) (cells : List Int) (many : Int), wd = hw h c cells ∧ ds = [.ref h, .int many] ∧ 0 < many ∧ many < 1000000 ∧ ∀ r : Int, 0 ≤ r → r < many → φ (.int r)
theorem pick_of {P : Program} {w : World} {K : PySem.W.Frag} {mg : Str → Option Value} {base : Heap} {k : Nat} {f : Addr} (G : FnR P w K mg base (L2N.CX P w) k f sp_pick) : Fn3 P w K mg base k f F_pick := by
  refine FnR.imp G fun vs H Q E ⟨wd, R, ds, φ, ε, b, r, ⟨h, c, cells, many, e1, e2, h1, h2, hq⟩, hQ, _⟩ => ?_
  subst e1 e2
  obtain ⟨v, u, ev, r1, r2⟩ := reps2 r
  subst ev
  obtain rfl : v = .ref h := r1
  obtain rfl : u = .int many := r2
  obtain ⟨i, j, m, h0, hn, g1, g2⟩ := b.inv
  refine ⟨h, c, cells, i, j, m, many, rfl, h0, hn, g1, g2, h1, h2, fun i' j' r hi hr1 hr2 => hQ _ R _ (.int r) ⟨fun _ _ h => h, fun a o q => ?_, fun a o q hf => ?_, fun _ _ q _ _ => q, ⟨i', j', m, hi, hn, upd_same, by rw [upd_ne hn.symm]; exact g2⟩, b.ft⟩ rfl (hq r hr1 hr2)⟩
  · have : a ≠ h := fun e => by
      have := b.ft a (.inl e)
      rw [this] at q
      cases q
    rw [upd_ne this]
    exact b.sub a o q
  · rw [upd_ne fun e => hf (.inl e)]
    exact q
/-- a drawn item -/
def F_of : TF := fun wd ds φ _ => ∃ (h c : Addr) (cells : List Int) (es : List D), wd = hw h c cells ∧ ds = [.ref h, .lst es] ∧ es ≠ [] ∧ es.length < 1000000 ∧ ∀ d ∈ es, φ d
/-- the hand, made -/
def F_hand : TF := fun _ ds φ _ => ∃ ns : List Int, ds = [.lst (ns.map D.int)] ∧ ns.length ≤ 63 ∧ ∀ m : Int, φ (.lst [.lst (ns.map D.int), .int 0, .int 0, .int m])
/-! ### the script: read only, in the memory or in the program's own part -/
def TSlS (K : PySem.W.Frag) (T : TD) (Tl Th : TPD) : TD := fun c env φ => T c env fun x => Tl c env fun lo => Th c env fun hi => ∃ (a : Addr) (ns : List Int), x = .ref a ∧ (∀ H, c.wd.inv H → SqL K H a (ns.map V.int)) ∧ φ (.lst (L3.cutD (ns.map D.int) lo hi))
theorem reps_ints {K : PySem.W.Frag} {R : Hp} : ∀ ns : List Int, Reps K R (ns.map D.int) (ns.map V.int)
  | [] => rfl
  | n :: r => ⟨_, _, rfl, rfl, reps_ints r⟩
theorem de_sliceS {X : Cx} {W : WX} {K : PySem.W.Frag} {a : Expr} {pos : Pos} {Ta : TD} {lo hi : Option Expr} {p2 : Pos} {Tl Th : TPD} (ha : DE X W a Ta) (hl : DO X W lo Tl) (hu : DO X W hi Th) (hK : X.K = K := by rfl) : DE X W (.Subscript a (.Slice lo hi none p2) pos) (TSlS K Ta Tl Th) := by
  subst hK
  exact de_mk (pe_slice sl_all ha hl hu) fun S R H σ env φ lk ok h => by
    refine tD.ask lk ok h fun R1 H1 d v f1 ok1 r1 q1 => tO3.ask lk ok1 q1 fun R2 H2 l f2 ok2 q2 => tO3.ask lk ok2 q2 fun R3 H3 u f3 ok3 ⟨b, ns, e, hS, q3⟩ => ?_
    subst e
    obtain rfl : v = .ref b := r1
    have ff := (f1.trans f2).trans f3
    exact .inr (.inl ⟨b, _, rfl, hS _ ok3.bas.inv, fun n hn => Pst.from ff (Pst.lst ok3.bas hn (cut_rep (reps_ints ns)) q3)⟩)
def F_hand2 (K : PySem.W.Frag) : TF := fun wd ds φ _ => ∃ (a : Addr) (ns : List Int), ds = [.ref a] ∧ (∀ H, wd.inv H → SqL K H a (ns.map V.int)) ∧ ns.length ≤ 63 ∧ ∀ m : Int, φ (.lst [.lst (ns.map D.int), .int 0, .int 0, .int m])
/-- the world of the script -/
theorem script_world {K : PySem.W.Frag} {H : Hp} {a : Addr} {xs : List V} (hO : Only H) (h : SqL K H a xs) : ∃ wd : Wd, Bas wd (fun _ => none) H ∧ ∀ H', wd.inv H' → SqL K H' a xs := by
  rcases h with h | h
  · rcases hO a with z | ⟨o, ys, z⟩
    · rcases h with h | ⟨o, h⟩
      · rw [z] at h; cases h
      · rw [z] at h; cases h
    · have e : ∃ o', H a = some (.frz o' (.lst xs)) := by
        rcases h with h | ⟨o', h⟩
        · rw [z] at h; cases h
        · exact ⟨o', h⟩
      obtain ⟨o', e⟩ := e
      refine ⟨⟨fun b => b = a, fun H => H a = some (.frz o' (.lst xs)), fun H b h e => ⟨.frz o' (.lst xs), by rw [e]; exact h⟩, fun H H' h k _ => k _ _ rfl h⟩, ⟨fun _ _ q => by (cases q), e, fun _ _ => rfl⟩, fun H' h' => .inl (.inr ⟨o', h'⟩)⟩
  · exact ⟨⟨fun _ => False, fun _ => True, fun _ _ _ h => h.elim, fun _ _ _ _ _ => trivial⟩, ⟨fun _ _ q => by (cases q), trivial, fun _ h => h.elim⟩, fun H' _ => .inr h⟩
def sp_law (K : PySem.W.Frag) : Sp := fun vs H Q _ => ∃ (a : Addr) (ns : List Int), vs = [.ref a] ∧ Only H ∧ SqL K H a (ns.map V.int) ∧ ns.length ≤ 63 ∧ ∀ H', Q (.bl true) H'
/-- the law's def: its hand is made, then the rest runs in the hand's world -/
theorem law_top {K : PySem.W.Frag} {W : WX} {N : List Str} {H : Hp} {Q : VK} {vs : List V} {T : TD} {Trest : TSD} (hN : 2 ≤ N.length) (h : ∃ E, sp_law K vs H Q E)
    (hT : ∀ (wd : Wd) (a : Addr) (ns : List Int) (φ : D → Prop), (∀ H, wd.inv H → SqL K H a (ns.map V.int)) → ns.length ≤ 63 → (∀ m : Int, φ (.lst [.lst (ns.map D.int), .int 0, .int 0, .int m])) → T ⟨wd, fun _ _ => False⟩ (.v (.ref a) :: List.replicate (N.length - 1) .no) φ)
    (hrest : ∀ (p c : Addr) (ns : List Int), Trest ⟨hw p c ns, fun _ _ => False⟩ { nx := fun _ => False, rt := fun d _ => d = .bl true } (.no :: .v (.ref p) :: List.replicate (N.length - 2) .no)) :
    tSeq (tAsg (tD K W T) (gName 1)) (tS3 K W Trest) { nx := fun _ H' => Q .non H', rt := Q } (L2.start N vs) H := by
  obtain ⟨E, a, ns, rfl, hO, hS, hl, hQ⟩ := h
  obtain ⟨wd, b, hw'⟩ := script_world hO hS
  obtain ⟨n, hn⟩ : ∃ n, N.length = n + 2 := ⟨N.length - 2, by omega⟩
  have e1 : L2.start N [.ref a] = some (.ref a) :: none :: List.replicate n none := by
    unfold L2.start
    rw [hn]
    rfl
  rw [e1]
  have no : ∀ (n : Nat) (R H : Hp), Paired (SlOk K R H) (List.replicate n none) (List.replicate n .no) := by
    intro n R H
    induction n with
    | zero => exact .nil
    | succ n ih => exact .cons trivial ih
  have nad : ∀ (n i : Nat) (p : Addr), adAt (List.replicate n .no) i ≠ some p := by
    intro n i p h
    unfold adAt at h
    rw [List.getElem?_replicate] at h
    split at h <;> cases h
  have nad2 : ∀ (n i : Nat) (s : Sl) (p : Addr), s.ad = none → adAt (s :: List.replicate n .no) i ≠ some p := by
    intro n i s p hs h
    cases i with
    | zero =>
      have : s.ad = some p := h
      rw [hs] at this
      cases this
    | succ i => exact nad n i p h
  refine ⟨⟨⟨wd, fun _ _ => False⟩, fun _ => none, H, fun _ => none⟩, fun _ => none, .v (.ref a) :: List.replicate (n + 1) .no, fun d => ∃ m : Int, d = .lst [.lst (ns.map D.int), .int 0, .int 0, .int m], fun _ _ _ _ _ _ _ _ _ z => z.elim, ⟨Fin.refl b, fun _ _ h => h, .cons ⟨_, rfl, rfl⟩ (no (n + 1) _ _), fun i p h => absurd h (nad2 _ _ _ _ rfl), fun i j p h _ => absurd h (nad2 _ _ _ _ rfl)⟩, ?_, fun v H' ⟨R', d, f, r, m, e⟩ => ?_⟩
  · have := hT wd a ns (fun d => ∃ m : Int, d = .lst [.lst (ns.map D.int), .int 0, .int 0, .int m]) hw' hl (fun m => ⟨m, rfl⟩)
    rw [hn] at this
    exact this
  · subst e
    obtain ⟨p, xs, rfl, hp, hr⟩ := rep_lst r
    obtain ⟨v1, r1, rfl, q1, hr⟩ := hr
    obtain ⟨v2, r2, rfl, q2, hr⟩ := hr
    obtain ⟨v3, r3, rfl, q3, hr⟩ := hr
    obtain ⟨v4, r4, rfl, q4, hr⟩ := hr
    obtain rfl : r4 = [] := hr
    obtain ⟨c, ys, rfl, hc, hy⟩ := rep_lst q1
    obtain rfl : ys = ns.map V.int := hy.ints
    obtain rfl : v2 = .int 0 := q2
    obtain rfl : v3 = .int 0 := q3
    obtain rfl : v4 = .int m := q4
    have hpc : p ≠ c := fun e => by
      subst e
      rw [hp] at hc
      have z := HO.lst.inj (Option.some.inj hc)
      cases ns with
      | nil => cases z
      | cons n r => cases z
    refine ⟨⟨⟨hw p c ns, fun _ _ => False⟩, fun _ => none, H', fun _ => none⟩, fun _ => none, .no :: .v (.ref p) :: List.replicate n .no, { nx := fun _ => False, rt := fun d _ => d = .bl true }, fun _ _ _ _ _ _ _ _ _ z => z.elim,
      ⟨Fin.refl ⟨fun _ _ q => by (cases q), ⟨0, 0, m, Int.le_refl _, hpc, f.sub _ _ hp, f.sub _ _ hc⟩, fun _ _ => rfl⟩, fun _ _ h => h, .cons trivial (.cons ⟨_, rfl, rfl⟩ (no n _ _)), fun i q h => ?_, fun i j q h _ => ?_⟩, ?_, ⟨fun _ _ _ _ _ z => z.elim, fun R H σ env d v ok r e => ?_, fun _ _ _ _ _ z => z.elim, fun _ _ _ _ _ z => z.elim⟩⟩
    · cases i with
      | zero => cases h
      | succ i => exact absurd h (nad2 n i _ q rfl)
    · cases i with
      | zero => cases h
      | succ i => exact absurd h (nad2 n i _ q rfl)
    · have := hrest p c ns
      rw [hn] at this
      exact this
    · subst e
      obtain rfl : v = .bl true := r
      exact hQ H
/-! ### a def, called in any way -/
theorem fn3O {P : Program} {w : World} {K : PySem.W.Frag} {mg : Str → Option Value} {base : Heap} {x qual : Str} {params : Arguments} {body : List Stmt} {scope : Scope} {f : Addr} {fd : FuncData} {N ps : List Str} {k : Nat} {F : TF} {T : TSD} (FD : FunD K x qual params body scope [] [] f fd) (Sc : FnScope N ps scope) (hn : ∀ wd ds φ ε, F wd ds φ ε → ds.length = ps.length)
    (hbody : ∀ (cdv : Value) (A : Around) (outer : List Env) (s : Shared) (H : Hp) (E : XK), Room k (A.deeper (envOfC qual scope s.heap.objs.size f cdv)) → DSs (cx3 P w K mg base N qual scope f cdv A outer s H E) (W3 E) body T)
    (hT : ∀ wd ds φ ε, F wd ds φ ε → T ⟨wd, fun ex _ => ε ex⟩ (retD φ) (startD N ds)) : Fn3O P w K mg base (k + 1) f fd ps F := by
  refine FD.ok Sc (fun vs H Q E h => ?_) fun cdv A outer s H vs Q E hr h => ?_
  · obtain ⟨wd, R, ds, φ, ε, b, r, hf, _⟩ := h
    rw [r.length]
    exact hn _ _ _ _ hf
  · obtain ⟨wd, R, ds, φ, ε, b, r, hf, hQ, hE⟩ := h
    exact ⟨_, hbody cdv A outer s H E hr, body_ok (S := ⟨⟨wd, fun ex _ => ε ex⟩, R, H, R⟩) (fun R' H' σ env cls od ex ok xr q => hE cls od R' H' ex ok.fin xr q) (start_ok3 (c := ⟨wd, fun ex _ => ε ex⟩) b r) (hT wd ds φ ε hf) hQ⟩
theorem Fn3O.fn {P : Program} {w : World} {K : PySem.W.Frag} {mg : Str → Option Value} {base : Heap} {k : Nat} {f : Addr} {fd : FuncData} {ps : List Str} {F : TF} (G : Fn3O P w K mg base k f fd ps F) (hb : Binds K fd ps []) : Fn3 P w K mg base k f F := by
  have z := FnOk.raw G (ds := []) (dvs := []) hb .nil
  intro A outer s H us vs Q E hr e0 r hs
  exact z A outer s H us vs Q E hr e0 r (by show spW K F (vs ++ []) H Q E; rw [List.append_nil]; exact hs)
theorem kwB_of {K : PySem.W.Frag} {x qual : Str} {params : Arguments} {body : List Stmt} {scope : Scope} {f : Addr} {fd : FuncData} {ps ks : List Str} {n : Nat} {ix : List Nat} (F : FunD K x qual params body scope [] [] f fd)
    (h : ∀ (kV doc pm : Value) (an : Option Addr) (cdv ct : Value) (us ws : List Value), us.length = n → ws.length = ks.length → bindArgs (PySem.W.fnOf x qual params body scope .none kV doc pm an cdv ct) ⟨us, ks.zip ws⟩ = pure (ps.zip (permL ix (us ++ ws)))) : KwB K fd ps n ks ix := by
  obtain ⟨oc, od, dV, kV, doc, pm, an, cdv, ct, osl, rfl, lk, hcd, hD, hK⟩ := F.ex
  rcases hD with ⟨_, rfl⟩ | ⟨e, _⟩
  · exact fun s us ws _ h1 h2 => .of_eq (h kV doc pm an cdv ct us ws h1 h2)
  · exact absurd rfl e
end L3
/-! L3x: the head: facts by names and by Bools of one's own -/
namespace L3
open PySem PySem.Spec PyProof.Rows L2
abbrev ExB := PySem.W.Frag → Bool
def obsX (fa : List He.Fa) (fn : List He5.DefA) (ex : List ExB) (K : PySem.W.Frag) : He.AlD := (((fa.all fun f => f.ok K) && fn.all fun d => d.ok K) && ex.all fun e => e K, fn.map fun d => He5.fnA K (d.at_ K))
def SaysX (fa : List He.Fa) (fn : List He5.DefA) (ex : List ExB) (K : PySem.W.Frag) : Prop := obsX fa fn ex K = He5.valA fn
def obsXG (n : Nat) (fa : List He.Fa) (fn : List He5.DefA) (ex : List ExB) (g : Addr → Option Obj) : He.AlD := obsX fa fn ex (He.frG g (He5.asA g n))
def hookX (n : Nat) (fa : List He.Fa) (fn : List He5.DefA) (ex : List ExB) : PySem.W.Hook where
  α := He.AlD
  obs := fun s => obsXG n fa fn ex s.heap.get?
  val := fun _ => He5.valA fn
  says := fun _ h => ∃ K : PySem.W.Frag, K.In h ∧ SaysX fa fn ex K
  of := fun _ _ e => ⟨_, He.frG_in, e⟩
  keeps := fun _ _ _ ⟨K, hK, c⟩ k => ⟨K, PySem.W.Frag.In.keeps hK k, c⟩
theorem obsXG_eq {n : Nat} {fa : List He.Fa} {fn : List He5.DefA} {ex : List ExB} {g : Addr → Option Obj} {s : Shared} (h : ∀ a, g a = s.heap.get? a) : obsXG n fa fn ex g = (hookX n fa fn ex).obs s := by
  have e : g = s.heap.get? := funext h
  rw [e] <;> rfl
section
variable {fa : List He.Fa} {fn : List He5.DefA} {ex : List ExB} {K : PySem.W.Frag}
theorem SaysX.fst (c : SaysX fa fn ex K) : ((((fa.all fun f => f.ok K) && fn.all fun d => d.ok K) && ex.all fun e => e K) = true) := congrArg (fun z : He.AlD => z.1) c
theorem SaysX.fact (c : SaysX fa fn ex K) (i : Nat) {f : He.Fa} (h : fa[i]? = some f := by rfl) : f.ok K = true :=
  List.all_eq_true.mp (He.ba (He.ba c.fst).1).1 f (List.mem_of_getElem? h)
theorem SaysX.ex_ (c : SaysX fa fn ex K) (i : Nat) {f : ExB} (h : ex[i]? = some f := by rfl) : f K = true :=
  List.all_eq_true.mp (He.ba c.fst).2 f (List.mem_of_getElem? h)
theorem SaysX.def_ (c : SaysX fa fn ex K) (i : Nat) {d : He5.DefA} (h : fn[i]? = some d := by rfl) : ∃ fd, L2.FunD K d.name d.qual d.params d.body d.scope (d.dvs K) (d.kws K) (d.at_ K) fd := by
  have c2 := (He.ba (He.ba c.fst).1).2
  have e : fn.map (fun d => He5.fnA K (d.at_ K)) = fn.map He5.DefA.val := congrArg (fun z : He.AlD => z.2) c
  have e2 : (fn.map fun d => He5.fnA K (d.at_ K))[i]? = (fn.map He5.DefA.val)[i]? := by rw [e]
  rw [List.getElem?_map, List.getElem?_map, h] at e2
  exact He5.DefA.funD (Option.some.inj e2) (List.all_eq_true.mp c2 d (List.mem_of_getElem? h))
end
/-! ### the Bools -/
def insB (C : Str) : ExB := fun K => He.eqO (PySem.W.findIn K (Value.ref (He.ga K C)) (Str.ofString "__class__")) (some (some (Value.builtin "object.__class__"))) &&
  (He.eqO (PySem.W.specialIn K (Value.builtin "object.__class__") (Str.ofString "__get__")) (some (some (Value.builtin "getset_descriptor.__get__"))) &&
  (decide (PySem.W.takesIn K (Value.builtin "object.__class__") = some true) && decide (PySem.W.mroIn K (He.ga K C) (Value.type "object") = some true)))
theorem insB_ok {C : Str} {K : PySem.W.Frag} (h : insB C K = true) (hc : Cls K (He.ga K C)) : InsK K (He.ga K C) := by
  obtain ⟨h1, h⟩ := He.ba h
  obtain ⟨h2, h⟩ := He.ba h
  obtain ⟨h3, h4⟩ := He.ba h
  exact ⟨hc, He.eqO_ok h1, He.eqO_ok h2, of_decide_eq_true h3, of_decide_eq_true h4⟩
def eqB (C : Str) : ExB := fun K => He.eqO (PySem.W.findIn K (.ref (He.ga K C)) "__eq__") (some (some (.ref (He.ma K (He.ga K C) "__eq__")))) && (PySem.W.isFn K (.ref (He.ma K (He.ga K C) "__eq__")) &&
  (He.eqO (PySem.W.findIn K (.ref (He.ga K C)) "__ne__") (some (some (.builtin "object.__ne__"))) && decide (PySem.W.mroIn K (He.ga K C) (.type "object") = some true)))
theorem eqB_ok {C : Str} {K : PySem.W.Frag} (h : eqB C K = true) : EqK K (He.ga K C) (He.ma K (He.ga K C) "__eq__") := by
  obtain ⟨h1, h⟩ := He.ba h
  obtain ⟨h2, h⟩ := He.ba h
  obtain ⟨h3, h4⟩ := He.ba h
  exact ⟨He.eqO_ok h1, h2, He.eqO_ok h3, of_decide_eq_true h4⟩
def nfB (C : Str) (t : PySem.W.Frag → Value) : ExB := fun K => PySem.W.notFirst K (He.ga K C) (t K)
def kitB (t u : PySem.W.Frag → Value) (b : Bool) : ExB := fun K => decide (PySem.W.kitOne K (t K) (u K) = some b)
theorem kitB_ok {t u : PySem.W.Frag → Value} {b : Bool} {K : PySem.W.Frag} (h : kitB t u b K = true) : PySem.W.kitOne K (t K) (u K) = some b := of_decide_eq_true h
abbrev rC (C : Str) : PySem.W.Frag → Value := fun K => .ref (He.ga K C)
/-- a class is read from -/
def crB (C : Str) : ExB := fun K => PySem.W.readsIn K (He.ga K C) (.type "type") && He.eqO (PySem.W.specialIn K (.ref (He.ga K C)) "__getattribute__") (some (some (.builtin "type.__getattribute__")))
theorem crB_ok {C : Str} {K : PySem.W.Frag} (h : crB C K = true) : ClX.CRead K (He.ga K C) (.type "type") := by
  obtain ⟨h1, h2⟩ := He.ba h
  exact ⟨h1, He.eqO_ok h2⟩
/-- a staticmethod -/
def smB (C m : Str) : ExB := fun K => He5.wrapB K (He.ga K C) "staticmethod" "staticmethod.__get__" m && PySem.W.keepIn K (.ref (He5.wf K (He.ga K C) "staticmethod" m))
theorem smB_ok {C m : Str} {K : PySem.W.Frag} (hc : ClX.CRead K (He.ga K C) (.type "type")) (h : smB C m K = true) : SMet K (He.ga K C) m (He.ma K (He.ga K C) m) (He5.wf K (He.ga K C) "staticmethod" m) := by
  obtain ⟨h1, h2⟩ := He.ba h
  obtain ⟨h3, h4⟩ := He5.wrapB_ok h1
  exact ⟨hc, h3, h4, h2⟩
/-! ### the end -/
theorem walk_ofEW {l : PySem.W.OpenLaw} {n k : Nat} {q : Program} {loose : List Str} {XP : (Str → Option Value) → Heap → Prop} {YP : World → Heap → Prop} {d : DefRec} {CX' : World → CXT} {x : Str}
    (hn : l.most = some n) (hn2 : n ≤ sizeLine) (hdf : d.params.defaults = []) (hr : Room k callerA)
    (F : ∀ (w : World) (mg : Str → Option Value) (fa : Addr) (h : Heap), YP w h → h.Ns mainGlobals mg → mg d.name = some (.ref fa) →
      ∃ (K : PySem.W.Frag) (fd : FuncData) (sp : Sp), K.In h ∧ (∀ (s : Shared) (u : Value), BindsTo s fd ⟨[u], []⟩ [(x, u)]) ∧
        (∀ (H : Hp) (a : Addr) (ns : List Int), ns.length ≤ n → Only H → SqL K H a (ns.map V.int) → sp [.ref a] H (fun v _ => v = .bl true) fun _ _ _ => False) ∧
        ∀ base : Heap, K.In base → base.Ns mainGlobals mg → FnOk l.prog w K mg base (CX' w) k fa fd [x] sp)
    (hCX : ∀ (w : World) (H : Hp) (s : Shared) (e : Value) (s' : Shared), CX' w [] H s (fun _ _ _ => False) e s' → False) :
    PySem.W.WalkO q loose XP YP l.row.toRowW d [] (fun f vs => PySem.call f vs) := by
  refine Att.attach_call hn hdf fun w s₀ s₁ mg mb fa o pm cd doc a vs ns G Y ho hd hcd hmg hobj hints hlen hg => ?_
  obtain ⟨K, fd, sp, KX, hb, hsp, hF⟩ := F w mg fa _ Y G.T.g hmg
  exact law_call KX G.T.g G.T.b G.T.builtins G.T.nolimit hg hobj hints (Nat.le_trans hlen hn2) hr hF hb (fun H hO hS => hsp H a ns hlen hO hS) fun H e s' => hCX w H s₁ e s'
theorem cx_no {P : Program} {w : World} {o : List Env} {H : Hp} {s : Shared} {e : Value} {s' : Shared} (h : L2N.CX P w o H s (fun _ _ _ => False) e s') : False := by
  obtain ⟨_, _, _, _, _, _, _, _, _, _, _, _, z⟩ := h
  exact z
end L3
namespace K5
open PySem PySem.Spec PyProof.Rows L2 L3
def top (i : Nat) : Stmt := PySem.Challenge.pw_piecetrade_k05_whole_order_of_trees.main.body.getD i (.Pass ⟨0, 0, 0, 0⟩)
abbrev s_is_sign : Stmt := top 11
abbrev N_is_sign : List Str := ["value", "letter"]
theorem sc_is_sign : FnScope N_is_sign ["value"] (defScope s_is_sign) := ⟨rfl, rfl, rfl, by decide +kernel, rfl, by decide +kernel, by decide +kernel⟩
abbrev s_Tree__init : Stmt := inClass (top 12) 1
abbrev N_Tree__init : List Str := ["self", "sign", "branches", "inner", "branch", "text"]
theorem sc_Tree__init : FnScope N_Tree__init ["self", "sign", "branches"] (defScope s_Tree__init) := ⟨rfl, rfl, rfl, by decide +kernel, rfl, by decide +kernel, by decide +kernel⟩
abbrev s_Tree_read : Stmt := inClass (top 12) 2
abbrev N_Tree_read : List Str := ["text", "found"]
theorem sc_Tree_read : FnScope N_Tree_read ["text"] (defScope s_Tree_read) := ⟨rfl, rfl, rfl, by decide +kernel, rfl, by decide +kernel, by decide +kernel⟩
abbrev s_Tree__eq : Stmt := inClass (top 12) 8
abbrev N_Tree__eq : List Str := ["self", "other"]
theorem sc_Tree__eq : FnScope N_Tree__eq ["self", "other"] (defScope s_Tree__eq) := ⟨rfl, rfl, rfl, by decide +kernel, rfl, by decide +kernel, by decide +kernel⟩
abbrev s_deepest : Stmt := top 13
abbrev N_deepest : List Str := ["text", "depth", "most", "letter"]
theorem sc_deepest : FnScope N_deepest ["text"] (defScope s_deepest) := ⟨rfl, rfl, rfl, by decide +kernel, rfl, by decide +kernel, by decide +kernel⟩
abbrev s_tree_from : Stmt := top 14
abbrev N_tree_from : List Str := ["text", "start", "at", "sign", "branches", "found"]
theorem sc_tree_from : FnScope N_tree_from ["text", "start"] (defScope s_tree_from) := ⟨rfl, rfl, rfl, by decide +kernel, rfl, by decide +kernel, by decide +kernel⟩
abbrev s_compare_trees : Stmt := top 15
abbrev N_compare_trees : List Str := ["one", "other"]
theorem sc_compare_trees : FnScope N_compare_trees ["one", "other"] (defScope s_compare_trees) := ⟨rfl, rfl, rfl, by decide +kernel, rfl, by decide +kernel, by decide +kernel⟩
abbrev s_law_hand : Stmt := top 17
abbrev N_law_hand : List Str := ["_law_script", "_law_cells", "_law_mark", "_law_cell"]
theorem sc_law_hand : FnScope N_law_hand ["_law_script"] (defScope s_law_hand) := ⟨rfl, rfl, rfl, by decide +kernel, rfl, by decide +kernel, by decide +kernel⟩
abbrev s_law_pick : Stmt := top 18
abbrev N_law_pick : List Str := ["_law_hand_here", "_law_many", "_law_cell", "_law_one_z", "_law_two", "_law_drawn_here"]
theorem sc_law_pick : FnScope N_law_pick ["_law_hand_here", "_law_many"] (defScope s_law_pick) := ⟨rfl, rfl, rfl, by decide +kernel, rfl, by decide +kernel, by decide +kernel⟩
abbrev s_law_of : Stmt := top 19
abbrev N_law_of : List Str := ["_law_hand_here", "_law_items"]
theorem sc_law_of : FnScope N_law_of ["_law_hand_here", "_law_items"] (defScope s_law_of) := ⟨rfl, rfl, rfl, by decide +kernel, rfl, by decide +kernel, by decide +kernel⟩
abbrev s_law_same : Stmt := top 20
abbrev N_law_same : List Str := ["_law_found", "_law_due", "_law_one_z", "_law_two"]
theorem sc_law_same : FnScope N_law_same ["_law_found", "_law_due"] (defScope s_law_same) := ⟨rfl, rfl, rfl, by decide +kernel, rfl, by decide +kernel, by decide +kernel⟩
abbrev s_law_tree : Stmt := top 21
abbrev N_law_tree : List Str := ["_law_model", "_law_kids", "_law_kid"]
theorem sc_law_tree : FnScope N_law_tree ["_law_model"] (defScope s_law_tree) := ⟨rfl, rfl, rfl, by decide +kernel, rfl, by decide +kernel, by decide +kernel⟩
abbrev s_law_size : Stmt := top 22
abbrev N_law_size : List Str := ["_law_model", "_law_kid"]
theorem sc_law_size : FnScope N_law_size ["_law_model"] (defScope s_law_size) := ⟨rfl, rfl, rfl, by decide +kernel, rfl, by decide +kernel, by decide +kernel⟩
abbrev s_law_key : Stmt := top 23
abbrev N_law_key : List Str := ["_law_model", "_law_kid"]
theorem sc_law_key : FnScope N_law_key ["_law_model"] (defScope s_law_key) := ⟨rfl, rfl, rfl, by decide +kernel, rfl, by decide +kernel, by decide +kernel⟩
abbrev s_law_signs : Stmt := top 24
abbrev N_law_signs : List Str := []
theorem sc_law_signs : FnScope N_law_signs [] (defScope s_law_signs) := ⟨rfl, rfl, rfl, by decide +kernel, rfl, by decide +kernel, by decide +kernel⟩
abbrev s_law_drawn : Stmt := top 25
abbrev N_law_drawn : List Str := ["_law_hand_here", "_law_signs_here", "_law_room", "_law_fits", "_law_sign", "_law_many", "_law_kids", "_law_left", "_law_k", "_law_kid", "_law_pair"]
theorem sc_law_drawn : FnScope N_law_drawn ["_law_hand_here", "_law_signs_here", "_law_room"] (defScope s_law_drawn) := ⟨rfl, rfl, rfl, by decide +kernel, rfl, by decide +kernel, by decide +kernel⟩
abbrev s_law_places : Stmt := top 26
abbrev N_law_places : List Str := ["_law_model", "_law_found", "_law_at", "_law_kid", "_law_path", "_law_piece"]
theorem sc_law_places : FnScope N_law_places ["_law_model"] (defScope s_law_places) := ⟨rfl, rfl, rfl, by decide +kernel, rfl, by decide +kernel, by decide +kernel⟩
abbrev s_law_put : Stmt := top 27
abbrev N_law_put : List Str := ["_law_model", "_law_path", "_law_piece", "_law_kids"]
theorem sc_law_put : FnScope N_law_put ["_law_model", "_law_path", "_law_piece"] (defScope s_law_put) := ⟨rfl, rfl, rfl, by decide +kernel, rfl, by decide +kernel, by decide +kernel⟩
abbrev s_law : Stmt := top 28
abbrev N_law : List Str := ["_law_script", "_law_hand_here", "_law_turn", "_law_signs_here", "_law_models", "_law_path", "_law_piece", "_law_trees", "_law_one_z", "_law_first", "_law_other_z", "_law_second", "_law_high", "_law_low", "_law_due", "_law_around", "_law_pair", "_law_words", "_law_word", "_law_k", "_law_model"]
theorem sc_law : FnScope N_law ["_law_script"] (defScope s_law) := ⟨rfl, rfl, rfl, by decide +kernel, rfl, by decide +kernel, by decide +kernel⟩
structure Tx (K : PySem.W.Frag) (mg : Str → Option Value) : Prop where
  mg_Tree : mg "Tree" = some (.ref (He.ga K "Tree"))
  cl_Tree : Cls K (He.ga K "Tree")
  mk_Tree : Mk K (He.ga K "Tree") (He.ma K (He.ga K "Tree") "__init__")
  in_Tree : InsK K (He.ga K "Tree")
  eq_Tree : EqK K (He.ga K "Tree") (He.ma K (He.ga K "Tree") "__eq__")
  nf_Tree : PySem.W.notFirst K (He.ga K "Tree") (.ref (He.ga K "Tree")) = true
  ki_Tree : PySem.W.kitOne K (.ref (He.ga K "Tree")) (.ref (He.ga K "Tree")) = some true
  na_Tree_sign : NoAttr K (He.ga K "Tree") "sign"
  na_Tree_branches : NoAttr K (He.ga K "Tree") "branches"
  na_Tree_size : NoAttr K (He.ga K "Tree") "size"
  na_Tree_depth : NoAttr K (He.ga K "Tree") "depth"
  na_Tree_text : NoAttr K (He.ga K "Tree") "text"
  na_Tree_inside : NoAttr K (He.ga K "Tree") "inside"
  na_Tree_key : NoAttr K (He.ga K "Tree") "key"
  mg_is_sign : mg "is_sign" = some (.ref (He.ga K "is_sign"))
  kp_is_sign : PySem.W.keepIn K (.ref (He.ga K "is_sign")) = true
  fd_is_sign : ∃ fd, FunD K "is_sign" "is_sign" (defArgs s_is_sign) (defBody s_is_sign) (defScope s_is_sign) [] [] (He.ga K "is_sign") fd
  fd_Tree__init : ∃ fd, FunD K "__init__" "Tree.__init__" (defArgs s_Tree__init) (defBody s_Tree__init) (defScope s_Tree__init) [] [] (He.ma K (He.ga K "Tree") "__init__") fd
  sm_Tree_read : SMet K (He.ga K "Tree") "read" (He.ma K (He.ga K "Tree") "read") (He5.wf K (He.ga K "Tree") "staticmethod" "read")
  fd_Tree_read : ∃ fd, FunD K "read" "Tree.read" (defArgs s_Tree_read) (defBody s_Tree_read) (defScope s_Tree_read) [] [] (He5.wf K (He.ga K "Tree") "staticmethod" "read") fd
  fd_Tree__eq : ∃ fd, FunD K "__eq__" "Tree.__eq__" (defArgs s_Tree__eq) (defBody s_Tree__eq) (defScope s_Tree__eq) [] [] (He.ma K (He.ga K "Tree") "__eq__") fd
  mg_deepest : mg "deepest" = some (.ref (He.ga K "deepest"))
  kp_deepest : PySem.W.keepIn K (.ref (He.ga K "deepest")) = true
  fd_deepest : ∃ fd, FunD K "deepest" "deepest" (defArgs s_deepest) (defBody s_deepest) (defScope s_deepest) [] [] (He.ga K "deepest") fd
  mg_tree_from : mg "tree_from" = some (.ref (He.ga K "tree_from"))
  kp_tree_from : PySem.W.keepIn K (.ref (He.ga K "tree_from")) = true
  fd_tree_from : ∃ fd, FunD K "tree_from" "tree_from" (defArgs s_tree_from) (defBody s_tree_from) (defScope s_tree_from) [] [] (He.ga K "tree_from") fd
  mg_compare_trees : mg "compare_trees" = some (.ref (He.ga K "compare_trees"))
  kp_compare_trees : PySem.W.keepIn K (.ref (He.ga K "compare_trees")) = true
  fd_compare_trees : ∃ fd, FunD K "compare_trees" "compare_trees" (defArgs s_compare_trees) (defBody s_compare_trees) (defScope s_compare_trees) [] [] (He.ga K "compare_trees") fd
  mg_law_hand : mg "_law_hand" = some (.ref (He.ga K "_law_hand"))
  kp_law_hand : PySem.W.keepIn K (.ref (He.ga K "_law_hand")) = true
  fd_law_hand : ∃ fd, FunD K "_law_hand" "_law_hand" (defArgs s_law_hand) (defBody s_law_hand) (defScope s_law_hand) [] [] (He.ga K "_law_hand") fd
  mg_law_pick : mg "_law_pick" = some (.ref (He.ga K "_law_pick"))
  kp_law_pick : PySem.W.keepIn K (.ref (He.ga K "_law_pick")) = true
  fd_law_pick : ∃ fd, FunD K "_law_pick" "_law_pick" (defArgs s_law_pick) (defBody s_law_pick) (defScope s_law_pick) [] [] (He.ga K "_law_pick") fd
  mg_law_of : mg "_law_of" = some (.ref (He.ga K "_law_of"))
  kp_law_of : PySem.W.keepIn K (.ref (He.ga K "_law_of")) = true
  fd_law_of : ∃ fd, FunD K "_law_of" "_law_of" (defArgs s_law_of) (defBody s_law_of) (defScope s_law_of) [] [] (He.ga K "_law_of") fd
  mg_law_same : mg "_law_same" = some (.ref (He.ga K "_law_same"))
  kp_law_same : PySem.W.keepIn K (.ref (He.ga K "_law_same")) = true
  fd_law_same : ∃ fd, FunD K "_law_same" "_law_same" (defArgs s_law_same) (defBody s_law_same) (defScope s_law_same) [] [] (He.ga K "_law_same") fd
  mg_law_tree : mg "_law_tree" = some (.ref (He.ga K "_law_tree"))
  kp_law_tree : PySem.W.keepIn K (.ref (He.ga K "_law_tree")) = true
  fd_law_tree : ∃ fd, FunD K "_law_tree" "_law_tree" (defArgs s_law_tree) (defBody s_law_tree) (defScope s_law_tree) [] [] (He.ga K "_law_tree") fd
  mg_law_size : mg "_law_size" = some (.ref (He.ga K "_law_size"))
  kp_law_size : PySem.W.keepIn K (.ref (He.ga K "_law_size")) = true
  fd_law_size : ∃ fd, FunD K "_law_size" "_law_size" (defArgs s_law_size) (defBody s_law_size) (defScope s_law_size) [] [] (He.ga K "_law_size") fd
  mg_law_key : mg "_law_key" = some (.ref (He.ga K "_law_key"))
  kp_law_key : PySem.W.keepIn K (.ref (He.ga K "_law_key")) = true
  fd_law_key : ∃ fd, FunD K "_law_key" "_law_key" (defArgs s_law_key) (defBody s_law_key) (defScope s_law_key) [] [] (He.ga K "_law_key") fd
  mg_law_signs : mg "_law_signs" = some (.ref (He.ga K "_law_signs"))
  kp_law_signs : PySem.W.keepIn K (.ref (He.ga K "_law_signs")) = true
  fd_law_signs : ∃ fd, FunD K "_law_signs" "_law_signs" (defArgs s_law_signs) (defBody s_law_signs) (defScope s_law_signs) [] [] (He.ga K "_law_signs") fd
  mg_law_drawn : mg "_law_drawn" = some (.ref (He.ga K "_law_drawn"))
  kp_law_drawn : PySem.W.keepIn K (.ref (He.ga K "_law_drawn")) = true
  fd_law_drawn : ∃ fd, FunD K "_law_drawn" "_law_drawn" (defArgs s_law_drawn) (defBody s_law_drawn) (defScope s_law_drawn) [] [] (He.ga K "_law_drawn") fd
  mg_law_places : mg "_law_places" = some (.ref (He.ga K "_law_places"))
  kp_law_places : PySem.W.keepIn K (.ref (He.ga K "_law_places")) = true
  fd_law_places : ∃ fd, FunD K "_law_places" "_law_places" (defArgs s_law_places) (defBody s_law_places) (defScope s_law_places) [] [] (He.ga K "_law_places") fd
  mg_law_put : mg "_law_put" = some (.ref (He.ga K "_law_put"))
  kp_law_put : PySem.W.keepIn K (.ref (He.ga K "_law_put")) = true
  fd_law_put : ∃ fd, FunD K "_law_put" "_law_put" (defArgs s_law_put) (defBody s_law_put) (defScope s_law_put) [] [] (He.ga K "_law_put") fd
  mg_law : mg "law" = some (.ref (He.ga K "law"))
  kp_law : PySem.W.keepIn K (.ref (He.ga K "law")) = true
  fd_law : ∃ fd, FunD K "law" "law" (defArgs s_law) (defBody s_law) (defScope s_law) [] [] (He.ga K "law") fd
  no_isinstance : mg "isinstance" = none
  no_str : mg "str" = none
  no_len : mg "len" = none
  no_all : mg "all" = none
  no_int : mg "int" = none
  no_sum : mg "sum" = none
  no_max : mg "max" = none
  no_tuple : mg "tuple" = none
  no_bool : mg "bool" = none
  no_list : mg "list" = none
  no_zip : mg "zip" = none
  no_range : mg "range" = none
  no_enumerate : mg "enumerate" = none
  mg_MOST_LETTERS : ∃ t, mg "MOST_LETTERS" = some (.int 6 t)
  mg_MOST_BRANCHES_trees : ∃ t, mg "MOST_BRANCHES_trees" = some (.int 3 t)
  mg_MOST_NESTED : ∃ t, mg "MOST_NESTED" = some (.int 100 t)
  mg_LETTERS : ∃ t, mg "LETTERS" = some (.str "abcdefghijklmnopqrstuvwxyz" t)
end K5
namespace K5
open PySem PySem.Spec PyProof.Rows L2 L3

abbrev big : Nat := 1000000
def F_is_sign : TF := fun _ ds φ _ => ∃ x : Str, ds = [.str x] ∧ x.length ≤ sizeLine ∧ φ (.bl (isSg (lc x)))
def F_init (C : Addr) : TFI := fun _ ds φ _ => ∃ s ks, ds = .str (mks s) :: ks.map (trD C) ∧ (Tr.nd s ks).ok ∧ (Tr.nd s ks).txt.length ≤ big ∧ φ ((Tr.nd s ks).fld C)
@[simp] theorem fnb_sign_branches : ((("sign" : Str) == ("branches" : Str)) = false) := by decide +kernel
@[simp] theorem fne_sign_branches : ((("sign" : Str) = ("branches" : Str)) = False) := eq_false (by decide +kernel)
@[simp] theorem fnb_sign_size : ((("sign" : Str) == ("size" : Str)) = false) := by decide +kernel
@[simp] theorem fne_sign_size : ((("sign" : Str) = ("size" : Str)) = False) := eq_false (by decide +kernel)
@[simp] theorem fnb_sign_depth : ((("sign" : Str) == ("depth" : Str)) = false) := by decide +kernel
@[simp] theorem fne_sign_depth : ((("sign" : Str) = ("depth" : Str)) = False) := eq_false (by decide +kernel)
@[simp] theorem fnb_sign_text : ((("sign" : Str) == ("text" : Str)) = false) := by decide +kernel
@[simp] theorem fne_sign_text : ((("sign" : Str) = ("text" : Str)) = False) := eq_false (by decide +kernel)
@[simp] theorem fnb_sign_inside : ((("sign" : Str) == ("inside" : Str)) = false) := by decide +kernel
@[simp] theorem fne_sign_inside : ((("sign" : Str) = ("inside" : Str)) = False) := eq_false (by decide +kernel)
@[simp] theorem fnb_sign_key : ((("sign" : Str) == ("key" : Str)) = false) := by decide +kernel
@[simp] theorem fne_sign_key : ((("sign" : Str) = ("key" : Str)) = False) := eq_false (by decide +kernel)
@[simp] theorem fnb_branches_sign : ((("branches" : Str) == ("sign" : Str)) = false) := by decide +kernel
@[simp] theorem fne_branches_sign : ((("branches" : Str) = ("sign" : Str)) = False) := eq_false (by decide +kernel)
@[simp] theorem fnb_branches_size : ((("branches" : Str) == ("size" : Str)) = false) := by decide +kernel
@[simp] theorem fne_branches_size : ((("branches" : Str) = ("size" : Str)) = False) := eq_false (by decide +kernel)
@[simp] theorem fnb_branches_depth : ((("branches" : Str) == ("depth" : Str)) = false) := by decide +kernel
@[simp] theorem fne_branches_depth : ((("branches" : Str) = ("depth" : Str)) = False) := eq_false (by decide +kernel)
@[simp] theorem fnb_branches_text : ((("branches" : Str) == ("text" : Str)) = false) := by decide +kernel
@[simp] theorem fne_branches_text : ((("branches" : Str) = ("text" : Str)) = False) := eq_false (by decide +kernel)
@[simp] theorem fnb_branches_inside : ((("branches" : Str) == ("inside" : Str)) = false) := by decide +kernel
@[simp] theorem fne_branches_inside : ((("branches" : Str) = ("inside" : Str)) = False) := eq_false (by decide +kernel)
@[simp] theorem fnb_branches_key : ((("branches" : Str) == ("key" : Str)) = false) := by decide +kernel
@[simp] theorem fne_branches_key : ((("branches" : Str) = ("key" : Str)) = False) := eq_false (by decide +kernel)
@[simp] theorem fnb_size_sign : ((("size" : Str) == ("sign" : Str)) = false) := by decide +kernel
@[simp] theorem fne_size_sign : ((("size" : Str) = ("sign" : Str)) = False) := eq_false (by decide +kernel)
@[simp] theorem fnb_size_branches : ((("size" : Str) == ("branches" : Str)) = false) := by decide +kernel
@[simp] theorem fne_size_branches : ((("size" : Str) = ("branches" : Str)) = False) := eq_false (by decide +kernel)
@[simp] theorem fnb_size_depth : ((("size" : Str) == ("depth" : Str)) = false) := by decide +kernel
@[simp] theorem fne_size_depth : ((("size" : Str) = ("depth" : Str)) = False) := eq_false (by decide +kernel)
@[simp] theorem fnb_size_text : ((("size" : Str) == ("text" : Str)) = false) := by decide +kernel
@[simp] theorem fne_size_text : ((("size" : Str) = ("text" : Str)) = False) := eq_false (by decide +kernel)
@[simp] theorem fnb_size_inside : ((("size" : Str) == ("inside" : Str)) = false) := by decide +kernel
@[simp] theorem fne_size_inside : ((("size" : Str) = ("inside" : Str)) = False) := eq_false (by decide +kernel)
@[simp] theorem fnb_size_key : ((("size" : Str) == ("key" : Str)) = false) := by decide +kernel
@[simp] theorem fne_size_key : ((("size" : Str) = ("key" : Str)) = False) := eq_false (by decide +kernel)
@[simp] theorem fnb_depth_sign : ((("depth" : Str) == ("sign" : Str)) = false) := by decide +kernel
@[simp] theorem fne_depth_sign : ((("depth" : Str) = ("sign" : Str)) = False) := eq_false (by decide +kernel)
@[simp] theorem fnb_depth_branches : ((("depth" : Str) == ("branches" : Str)) = false) := by decide +kernel
@[simp] theorem fne_depth_branches : ((("depth" : Str) = ("branches" : Str)) = False) := eq_false (by decide +kernel)
@[simp] theorem fnb_depth_size : ((("depth" : Str) == ("size" : Str)) = false) := by decide +kernel
@[simp] theorem fne_depth_size : ((("depth" : Str) = ("size" : Str)) = False) := eq_false (by decide +kernel)
@[simp] theorem fnb_depth_text : ((("depth" : Str) == ("text" : Str)) = false) := by decide +kernel
@[simp] theorem fne_depth_text : ((("depth" : Str) = ("text" : Str)) = False) := eq_false (by decide +kernel)
@[simp] theorem fnb_depth_inside : ((("depth" : Str) == ("inside" : Str)) = false) := by decide +kernel
@[simp] theorem fne_depth_inside : ((("depth" : Str) = ("inside" : Str)) = False) := eq_false (by decide +kernel)
@[simp] theorem fnb_depth_key : ((("depth" : Str) == ("key" : Str)) = false) := by decide +kernel
@[simp] theorem fne_depth_key : ((("depth" : Str) = ("key" : Str)) = False) := eq_false (by decide +kernel)
@[simp] theorem fnb_text_sign : ((("text" : Str) == ("sign" : Str)) = false) := by decide +kernel
@[simp] theorem fne_text_sign : ((("text" : Str) = ("sign" : Str)) = False) := eq_false (by decide +kernel)
@[simp] theorem fnb_text_branches : ((("text" : Str) == ("branches" : Str)) = false) := by decide +kernel
@[simp] theorem fne_text_branches : ((("text" : Str) = ("branches" : Str)) = False) := eq_false (by decide +kernel)
@[simp] theorem fnb_text_size : ((("text" : Str) == ("size" : Str)) = false) := by decide +kernel
@[simp] theorem fne_text_size : ((("text" : Str) = ("size" : Str)) = False) := eq_false (by decide +kernel)
@[simp] theorem fnb_text_depth : ((("text" : Str) == ("depth" : Str)) = false) := by decide +kernel
@[simp] theorem fne_text_depth : ((("text" : Str) = ("depth" : Str)) = False) := eq_false (by decide +kernel)
@[simp] theorem fnb_text_inside : ((("text" : Str) == ("inside" : Str)) = false) := by decide +kernel
@[simp] theorem fne_text_inside : ((("text" : Str) = ("inside" : Str)) = False) := eq_false (by decide +kernel)
@[simp] theorem fnb_text_key : ((("text" : Str) == ("key" : Str)) = false) := by decide +kernel
@[simp] theorem fne_text_key : ((("text" : Str) = ("key" : Str)) = False) := eq_false (by decide +kernel)
@[simp] theorem fnb_inside_sign : ((("inside" : Str) == ("sign" : Str)) = false) := by decide +kernel
@[simp] theorem fne_inside_sign : ((("inside" : Str) = ("sign" : Str)) = False) := eq_false (by decide +kernel)
@[simp] theorem fnb_inside_branches : ((("inside" : Str) == ("branches" : Str)) = false) := by decide +kernel
@[simp] theorem fne_inside_branches : ((("inside" : Str) = ("branches" : Str)) = False) := eq_false (by decide +kernel)
@[simp] theorem fnb_inside_size : ((("inside" : Str) == ("size" : Str)) = false) := by decide +kernel
@[simp] theorem fne_inside_size : ((("inside" : Str) = ("size" : Str)) = False) := eq_false (by decide +kernel)
@[simp] theorem fnb_inside_depth : ((("inside" : Str) == ("depth" : Str)) = false) := by decide +kernel
@[simp] theorem fne_inside_depth : ((("inside" : Str) = ("depth" : Str)) = False) := eq_false (by decide +kernel)
@[simp] theorem fnb_inside_text : ((("inside" : Str) == ("text" : Str)) = false) := by decide +kernel
@[simp] theorem fne_inside_text : ((("inside" : Str) = ("text" : Str)) = False) := eq_false (by decide +kernel)
@[simp] theorem fnb_inside_key : ((("inside" : Str) == ("key" : Str)) = false) := by decide +kernel
@[simp] theorem fne_inside_key : ((("inside" : Str) = ("key" : Str)) = False) := eq_false (by decide +kernel)
@[simp] theorem fnb_key_sign : ((("key" : Str) == ("sign" : Str)) = false) := by decide +kernel
@[simp] theorem fne_key_sign : ((("key" : Str) = ("sign" : Str)) = False) := eq_false (by decide +kernel)
@[simp] theorem fnb_key_branches : ((("key" : Str) == ("branches" : Str)) = false) := by decide +kernel
@[simp] theorem fne_key_branches : ((("key" : Str) = ("branches" : Str)) = False) := eq_false (by decide +kernel)
@[simp] theorem fnb_key_size : ((("key" : Str) == ("size" : Str)) = false) := by decide +kernel
@[simp] theorem fne_key_size : ((("key" : Str) = ("size" : Str)) = False) := eq_false (by decide +kernel)
@[simp] theorem fnb_key_depth : ((("key" : Str) == ("depth" : Str)) = false) := by decide +kernel
@[simp] theorem fne_key_depth : ((("key" : Str) = ("depth" : Str)) = False) := eq_false (by decide +kernel)
@[simp] theorem fnb_key_text : ((("key" : Str) == ("text" : Str)) = false) := by decide +kernel
@[simp] theorem fne_key_text : ((("key" : Str) = ("text" : Str)) = False) := eq_false (by decide +kernel)
@[simp] theorem fnb_key_inside : ((("key" : Str) == ("inside" : Str)) = false) := by decide +kernel
@[simp] theorem fne_key_inside : ((("key" : Str) = ("inside" : Str)) = False) := eq_false (by decide +kernel)
theorem hide_v {d : D} : hideS (.v d) = .v d := rfl
theorem ok_is_sign {P : Program} {w : World} {K : PySem.W.Frag} {mg : Str → Option Value} {base : Heap} (tx : Tx K mg) : Fn3 P w K mg base 1 (He.ga K "is_sign") F_is_sign := by
  obtain ⟨fd, FD⟩ := tx.fd_is_sign
  refine fn3 FD sc_is_sign (FD.bindsN fun _ _ _ _ _ _ us hl => match us, hl with | [_], _ => rfl) ?hn (fun cdv A outer s H E hr => (dss_one (ds_ret (de_and (de_callB (L3.CallR.or call_isi call_isiT) (cd_isiA (K := K)) rfl tx.no_isinstance (by decide +kernel) (da_cons (dv 0) (da_cons (de_bty rfl tx.no_str) da_nil))) (de_and (de_chain op_le opd_le op_le opd_le de_int (de_len rfl tx.no_len (da_cons (dv 0) da_nil)) (de_gint rfl tx.mg_MOST_LETTERS)) (de_one (de_callB (cr_all rfl) cd_all rfl tx.no_all (by decide +kernel) (da_cons (de_lc (own := [("letter", 1)]) rfl sc_is_sign.nd (di_str (dv 0)) (blkOk_by (own := [("letter", 1)]) (N := N_is_sign) (sc := defScope s_is_sign) (by decide +kernel)) (fun _ _ _ _ _ => (dg_name (i := 1) sc_is_sign.nd rfl (Or.inl rfl))) (fun _ _ _ _ _ => dts_nil) (fun _ _ _ _ _ => (de_cmp op_inA opd_in (dv 1) (de_gstr rfl tx.mg_LETTERS) rfl))) da_nil)))))))) ?hT
  case hn =>
    rintro wd ds φ ε ⟨x, rfl, _⟩
    rfl
  case hT =>
    rintro wd ds φ ε ⟨x, rfl, hz, q⟩
    rw [show startD N_is_sign [.str x] = [.v (.str x), .no] from rfl]
    simp [TVar, TC, TOp, TTst, fI, TAnd, TOr, TNot, TAndV, TOrV, TNotV, TIf, TChain, TChainB, TNoPart, TPart, TSl, TFld, TFldO, TCon, TNil, TCons, TTup, TLst, TCB, TM1, TFmt, TJs, TJoined, TNext, TSeq, TBreak, TCont, TNever, TRet, TRetN, TDrop, TIfS, L3.TSet, TAug, TPar, GName, GNil, GCons, GTup, TAsg, TIl, TIt, TIs, TIr1, TIr2, TIz, TFor, TOwn, TOwnL, TApp, TExt, TBor, TBorB, TFrz, TPutF, TYes, TLc, TLc2, TCall, TStar, TMake, TOpC, TParO1, TParO0, TPutJ, TBorN, TIenT, TOwnLc, TMaxd, TCallK, lenF, isiAF, isiF, isiTF, PySem.W.kitAny, inF, sumF, allF, anyF, tupleF, int1F, max2F, joinF, ixF, addF, mulF, tyOf, TyK, clsOf, clsOfs, wipeD, hideS, flatD, putD, and_assoc, neNilF, slF, isF, isntF, isND]
    refine ⟨hz, ?_⟩
    have hl : x.length = (lc x).length := by show x.cps.size = _; simp
    unfold isSg at q
    rw [hl]
    by_cases h1 : 1 ≤ (lc x).length
    · refine .inr ⟨by omega, ?_⟩
      by_cases h2 : (lc x).length ≤ 6
      · refine .inr ⟨by omega, compD_map (f := fun c => .bl (isLet c)) _ _ (fun c _ acc ψ hl q => ?_) ?_ ?_⟩
        · simp [TVar, TC, TOp, TTst, fI, TAnd, TOr, TNot, TAndV, TOrV, TNotV, TIf, TChain, TChainB, TNoPart, TPart, TSl, TFld, TFldO, TCon, TNil, TCons, TTup, TLst, TCB, TM1, TFmt, TJs, TJoined, TNext, TSeq, TBreak, TCont, TNever, TRet, TRetN, TDrop, TIfS, L3.TSet, TAug, TPar, GName, GNil, GCons, GTup, TAsg, TIl, TIt, TIs, TIr1, TIr2, TIz, TFor, TOwn, TOwnL, TApp, TExt, TBor, TBorB, TFrz, TPutF, TYes, TLc, TLc2, TCall, TStar, TMake, TOpC, TParO1, TParO0, TPutJ, TBorN, TIenT, TOwnLc, TMaxd, TCallK, lenF, isiAF, isiF, isiTF, PySem.W.kitAny, inF, sumF, allF, anyF, tupleF, int1F, max2F, joinF, ixF, addF, mulF, tyOf, TyK, clsOf, clsOfs, wipeD, hideS, flatD, putD, and_assoc, neNilF, slF, isF, isntF, isND]
          exact ⟨hl, q⟩
        · show 0 + (lc x).length ≤ _
          rw [sizeLine_eq]
          omega
        · refine ⟨(lc x).map isLet, ?_, ?_⟩
          · rw [← blsD_map, List.map_map]
            rfl
          · rw [decide_eq_true h1, decide_eq_true h2] at q
            simpa [List.all_map] using q
      · refine .inl ⟨by omega, ?_⟩
        rw [decide_eq_false h2] at q
        simpa using q
    · refine .inl ⟨by omega, ?_⟩
      rw [decide_eq_false h1] at q
      simpa using q
theorem ok_init {P : Program} {w : World} {K : PySem.W.Frag} {mg : Str → Option Value} {base : Heap} (tx : Tx K mg) : FnI P w K mg base 2 (He.ga K "Tree") (He.ma K (He.ga K "Tree") "__init__") (F_init (He.ga K "Tree")) := by
  obtain ⟨fd, FD⟩ := tx.fd_Tree__init
  have g_is_sign : Fn3 P w K mg base 1 (He.ga K "is_sign") F_is_sign := ok_is_sign tx
  refine fnI3star (N := N_Tree__init) (ps := ["self", "sign"]) (pv := "branches") FD sc_Tree__init (by decide) (fun kV doc pm an cdv ct us rest hl => match us, hl, rest with | [_, _], _, [] => rfl | [_, _], _, _ :: _ => rfl) ?hn (by decide) (fun cdv A outer s H E hr => (dss_cons (ds_if (dt_not (dt_val (de_call g_is_sign (hr.mono (by omega)) rfl tx.mg_is_sign tx.kp_is_sign tk3 (da_cons (dv 1) da_nil))))
     (dss_one ds_never)
     dss_nil)
    (dss_cons (ds_if (dt_bool (dw_or (dt_cmp op_gt opd_gt (de_len rfl tx.no_len (da_cons (dv 2) da_nil)) (de_gint rfl tx.mg_MOST_BRANCHES_trees) (nomark _)) (dw_or1 (dt_not (dt_val (de_callB (cr_all rfl) cd_all rfl tx.no_all (by decide +kernel) (da_cons (de_lc (own := [("branch", 4)]) rfl sc_Tree__init.nd (di_tup (dv 2)) (blkOk_by (own := [("branch", 4)]) (N := N_Tree__init) (sc := defScope s_Tree__init) (by decide +kernel)) (fun _ _ _ _ _ => (dg_name (i := 4) sc_Tree__init.nd rfl (Or.inl rfl))) (fun _ _ _ _ _ => dts_nil) (fun _ _ _ _ _ => (de_callB (L3.CallR.or call_isi call_isiT) (cd_isiA (K := K)) rfl tx.no_isinstance (by decide +kernel) (da_cons (dv 4) (da_cons (de_gref rfl tx.mg_Tree) da_nil))))) da_nil)))))))
     (dss_one ds_never)
     dss_nil)
    (dss_cons (ds_putFK (K := K) 0 (dv 1))
    (dss_cons (ds_putFK (K := K) 0 (dv 2))
    (dss_cons (ds_putFK (K := K) 0 (de_add de_int (de_callB (cr_sum rfl) cd_sum rfl tx.no_sum (by decide +kernel) (da_cons (de_lc (own := [("branch", 4)]) rfl sc_Tree__init.nd (di_tup (dv 2)) (blkOk_by (own := [("branch", 4)]) (N := N_Tree__init) (sc := defScope s_Tree__init) (by decide +kernel)) (fun _ _ _ _ _ => (dg_name (i := 4) sc_Tree__init.nd rfl (Or.inl rfl))) (fun _ _ _ _ _ => dts_nil) (fun _ _ _ _ _ => (de_fldK (K := K) (dv 4)))) da_nil))))
    (dss_cons (ds_putFK (K := K) 0 (de_add de_int (de_maxd rfl hr.units rfl tx.no_max (de_lc (own := [("branch", 4)]) rfl sc_Tree__init.nd (di_tup (dv 2)) (blkOk_by (own := [("branch", 4)]) (N := N_Tree__init) (sc := defScope s_Tree__init) (by decide +kernel)) (fun _ _ _ _ _ => (dg_name (i := 4) sc_Tree__init.nd rfl (Or.inl rfl))) (fun _ _ _ _ _ => dts_nil) (fun _ _ _ _ _ => (de_fldK (K := K) (dv 4)))) de_int)))
    (dss_cons (ds_set (i := 3) sc_Tree__init.nd rfl (Or.inl rfl) (de_join de_str (de_lc (own := [("branch", 4)]) rfl sc_Tree__init.nd (di_tup (dv 2)) (blkOk_by (own := [("branch", 4)]) (N := N_Tree__init) (sc := defScope s_Tree__init) (by decide +kernel)) (fun _ _ _ _ _ => (dg_name (i := 4) sc_Tree__init.nd rfl (Or.inl rfl))) (fun _ _ _ _ _ => dts_nil) (fun _ _ _ _ _ => (de_fldK (K := K) (dv 4))))))
    (dss_cons (ds_putFK (K := K) 0 (de_ifExp (dt_cmp (op_eqD hr.units) opd_eq (de_len rfl tx.no_len (da_cons (dv 2) da_nil)) de_int (nomark _)) (dv 1) (de_joined (DJ.cons (de_fmt (dv 1)) (DJ.cons de_str (DJ.cons (de_fmt (dv 3)) (DJ.cons de_str DJ.nil)))))))
    (dss_cons (ds_putFK (K := K) 0 (de_add (de_callTy call_tuple_of cd_tuple rfl tx.no_tuple (by decide +kernel) (da_cons (de_lc2 (own := [("branch", 4), ("text", 5)]) (vs1 := [5]) rfl sc_Tree__init.nd (di_tup (dv 2)) (blkOk_by (own := [("branch", 4), ("text", 5)]) (N := N_Tree__init) (sc := defScope s_Tree__init) (by decide +kernel)) (by decide) (fun _ _ _ _ _ => (dg_name (i := 4) sc_Tree__init.nd rfl (Or.inl rfl))) (fun _ _ _ _ _ => dts_nil) (fun _ _ _ _ _ => (di_tup (de_fldK (K := K) (dv 4)))) (fun _ _ _ _ _ => (dg_name (i := 5) sc_Tree__init.nd rfl (Or.inl rfl))) (fun _ _ _ _ _ => dts_nil) (fun _ _ _ _ _ => (dv 5))) da_nil)) (de_tup (da_cons (de_fldOK (K := K) 0) da_nil))))
    (dss_one (ds_putFK (K := K) 0 (de_tup (da_cons (de_fldOK (K := K) 0) (da_cons (dv 1) (da_cons (de_len rfl tx.no_len (da_cons (dv 2) da_nil)) (da_cons (de_callTy call_tuple_of cd_tuple rfl tx.no_tuple (by decide +kernel) (da_cons (de_lc (own := [("branch", 4)]) rfl sc_Tree__init.nd (di_tup (dv 2)) (blkOk_by (own := [("branch", 4)]) (N := N_Tree__init) (sc := defScope s_Tree__init) (by decide +kernel)) (fun _ _ _ _ _ => (dg_name (i := 4) sc_Tree__init.nd rfl (Or.inl rfl))) (fun _ _ _ _ _ => dts_nil) (fun _ _ _ _ _ => (de_fldK (K := K) (dv 4)))) da_nil)) da_nil))))))))))))))))) ?hT
  case hn =>
    rintro wd ds φ ε ⟨s, ks, rfl, ⟨h1, h2, h3⟩, _⟩
    refine ⟨?_, ?_⟩
    · show 2 ≤ (ks.map (trD (He.ga K "Tree"))).length + 1 + 1
      omega
    · rw [List.length_cons, List.length_map, sizeLine_eq]
      omega
  case hT =>
    rintro a wd ds φ ε ⟨s, ks, rfl, ⟨h1, h2, h3⟩, hl, q⟩
    have hsg := (ok_sg_len h1)
    show TSeq _ _ _ _ [.oi a (He.ga K "Tree") [], .v (.str (mks s)), .v (.tup (ks.map (trD (He.ga K "Tree")))), .no, .no, .no]
    have t1 : AtK K (He.ga K "Tree") "sign" := ⟨tx.cl_Tree, tx.na_Tree_sign⟩
    have t2 : AtK K (He.ga K "Tree") "branches" := ⟨tx.cl_Tree, tx.na_Tree_branches⟩
    have t3 : AtK K (He.ga K "Tree") "size" := ⟨tx.cl_Tree, tx.na_Tree_size⟩
    have t4 : AtK K (He.ga K "Tree") "depth" := ⟨tx.cl_Tree, tx.na_Tree_depth⟩
    have t5 : AtK K (He.ga K "Tree") "text" := ⟨tx.cl_Tree, tx.na_Tree_text⟩
    have t6 : AtK K (He.ga K "Tree") "inside" := ⟨tx.cl_Tree, tx.na_Tree_inside⟩
    have t7 : AtK K (He.ga K "Tree") "key" := ⟨tx.cl_Tree, tx.na_Tree_key⟩
    have e1 : (Str.ofString "," : Str) = mks [44] := by decide +kernel
    have e2 : (Str.ofString "(" : Str) = mks [40] := by decide +kernel
    have e3 : (Str.ofString ")" : Str) = mks [41] := by decide +kernel
    have e4 : Str.empty = mks [] := rfl
    have hL : sizeLine = 16777216 := sizeLine_eq
    have hB : big = 1000000 := rfl
    have hz : 1 + sizs ks ≤ big := Nat.le_trans (siz_txt (t := .nd s ks) ⟨h1, h2, h3⟩) hl
    have hw := wrapL_len s (txts ks)
    have hwl : (wrapL s (txts ks)).length ≤ big := hl
    have hj := joinL_le (txts ks)
    have htl : (txts ks).length = ks.length := by rw [txts_eq, List.length_map]
    simp [TVar, TC, TOp, TTst, fI, TAnd, TOr, TNot, TAndV, TOrV, TNotV, TIf, TChain, TChainB, TNoPart, TPart, TSl, TFld, TFldO, TCon, TNil, TCons, TTup, TLst, TCB, TM1, TFmt, TJs, TJoined, TNext, TSeq, TBreak, TCont, TNever, TRet, TRetN, TDrop, TIfS, L3.TSet, TAug, TPar, GName, GNil, GCons, GTup, TAsg, TIl, TIt, TIs, TIr1, TIr2, TIz, TFor, TOwn, TOwnL, TApp, TExt, TBor, TBorB, TFrz, TPutF, TYes, TLc, TLc2, TCall, TStar, TMake, TOpC, TParO1, TParO0, TPutJ, TBorN, TIenT, TOwnLc, TMaxd, TCallK, lenF, isiAF, isiF, isiTF, PySem.W.kitAny, inF, sumF, allF, anyF, tupleF, int1F, max2F, joinF, ixF, addF, mulF, tyOf, TyK, clsOf, clsOfs, wipeD, hideS, flatD, putD, and_assoc, neNilF, slF, isF, isntF, isND, F_is_sign, t1, t2, t3, t4, t5, t6, t7, lc_mks, len_mks, h1, List.lookup_cons]
    refine ⟨by omega, by omega, compD_map (f := fun _ => .bl true) ks [] (fun t ht acc ψ hl q => ?_) (by simp; omega) ⟨ks.map fun _ => true, ?_, ?_, compD_map (f := fun t => .int (t.siz : Nat)) ks [] (fun t ht acc ψ hl q => ?_) (by simp; omega) ⟨ks.map fun t => ((t.siz : Nat) : Int), ?_,
      compD_map (f := fun t => .int (t.dep : Nat)) ks [] (fun t ht acc ψ hl q => ?_) (by simp; omega) ⟨ks.map fun t => ((t.dep : Nat) : Int), ?_, ?_⟩⟩⟩⟩
    · simp [TVar, TC, TOp, TTst, fI, TAnd, TOr, TNot, TAndV, TOrV, TNotV, TIf, TChain, TChainB, TNoPart, TPart, TSl, TFld, TFldO, TCon, TNil, TCons, TTup, TLst, TCB, TM1, TFmt, TJs, TJoined, TNext, TSeq, TBreak, TCont, TNever, TRet, TRetN, TDrop, TIfS, L3.TSet, TAug, TPar, GName, GNil, GCons, GTup, TAsg, TIl, TIt, TIs, TIr1, TIr2, TIz, TFor, TOwn, TOwnL, TApp, TExt, TBor, TBorB, TFrz, TPutF, TYes, TLc, TLc2, TCall, TStar, TMake, TOpC, TParO1, TParO0, TPutJ, TBorN, TIenT, TOwnLc, TMaxd, TCallK, lenF, isiAF, isiF, isiTF, PySem.W.kitAny, inF, sumF, allF, anyF, tupleF, int1F, max2F, joinF, ixF, addF, mulF, tyOf, TyK, clsOf, clsOfs, wipeD, hideS, flatD, putD, and_assoc, neNilF, slF, isF, isntF, isND, trD_ins, tx.in_Tree, tx.ki_Tree, hl, q]
    · rw [← blsD_map, List.map_map]; rfl
    · simp
    · simp [TVar, TC, TOp, TTst, fI, TAnd, TOr, TNot, TAndV, TOrV, TNotV, TIf, TChain, TChainB, TNoPart, TPart, TSl, TFld, TFldO, TCon, TNil, TCons, TTup, TLst, TCB, TM1, TFmt, TJs, TJoined, TNext, TSeq, TBreak, TCont, TNever, TRet, TRetN, TDrop, TIfS, L3.TSet, TAug, TPar, GName, GNil, GCons, GTup, TAsg, TIl, TIt, TIs, TIr1, TIr2, TIz, TFor, TOwn, TOwnL, TApp, TExt, TBor, TBorB, TFrz, TPutF, TYes, TLc, TLc2, TCall, TStar, TMake, TOpC, TParO1, TParO0, TPutJ, TBorN, TIenT, TOwnLc, TMaxd, TCallK, lenF, isiAF, isiF, isiTF, PySem.W.kitAny, inF, sumF, allF, anyF, tupleF, int1F, max2F, joinF, ixF, addF, mulF, tyOf, TyK, clsOf, clsOfs, wipeD, hideS, flatD, putD, and_assoc, neNilF, slF, isF, isntF, isND, trD_ins, t3, hl, q, fld_size]
    · rw [← intsD_map, List.map_map]; rfl
    · simp [TVar, TC, TOp, TTst, fI, TAnd, TOr, TNot, TAndV, TOrV, TNotV, TIf, TChain, TChainB, TNoPart, TPart, TSl, TFld, TFldO, TCon, TNil, TCons, TTup, TLst, TCB, TM1, TFmt, TJs, TJoined, TNext, TSeq, TBreak, TCont, TNever, TRet, TRetN, TDrop, TIfS, L3.TSet, TAug, TPar, GName, GNil, GCons, GTup, TAsg, TIl, TIt, TIs, TIr1, TIr2, TIz, TFor, TOwn, TOwnL, TApp, TExt, TBor, TBorB, TFrz, TPutF, TYes, TLc, TLc2, TCall, TStar, TMake, TOpC, TParO1, TParO0, TPutJ, TBorN, TIenT, TOwnLc, TMaxd, TCallK, lenF, isiAF, isiF, isiTF, PySem.W.kitAny, inF, sumF, allF, anyF, tupleF, int1F, max2F, joinF, ixF, addF, mulF, tyOf, TyK, clsOf, clsOfs, wipeD, hideS, flatD, putD, and_assoc, neNilF, slF, isF, isntF, isND, trD_ins, t4, hl, q, fld_depth]
    · rw [List.map_map]; rfl
    rw [mxD_deps]
    refine compD_map (f := fun t => .str (mks t.txt)) ks [] (fun t ht acc ψ hl q => ?_) (by simp; omega) ⟨(txts ks).map mks, ?_, ?_, ?_⟩
    · simp [TVar, TC, TOp, TTst, fI, TAnd, TOr, TNot, TAndV, TOrV, TNotV, TIf, TChain, TChainB, TNoPart, TPart, TSl, TFld, TFldO, TCon, TNil, TCons, TTup, TLst, TCB, TM1, TFmt, TJs, TJoined, TNext, TSeq, TBreak, TCont, TNever, TRet, TRetN, TDrop, TIfS, L3.TSet, TAug, TPar, GName, GNil, GCons, GTup, TAsg, TIl, TIt, TIs, TIr1, TIr2, TIz, TFor, TOwn, TOwnL, TApp, TExt, TBor, TBorB, TFrz, TPutF, TYes, TLc, TLc2, TCall, TStar, TMake, TOpC, TParO1, TParO0, TPutJ, TBorN, TIenT, TOwnLc, TMaxd, TCallK, lenF, isiAF, isiF, isiTF, PySem.W.kitAny, inF, sumF, allF, anyF, tupleF, int1F, max2F, joinF, ixF, addF, mulF, tyOf, TyK, clsOf, clsOfs, wipeD, hideS, flatD, putD, and_assoc, neNilF, slF, isF, isntF, isND, trD_ins, t5, hl, q, fld_text]
    · rw [← strsD_map, txts_eq, List.map_map, List.map_map]; rfl
    · rw [e1, List.map_map, len_mks, List.length_map]
      have : ((txts ks).map (fun x => Str.length (mks x))) = (txts ks).map List.length := List.map_congr_left fun x _ => len_mks x
      show ((txts ks).map (fun x => Str.length (mks x))).sum + _ ≤ _
      rw [this, htl]
      simp
      omega
    rw [fld_nd] at q
    rw [e1, e2, e3, e4, join_mks]
    simp only [mks_app, len_mks, List.nil_append]
    have hins := inss_map_len ks
    by_cases hk : ks = []
    · refine .inr ⟨hk, compD2_map (f := fun t => t.ins.map fun l => D.str (mks l)) ks [] (fun t ht acc ψ hl q => ?_) (by show 0 + _ ≤ _; omega) ⟨by show (ks.flatMap fun t => t.ins.map fun l => D.str (mks l)).length + 1 ≤ _; omega, compD_map (f := Tr.key) ks [] (fun t ht acc ψ hl q => ?_) (by simp; omega) ?_⟩⟩
      · simp [TVar, TC, TOp, TTst, fI, TAnd, TOr, TNot, TAndV, TOrV, TNotV, TIf, TChain, TChainB, TNoPart, TPart, TSl, TFld, TFldO, TCon, TNil, TCons, TTup, TLst, TCB, TM1, TFmt, TJs, TJoined, TNext, TSeq, TBreak, TCont, TNever, TRet, TRetN, TDrop, TIfS, L3.TSet, TAug, TPar, GName, GNil, GCons, GTup, TAsg, TIl, TIt, TIs, TIr1, TIr2, TIz, TFor, TOwn, TOwnL, TApp, TExt, TBor, TBorB, TFrz, TPutF, TYes, TLc, TLc2, TCall, TStar, TMake, TOpC, TParO1, TParO0, TPutJ, TBorN, TIenT, TOwnLc, TMaxd, TCallK, lenF, isiAF, isiF, isiTF, PySem.W.kitAny, inF, sumF, allF, anyF, tupleF, int1F, max2F, joinF, ixF, addF, mulF, tyOf, TyK, clsOf, clsOfs, wipeD, hideS, flatD, putD, and_assoc, neNilF, slF, isF, isntF, isND, trD_ins, t6, fld_inside]
        refine compD1_map (enc := fun l => D.str (mks l)) (f := fun l => D.str (mks l)) t.ins acc (fun l hl2 acc ψ hl q => ?_) (by simpa using hl) q
        simp [TVar, TC, TOp, TTst, fI, TAnd, TOr, TNot, TAndV, TOrV, TNotV, TIf, TChain, TChainB, TNoPart, TPart, TSl, TFld, TFldO, TCon, TNil, TCons, TTup, TLst, TCB, TM1, TFmt, TJs, TJoined, TNext, TSeq, TBreak, TCont, TNever, TRet, TRetN, TDrop, TIfS, L3.TSet, TAug, TPar, GName, GNil, GCons, GTup, TAsg, TIl, TIt, TIs, TIr1, TIr2, TIz, TFor, TOwn, TOwnL, TApp, TExt, TBor, TBorB, TFrz, TPutF, TYes, TLc, TLc2, TCall, TStar, TMake, TOpC, TParO1, TParO0, TPutJ, TBorN, TIenT, TOwnLc, TMaxd, TCallK, lenF, isiAF, isiF, isiTF, PySem.W.kitAny, inF, sumF, allF, anyF, tupleF, int1F, max2F, joinF, ixF, addF, mulF, tyOf, TyK, clsOf, clsOfs, wipeD, hideS, flatD, putD, and_assoc, neNilF, slF, isF, isntF, isND, hl, q]
      · simp [TVar, TC, TOp, TTst, fI, TAnd, TOr, TNot, TAndV, TOrV, TNotV, TIf, TChain, TChainB, TNoPart, TPart, TSl, TFld, TFldO, TCon, TNil, TCons, TTup, TLst, TCB, TM1, TFmt, TJs, TJoined, TNext, TSeq, TBreak, TCont, TNever, TRet, TRetN, TDrop, TIfS, L3.TSet, TAug, TPar, GName, GNil, GCons, GTup, TAsg, TIl, TIt, TIs, TIr1, TIr2, TIz, TFor, TOwn, TOwnL, TApp, TExt, TBor, TBorB, TFrz, TPutF, TYes, TLc, TLc2, TCall, TStar, TMake, TOpC, TParO1, TParO0, TPutJ, TBorN, TIenT, TOwnLc, TMaxd, TCallK, lenF, isiAF, isiF, isiTF, PySem.W.kitAny, inF, sumF, allF, anyF, tupleF, int1F, max2F, joinF, ixF, addF, mulF, tyOf, TyK, clsOf, clsOfs, wipeD, hideS, flatD, putD, and_assoc, neNilF, slF, isF, isntF, isND, trD_ins, t7, hl, q, fld_key]
      · subst hk
        exact q
    · have ew : wrapL s (txts ks) = s ++ [40] ++ joinL (txts ks) ++ [41] := by
        cases ks with
        | nil => exact absurd rfl hk
        | cons t r =>
          show s ++ 40 :: (joinL (txts (t :: r)) ++ [41]) = _
          simp
      have ewl : (s ++ [40] ++ joinL (txts ks) ++ [41]).length ≤ big := by rw [← ew]; exact hl
      simp at ewl
      refine .inl ⟨hk, by omega, by omega, by simp; omega, by omega, by simp; omega, by simp; omega, compD2_map (f := fun t => t.ins.map fun l => D.str (mks l)) ks [] (fun t ht acc ψ hl q => ?_) (by show 0 + _ ≤ _; omega) ⟨by show (ks.flatMap fun t => t.ins.map fun l => D.str (mks l)).length + 1 ≤ _; omega, compD_map (f := Tr.key) ks [] (fun t ht acc ψ hl q => ?_) (by simp; omega) ?_⟩⟩
      · simp [TVar, TC, TOp, TTst, fI, TAnd, TOr, TNot, TAndV, TOrV, TNotV, TIf, TChain, TChainB, TNoPart, TPart, TSl, TFld, TFldO, TCon, TNil, TCons, TTup, TLst, TCB, TM1, TFmt, TJs, TJoined, TNext, TSeq, TBreak, TCont, TNever, TRet, TRetN, TDrop, TIfS, L3.TSet, TAug, TPar, GName, GNil, GCons, GTup, TAsg, TIl, TIt, TIs, TIr1, TIr2, TIz, TFor, TOwn, TOwnL, TApp, TExt, TBor, TBorB, TFrz, TPutF, TYes, TLc, TLc2, TCall, TStar, TMake, TOpC, TParO1, TParO0, TPutJ, TBorN, TIenT, TOwnLc, TMaxd, TCallK, lenF, isiAF, isiF, isiTF, PySem.W.kitAny, inF, sumF, allF, anyF, tupleF, int1F, max2F, joinF, ixF, addF, mulF, tyOf, TyK, clsOf, clsOfs, wipeD, hideS, flatD, putD, and_assoc, neNilF, slF, isF, isntF, isND, trD_ins, t6, fld_inside]
        refine compD1_map (enc := fun l => D.str (mks l)) (f := fun l => D.str (mks l)) t.ins acc (fun l hl2 acc ψ hl q => ?_) (by simpa using hl) q
        simp [TVar, TC, TOp, TTst, fI, TAnd, TOr, TNot, TAndV, TOrV, TNotV, TIf, TChain, TChainB, TNoPart, TPart, TSl, TFld, TFldO, TCon, TNil, TCons, TTup, TLst, TCB, TM1, TFmt, TJs, TJoined, TNext, TSeq, TBreak, TCont, TNever, TRet, TRetN, TDrop, TIfS, L3.TSet, TAug, TPar, GName, GNil, GCons, GTup, TAsg, TIl, TIt, TIs, TIr1, TIr2, TIz, TFor, TOwn, TOwnL, TApp, TExt, TBor, TBorB, TFrz, TPutF, TYes, TLc, TLc2, TCall, TStar, TMake, TOpC, TParO1, TParO0, TPutJ, TBorN, TIenT, TOwnLc, TMaxd, TCallK, lenF, isiAF, isiF, isiTF, PySem.W.kitAny, inF, sumF, allF, anyF, tupleF, int1F, max2F, joinF, ixF, addF, mulF, tyOf, TyK, clsOf, clsOfs, wipeD, hideS, flatD, putD, and_assoc, neNilF, slF, isF, isntF, isND, hl, q]
      · simp [TVar, TC, TOp, TTst, fI, TAnd, TOr, TNot, TAndV, TOrV, TNotV, TIf, TChain, TChainB, TNoPart, TPart, TSl, TFld, TFldO, TCon, TNil, TCons, TTup, TLst, TCB, TM1, TFmt, TJs, TJoined, TNext, TSeq, TBreak, TCont, TNever, TRet, TRetN, TDrop, TIfS, L3.TSet, TAug, TPar, GName, GNil, GCons, GTup, TAsg, TIl, TIt, TIs, TIr1, TIr2, TIz, TFor, TOwn, TOwnL, TApp, TExt, TBor, TBorB, TFrz, TPutF, TYes, TLc, TLc2, TCall, TStar, TMake, TOpC, TParO1, TParO0, TPutJ, TBorN, TIenT, TOwnLc, TMaxd, TCallK, lenF, isiAF, isiF, isiTF, PySem.W.kitAny, inF, sumF, allF, anyF, tupleF, int1F, max2F, joinF, ixF, addF, mulF, tyOf, TyK, clsOf, clsOfs, wipeD, hideS, flatD, putD, and_assoc, neNilF, slF, isF, isntF, isND, trD_ins, t7, hl, q, fld_key]
      · rw [← ew]
        exact q
end K5
namespace K5
open PySem PySem.Spec PyProof.Rows L2 L3

def F_eq (C : Addr) : TF := fun _ ds φ _ => ∃ a b : Tr, ds = [trD C a, trD C b] ∧ a.ok ∧ b.ok ∧ φ (.bl (decide (mks a.txt = mks b.txt)))
def deepS (p : Int × Int) (c : Nat) : Int × Int := (p.1 + ((if c = 40 then 1 else 0) - (if c = 41 then 1 else 0)), max p.2 (p.1 + ((if c = 40 then 1 else 0) - (if c = 41 then 1 else 0))))
def deep (l : List Nat) : Int := (l.foldl deepS (0, 0)).2
def F_deepest : TF := fun _ ds φ _ => ∃ z : Str, ds = [.str z] ∧ (∀ c ∈ lc z, c < 128) ∧ φ (.int (deep (lc z)))
theorem one_eq (c k : Nat) : decide ((⟨#[c]⟩ : Str) = mks [k]) = decide (c = k) := by
  have : ((⟨#[c]⟩ : Str) = mks [k]) ↔ c = k := ⟨fun h => by
    have h2 : mks [c] = mks [k] := h
    have := mks_inj h2
    simpa using this, fun h => by subst h; rfl⟩
  exact decide_eq_decide.mpr this
theorem shaped_one {c : Nat} (h : c < 128) : SeqAt.shaped (.str ⟨#[c]⟩) = true := shaped_mks (l := [c]) (by simpa using h)
theorem ok_Tree__eq {P : Program} {w : World} {K : PySem.W.Frag} {mg : Str → Option Value} {base : Heap} (tx : Tx K mg) : Fn3 P w K mg base 1 (He.ma K (He.ga K "Tree") "__eq__") (F_eq (He.ga K "Tree")) := by
  obtain ⟨fd, FD⟩ := tx.fd_Tree__eq
  refine fn3 FD sc_Tree__eq (FD.bindsN fun _ _ _ _ _ _ us hl => match us, hl with | [_, _], _ => rfl) ?hn (fun cdv A outer s H E hr => (dss_one (ds_ret (de_and (de_callB (L3.CallR.or call_isi call_isiT) (cd_isiA (K := K)) rfl tx.no_isinstance (by decide +kernel) (da_cons (dv 1) (da_cons (de_gref rfl tx.mg_Tree) da_nil))) (de_one (de_cmp (op_eqD hr.units) opd_eq (de_fldK (K := K) (dv 0)) (de_fldK (K := K) (dv 1)) (nomark _))))))) ?hT
  case hn =>
    rintro wd ds φ ε ⟨a, b, rfl, _⟩
    rfl
  case hT =>
    rintro wd ds φ ε ⟨a, b, rfl, ha, hb, q⟩
    have t5 : AtK K (He.ga K "Tree") "text" := ⟨tx.cl_Tree, tx.na_Tree_text⟩
    show TRet _ _ _ [.v (trD (He.ga K "Tree") a), .v (trD (He.ga K "Tree") b)]
    simp [TVar, TC, TOp, TTst, fI, TAnd, TOr, TNot, TAndV, TOrV, TNotV, TIf, TChain, TChainB, TNoPart, TPart, TSl, TFld, TFldO, TCon, TNil, TCons, TTup, TLst, TCB, TM1, TFmt, TJs, TJoined, TNext, TSeq, TBreak, TCont, TNever, TRet, TRetN, TDrop, TIfS, L3.TSet, TAug, TPar, GName, GNil, GCons, GTup, TAsg, TIl, TIt, TIs, TIr1, TIr2, TIz, TFor, TOwn, TOwnL, TApp, TExt, TBor, TBorB, TFrz, TPutF, TYes, TLc, TLc2, TCall, TStar, TMake, TOpC, TParO1, TParO0, TPutJ, TBorN, TIenT, TOwnLc, TMaxd, TCallK, lenF, isiAF, isiF, isiTF, PySem.W.kitAny, inF, sumF, allF, anyF, tupleF, int1F, max2F, joinF, ixF, addF, mulF, tyOf, TyK, clsOf, clsOfs, wipeD, hideS, flatD, putD, and_assoc, neNilF, slF, isF, isntF, isND, trD_ins, tx.in_Tree, tx.ki_Tree, t5, fld_text, shaped_txt ha, shaped_txt hb, q]
theorem ok_deepest {P : Program} {w : World} {K : PySem.W.Frag} {mg : Str → Option Value} {base : Heap} (tx : Tx K mg) : Fn3 P w K mg base 1 (He.ga K "deepest") F_deepest := by
  obtain ⟨fd, FD⟩ := tx.fd_deepest
  refine fn3 FD sc_deepest (FD.bindsN fun _ _ _ _ _ _ us hl => match us, hl with | [_], _ => rfl) ?hn (fun cdv A outer s H E hr => (dss_cons (ds_asg (vs := [1, 2]) (de_tup (da_cons de_int (da_cons de_int da_nil))) (dg_tup (n := 2) rfl (dgs_cons (dg_name (i := 1) sc_deepest.nd rfl (Or.inl rfl)) (dgs_cons (dg_name (i := 2) sc_deepest.nd rfl (Or.inl rfl)) dgs_nil))))
    (dss_cons (ds_for (vs := [3]) ps3 rfl (di_str (dv 0)) (dg_name (i := 3) sc_deepest.nd rfl (Or.inl rfl))
     (dss_cons (ds_augAdd (i := 1) sc_deepest.nd rfl (Or.inl rfl) (de_sub (de_callTy call_int1 cd_int1 rfl tx.no_int (by decide +kernel) (da_cons (de_cmp (op_eqD hr.units) opd_eq (dv 3) de_str (nomark _)) da_nil)) (de_callTy call_int1 cd_int1 rfl tx.no_int (by decide +kernel) (da_cons (de_cmp (op_eqD hr.units) opd_eq (dv 3) de_str (nomark _)) da_nil))))
    (dss_one (ds_set (i := 2) sc_deepest.nd rfl (Or.inl rfl) (de_callB (call_max2 rfl) cd_max2 rfl tx.no_max (by decide +kernel) (da_cons (dv 2) (da_cons (dv 1) da_nil)))))))
    (dss_one (ds_ret (dv 2)))))) ?hT
  case hn =>
    rintro wd ds φ ε ⟨z, rfl, _⟩
    rfl
  case hT =>
    rintro wd ds φ ε ⟨z, rfl, hz, q⟩
    have e2 : (Str.ofString "(" : Str) = mks [40] := by decide +kernel
    have e3 : (Str.ofString ")" : Str) = mks [41] := by decide +kernel
    show TSeq _ _ _ _ [.v (.str z), .no, .no, .no]
    simp [TVar, TC, TOp, TTst, fI, TAnd, TOr, TNot, TAndV, TOrV, TNotV, TIf, TChain, TChainB, TNoPart, TPart, TSl, TFld, TFldO, TCon, TNil, TCons, TTup, TLst, TCB, TM1, TFmt, TJs, TJoined, TNext, TSeq, TBreak, TCont, TNever, TRet, TRetN, TDrop, TIfS, L3.TSet, TAug, TPar, GName, GNil, GCons, GTup, TAsg, TIl, TIt, TIs, TIr1, TIr2, TIz, TFor, TOwn, TOwnL, TApp, TExt, TBor, TBorB, TFrz, TPutF, TYes, TLc, TLc2, TCall, TStar, TMake, TOpC, TParO1, TParO0, TPutJ, TBorN, TIenT, TOwnLc, TMaxd, TCallK, lenF, isiAF, isiF, isiTF, PySem.W.kitAny, inF, sumF, allF, anyF, tupleF, int1F, max2F, joinF, ixF, addF, mulF, tyOf, TyK, clsOf, clsOfs, wipeD, hideS, flatD, putD, and_assoc, neNilF, slF, isF, isntF, isND]
    refine forD_of (enc := fun c => D.str ⟨#[c]⟩) (fun xs env => ∃ (d m : Int) (sl : Sl), env = [.v (.str z), .v (.int d), .v (.int m), sl] ∧ (∀ c ∈ xs, c < 128) ∧ φ (.int (xs.foldl deepS (d, m)).2)) z.cps.toList _ ⟨0, 0, .no, rfl, hz, q⟩ ?_ ?_
    · rintro c xs env D2 - h1 - - ⟨d, m, sl, rfl, hc, q⟩
      have hc1 := hc c List.mem_cons_self
      have s1 : SeqAt.shaped (.str (mks [40])) = true := shaped_mks (by decide)
      have s2 : SeqAt.shaped (.str (mks [41])) = true := shaped_mks (by decide)
      simp [TVar, TC, TOp, TTst, fI, TAnd, TOr, TNot, TAndV, TOrV, TNotV, TIf, TChain, TChainB, TNoPart, TPart, TSl, TFld, TFldO, TCon, TNil, TCons, TTup, TLst, TCB, TM1, TFmt, TJs, TJoined, TNext, TSeq, TBreak, TCont, TNever, TRet, TRetN, TDrop, TIfS, L3.TSet, TAug, TPar, GName, GNil, GCons, GTup, TAsg, TIl, TIt, TIs, TIr1, TIr2, TIz, TFor, TOwn, TOwnL, TApp, TExt, TBor, TBorB, TFrz, TPutF, TYes, TLc, TLc2, TCall, TStar, TMake, TOpC, TParO1, TParO0, TPutJ, TBorN, TIenT, TOwnLc, TMaxd, TCallK, lenF, isiAF, isiF, isiTF, PySem.W.kitAny, inF, sumF, allF, anyF, tupleF, int1F, max2F, joinF, ixF, addF, mulF, tyOf, TyK, clsOf, clsOfs, wipeD, hideS, flatD, putD, and_assoc, neNilF, slF, isF, isntF, isND, e2, e3, shaped_one hc1, s1, s2, one_eq]
      refine h1 _ ⟨_, _, _, rfl, fun c h => hc c (List.mem_cons_of_mem _ h), ?_⟩
      rw [List.foldl_cons] at q
      have em : (if m < d + ((if c = 40 then 1 else 0) - if c = 41 then 1 else 0) then d + ((if c = 40 then 1 else 0) - if c = 41 then 1 else 0) else m) = max m (d + ((if c = 40 then 1 else 0) - if c = 41 then 1 else 0)) := by
        split <;> omega
      rw [em]
      exact q
    · rintro env ⟨d, m, sl, rfl, -, q⟩
      simp [TVar, TC, TOp, TTst, fI, TAnd, TOr, TNot, TAndV, TOrV, TNotV, TIf, TChain, TChainB, TNoPart, TPart, TSl, TFld, TFldO, TCon, TNil, TCons, TTup, TLst, TCB, TM1, TFmt, TJs, TJoined, TNext, TSeq, TBreak, TCont, TNever, TRet, TRetN, TDrop, TIfS, L3.TSet, TAug, TPar, GName, GNil, GCons, GTup, TAsg, TIl, TIt, TIs, TIr1, TIr2, TIz, TFor, TOwn, TOwnL, TApp, TExt, TBor, TBorB, TFrz, TPutF, TYes, TLc, TLc2, TCall, TStar, TMake, TOpC, TParO1, TParO0, TPutJ, TBorN, TIenT, TOwnLc, TMaxd, TCallK, lenF, isiAF, isiF, isiTF, PySem.W.kitAny, inF, sumF, allF, anyF, tupleF, int1F, max2F, joinF, ixF, addF, mulF, tyOf, TyK, clsOf, clsOfs, wipeD, hideS, flatD, putD, and_assoc, neNilF, slF, isF, isntF, isND]
      exact q
def F_tree_from (C : Addr) (n : Nat) : TF := fun _ ds φ _ => ∃ (z : Str) (pre post : List Nat) (t : Tr), ds = [.str z, .int (pre.length : Nat)] ∧ lc z = pre ++ (t.txt ++ post) ∧ t.ok ∧ t.dep ≤ n ∧ sepOk post ∧ z.length ≤ big ∧ (∀ c ∈ lc z, c < 128) ∧
  φ (.tup [trD C t, .int ((pre.length + t.txt.length : Nat) : Int)])
theorem letS (c : Nat) : occ ⟨#[c]⟩ (Str.ofString "abcdefghijklmnopqrstuvwxyz") = isLet c := rfl
theorem dep_pos (t : Tr) : 1 ≤ t.dep := by
  cases t with
  | nd s ks =>
    show 1 ≤ 1 + deps ks
    omega
theorem ok_tree_from {P : Program} {w : World} {K : PySem.W.Frag} {mg : Str → Option Value} {base : Heap} (tx : Tx K mg) : ∀ n : Nat, Fn3 P w K mg base (4 + n) (He.ga K "tree_from") (F_tree_from (He.ga K "Tree") n)
  | 0 => by
    intro A outer s H us vs Q E hr e0 r ⟨wd, R, ds, φ, ε, b, rr, ⟨z, pre, post, t, _, _, _, h, _⟩, _⟩
    have := dep_pos t
    omega
  | n + 1 => by
    obtain ⟨fd, FD⟩ := tx.fd_tree_from
    have g_is_sign : Fn3 P w K mg base 1 (He.ga K "is_sign") F_is_sign := ok_is_sign tx
    have g_Tree_init : FnI P w K mg base 2 (He.ga K "Tree") (He.ma K (He.ga K "Tree") "__init__") (F_init (He.ga K "Tree")) := ok_init tx
    have g_tree_from : Fn3 P w K mg base (4 + n) (He.ga K "tree_from") (F_tree_from (He.ga K "Tree") n) := ok_tree_from tx n
    refine fn3 (k := 4 + n) FD sc_tree_from (FD.bindsN fun _ _ _ _ _ _ us hl => match us, hl with | [_, _], _ => rfl) ?hn (fun cdv A outer s H E hr => (dss_cons (ds_set (i := 2) sc_tree_from.nd rfl (Or.inl rfl) (dv 1))
    (dss_cons (ds_while ps3 (dt_bool (dw_and (dt_cmp op_lt opd_lt (dv 2) (de_len rfl tx.no_len (da_cons (dv 0) da_nil)) (nomark _)) (dw_and1 (dt_cmp op_inA opd_in (de_ix (dv 0) (dv 2)) (de_gstr rfl tx.mg_LETTERS) rfl))))
     (dss_one (ds_augAdd (i := 2) sc_tree_from.nd rfl (Or.inl rfl) de_int)))
    (dss_cons (ds_parOwn1 (i := 3) (j := 4) rfl sc_tree_from.nd rfl rfl (by decide) rfl rfl (de_slice (dv 0) (do_some (dv 1)) (do_some (dv 2))))
    (dss_cons (ds_if (dt_not (dt_val (de_call g_is_sign (hr.mono (by omega)) rfl tx.mg_is_sign tx.kp_is_sign tk3 (da_cons (dv 3) da_nil))))
     (dss_frz 4 (dss_one (ds_ret de_non)))
     dss_nil)
    (dss_cons (ds_if (dt_cmp (op_neD hr.units) opd_ne (de_slice (dv 0) (do_some (dv 2)) (do_some (de_add (dv 2) de_int))) de_str (nomark _))
     (dss_frz 4 (dss_one (ds_ret (de_tup (da_cons (de_make tx.mk_Tree g_Tree_init (hr.mono (by omega)) rfl tx.mg_Tree tk3 (da_cons (dv 3) da_nil)) (da_cons (dv 2) da_nil))))))
     dss_nil)
    (dss_cons (ds_while ps3 (dt_bor 4 (dt_bool (dw_and (dt_cmp op_inA opd_in (de_slice (dv 0) (do_some (dv 2)) (do_some (de_add (dv 2) de_int))) (de_tup (da_cons de_str (da_cons de_str da_nil))) rfl) (dw_and1 (dt_cmp (op_eqD hr.units) opd_eq (de_cmp (op_eqD hr.units) opd_eq (de_ix (dv 0) (dv 2)) de_str (nomark _)) (de_cmp (op_neNil hr.units) opd_neNil (dv 4) (de_lst da_nil) (nomark _)) (nomark _))))))
     (dss_cons (ds_set (i := 5) sc_tree_from.nd rfl (Or.inl rfl) (de_call g_tree_from (hr.mono (by omega)) rfl tx.mg_tree_from tx.kp_tree_from tk3 (da_cons (dv 0) (da_cons (de_add (dv 2) de_int) da_nil))))
    (dss_cons (ds_if (dt_bor 4 (dt_bool (dw_or (dt_cmp op_isN opd_is (dv 5) de_non (nomark _)) (dw_or1 (dt_cmp (op_eqD hr.units) opd_eq (de_len rfl tx.no_len (da_cons (dv 4) da_nil)) (de_gint rfl tx.mg_MOST_BRANCHES_trees) (nomark _))))))
     (dss_one (ds_ret de_non))
     dss_nil)
    (dss_cons (ds_append 4 (de_ix (dv 5) de_int))
    (dss_one (ds_set (i := 2) sc_tree_from.nd rfl (Or.inl rfl) (de_ix (dv 5) de_int)))))))
    (dss_frz 4 (dss_one (ds_ret (de_ifExp (dt_cmp (op_eqD hr.units) opd_eq (de_slice (dv 0) (do_some (dv 2)) (do_some (de_add (dv 2) de_int))) de_str (nomark _)) (de_tup (da_cons (de_makeS tx.mk_Tree g_Tree_init (hr.mono (by omega)) rfl tx.mg_Tree tk3 (da_cons (dv 3) (da_star (dv 4) da_nil))) (da_cons (de_add (dv 2) de_int) da_nil))) de_non))))))))))) ?hT
    case hn =>
      rintro wd ds φ ε ⟨z, pre, post, t, rfl, _⟩
      rfl
    case hT =>
      rintro wd ds φ ε ⟨z, pre, post, ⟨s, ks⟩, rfl, hz, ⟨h1, h2, h3⟩, hd, hp, hb, hc, q⟩
      show TSeq _ _ _ _ [.v (.str z), .v (.int (pre.length : Nat)), .no, .no, .no, .no]
      have hL : sizeLine = 16777216 := sizeLine_eq
      have hB : big = 1000000 := rfl
      have k1 : (Str.ofString "(" : Str) = mks [40] := by decide +kernel
      have k2 : (Str.ofString ")" : Str) = mks [41] := by decide +kernel
      have k3 : (Str.ofString "," : Str) = mks [44] := by decide +kernel
      have sh : ∀ c, c < 128 → SeqAt.shaped (.str (mks [c])) = true := fun c h => shaped_mks (l := [c]) (by simpa using h)
      have sh0 : SeqAt.shaped (.str (mks [])) = true := shaped_mks (by simp)
      have s40 := sh 40 (by decide)
      have s41 := sh 41 (by decide)
      have s44 := sh 44 (by decide)
      obtain ⟨R, hR, hRn, hR1, hR2⟩ : ∃ R, lc z = pre ++ (s ++ R) ∧ (∀ c r, R = c :: r → isLet c = false) ∧ (ks = [] → R = post) ∧ (∀ t r, ks = t :: r → R = sepR true (t :: r) post) := by
        cases ks with
        | nil =>
          refine ⟨post, hz, fun c r e => ?_, fun _ => rfl, fun t r e => by cases e⟩
          rw [e] at hp
          rcases hp with e | e
          · subst e; exact let_comma
          · subst e; exact let_close
        | cons t r =>
          refine ⟨sepR true (t :: r) post, by rw [hz, txt_sep], fun c r' e => ?_, fun e => by (cases e), fun t' r' e => by injection e with e1 e2; rw [e1, e2]⟩
          have : c = 40 := by
            have e2 : 40 :: (t.txt ++ sepR false r post) = c :: r' := e
            injection e2 with e3 _
            exact e3.symm
          subst this
          exact let_open
      have hlz : z.length = pre.length + (s.length + R.length) := by rw [len_lc, hR]; simp
      have hsl := ok_sg_len h1
      simp [TVar, TC, TOp, TTst, fI, TAnd, TOr, TNot, TAndV, TOrV, TNotV, TIf, TChain, TChainB, TNoPart, TPart, TSl, TFld, TFldO, TCon, TNil, TCons, TTup, TLst, TCB, TM1, TFmt, TJs, TJoined, TNext, TSeq, TBreak, TCont, TNever, TRet, TRetN, TDrop, TIfS, L3.TSet, TAug, TPar, GName, GNil, GCons, GTup, TAsg, TIl, TIt, TIs, TIr1, TIr2, TIz, TFor, TOwn, TOwnL, TApp, TExt, TBor, TBorB, TFrz, TPutF, TYes, TLc, TLc2, TCall, TStar, TMake, TOpC, TParO1, TParO0, TPutJ, TBorN, TIenT, TOwnLc, TMaxd, TCallK, lenF, isiAF, isiF, isiTF, PySem.W.kitAny, inF, sumF, allF, anyF, tupleF, int1F, max2F, joinF, ixF, addF, mulF, tyOf, TyK, clsOf, clsOfs, wipeD, hideS, flatD, putD, and_assoc, neNilF, slF, isF, isntF, isND, F_is_sign]
      refine whD_of (fun m env => ∃ (a : Nat) (s1 s2 : List Nat), s = s1 ++ s2 ∧ m = s2.length ∧ a = pre.length + s1.length ∧ env = [.v (.str z), .v (.int (pre.length : Nat)), .v (.int (a : Nat)), .no, .no, .no]) ?_ s.length _ ⟨pre.length, [], s, rfl, rfl, by simp, rfl⟩
      rintro m env D2 - - hnx - ⟨a, s1, s2, e, rfl, ha, rfl⟩
      cases s2 with
      | cons c s2 =>
        have hlt : (a : Int) < z.length := by rw [e] at hlz; simp at hlz; omega
        have hat : atI z.cps.toList (a : Int) = some c := by
          have := at_pos (z := z) (P := pre ++ s1) (R := s2 ++ R) (c := c) (by rw [hR, e]; simp)
          rw [List.length_append, ← ha] at this
          exact this
        have hcl : isLet c = true := hsl.2.2 c (by rw [e]; simp)
        have hz2 : z.length ≤ sizeLine := by omega
        refine go_then (fun ψ hψ => by simp [TVar, TC, TOp, TTst, fI, TAnd, TOr, TNot, TAndV, TOrV, TNotV, TIf, TChain, TChainB, TNoPart, TPart, TSl, TFld, TFldO, TCon, TNil, TCons, TTup, TLst, TCB, TM1, TFmt, TJs, TJoined, TNext, TSeq, TBreak, TCont, TNever, TRet, TRetN, TDrop, TIfS, L3.TSet, TAug, TPar, GName, GNil, GCons, GTup, TAsg, TIl, TIt, TIs, TIr1, TIr2, TIz, TFor, TOwn, TOwnL, TApp, TExt, TBor, TBorB, TFrz, TPutF, TYes, TLc, TLc2, TCall, TStar, TMake, TOpC, TParO1, TParO0, TPutJ, TBorN, TIenT, TOwnLc, TMaxd, TCallK, lenF, isiAF, isiF, isiTF, PySem.W.kitAny, inF, sumF, allF, anyF, tupleF, int1F, max2F, joinF, ixF, addF, mulF, tyOf, TyK, clsOf, clsOfs, wipeD, hideS, flatD, putD, and_assoc, neNilF, slF, isF, isntF, isND, hlt, hat, hz2, letS, hcl, hψ]) ?_
        simp [TVar, TC, TOp, TTst, fI, TAnd, TOr, TNot, TAndV, TOrV, TNotV, TIf, TChain, TChainB, TNoPart, TPart, TSl, TFld, TFldO, TCon, TNil, TCons, TTup, TLst, TCB, TM1, TFmt, TJs, TJoined, TNext, TSeq, TBreak, TCont, TNever, TRet, TRetN, TDrop, TIfS, L3.TSet, TAug, TPar, GName, GNil, GCons, GTup, TAsg, TIl, TIt, TIs, TIr1, TIr2, TIz, TFor, TOwn, TOwnL, TApp, TExt, TBor, TBorB, TFrz, TPutF, TYes, TLc, TLc2, TCall, TStar, TMake, TOpC, TParO1, TParO0, TPutJ, TBorN, TIenT, TOwnLc, TMaxd, TCallK, lenF, isiAF, isiF, isiTF, PySem.W.kitAny, inF, sumF, allF, anyF, tupleF, int1F, max2F, joinF, ixF, addF, mulF, tyOf, TyK, clsOf, clsOfs, wipeD, hideS, flatD, putD, and_assoc, neNilF, slF, isF, isntF, isND]
        refine hnx s2.length _ (by simp) ⟨a + 1, s1 ++ [c], s2, by rw [e]; simp, rfl, by simp; omega, ?_⟩
        congr
      | nil =>
        have e' : s1 = s := by rw [e]; simp
        subst e'
        have hz2 : z.length ≤ sizeLine := by omega
        have hcut : cutS z (some (pre.length : Int)) (some (a : Int)) = mks s1 := by rw [ha]; exact cut_mid hR
        have hcut1 : cutS z (some (a : Int)) (some ((a : Int) + 1)) = mks (R.take 1) := by
          have := cut_one (z := z) (P := pre ++ s1) (R := R) (by rw [hR]; simp)
          rw [List.length_append, ← ha] at this
          exact this
        refine go_else (fun ψ hψ => ?_) ?_
        · cases R with
          | nil =>
            have hlt : ¬ (a : Int) < z.length := by simp at hlz; omega
            simp [TVar, TC, TOp, TTst, fI, TAnd, TOr, TNot, TAndV, TOrV, TNotV, TIf, TChain, TChainB, TNoPart, TPart, TSl, TFld, TFldO, TCon, TNil, TCons, TTup, TLst, TCB, TM1, TFmt, TJs, TJoined, TNext, TSeq, TBreak, TCont, TNever, TRet, TRetN, TDrop, TIfS, L3.TSet, TAug, TPar, GName, GNil, GCons, GTup, TAsg, TIl, TIt, TIs, TIr1, TIr2, TIz, TFor, TOwn, TOwnL, TApp, TExt, TBor, TBorB, TFrz, TPutF, TYes, TLc, TLc2, TCall, TStar, TMake, TOpC, TParO1, TParO0, TPutJ, TBorN, TIenT, TOwnLc, TMaxd, TCallK, lenF, isiAF, isiF, isiTF, PySem.W.kitAny, inF, sumF, allF, anyF, tupleF, int1F, max2F, joinF, ixF, addF, mulF, tyOf, TyK, clsOf, clsOfs, wipeD, hideS, flatD, putD, and_assoc, neNilF, slF, isF, isntF, isND, hlt, hz2, hψ]
            omega
          | cons c r =>
            have hlt : (a : Int) < z.length := by simp at hlz; omega
            have hat : atI z.cps.toList (a : Int) = some c := by
              have := at_pos (z := z) (P := pre ++ s1) (R := r) (c := c) (by rw [hR]; simp)
              rw [List.length_append, ← ha] at this
              exact this
            simp [TVar, TC, TOp, TTst, fI, TAnd, TOr, TNot, TAndV, TOrV, TNotV, TIf, TChain, TChainB, TNoPart, TPart, TSl, TFld, TFldO, TCon, TNil, TCons, TTup, TLst, TCB, TM1, TFmt, TJs, TJoined, TNext, TSeq, TBreak, TCont, TNever, TRet, TRetN, TDrop, TIfS, L3.TSet, TAug, TPar, GName, GNil, GCons, GTup, TAsg, TIl, TIt, TIs, TIr1, TIr2, TIz, TFor, TOwn, TOwnL, TApp, TExt, TBor, TBorB, TFrz, TPutF, TYes, TLc, TLc2, TCall, TStar, TMake, TOpC, TParO1, TParO0, TPutJ, TBorN, TIenT, TOwnLc, TMaxd, TCallK, lenF, isiAF, isiF, isiTF, PySem.W.kitAny, inF, sumF, allF, anyF, tupleF, int1F, max2F, joinF, ixF, addF, mulF, tyOf, TyK, clsOf, clsOfs, wipeD, hideS, flatD, putD, and_assoc, neNilF, slF, isF, isntF, isND, hlt, hat, hz2, letS, hRn c r rfl, hψ]
        simp [TVar, TC, TOp, TTst, fI, TAnd, TOr, TNot, TAndV, TOrV, TNotV, TIf, TChain, TChainB, TNoPart, TPart, TSl, TFld, TFldO, TCon, TNil, TCons, TTup, TLst, TCB, TM1, TFmt, TJs, TJoined, TNext, TSeq, TBreak, TCont, TNever, TRet, TRetN, TDrop, TIfS, L3.TSet, TAug, TPar, GName, GNil, GCons, GTup, TAsg, TIl, TIt, TIs, TIr1, TIr2, TIz, TFor, TOwn, TOwnL, TApp, TExt, TBor, TBorB, TFrz, TPutF, TYes, TLc, TLc2, TCall, TStar, TMake, TOpC, TParO1, TParO0, TPutJ, TBorN, TIenT, TOwnLc, TMaxd, TCallK, lenF, isiAF, isiF, isiTF, PySem.W.kitAny, inF, sumF, allF, anyF, tupleF, int1F, max2F, joinF, ixF, addF, mulF, tyOf, TyK, clsOf, clsOfs, wipeD, hideS, flatD, putD, and_assoc, neNilF, slF, isF, isntF, isND, F_is_sign, hz2, hcut, hcut1, len_mks, lc_mks, h1]
        intro p
        refine ⟨by omega, ?_⟩
        cases ks with
        | nil =>
          have e1 := hR1 rfl
          subst e1
          have hsp : SeqAt.shaped (.str (mks (R.take 1))) = true := shaped_mks fun c h => hc c (by rw [hR]; simp only [List.mem_append]; exact .inr (.inr (List.mem_of_mem_take h)))
          have hne : mks (R.take 1) ≠ mks [40] := fun e => by
            have e2 := mks_inj e
            cases R with
            | nil => cases e2
            | cons c r =>
              have e3 : c = 40 := by simpa using e2
              rcases hp with e | e <;> omega
          rw [k1]
          refine ⟨hsp, s40, .inr ⟨hne, s1, [], rfl, ⟨h1, h2, h3⟩, ?_, ?_⟩⟩
          · show s1.length ≤ big
            omega
          · rw [ha]
            exact q
        | cons t r =>
          have e1 := hR2 t r rfl
          subst e1
          simp [sepR, k1, s40]
          have hks := oks_iff.mp h3
          refine whD_of (fun m env => ∃ (done todo : List Tr) (P : List Nat) (b : Nat) (sl : Sl), t :: r = done ++ todo ∧ lc z = P ++ sepR done.isEmpty todo post ∧ b = P.length ∧ m = todo.length ∧
            env = [.v (.str z), .v (.int (pre.length : Nat)), .v (.int (b : Nat)), .v (.str (mks s1)), .ol p (done.map (trD (He.ga K "Tree"))), sl]) ?_ (r.length + 1) _ ⟨[], t :: r, pre ++ s1, a, .no, rfl, by rw [hR]; simp [sepR], by simp [ha], rfl, rfl⟩
          rintro m env D3 - - hnx2 - ⟨done, todo, P, b, sl, e, hP, hbP, rfl, rfl⟩
          have hzP : z.length = P.length + (sepR done.isEmpty todo post).length := by rw [len_lc, hP]; simp
          cases todo with
          | nil =>
            have e2 : done = t :: r := by rw [e]; simp
            have hP2 : lc z = P ++ 41 :: post := hP
            have hat : atI z.cps.toList (b : Int) = some 41 := by rw [hbP]; exact at_pos hP2
            have hcut : cutS z (some (b : Int)) (some ((b : Int) + 1)) = mks [41] := by rw [hbP]; exact cut_one hP2
            have hin : inV (.str (mks [41])) [.str (mks [40]), .str (mks [44])] = false := by decide +kernel
            refine go_else (fun ψ hψ => by simp [TVar, TC, TOp, TTst, fI, TAnd, TOr, TNot, TAndV, TOrV, TNotV, TIf, TChain, TChainB, TNoPart, TPart, TSl, TFld, TFldO, TCon, TNil, TCons, TTup, TLst, TCB, TM1, TFmt, TJs, TJoined, TNext, TSeq, TBreak, TCont, TNever, TRet, TRetN, TDrop, TIfS, L3.TSet, TAug, TPar, GName, GNil, GCons, GTup, TAsg, TIl, TIt, TIs, TIr1, TIr2, TIz, TFor, TOwn, TOwnL, TApp, TExt, TBor, TBorB, TFrz, TPutF, TYes, TLc, TLc2, TCall, TStar, TMake, TOpC, TParO1, TParO0, TPutJ, TBorN, TIenT, TOwnLc, TMaxd, TCallK, lenF, isiAF, isiF, isiTF, PySem.W.kitAny, inF, sumF, allF, anyF, tupleF, int1F, max2F, joinF, ixF, addF, mulF, tyOf, TyK, clsOf, clsOfs, wipeD, hideS, flatD, putD, and_assoc, neNilF, slF, isF, isntF, isND, hat, hcut, hz2, k1, k3, hin, hψ, flV]) ?_
            simp [TVar, TC, TOp, TTst, fI, TAnd, TOr, TNot, TAndV, TOrV, TNotV, TIf, TChain, TChainB, TNoPart, TPart, TSl, TFld, TFldO, TCon, TNil, TCons, TTup, TLst, TCB, TM1, TFmt, TJs, TJoined, TNext, TSeq, TBreak, TCont, TNever, TRet, TRetN, TDrop, TIfS, L3.TSet, TAug, TPar, GName, GNil, GCons, GTup, TAsg, TIl, TIt, TIs, TIr1, TIr2, TIz, TFor, TOwn, TOwnL, TApp, TExt, TBor, TBorB, TFrz, TPutF, TYes, TLc, TLc2, TCall, TStar, TMake, TOpC, TParO1, TParO0, TPutJ, TBorN, TIenT, TOwnLc, TMaxd, TCallK, lenF, isiAF, isiF, isiTF, PySem.W.kitAny, inF, sumF, allF, anyF, tupleF, int1F, max2F, joinF, ixF, addF, mulF, tyOf, TyK, clsOf, clsOfs, wipeD, hideS, flatD, putD, and_assoc, neNilF, slF, isF, isntF, isND, hat, hcut, hz2, k2, s41]
            refine ⟨s1, done, rfl, ?_, ?_, ?_⟩
            · rw [e2]; exact ⟨h1, h2, h3⟩
            · rw [e2]
              have := len_lc z
              rw [hz] at this
              simp at this
              omega
            · have hb2 : (b : Int) + 1 = ((pre.length + (Tr.nd s1 (t :: r)).txt.length : Nat) : Int) := by
                have x1 := len_lc z
                rw [hz] at x1
                have x2 := len_lc z
                rw [hP2] at x2
                simp at x1 x2
                omega
              rw [e2, hb2]
              exact q
          | cons u todo =>
            have hu : u ∈ t :: r := by rw [e]; simp
            have hP2 : lc z = P ++ (if done.isEmpty = true then 40 else 44) :: (u.txt ++ sepR false todo post) := hP
            have hat : atI z.cps.toList (b : Int) = some (if done.isEmpty = true then 40 else 44) := by rw [hbP]; exact at_pos hP2
            have hcut : cutS z (some (b : Int)) (some ((b : Int) + 1)) = mks [if done.isEmpty = true then 40 else 44] := by rw [hbP]; exact cut_one hP2
            refine go_then (fun ψ hψ => ?_) ?_
            · cases done with
              | nil =>
                have hin : inV (.str (mks [40])) [.str (mks [40]), .str (mks [44])] = true := by decide +kernel
                have h4 : ¬ mks [40] = mks [44] := by decide +kernel
                have h5 : (⟨#[40]⟩ : Str) = mks [40] := rfl
                simp [TVar, TC, TOp, TTst, fI, TAnd, TOr, TNot, TAndV, TOrV, TNotV, TIf, TChain, TChainB, TNoPart, TPart, TSl, TFld, TFldO, TCon, TNil, TCons, TTup, TLst, TCB, TM1, TFmt, TJs, TJoined, TNext, TSeq, TBreak, TCont, TNever, TRet, TRetN, TDrop, TIfS, L3.TSet, TAug, TPar, GName, GNil, GCons, GTup, TAsg, TIl, TIt, TIs, TIr1, TIr2, TIz, TFor, TOwn, TOwnL, TApp, TExt, TBor, TBorB, TFrz, TPutF, TYes, TLc, TLc2, TCall, TStar, TMake, TOpC, TParO1, TParO0, TPutJ, TBorN, TIenT, TOwnLc, TMaxd, TCallK, lenF, isiAF, isiF, isiTF, PySem.W.kitAny, inF, sumF, allF, anyF, tupleF, int1F, max2F, joinF, ixF, addF, mulF, tyOf, TyK, clsOf, clsOfs, wipeD, hideS, flatD, putD, and_assoc, neNilF, slF, isF, isntF, isND, hat, hcut, hz2, k1, k3, hin, hψ, flV, h5, s40, s44, h4]
              | cons d done =>
                have hin : inV (.str (mks [44])) [.str (mks [40]), .str (mks [44])] = true := by decide +kernel
                have h5 : (⟨#[44]⟩ : Str) = mks [44] := rfl
                simp [TVar, TC, TOp, TTst, fI, TAnd, TOr, TNot, TAndV, TOrV, TNotV, TIf, TChain, TChainB, TNoPart, TPart, TSl, TFld, TFldO, TCon, TNil, TCons, TTup, TLst, TCB, TM1, TFmt, TJs, TJoined, TNext, TSeq, TBreak, TCont, TNever, TRet, TRetN, TDrop, TIfS, L3.TSet, TAug, TPar, GName, GNil, GCons, GTup, TAsg, TIl, TIt, TIs, TIr1, TIr2, TIz, TFor, TOwn, TOwnL, TApp, TExt, TBor, TBorB, TFrz, TPutF, TYes, TLc, TLc2, TCall, TStar, TMake, TOpC, TParO1, TParO0, TPutJ, TBorN, TIenT, TOwnLc, TMaxd, TCallK, lenF, isiAF, isiF, isiTF, PySem.W.kitAny, inF, sumF, allF, anyF, tupleF, int1F, max2F, joinF, ixF, addF, mulF, tyOf, TyK, clsOf, clsOfs, wipeD, hideS, flatD, putD, and_assoc, neNilF, slF, isF, isntF, isND, hat, hcut, hz2, k1, k3, hin, hψ, flV, h5, s44]
            simp [TVar, TC, TOp, TTst, fI, TAnd, TOr, TNot, TAndV, TOrV, TNotV, TIf, TChain, TChainB, TNoPart, TPart, TSl, TFld, TFldO, TCon, TNil, TCons, TTup, TLst, TCB, TM1, TFmt, TJs, TJoined, TNext, TSeq, TBreak, TCont, TNever, TRet, TRetN, TDrop, TIfS, L3.TSet, TAug, TPar, GName, GNil, GCons, GTup, TAsg, TIl, TIt, TIs, TIr1, TIr2, TIz, TFor, TOwn, TOwnL, TApp, TExt, TBor, TBorB, TFrz, TPutF, TYes, TLc, TLc2, TCall, TStar, TMake, TOpC, TParO1, TParO0, TPutJ, TBorN, TIenT, TOwnLc, TMaxd, TCallK, lenF, isiAF, isiF, isiTF, PySem.W.kitAny, inF, sumF, allF, anyF, tupleF, int1F, max2F, joinF, ixF, addF, mulF, tyOf, TyK, clsOf, clsOfs, wipeD, hideS, flatD, putD, and_assoc, neNilF, slF, isF, isntF, isND]
            refine ⟨z, P ++ [if done.isEmpty = true then 40 else 44], sepR false todo post, u, ?_, ?_, hks u hu, ?_, sepR_ok _ _, hb, hc, ?_⟩
            · rw [hbP]; simp
            · rw [hP2]; simp
            · have := deps_le hu
              have : 1 + deps (t :: r) ≤ n + 1 := hd
              omega
            · simp [TVar, TC, TOp, TTst, fI, TAnd, TOr, TNot, TAndV, TOrV, TNotV, TIf, TChain, TChainB, TNoPart, TPart, TSl, TFld, TFldO, TCon, TNil, TCons, TTup, TLst, TCB, TM1, TFmt, TJs, TJoined, TNext, TSeq, TBreak, TCont, TNever, TRet, TRetN, TDrop, TIfS, L3.TSet, TAug, TPar, GName, GNil, GCons, GTup, TAsg, TIl, TIt, TIs, TIr1, TIr2, TIz, TFor, TOwn, TOwnL, TApp, TExt, TBor, TBorB, TFrz, TPutF, TYes, TLc, TLc2, TCall, TStar, TMake, TOpC, TParO1, TParO0, TPutJ, TBorN, TIenT, TOwnLc, TMaxd, TCallK, lenF, isiAF, isiF, isiTF, PySem.W.kitAny, inF, sumF, allF, anyF, tupleF, int1F, max2F, joinF, ixF, addF, mulF, tyOf, TyK, clsOf, clsOfs, wipeD, hideS, flatD, putD, and_assoc, neNilF, slF, isF, isntF, isND]
              have hdl : done.length + (todo.length + 1) = r.length + 1 := by
                have := congrArg List.length e
                simpa using this.symm
              have h2' : r.length + 1 ≤ 3 := h2
              refine .inl ⟨by omega, by omega, hnx2 todo.length _ (by simp) ⟨done ++ [u], todo, P ++ (if done.isEmpty = true then 40 else 44) :: u.txt, (P ++ (if done.isEmpty = true then 40 else 44) :: u.txt).length, .v (.tup [trD (He.ga K "Tree") u, .int ((P.length : Int) + 1 + (u.txt.length : Int))]), by rw [e]; simp, ?_, rfl, rfl, ?_⟩⟩
              · rw [hP2]
                cases done <;> simp
              · have eb : ((P ++ (if done.isEmpty = true then 40 else 44) :: u.txt).length : Int) = (P.length : Int) + 1 + (u.txt.length : Int) := by
                  simp
                  omega
                rw [eb, List.map_append]
                rfl
theorem deepS_let {c : Nat} (h : isLet c = true) {d m : Int} (hd : d ≤ m) : deepS (d, m) c = (d, m) := by
  have := isLet_iff.mp h
  unfold deepS
  rw [if_neg (by omega), if_neg (by omega)]
  show (d + (0 - 0), max m (d + (0 - 0))) = _
  rw [Prod.mk.injEq]
  omega
theorem deepS_lets : ∀ {l : List Nat}, (∀ c ∈ l, isLet c = true) → ∀ {d m : Int}, d ≤ m → l.foldl deepS (d, m) = (d, m)
  | [], _, _, _, _ => rfl
  | c :: l, h, d, m, hd => by
    rw [List.foldl_cons, deepS_let (h c List.mem_cons_self) hd]
    exact deepS_lets (fun c hc => h c (List.mem_cons_of_mem _ hc)) hd
mutual
theorem deep_txt : ∀ {t : Tr}, t.ok → ∀ {d m : Int}, d ≤ m → t.txt.foldl deepS (d, m) = (d, max m (d + ((t.dep : Nat) : Int) - 1))
  | .nd s [], h, d, m, hd => by
    show s.foldl deepS (d, m) = (d, max m (d + ((1 + 0 : Nat) : Int) - 1))
    rw [deepS_lets (ok_sg_len h.1).2.2 hd, Prod.mk.injEq]
    omega
  | .nd s (t :: r), h, d, m, hd => by
    show (s ++ 40 :: (joinL (txts (t :: r)) ++ [41])).foldl deepS (d, m) = (d, max m (d + ((1 + deps (t :: r) : Nat) : Int) - 1))
    rw [List.foldl_append, deepS_lets (ok_sg_len h.1).2.2 hd, List.foldl_cons, List.foldl_append]
    have e1 : deepS (d, m) 40 = (d + 1, max m (d + 1)) := by
      show (d + (1 - 0), max m (d + (1 - 0))) = _
      rw [Prod.mk.injEq]
      omega
    have hp : 1 ≤ deps (t :: r) := Nat.le_trans (dep_pos t) (deps_le List.mem_cons_self)
    rw [e1, deep_join (by simp) h.2.2 (by omega)]
    show (_ + (0 - 1), max _ (_ + (0 - 1))) = _
    rw [Prod.mk.injEq]
    omega
theorem deep_join : ∀ {ks : List Tr}, ks ≠ [] → oks ks → ∀ {d m : Int}, d ≤ m → (joinL (txts ks)).foldl deepS (d, m) = (d, max m (d + ((deps ks : Nat) : Int) - 1))
  | [], hn, _, _, _, _ => absurd rfl hn
  | [t], _, h, d, m, hd => by
    show t.txt.foldl deepS (d, m) = (d, max m (d + ((max t.dep 0 : Nat) : Int) - 1))
    rw [deep_txt h.1 hd, Prod.mk.injEq]
    omega
  | t :: u :: r, _, h, d, m, hd => by
    show (t.txt ++ 44 :: joinL (txts (u :: r))).foldl deepS (d, m) = (d, max m (d + ((max t.dep (deps (u :: r)) : Nat) : Int) - 1))
    have e1 : ∀ m2 : Int, d ≤ m2 → deepS (d, m2) 44 = (d, m2) := fun m2 h2 => by
      show (d + (0 - 0), max m2 (d + (0 - 0))) = _
      rw [Prod.mk.injEq]
      omega
    rw [List.foldl_append, deep_txt h.1 hd, List.foldl_cons, e1 _ (by omega), deep_join (ks := u :: r) (by simp) h.2 (by omega), Prod.mk.injEq]
    omega
end
def F_read (C : Addr) : TF := fun _ ds φ _ => ∃ t : Tr, ds = [.str (mks t.txt)] ∧ t.ok ∧ t.dep ≤ 100 ∧ t.txt.length ≤ big ∧ φ (trD C t)
theorem ok_Tree_read {P : Program} {w : World} {K : PySem.W.Frag} {mg : Str → Option Value} {base : Heap} (tx : Tx K mg) : Fn3 P w K mg base 105 (He5.wf K (He.ga K "Tree") "staticmethod" "read") (F_read (He.ga K "Tree")) := by
  obtain ⟨fd, FD⟩ := tx.fd_Tree_read
  have g_deepest : Fn3 P w K mg base 1 (He.ga K "deepest") F_deepest := ok_deepest tx
  have g_tree_from : Fn3 P w K mg base (4 + 100) (He.ga K "tree_from") (F_tree_from (He.ga K "Tree") 100) := ok_tree_from tx 100
  refine fn3 FD sc_Tree_read (FD.bindsN fun _ _ _ _ _ _ us hl => match us, hl with | [_], _ => rfl) ?hn (fun cdv A outer s H E hr => (dss_cons (ds_if (dt_cmp op_gt opd_gt (de_call g_deepest (hr.mono (by omega)) rfl tx.mg_deepest tx.kp_deepest tk3 (da_cons (dv 0) da_nil)) (de_gint rfl tx.mg_MOST_NESTED) (nomark _))
     (dss_one ds_never)
     dss_nil)
    (dss_cons (ds_set (i := 1) sc_Tree_read.nd rfl (Or.inl rfl) (de_call g_tree_from (hr.mono (by omega)) rfl tx.mg_tree_from tx.kp_tree_from tk3 (da_cons (dv 0) (da_cons de_int da_nil))))
    (dss_cons (ds_if (dt_bool (dw_or (dt_cmp op_isN opd_is (dv 1) de_non (nomark _)) (dw_or1 (dt_cmp (op_neD hr.units) opd_ne (de_ix (dv 1) de_int) (de_len rfl tx.no_len (da_cons (dv 0) da_nil)) (nomark _)))))
     (dss_one ds_never)
     dss_nil)
    (dss_one (ds_ret (de_ix (dv 1) de_int))))))) ?hT
  case hn =>
    rintro wd ds φ ε ⟨t, rfl, _⟩
    rfl
  case hT =>
    rintro wd ds φ ε ⟨t, rfl, ht, hd, hl, q⟩
    show TSeq _ _ _ _ [.v (.str (mks t.txt)), .no]
    have hL : sizeLine = 16777216 := sizeLine_eq
    have hB : big = 1000000 := rfl
    have hc : ∀ c ∈ t.txt, c < 128 := txt_mem (P := fun c => c < 128) (by decide) (by decide) (by decide) (fun c hc => by have := isLet_iff.mp hc; omega) ht
    have hdp := dep_pos t
    simp [TVar, TC, TOp, TTst, fI, TAnd, TOr, TNot, TAndV, TOrV, TNotV, TIf, TChain, TChainB, TNoPart, TPart, TSl, TFld, TFldO, TCon, TNil, TCons, TTup, TLst, TCB, TM1, TFmt, TJs, TJoined, TNext, TSeq, TBreak, TCont, TNever, TRet, TRetN, TDrop, TIfS, L3.TSet, TAug, TPar, GName, GNil, GCons, GTup, TAsg, TIl, TIt, TIs, TIr1, TIr2, TIz, TFor, TOwn, TOwnL, TApp, TExt, TBor, TBorB, TFrz, TPutF, TYes, TLc, TLc2, TCall, TStar, TMake, TOpC, TParO1, TParO0, TPutJ, TBorN, TIenT, TOwnLc, TMaxd, TCallK, lenF, isiAF, isiF, isiTF, PySem.W.kitAny, inF, sumF, allF, anyF, tupleF, int1F, max2F, joinF, ixF, addF, mulF, tyOf, TyK, clsOf, clsOfs, wipeD, hideS, flatD, putD, and_assoc, neNilF, slF, isF, isntF, isND, F_deepest, lc_mks]
    refine ⟨fun c h => hc c (by simpa [mks] using h), ?_⟩
    have e : deep t.txt = (t.dep : Nat) - 1 := by
      unfold deep
      rw [deep_txt ht (Int.le_refl 0)]
      show max 0 _ = _
      omega
    rw [e]
    refine ⟨by omega, mks t.txt, [], [], t, rfl, by rw [lc_mks]; simp, ht, hd, trivial, by rw [len_mks]; exact hl, by rw [lc_mks]; exact hc, ?_⟩
    simp [TVar, TC, TOp, TTst, fI, TAnd, TOr, TNot, TAndV, TOrV, TNotV, TIf, TChain, TChainB, TNoPart, TPart, TSl, TFld, TFldO, TCon, TNil, TCons, TTup, TLst, TCB, TM1, TFmt, TJs, TJoined, TNext, TSeq, TBreak, TCont, TNever, TRet, TRetN, TDrop, TIfS, L3.TSet, TAug, TPar, GName, GNil, GCons, GTup, TAsg, TIl, TIt, TIs, TIr1, TIr2, TIz, TFor, TOwn, TOwnL, TApp, TExt, TBor, TBorB, TFrz, TPutF, TYes, TLc, TLc2, TCall, TStar, TMake, TOpC, TParO1, TParO0, TPutJ, TBorN, TIenT, TOwnLc, TMaxd, TCallK, lenF, isiAF, isiF, isiTF, PySem.W.kitAny, inF, sumF, allF, anyF, tupleF, int1F, max2F, joinF, ixF, addF, mulF, tyOf, TyK, clsOf, clsOfs, wipeD, hideS, flatD, putD, and_assoc, neNilF, slF, isF, isntF, isND, len_mks]
    refine ⟨by omega, q⟩
theorem oko_Tree_read {P : Program} {w : World} {K : PySem.W.Frag} {mg : Str → Option Value} {base : Heap} (tx : Tx K mg) : ∃ fd, Fn3O P w K mg base 105 (He5.wf K (He.ga K "Tree") "staticmethod" "read") fd ["text"] (F_read (He.ga K "Tree")) ∧ KwB K fd ["text"] 0 ["text"] [0] := by
  obtain ⟨fd, FD⟩ := tx.fd_Tree_read
  have g_deepest : Fn3 P w K mg base 1 (He.ga K "deepest") F_deepest := ok_deepest tx
  have g_tree_from : Fn3 P w K mg base (4 + 100) (He.ga K "tree_from") (F_tree_from (He.ga K "Tree") 100) := ok_tree_from tx 100
  refine ⟨fd, fn3O FD sc_Tree_read ?hn (fun cdv A outer s H E hr => (dss_cons (ds_if (dt_cmp op_gt opd_gt (de_call g_deepest (hr.mono (by omega)) rfl tx.mg_deepest tx.kp_deepest tk3 (da_cons (dv 0) da_nil)) (de_gint rfl tx.mg_MOST_NESTED) (nomark _))
     (dss_one ds_never)
     dss_nil)
    (dss_cons (ds_set (i := 1) sc_Tree_read.nd rfl (Or.inl rfl) (de_call g_tree_from (hr.mono (by omega)) rfl tx.mg_tree_from tx.kp_tree_from tk3 (da_cons (dv 0) (da_cons de_int da_nil))))
    (dss_cons (ds_if (dt_bool (dw_or (dt_cmp op_isN opd_is (dv 1) de_non (nomark _)) (dw_or1 (dt_cmp (op_neD hr.units) opd_ne (de_ix (dv 1) de_int) (de_len rfl tx.no_len (da_cons (dv 0) da_nil)) (nomark _)))))
     (dss_one ds_never)
     dss_nil)
    (dss_one (ds_ret (de_ix (dv 1) de_int))))))) ?hT, kwB_of FD fun _ _ _ _ _ _ us ws h1 h2 => match us, h1, ws, h2 with | [], _, [_], _ => rfl⟩
  case hn =>
    rintro wd ds φ ε ⟨t, rfl, _⟩
    rfl
  case hT =>
    rintro wd ds φ ε ⟨t, rfl, ht, hd, hl, q⟩
    show TSeq _ _ _ _ [.v (.str (mks t.txt)), .no]
    have hL : sizeLine = 16777216 := sizeLine_eq
    have hB : big = 1000000 := rfl
    have hc : ∀ c ∈ t.txt, c < 128 := txt_mem (P := fun c => c < 128) (by decide) (by decide) (by decide) (fun c hc => by have := isLet_iff.mp hc; omega) ht
    have hdp := dep_pos t
    simp [TVar, TC, TOp, TTst, fI, TAnd, TOr, TNot, TAndV, TOrV, TNotV, TIf, TChain, TChainB, TNoPart, TPart, TSl, TFld, TFldO, TCon, TNil, TCons, TTup, TLst, TCB, TM1, TFmt, TJs, TJoined, TNext, TSeq, TBreak, TCont, TNever, TRet, TRetN, TDrop, TIfS, L3.TSet, TAug, TPar, GName, GNil, GCons, GTup, TAsg, TIl, TIt, TIs, TIr1, TIr2, TIz, TFor, TOwn, TOwnL, TApp, TExt, TBor, TBorB, TFrz, TPutF, TYes, TLc, TLc2, TCall, TStar, TMake, TOpC, TParO1, TParO0, TPutJ, TBorN, TIenT, TOwnLc, TMaxd, TCallK, lenF, isiAF, isiF, isiTF, PySem.W.kitAny, inF, sumF, allF, anyF, tupleF, int1F, max2F, joinF, ixF, addF, mulF, tyOf, TyK, clsOf, clsOfs, wipeD, hideS, flatD, putD, and_assoc, neNilF, slF, isF, isntF, isND, F_deepest, lc_mks]
    refine ⟨fun c h => hc c (by simpa [mks] using h), ?_⟩
    have e : deep t.txt = (t.dep : Nat) - 1 := by
      unfold deep
      rw [deep_txt ht (Int.le_refl 0)]
      show max 0 _ = _
      omega
    rw [e]
    refine ⟨by omega, mks t.txt, [], [], t, rfl, by rw [lc_mks]; simp, ht, hd, trivial, by rw [len_mks]; exact hl, by rw [lc_mks]; exact hc, ?_⟩
    simp [TVar, TC, TOp, TTst, fI, TAnd, TOr, TNot, TAndV, TOrV, TNotV, TIf, TChain, TChainB, TNoPart, TPart, TSl, TFld, TFldO, TCon, TNil, TCons, TTup, TLst, TCB, TM1, TFmt, TJs, TJoined, TNext, TSeq, TBreak, TCont, TNever, TRet, TRetN, TDrop, TIfS, L3.TSet, TAug, TPar, GName, GNil, GCons, GTup, TAsg, TIl, TIt, TIs, TIr1, TIr2, TIz, TFor, TOwn, TOwnL, TApp, TExt, TBor, TBorB, TFrz, TPutF, TYes, TLc, TLc2, TCall, TStar, TMake, TOpC, TParO1, TParO0, TPutJ, TBorN, TIenT, TOwnLc, TMaxd, TCallK, lenF, isiAF, isiF, isiTF, PySem.W.kitAny, inF, sumF, allF, anyF, tupleF, int1F, max2F, joinF, ixF, addF, mulF, tyOf, TyK, clsOf, clsOfs, wipeD, hideS, flatD, putD, and_assoc, neNilF, slF, isF, isntF, isND, len_mks]
    refine ⟨by omega, q⟩
end K5
namespace K5
open PySem PySem.Spec PyProof.Rows L2 L3
theorem ixn4_1 {n : Nat} : ixN (n + 4) 1 = some 1 := by
  unfold ixN
  rw [if_pos (by omega), if_pos (by omega)]
  rfl
theorem ixn4_2 {n : Nat} : ixN (n + 4) 2 = some 2 := by
  unfold ixN
  rw [if_pos (by omega), if_pos (by omega)]
  rfl
theorem ok_pick {P : Program} {w : World} {K : PySem.W.Frag} {mg : Str → Option Value} {base : Heap} (tx : Tx K mg) : Fn3 P w K mg base 1 (He.ga K "_law_pick") F_pick := by
  obtain ⟨fd, FD⟩ := tx.fd_law_pick
  refine pick_of ?_
  have G : FnOk P w K mg base (L2N.CX P w) 1 (He.ga K "_law_pick") fd ["_law_hand_here", "_law_many"] sp_pick := by
    refine FD.ok sc_law_pick (fun vs H Q E h => ?_) fun cdv A outer s H vs Q E hr h => ⟨_, show PSs (cx3 P w K mg base N_law_pick "_law_pick" (defScope s_law_pick) (He.ga K "_law_pick") cdv A outer s H E) _ _ from (pss_cons (ps_if (pt_cmpR op_lt (pe_ix ix_h (pv 0) pe_int (fun _ _ => rfl)) pe_int (nomark _)) (pss_cons (ps_asg (pe_op op_add (pe_ix ix_h (pv 0) pe_int (fun _ _ => rfl)) pe_int) (pg_sub (pv 0) pe_int set_list))
    (pss_cons (ps_set (i := 2) sc_law_pick.nd rfl (Or.inl rfl) (pe_op op_add (pe_ix ix_h (pv 0) pe_int (fun _ _ => rfl)) (pe_op op_mul (pe_ix ix_h (pv 0) pe_int (fun _ _ => rfl)) pe_int)))
    (pss_cons (ps_if (pt_cmpR op_le (pe_ix ix_h (pv 0) pe_int (fun _ _ => rfl)) (pe_callB call_hlen rfl tx.no_len boot_len (pa_cons (pe_ix ix_h (pv 0) pe_int (fun _ _ => rfl)) pa_nil)) (nomark _)) (pss_one (ps_set (i := 2) sc_law_pick.nd rfl (Or.inl rfl) (pe_ix ix_h (pe_ix ix_h (pv 0) pe_int (fun _ _ => rfl)) (pe_op op_sub (pe_ix ix_h (pv 0) pe_int (fun _ _ => rfl)) pe_int) (fun _ _ => rfl)))) pss_nil)
    (pss_cons (ps_if (PW.pt (pw_or (pt_cmpR op_gt (pe_ix ix_h (pv 0) pe_int (fun _ _ => rfl)) (pe_callB call_hlen rfl tx.no_len boot_len (pa_cons (pe_ix ix_h (pv 0) pe_int (fun _ _ => rfl)) pa_nil)) (nomark _)) (pw_or1 (pt_cmpR op_lt (pv 2) (pe_op op_pow pe_int pe_int) (nomark _))))) (pss_cons (ps_set (i := 3) sc_law_pick.nd rfl (Or.inl rfl) (pe_op op_mod (pe_callTy call_int1 rfl tx.no_int (by decide +kernel) (pa_cons (pe_op op_add (pe_op op_add (pe_op op_mul (pv 2) pe_int) (pe_op op_mul (pe_ix ix_h (pv 0) pe_int (fun _ _ => rfl)) pe_int)) (pe_ix ix_h (pv 0) pe_int (fun _ _ => rfl))) pa_nil)) pe_int))
    (pss_cons (ps_set (i := 4) sc_law_pick.nd rfl (Or.inl rfl) (pe_op op_mod (pe_callTy call_int1 rfl tx.no_int (by decide +kernel) (pa_cons (pe_op op_add (pe_op op_mul (pv 3) (pv 3)) (pe_op op_mul (pe_ix ix_h (pv 0) pe_int (fun _ _ => rfl)) pe_int)) pa_nil)) pe_int))
    (pss_one (ps_ret (pe_op op_mod (pe_op op_fdiv (pe_op op_mod (pe_callTy call_int1 rfl tx.no_int (by decide +kernel) (pa_cons (pe_op op_add (pe_op op_mul (pv 4) pe_int) (pv 3)) pa_nil)) pe_int) pe_int) (pv 1)))))) pss_nil)
    (pss_one (ps_asg (pv 2) (pg_sub (pv 0) pe_int set_list))))))) pss_nil)
    (pss_cons (ps_set (i := 5) sc_law_pick.nd rfl (Or.inl rfl) (pe_op op_mod (pe_callTy call_int1 rfl tx.no_int (by decide +kernel) (pa_cons (pe_ix ix_h (pv 0) pe_int (fun _ _ => rfl)) pa_nil)) (pv 1)))
    (pss_cons (ps_asg (pe_op op_fdiv (pe_callTy call_int1 rfl tx.no_int (by decide +kernel) (pa_cons (pe_ix ix_h (pv 0) pe_int (fun _ _ => rfl)) pa_nil)) (pv 1)) (pg_sub (pv 0) pe_int set_list))
    (pss_one (ps_ret (pv 5)))))), ?_⟩
    · obtain ⟨h, c, cells, i, j, m, many, rfl, _⟩ := h
      rfl
    · obtain ⟨h, c, cells, i, j, m, many, rfl, h0, hn, g1, g2, hm, hm2, q⟩ := h
      show tSeq _ _ _ [some (.ref h), some (.int many), none, none, none, none] H
      have cm : ∀ (a b : Int), -(2 ^ 64) < b → b < 2 ^ 64 → CMul a b := fun _ _ h1 h2 => .inr ⟨h1, h2⟩
      have tail : ∀ (i j : Int) (H' : Hp) (σ2 σ3 σ4 : Option V), 0 ≤ i → H' h = some (.lst [.ref c, .int i, .int j, .int m]) → (∀ i' j' r : Int, 0 ≤ i' → 0 ≤ r → r < many → Q (.int r) (upd H' h (.lst [.ref c, .int i', .int j', .int m]))) →
          tSeq (tAsg (tOp (rI (fun _ j => 0 < j) fun i j => .int (i % j)) (tCB (fun xs H Q => (∃ i, xs = [.int i] ∧ Q (.int i) H) ∨ ∃ k, xs = [.bl k] ∧ Q (.int (if k then 1 else 0)) H) (tCons (tOp rHx (tVar 0) (tC (.int 2))) tNil)) (tVar 1)) (gName 5))
            (tSeq (tAsg (tOp (rI CDiv fun i j => .int (i / j)) (tCB (fun xs H Q => (∃ i, xs = [.int i] ∧ Q (.int i) H) ∨ ∃ k, xs = [.bl k] ∧ Q (.int (if k then 1 else 0)) H) (tCons (tOp rHx (tVar 0) (tC (.int 2))) tNil)) (tVar 1)) (gSub (tVar 0) (tC (.int 2)) rSetL))
              (tRet (tVar 5))) { nx := fun _ H' => Q .non H', rt := Q } [some (.ref h), some (.int many), σ2, σ3, σ4, none] H' := fun i j H' σ2 σ3 σ4 hi g1 q =>
        ⟨.ref h, rfl, h, _, 2, _, rfl, rfl, g1, rfl, .inl ⟨j, rfl, .int many, rfl, j, many, rfl, rfl, hm,
          .ref h, rfl, h, _, 2, _, rfl, rfl, g1, rfl, .inl ⟨j, rfl, .int many, rfl, j, many, rfl, rfl, ⟨hm, by omega⟩, .ref h, rfl, h, _, 2, 2, rfl, rfl, g1, rfl, .int (j % many), rfl, q i (j / many) (j % many) hi (Int.emod_nonneg _ (by omega)) (Int.emod_lt_of_pos _ hm)⟩⟩⟩
      refine ⟨.ref h, rfl, h, _, 2, _, rfl, rfl, g1, rfl, j, 2, rfl, rfl, decide (j < 2), rfl, ?_⟩
      by_cases hj : j < 2
      · rw [decide_eq_true hj]
        refine iteT ?_
        refine ⟨.ref h, rfl, h, _, 1, _, rfl, rfl, g1, rfl, i, 1, rfl, rfl, .ref h, rfl, h, _, 1, 1, rfl, rfl, g1, rfl, ?_⟩
        have g1' : (upd H h (.lst ([V.ref c, .int i, .int j, .int m].set 1 (.int (i + 1))))) h = some (.lst [.ref c, .int (i + 1), .int j, .int m]) := upd_same
        have gc : (upd H h (.lst ([V.ref c, .int i, .int j, .int m].set 1 (.int (i + 1))))) c = some (.lst (cells.map V.int)) := by rw [upd_ne hn.symm]; exact g2
        have q1 : ∀ i' j' r : Int, 0 ≤ i' → 0 ≤ r → r < many → Q (.int r) (upd (upd H h (.lst ([V.ref c, .int i, .int j, .int m].set 1 (.int (i + 1))))) h (.lst [.ref c, .int i', .int j', .int m])) := fun i' j' r a b c => by
          rw [upd_upd]
          exact q i' j' r a b c
        generalize (upd H h (.lst ([V.ref c, .int i, .int j, .int m].set 1 (.int (i + 1))))) = H1 at g1' gc q1 ⊢
        refine ⟨.ref h, rfl, h, _, 3, _, rfl, rfl, g1', rfl, .ref h, rfl, h, _, 1, _, rfl, rfl, g1', rfl, i + 1, 8677, rfl, rfl, cm _ _ (by decide) (by decide), m, (i + 1) * 8677, rfl, rfl, ?_⟩
        refine ⟨.ref h, rfl, h, _, 1, _, rfl, rfl, g1', rfl, .ref h, rfl, h, _, 0, _, rfl, rfl, g1', rfl, c, _, rfl, gc, i + 1, _, rfl, rfl, decide ((i + 1) ≤ (((cells.map V.int).length : Nat) : Int)), rfl, ?_⟩
        -- what follows, whatever the cell
        have rest : ∀ x : Int, (tSeq (tIfS (tOr (tTest (tOp (rI0 fun i j => V.bl (decide (j < i))) (tOp rHx (tVar 0) (tC (V.int 1))) (tCB rHlen (tCons (tOp rHx (tVar 0) (tC (V.int 0))) tNil)))) (tTest (tOp (rI0 fun i j => V.bl (decide (i < j))) (tVar 2) (tOp (rI CPow fun i j => V.int (i ^ j.toNat)) (tC (V.int 10)) (tC (V.int 18)))))) (tSeq (tAsg (tOp (rI (fun x j => 0 < j) fun i j => V.int (i % j)) (tCB (fun xs H Q => (∃ i, xs = [V.int i] ∧ Q (V.int i) H) ∨ ∃ k, xs = [V.bl k] ∧ Q (V.int (if k = true then 1 else 0)) H) (tCons (tOp (rI0 fun i j => V.int (i + j)) (tOp (rI0 fun i j => V.int (i + j)) (tOp (rI CMul fun i j => V.int (i * j)) (tVar 2) (tC (V.int 40693))) (tOp (rI CMul fun i j => V.int (i * j)) (tOp rHx (tVar 0) (tC (V.int 1))) (tC (V.int 39373)))) (tOp rHx (tVar 0) (tC (V.int 3)))) tNil)) (tC (V.int 2147483647))) (gName 3)) (tSeq (tAsg (tOp (rI (fun x j => 0 < j) fun i j => V.int (i % j)) (tCB (fun xs H Q => (∃ i, xs = [V.int i] ∧ Q (V.int i) H) ∨ ∃ k, xs = [V.bl k] ∧ Q (V.int (if k = true then 1 else 0)) H) (tCons (tOp (rI0 fun i j => V.int (i + j)) (tOp (rI CMul fun i j => V.int (i * j)) (tVar 3) (tVar 3)) (tOp (rI CMul fun i j => V.int (i * j)) (tOp rHx (tVar 0) (tC (V.int 1))) (tC (V.int 52774)))) tNil)) (tC (V.int 998244353))) (gName 4)) (tRet (tOp (rI (fun x j => 0 < j) fun i j => V.int (i % j)) (tOp (rI CDiv fun i j => V.int (i / j)) (tOp (rI (fun x j => 0 < j) fun i j => V.int (i % j)) (tCB (fun xs H Q => (∃ i, xs = [V.int i] ∧ Q (V.int i) H) ∨ ∃ k, xs = [V.bl k] ∧ Q (V.int (if k = true then 1 else 0)) H) (tCons (tOp (rI0 fun i j => V.int (i + j)) (tOp (rI CMul fun i j => V.int (i * j)) (tVar 4) (tC (V.int 48271))) (tVar 3)) tNil)) (tC (V.int 2147483629))) (tC (V.int 17))) (tVar 1))))) tNext) (tAsg (tVar 2) (gSub (tVar 0) (tC (V.int 2)) rSetL))) { nx := tSeq (tAsg (tOp (rI (fun _ j => 0 < j) fun i j => .int (i % j)) (tCB (fun xs H Q => (∃ i, xs = [.int i] ∧ Q (.int i) H) ∨ ∃ k, xs = [.bl k] ∧ Q (.int (if k then 1 else 0)) H) (tCons (tOp rHx (tVar 0) (tC (.int 2))) tNil)) (tVar 1)) (gName 5)) (tSeq (tAsg (tOp (rI CDiv fun i j => .int (i / j)) (tCB (fun xs H Q => (∃ i, xs = [.int i] ∧ Q (.int i) H) ∨ ∃ k, xs = [.bl k] ∧ Q (.int (if k then 1 else 0)) H) (tCons (tOp rHx (tVar 0) (tC (.int 2))) tNil)) (tVar 1)) (gSub (tVar 0) (tC (.int 2)) rSetL)) (tRet (tVar 5))) { nx := fun _ H' => Q .non H', rt := Q }, rt := Q } [some (.ref h), some (.int many), some (.int x), none, none, none] H1 := fun x => by
          refine ⟨.ref h, rfl, h, _, 1, _, rfl, rfl, g1', rfl, .ref h, rfl, h, _, 0, _, rfl, rfl, g1', rfl, c, _, rfl, gc, i + 1, _, rfl, rfl, decide ((((cells.map V.int).length : Nat) : Int) < i + 1), rfl, ?_⟩
          have hs : upd H1 h (.lst [.ref c, .int (i + 1), .int j, .int m]) = H1 := by
            funext b
            by_cases hb : b = h
            · subst hb
              rw [upd_same, g1']
            · rw [upd_ne hb]
          have ret : (tSeq (tAsg (tOp (rI (fun x j => 0 < j) fun i j => V.int (i % j)) (tCB (fun xs H Q => (∃ i, xs = [V.int i] ∧ Q (V.int i) H) ∨ ∃ k, xs = [V.bl k] ∧ Q (V.int (if k = true then 1 else 0)) H) (tCons (tOp (rI0 fun i j => V.int (i + j)) (tOp (rI0 fun i j => V.int (i + j)) (tOp (rI CMul fun i j => V.int (i * j)) (tVar 2) (tC (V.int 40693))) (tOp (rI CMul fun i j => V.int (i * j)) (tOp rHx (tVar 0) (tC (V.int 1))) (tC (V.int 39373)))) (tOp rHx (tVar 0) (tC (V.int 3)))) tNil)) (tC (V.int 2147483647))) (gName 3)) (tSeq (tAsg (tOp (rI (fun x j => 0 < j) fun i j => V.int (i % j)) (tCB (fun xs H Q => (∃ i, xs = [V.int i] ∧ Q (V.int i) H) ∨ ∃ k, xs = [V.bl k] ∧ Q (V.int (if k = true then 1 else 0)) H) (tCons (tOp (rI0 fun i j => V.int (i + j)) (tOp (rI CMul fun i j => V.int (i * j)) (tVar 3) (tVar 3)) (tOp (rI CMul fun i j => V.int (i * j)) (tOp rHx (tVar 0) (tC (V.int 1))) (tC (V.int 52774)))) tNil)) (tC (V.int 998244353))) (gName 4)) (tRet (tOp (rI (fun x j => 0 < j) fun i j => V.int (i % j)) (tOp (rI CDiv fun i j => V.int (i / j)) (tOp (rI (fun x j => 0 < j) fun i j => V.int (i % j)) (tCB (fun xs H Q => (∃ i, xs = [V.int i] ∧ Q (V.int i) H) ∨ ∃ k, xs = [V.bl k] ∧ Q (V.int (if k = true then 1 else 0)) H) (tCons (tOp (rI0 fun i j => V.int (i + j)) (tOp (rI CMul fun i j => V.int (i * j)) (tVar 4) (tC (V.int 48271))) (tVar 3)) tNil)) (tC (V.int 2147483629))) (tC (V.int 17))) (tVar 1))))) { nx := (tAsg (tVar 2) (gSub (tVar 0) (tC (V.int 2)) rSetL)) { nx := tSeq (tAsg (tOp (rI (fun _ j => 0 < j) fun i j => .int (i % j)) (tCB (fun xs H Q => (∃ i, xs = [.int i] ∧ Q (.int i) H) ∨ ∃ k, xs = [.bl k] ∧ Q (.int (if k then 1 else 0)) H) (tCons (tOp rHx (tVar 0) (tC (.int 2))) tNil)) (tVar 1)) (gName 5)) (tSeq (tAsg (tOp (rI CDiv fun i j => .int (i / j)) (tCB (fun xs H Q => (∃ i, xs = [.int i] ∧ Q (.int i) H) ∨ ∃ k, xs = [.bl k] ∧ Q (.int (if k then 1 else 0)) H) (tCons (tOp rHx (tVar 0) (tC (.int 2))) tNil)) (tVar 1)) (gSub (tVar 0) (tC (.int 2)) rSetL)) (tRet (tVar 5))) { nx := fun _ H' => Q .non H', rt := Q }, rt := Q }, rt := Q } [some (.ref h), some (.int many), some (.int x), none, none, none] H1 := by
            refine ⟨.int x, rfl, x, 40693, rfl, rfl, cm _ _ (by decide) (by decide), .ref h, rfl, h, _, 1, _, rfl, rfl, g1', rfl, i + 1, 39373, rfl, rfl, cm _ _ (by decide) (by decide), _, _, rfl, rfl, .ref h, rfl, h, _, 3, _, rfl, rfl, g1', rfl, _, _, rfl, rfl, .inl ⟨_, rfl, _, 2147483647, rfl, rfl, (show (0 : Int) < 2147483647 by decide), ?_⟩⟩
            dsimp only [List.set]
            have b1 := Int.emod_nonneg (x * 40693 + (i + 1) * 39373 + m) (show (2147483647 : Int) ≠ 0 by decide)
            have b2 := Int.emod_lt_of_pos (x * 40693 + (i + 1) * 39373 + m) (show (0 : Int) < 2147483647 by decide)
            generalize (x * 40693 + (i + 1) * 39373 + m) % 2147483647 = one at b1 b2 ⊢
            refine ⟨.int one, rfl, .int one, rfl, one, one, rfl, rfl, cm _ _ (by omega) (by omega), .ref h, rfl, h, _, 1, _, rfl, rfl, g1', rfl, i + 1, 52774, rfl, rfl, cm _ _ (by decide) (by decide), _, _, rfl, rfl, .inl ⟨_, rfl, _, 998244353, rfl, rfl, (show (0 : Int) < 998244353 by decide), ?_⟩⟩
            dsimp only [List.set]
            generalize (one * one + (i + 1) * 52774) % 998244353 = two
            refine ⟨.int two, rfl, two, 48271, rfl, rfl, cm _ _ (by decide) (by decide), .int one, rfl, _, _, rfl, rfl, .inl ⟨_, rfl, _, 2147483629, rfl, rfl, (show (0 : Int) < 2147483629 by decide), _, 17, rfl, rfl, ⟨by decide, by decide⟩, .int many, rfl, _, many, rfl, rfl, hm, ?_⟩⟩
            have := q1 (i + 1) j ((two * 48271 + one) % 2147483629 / 17 % many) (by omega) (Int.emod_nonneg _ (by omega)) (Int.emod_lt_of_pos _ hm)
            rw [hs] at this
            exact this
          by_cases hb : (((cells.map V.int).length : Nat) : Int) < i + 1
          · rw [decide_eq_true hb]
            exact iteT (iteT ret)
          · rw [decide_eq_false hb]
            refine iteF ⟨.int x, rfl, 10, 18, rfl, rfl, ⟨by decide, by decide, by decide⟩, x, _, rfl, rfl, decide (x < 10 ^ (18 : Int).toNat), rfl, ?_⟩
            by_cases hx : x < 10 ^ (18 : Int).toNat
            · rw [decide_eq_true hx]
              exact iteT ret
            · rw [decide_eq_false hx]
              refine iteF ?_
              refine ⟨.int x, rfl, .ref h, rfl, h, _, 2, 2, rfl, rfl, g1', rfl, ?_⟩
              exact tail (i + 1) x _ _ _ _ (by omega) upd_same fun i' j' r a b c => by
                rw [upd_upd]
                exact q1 i' j' r a b c
        by_cases hi : (i + 1) ≤ (((cells.map V.int).length : Nat) : Int)
        · rw [decide_eq_true hi]
          refine iteT ?_
          obtain ⟨x, hx⟩ : ∃ x : Int, atI (cells.map V.int) (i + 1 - 1) = some (.int x) := by
            have e : i + 1 - 1 = ((i.toNat : Nat) : Int) := by omega
            rw [List.length_map] at hi
            rw [e, L3.atI_nat (by rw [List.length_map]; omega), List.getElem?_map]
            have : i.toNat < cells.length := by omega
            rw [List.getElem?_eq_getElem this]
            exact ⟨_, rfl⟩
          exact ⟨.ref h, rfl, h, _, 0, _, rfl, rfl, g1', rfl, .ref h, rfl, h, _, 1, _, rfl, rfl, g1', rfl, i + 1, 1, rfl, rfl, c, _, i + 1 - 1, _, rfl, rfl, gc, hx, rest x⟩
        · rw [decide_eq_false hi]
          refine iteF ?_
          exact rest _
      · rw [decide_eq_false hj]
        refine iteF ?_
        exact tail i j H _ _ _ h0 g1 q
  have z := G.raw (ds := []) (dvs := []) (FD.bindsN fun _ _ _ _ _ _ us hl => match us, hl with | [_, _], _ => rfl) .nil
  intro A outer s H us vs Q E hr e0 r hs
  exact z A outer s H us vs Q E hr e0 r (by show sp_pick (vs ++ []) H Q E; rw [List.append_nil]; exact hs)
end K5
namespace K5
open PySem PySem.Spec PyProof.Rows L2 L3

def pl : Nat → D → Prop
  | _, .non => True
  | _, .bl _ => True
  | _, .int _ => True
  | _, .str x => SeqAt.shaped (.str x) = true
  | n + 1, .lst ds => ds.length ≤ sizeLine ∧ ∀ d ∈ ds, pl n d
  | n + 1, .tup ds => ds.length ≤ sizeLine ∧ ∀ d ∈ ds, pl n d
  | _, _ => False
def F_same : Nat → TF
  | 0 => fun _ _ _ _ => False
  | n + 1 => fun _ ds φ _ => ∃ d, ds = [d, d] ∧ pl n d ∧ φ (.bl true)
mutual
def mD : Tr → D
  | .nd s ks => .tup [.str (mks s), .tup (mDs ks)]
def mDs : List Tr → List D
  | [] => []
  | t :: r => mD t :: mDs r
end
theorem mDs_eq : ∀ ks : List Tr, mDs ks = ks.map mD
  | [] => rfl
  | t :: r => congrArg (mD t :: ·) (mDs_eq r)
theorem mD_nd (s : List Nat) (ks : List Tr) : mD (.nd s ks) = .tup [.str (mks s), .tup (ks.map mD)] := by
  show D.tup [.str (mks s), .tup (mDs ks)] = _
  rw [mDs_eq]
theorem zip_self : ∀ ds : List D, zipD ds ds = ds.map fun d => .tup [d, d]
  | [] => rfl
  | d :: r => congrArg (D.tup [d, d] :: ·) (zip_self r)
theorem le_sum : ∀ {l : List Nat} {x : Nat}, x ∈ l → x ≤ l.sum
  | y :: l, x, h => by
    rw [List.sum_cons]
    rcases List.mem_cons.mp h with e | e
    · omega
    · have := le_sum e
      omega
theorem all_true {α : Type} : ∀ ds : List α, (ds.map fun _ => true).all id = true
  | [] => rfl
  | _ :: r => all_true r
theorem fn_false {P : Program} {w : World} {K : PySem.W.Frag} {mg : Str → Option Value} {base : Heap} {k : Nat} {f : Addr} {F : TF} (h : ∀ wd ds φ ε, ¬ F wd ds φ ε) : Fn3 P w K mg base k f F := by
  intro A outer s H us vs Q E hr e0 r ⟨wd, R, ds, φ, ε, b, rr, z, _⟩
  exact absurd z (h _ _ _ _)
def F_mtree (C : Addr) (n : Nat) : TF := fun _ ds φ _ => ∃ t : Tr, ds = [mD t] ∧ t.ok ∧ t.dep ≤ n ∧ t.txt.length ≤ big ∧ φ (trD C t)
def F_key (n : Nat) : TF := fun _ ds φ _ => ∃ t : Tr, ds = [mD t] ∧ t.ok ∧ t.dep ≤ n ∧ t.dep ≤ 40 ∧ φ t.key
def F_compare (C : Addr) : TF := fun _ ds φ _ => ∃ a b : Tr, ds = [trD C a, trD C b] ∧ a.dep ≤ 30 ∧ b.dep ≤ 30 ∧ φ (.int (cmpT a b))
def pathD (p : List Nat) : D := .tup (p.map fun i => D.int (i : Nat))
def plD (x : List Nat × Tr) : D := .tup [pathD x.1, mD x.2]
def F_places (n : Nat) : TF := fun _ ds φ _ => ∃ t : Tr, ds = [mD t] ∧ t.dep ≤ n ∧ t.siz ≤ 1000 ∧ φ (.lst ((plc t).map plD))
def F_put (n : Nat) : TF := fun _ ds φ _ => ∃ (t : Tr) (p : List Nat) (u v : Tr), ds = [mD t, pathD p, mD u] ∧ isAt p t v ∧ p.length < n ∧ p.length ≤ 1000 ∧ φ (mD (putT p t u))
def enumT : Nat → List Tr → List (Nat × Tr)
  | _, [] => []
  | n, t :: r => (n, t) :: enumT (n + 1) r
def enD (x : Nat × Tr) : D := .tup [.int (x.1 : Nat), mD x.2]
theorem enum_map : ∀ (ks : List Tr) (n : Nat), enumD n (ks.map mD) = (enumT n ks).map enD
  | [], _ => rfl
  | t :: r, n => congrArg (D.tup [.int (n : Nat), mD t] :: ·) (enum_map r (n + 1))
mutual
theorem noL_mD : ∀ t : Tr, noL (mD t) = true
  | .nd s ks => by
    show (true && (noLs (mDs ks) && true)) = true
    rw [noLs_mDs ks]; rfl
theorem noLs_mDs : ∀ ks : List Tr, noLs (mDs ks) = true
  | [] => rfl
  | t :: r => by
    show (noL (mD t) && noLs (mDs r)) = true
    rw [noL_mD t, noLs_mDs r]; rfl
end
theorem noL_path (p : List Nat) : noL (pathD p) = true := noLs_map fun _ _ => rfl
theorem noL_pl (x : List Nat × Tr) : noL (plD x) = true := by
  show (noL (pathD x.1) && (noL (mD x.2) && true)) = true
  rw [noL_path, noL_mD]; rfl
theorem path_p : ∀ p : List Nat, isPs (p.map fun i => D.int (i : Nat)) = true ∧ PyData.canLayAll0 (toPs (p.map fun i => D.int (i : Nat))) = true ∧ PyData.depthAll (toPs (p.map fun i => D.int (i : Nat))) = 0
  | [] => ⟨rfl, rfl, rfl⟩
  | i :: p => by
    obtain ⟨h1, h2, h3⟩ := path_p p
    refine ⟨?_, ?_, ?_⟩
    · show (true && isPs _) = true
      rw [h1]; rfl
    · show (PyData.canLay0 (.int (i : Nat)) && PyData.canLayAll0 _) = true
      rw [h2]; rfl
    · show max 0 (PyData.depthAll _) = 0
      rw [h3]; rfl
theorem eq_path {p : List Nat} {φ : D → Prop} : eqF (pathD p) (.tup []) φ ↔ φ (.bl p.isEmpty) := by
  obtain ⟨h1, h2, h3⟩ := path_p p
  have a1 : isP (pathD p) = true := h1
  have a2 : SeqAt.shaped (toP (pathD p)) = true := by
    unfold SeqAt.shaped
    have e1 : PyData.canLay0 (toP (pathD p)) = true := h2
    have e2 : PyData.depth (toP (pathD p)) = 1 := by
      show PyData.depthAll _ + 1 = 1
      rw [h3]
    rw [e1, e2]; rfl
  have a3 : PyData.eqv (toP (pathD p)) (toP (.tup [])) = p.isEmpty := by cases p <;> rfl
  unfold eqF
  rw [a1, a2, a3]
  constructor
  · rintro ⟨_, _, _, _, q⟩; exact q
  · intro q; exact ⟨rfl, rfl, rfl, rfl, q⟩
theorem cut1 {x : D} {xs : List D} : L3.cutD (x :: xs) (some 1) none = xs := by
  unfold L3.cutD
  have e : (1 : Int) = ((1 : Nat) : Int) := rfl
  rw [HT.sIx_none, e, HT.sIx_nat, List.length_cons]
  have : min 1 (xs.length + 1) = 1 := by omega
  rw [this]
  show List.take (xs.length + 1 - 1) xs = xs
  exact List.take_of_length_le (by omega)
theorem trD_key_ne (t : Tr) : toP t.key ≠ .none := by
  cases t with
  | nd s ks => exact fun e => by cases e
def F_size (n : Nat) : TF := fun _ ds φ _ => ∃ t : Tr, ds = [mD t] ∧ t.ok ∧ t.dep ≤ n ∧ φ (.int (t.siz : Nat))
theorem ok_law_of {P : Program} {w : World} {K : PySem.W.Frag} {mg : Str → Option Value} {base : Heap} (tx : Tx K mg) : Fn3 P w K mg base 2 (He.ga K "_law_of") F_of := by
  obtain ⟨fd, FD⟩ := tx.fd_law_of
  have g_law_pick := ok_pick (P := P) (w := w) (base := base) tx
  refine fn3 FD sc_law_of (FD.bindsN fun _ _ _ _ _ _ us hl => match us, hl with | [_, _], _ => rfl) ?hn (fun cdv A outer s H E hr => (dss_one (ds_ret (de_ix (dv 1) (de_call g_law_pick (hr.mono (by omega)) rfl tx.mg_law_pick tx.kp_law_pick tk3 (da_cons (dv 0) (da_cons (de_len rfl tx.no_len (da_cons (dv 1) da_nil)) da_nil))))))) ?hT
  case hn =>
    rintro wd ds φ ε ⟨h, c, cells, es, rfl, rfl, _⟩
    rfl
  case hT =>
    rintro wd ds φ ε ⟨h, c, cells, es, rfl, rfl, hne, hl, q⟩
    show TRet _ _ _ [.v (.ref h), .v (.lst es)]
    simp [TVar, TC, TOp, TTst, fI, TAnd, TOr, TNot, TAndV, TOrV, TNotV, TIf, TChain, TChainB, TNoPart, TPart, TSl, TFld, TFldO, TCon, TNil, TCons, TTup, TLst, TCB, TM1, TFmt, TJs, TJoined, TNext, TSeq, TBreak, TCont, TNever, TRet, TRetN, TDrop, TIfS, L3.TSet, TAug, TPar, GName, GNil, GCons, GTup, TAsg, TIl, TIt, TIs, TIr1, TIr2, TIz, TFor, TOwn, TOwnL, TApp, TExt, TBor, TBorB, TFrz, TPutF, TYes, TLc, TLc2, TCall, TStar, TMake, TOpC, TParO1, TParO0, TPutJ, TBorN, TIenT, TOwnLc, TMaxd, TCallK, lenF, isiAF, isiF, isiTF, PySem.W.kitAny, inF, sumF, allF, anyF, tupleF, int1F, max2F, joinF, ixF, addF, mulF, tyOf, TyK, clsOf, clsOfs, wipeD, hideS, flatD, putD, and_assoc, neNilF, slF, isF, isntF, isND]
    have hp : 0 < es.length := List.length_pos_iff.mpr hne
    refine ⟨h, c, cells, (es.length : Nat), rfl, rfl, by omega, by omega, fun r h1 h2 => ?_⟩
    have hr : r.toNat < es.length := by omega
    have e : r = ((r.toNat : Nat) : Int) := by omega
    refine ⟨es[r.toNat], ?_, q _ (List.getElem_mem hr)⟩
    have e2 := L3.atI_nat hr
    rw [← e] at e2
    rw [e2]
    exact List.getElem?_eq_getElem hr
theorem ok_law_hand {P : Program} {w : World} {K : PySem.W.Frag} {mg : Str → Option Value} {base : Heap} (tx : Tx K mg) : Fn3 P w K mg base 1 (He.ga K "_law_hand") (F_hand2 K) := by
  obtain ⟨fd, FD⟩ := tx.fd_law_hand
  refine fn3 FD sc_law_hand (FD.bindsN fun _ _ _ _ _ _ us hl => match us, hl with | [_], _ => rfl) ?hn (fun cdv A outer s H E hr => (dss_cons (ds_setLc (i := 1) (own := [("_law_cell", 3)]) rfl sc_law_hand.nd rfl rfl (sw_true rfl rfl rfl (by decide +kernel)) (di_list (de_sliceS (K := K) (dv 0) do_none (do_some de_int))) (blkOk_by (own := [("_law_cell", 3)]) (N := N_law_hand) (sc := defScope s_law_hand) (by decide +kernel)) (fun _ _ _ _ _ => (dg_name (i := 3) sc_law_hand.nd rfl (Or.inl rfl))) (fun _ _ _ _ _ => dts_nil) (fun _ _ _ _ _ => (de_callTy call_int1 cd_int1 rfl tx.no_int (by decide +kernel) (da_cons (dv 3) da_nil))))
    (dss_cons (ds_set (i := 2) sc_law_hand.nd rfl (Or.inl rfl) (de_add de_int (de_mul de_int (de_len rfl tx.no_len (da_cons (dv 1) da_nil)))))
    (dss_cons (ds_for (vs := [3]) ps3 rfl (di_list (dv 1)) (dg_name (i := 3) sc_law_hand.nd rfl (Or.inl rfl))
     (dss_one (ds_set (i := 2) sc_law_hand.nd rfl (Or.inl rfl) (de_mod (de_callTy call_int1 cd_int1 rfl tx.no_int (by decide +kernel) (da_cons (de_add (de_mul (dv 2) de_int) (dv 3)) da_nil)) de_int))))
    (dss_one (ds_ret (de_lst (da_cons (dv 1) (da_cons de_int (da_cons de_int (da_cons (dv 2) da_nil))))))))))) ?hT
  case hn =>
    rintro wd ds φ ε ⟨a, ns, rfl, _⟩
    rfl
  case hT =>
    rintro wd ds φ ε ⟨a, ns, rfl, hS, hl, q⟩
    show TSeq _ _ _ _ [.v (.ref a), .no, .no, .no]
    have hc : L3.cutD (ns.map D.int) none (some 63) = ns.map D.int := by
      unfold L3.cutD
      have e : (63 : Int) = ((63 : Nat) : Int) := rfl
      rw [HT.sIx_none, e, HT.sIx_nat, List.length_map, List.drop_zero]
      exact List.take_of_length_le (by rw [List.length_map]; omega)
    have hL : sizeLine = 16777216 := sizeLine_eq
    simp [TVar, TC, TOp, TTst, fI, TAnd, TOr, TNot, TAndV, TOrV, TNotV, TIf, TChain, TChainB, TNoPart, TPart, TSl, TFld, TFldO, TCon, TNil, TCons, TTup, TLst, TCB, TM1, TFmt, TJs, TJoined, TNext, TSeq, TBreak, TCont, TNever, TRet, TRetN, TDrop, TIfS, L3.TSet, TAug, TPar, GName, GNil, GCons, GTup, TAsg, TIl, TIt, TIs, TIr1, TIr2, TIz, TFor, TOwn, TOwnL, TApp, TExt, TBor, TBorB, TFrz, TPutF, TYes, TLc, TLc2, TCall, TStar, TMake, TOpC, TParO1, TParO0, TPutJ, TBorN, TIenT, TOwnLc, TMaxd, TCallK, lenF, isiAF, isiF, isiTF, PySem.W.kitAny, inF, sumF, allF, anyF, tupleF, int1F, max2F, joinF, ixF, addF, mulF, tyOf, TyK, clsOf, clsOfs, wipeD, hideS, flatD, putD, and_assoc, neNilF, slF, isF, isntF, isND, TSlS]
    refine ⟨ns, hS, ?_⟩
    rw [hc]
    refine compD_map (enc := D.int) (f := D.int) ns [] (fun n hn acc ψ hl q => ?_) (by show 0 + _ ≤ _; omega) ?_
    · simp [TVar, TC, TOp, TTst, fI, TAnd, TOr, TNot, TAndV, TOrV, TNotV, TIf, TChain, TChainB, TNoPart, TPart, TSl, TFld, TFldO, TCon, TNil, TCons, TTup, TLst, TCB, TM1, TFmt, TJs, TJoined, TNext, TSeq, TBreak, TCont, TNever, TRet, TRetN, TDrop, TIfS, L3.TSet, TAug, TPar, GName, GNil, GCons, GTup, TAsg, TIl, TIt, TIs, TIr1, TIr2, TIz, TFor, TOwn, TOwnL, TApp, TExt, TBor, TBorB, TFrz, TPutF, TYes, TLc, TLc2, TCall, TStar, TMake, TOpC, TParO1, TParO0, TPutJ, TBorN, TIenT, TOwnLc, TMaxd, TCallK, lenF, isiAF, isiF, isiTF, PySem.W.kitAny, inF, sumF, allF, anyF, tupleF, int1F, max2F, joinF, ixF, addF, mulF, tyOf, TyK, clsOf, clsOfs, wipeD, hideS, flatD, putD, and_assoc, neNilF, slF, isF, isntF, isND, hl, q]
    rw [List.nil_append, List.length_map]
    refine ⟨.inl ⟨by decide, by decide⟩, ?_⟩
    refine forD_of (enc := D.int) (fun xs env => ∃ (m : Int) (sl : Sl), env = [.v (.ref a), .v (.lst (ns.map D.int)), .v (.int m), sl]) ns _ ⟨5621 + 97 * (ns.length : Nat), .no, by simp⟩ ?_ ?_
    · rintro n rest env D2 - h1 - - ⟨m, sl, rfl⟩
      simp [TVar, TC, TOp, TTst, fI, TAnd, TOr, TNot, TAndV, TOrV, TNotV, TIf, TChain, TChainB, TNoPart, TPart, TSl, TFld, TFldO, TCon, TNil, TCons, TTup, TLst, TCB, TM1, TFmt, TJs, TJoined, TNext, TSeq, TBreak, TCont, TNever, TRet, TRetN, TDrop, TIfS, L3.TSet, TAug, TPar, GName, GNil, GCons, GTup, TAsg, TIl, TIt, TIs, TIr1, TIr2, TIz, TFor, TOwn, TOwnL, TApp, TExt, TBor, TBorB, TFrz, TPutF, TYes, TLc, TLc2, TCall, TStar, TMake, TOpC, TParO1, TParO0, TPutJ, TBorN, TIenT, TOwnLc, TMaxd, TCallK, lenF, isiAF, isiF, isiTF, PySem.W.kitAny, inF, sumF, allF, anyF, tupleF, int1F, max2F, joinF, ixF, addF, mulF, tyOf, TyK, clsOf, clsOfs, wipeD, hideS, flatD, putD, and_assoc, neNilF, slF, isF, isntF, isND, CMul]
      exact h1 _ ⟨_, _, rfl⟩
    · rintro env ⟨m, sl, rfl⟩
      simp [TVar, TC, TOp, TTst, fI, TAnd, TOr, TNot, TAndV, TOrV, TNotV, TIf, TChain, TChainB, TNoPart, TPart, TSl, TFld, TFldO, TCon, TNil, TCons, TTup, TLst, TCB, TM1, TFmt, TJs, TJoined, TNext, TSeq, TBreak, TCont, TNever, TRet, TRetN, TDrop, TIfS, L3.TSet, TAug, TPar, GName, GNil, GCons, GTup, TAsg, TIl, TIt, TIs, TIr1, TIr2, TIz, TFor, TOwn, TOwnL, TApp, TExt, TBor, TBorB, TFrz, TPutF, TYes, TLc, TLc2, TCall, TStar, TMake, TOpC, TParO1, TParO0, TPutJ, TBorN, TIenT, TOwnLc, TMaxd, TCallK, lenF, isiAF, isiF, isiTF, PySem.W.kitAny, inF, sumF, allF, anyF, tupleF, int1F, max2F, joinF, ixF, addF, mulF, tyOf, TyK, clsOf, clsOfs, wipeD, hideS, flatD, putD, and_assoc, neNilF, slF, isF, isntF, isND]
      exact q m
theorem ok_same {P : Program} {w : World} {K : PySem.W.Frag} {mg : Str → Option Value} {base : Heap} (tx : Tx K mg) : ∀ n : Nat, Fn3 P w K mg base (1 + n) (He.ga K "_law_same") (F_same n)
  | 0 => fn_false (fun _ _ _ _ h => h)
  | n + 1 => by
    obtain ⟨fd, FD⟩ := tx.fd_law_same
    have g_law_same : Fn3 P w K mg base (1 + n) (He.ga K "_law_same") (F_same n) := ok_same tx n
    refine fn3 (k := 1 + n) FD sc_law_same (FD.bindsN fun _ _ _ _ _ _ us hl => match us, hl with | [_, _], _ => rfl) ?hn (fun cdv A outer s H E hr => (dss_cons (ds_if (dt_cmp op_isN opd_is (dv 1) de_non (nomark _))
     (dss_one (ds_ret (de_cmp op_isN opd_is (dv 0) de_non (nomark _))))
     dss_nil)
    (dss_cons (ds_if (dt_bool (dw_or (dt_val (de_callB (L3.CallR.or call_isi call_isiT) (cd_isiA (K := K)) rfl tx.no_isinstance (by decide +kernel) (da_cons (dv 1) (da_cons (de_bty rfl tx.no_bool) da_nil)))) (dw_or1 (dt_val (de_callB (L3.CallR.or call_isi call_isiT) (cd_isiA (K := K)) rfl tx.no_isinstance (by decide +kernel) (da_cons (dv 0) (da_cons (de_bty rfl tx.no_bool) da_nil)))))))
     (dss_one (ds_ret (de_and (de_callB (L3.CallR.or call_isi call_isiT) (cd_isiA (K := K)) rfl tx.no_isinstance (by decide +kernel) (da_cons (dv 1) (da_cons (de_bty rfl tx.no_bool) da_nil))) (de_and (de_callB (L3.CallR.or call_isi call_isiT) (cd_isiA (K := K)) rfl tx.no_isinstance (by decide +kernel) (da_cons (dv 0) (da_cons (de_bty rfl tx.no_bool) da_nil))) (de_one (de_cmp (op_eqD hr.units) opd_eq (dv 0) (dv 1) (nomark _)))))))
     dss_nil)
    (dss_cons (ds_if (dt_val (de_callB (L3.CallR.or call_isi call_isiT) (cd_isiA (K := K)) rfl tx.no_isinstance (by decide +kernel) (da_cons (dv 1) (da_cons (de_tup (da_cons (de_bty rfl tx.no_int) (da_cons (de_bty rfl tx.no_str) da_nil))) da_nil))))
     (dss_one (ds_ret (de_and (de_callB (L3.CallR.or call_isi call_isiT) (cd_isiA (K := K)) rfl tx.no_isinstance (by decide +kernel) (da_cons (dv 0) (da_cons (de_tup (da_cons (de_bty rfl tx.no_int) (da_cons (de_bty rfl tx.no_str) da_nil))) da_nil))) (de_and (de_cmp (op_eqD hr.units) opd_eq (de_callB (L3.CallR.or call_isi call_isiT) (cd_isiA (K := K)) rfl tx.no_isinstance (by decide +kernel) (da_cons (dv 0) (da_cons (de_bty rfl tx.no_int) da_nil))) (de_callB (L3.CallR.or call_isi call_isiT) (cd_isiA (K := K)) rfl tx.no_isinstance (by decide +kernel) (da_cons (dv 1) (da_cons (de_bty rfl tx.no_int) da_nil))) (nomark _)) (de_one (de_cmp (op_eqD hr.units) opd_eq (dv 0) (dv 1) (nomark _)))))))
     dss_nil)
    (dss_cons (ds_if (dt_bool (dw_or (dt_cmp (op_neD hr.units) opd_ne (de_callB (L3.CallR.or call_isi call_isiT) (cd_isiA (K := K)) rfl tx.no_isinstance (by decide +kernel) (da_cons (dv 1) (da_cons (de_bty rfl tx.no_list) da_nil))) (de_callB (L3.CallR.or call_isi call_isiT) (cd_isiA (K := K)) rfl tx.no_isinstance (by decide +kernel) (da_cons (dv 0) (da_cons (de_bty rfl tx.no_list) da_nil))) (nomark _)) (dw_or1 (dt_cmp (op_neD hr.units) opd_ne (de_callB (L3.CallR.or call_isi call_isiT) (cd_isiA (K := K)) rfl tx.no_isinstance (by decide +kernel) (da_cons (dv 1) (da_cons (de_bty rfl tx.no_tuple) da_nil))) (de_callB (L3.CallR.or call_isi call_isiT) (cd_isiA (K := K)) rfl tx.no_isinstance (by decide +kernel) (da_cons (dv 0) (da_cons (de_bty rfl tx.no_tuple) da_nil))) (nomark _)))))
     (dss_one (ds_ret de_bl))
     dss_nil)
    (dss_one (ds_ret (de_and (de_cmp (op_eqD hr.units) opd_eq (de_len rfl tx.no_len (da_cons (dv 0) da_nil)) (de_len rfl tx.no_len (da_cons (dv 1) da_nil)) (nomark _)) (de_one (de_callB (cr_all rfl) cd_all rfl tx.no_all (by decide +kernel) (da_cons (de_lc (own := [("_law_one_z", 2), ("_law_two", 3)]) rfl sc_law_same.nd (di_zip rfl tx.no_zip (da_cons (dv 0) (da_cons (dv 1) da_nil))) (blkOk_by (own := [("_law_one_z", 2), ("_law_two", 3)]) (N := N_law_same) (sc := defScope s_law_same) (by decide +kernel)) (fun _ _ _ _ _ => (dg_tup (n := 2) rfl (dgs_cons (dg_name (i := 2) sc_law_same.nd rfl (Or.inl rfl)) (dgs_cons (dg_name (i := 3) sc_law_same.nd rfl (Or.inl rfl)) dgs_nil)))) (fun _ _ _ _ _ => dts_nil) (fun _ _ _ _ _ => (de_call g_law_same (hr.mono (by omega)) rfl tx.mg_law_same tx.kp_law_same takesN (da_cons (dv 2) (da_cons (dv 3) da_nil))))) da_nil))))))))))) ?hT
    case hn =>
      rintro wd ds φ ε ⟨d, rfl, _⟩
      rfl
    case hT =>
      rintro wd ds φ ε ⟨d, rfl, hd, q⟩
      show TSeq _ _ _ _ [.v d, .v d, .no, .no]
      have hL : sizeLine = 16777216 := sizeLine_eq
      cases d with
      | non => simp [TVar, TC, TOp, TTst, fI, TAnd, TOr, TNot, TAndV, TOrV, TNotV, TIf, TChain, TChainB, TNoPart, TPart, TSl, TFld, TFldO, TCon, TNil, TCons, TTup, TLst, TCB, TM1, TFmt, TJs, TJoined, TNext, TSeq, TBreak, TCont, TNever, TRet, TRetN, TDrop, TIfS, L3.TSet, TAug, TPar, GName, GNil, GCons, GTup, TAsg, TIl, TIt, TIs, TIr1, TIr2, TIz, TFor, TOwn, TOwnL, TApp, TExt, TBor, TBorB, TFrz, TPutF, TYes, TLc, TLc2, TCall, TStar, TMake, TOpC, TParO1, TParO0, TPutJ, TBorN, TIenT, TOwnLc, TMaxd, TCallK, lenF, isiAF, isiF, isiTF, PySem.W.kitAny, inF, sumF, allF, anyF, tupleF, int1F, max2F, joinF, ixF, addF, mulF, tyOf, TyK, clsOf, clsOfs, wipeD, hideS, flatD, putD, and_assoc, neNilF, slF, isF, isntF, isND, q]
      | bl b => simp [TVar, TC, TOp, TTst, fI, TAnd, TOr, TNot, TAndV, TOrV, TNotV, TIf, TChain, TChainB, TNoPart, TPart, TSl, TFld, TFldO, TCon, TNil, TCons, TTup, TLst, TCB, TM1, TFmt, TJs, TJoined, TNext, TSeq, TBreak, TCont, TNever, TRet, TRetN, TDrop, TIfS, L3.TSet, TAug, TPar, GName, GNil, GCons, GTup, TAsg, TIl, TIt, TIs, TIr1, TIr2, TIz, TFor, TOwn, TOwnL, TApp, TExt, TBor, TBorB, TFrz, TPutF, TYes, TLc, TLc2, TCall, TStar, TMake, TOpC, TParO1, TParO0, TPutJ, TBorN, TIenT, TOwnLc, TMaxd, TCallK, lenF, isiAF, isiF, isiTF, PySem.W.kitAny, inF, sumF, allF, anyF, tupleF, int1F, max2F, joinF, ixF, addF, mulF, tyOf, TyK, clsOf, clsOfs, wipeD, hideS, flatD, putD, and_assoc, neNilF, slF, isF, isntF, isND, q]
      | int i => simp [TVar, TC, TOp, TTst, fI, TAnd, TOr, TNot, TAndV, TOrV, TNotV, TIf, TChain, TChainB, TNoPart, TPart, TSl, TFld, TFldO, TCon, TNil, TCons, TTup, TLst, TCB, TM1, TFmt, TJs, TJoined, TNext, TSeq, TBreak, TCont, TNever, TRet, TRetN, TDrop, TIfS, L3.TSet, TAug, TPar, GName, GNil, GCons, GTup, TAsg, TIl, TIt, TIs, TIr1, TIr2, TIz, TFor, TOwn, TOwnL, TApp, TExt, TBor, TBorB, TFrz, TPutF, TYes, TLc, TLc2, TCall, TStar, TMake, TOpC, TParO1, TParO0, TPutJ, TBorN, TIenT, TOwnLc, TMaxd, TCallK, lenF, isiAF, isiF, isiTF, PySem.W.kitAny, inF, sumF, allF, anyF, tupleF, int1F, max2F, joinF, ixF, addF, mulF, tyOf, TyK, clsOf, clsOfs, wipeD, hideS, flatD, putD, and_assoc, neNilF, slF, isF, isntF, isND, q]
      | str z => 
        have hz : SeqAt.shaped (.str z) = true := by cases n <;> exact hd
        simp [TVar, TC, TOp, TTst, fI, TAnd, TOr, TNot, TAndV, TOrV, TNotV, TIf, TChain, TChainB, TNoPart, TPart, TSl, TFld, TFldO, TCon, TNil, TCons, TTup, TLst, TCB, TM1, TFmt, TJs, TJoined, TNext, TSeq, TBreak, TCont, TNever, TRet, TRetN, TDrop, TIfS, L3.TSet, TAug, TPar, GName, GNil, GCons, GTup, TAsg, TIl, TIt, TIs, TIr1, TIr2, TIz, TFor, TOwn, TOwnL, TApp, TExt, TBor, TBorB, TFrz, TPutF, TYes, TLc, TLc2, TCall, TStar, TMake, TOpC, TParO1, TParO0, TPutJ, TBorN, TIenT, TOwnLc, TMaxd, TCallK, lenF, isiAF, isiF, isiTF, PySem.W.kitAny, inF, sumF, allF, anyF, tupleF, int1F, max2F, joinF, ixF, addF, mulF, tyOf, TyK, clsOf, clsOfs, wipeD, hideS, flatD, putD, and_assoc, neNilF, slF, isF, isntF, isND, q, hz]
      | lst ds =>
        cases n with
        | zero => exact absurd hd id
        | succ n =>
          obtain ⟨hl, hm⟩ := hd
          simp [TVar, TC, TOp, TTst, fI, TAnd, TOr, TNot, TAndV, TOrV, TNotV, TIf, TChain, TChainB, TNoPart, TPart, TSl, TFld, TFldO, TCon, TNil, TCons, TTup, TLst, TCB, TM1, TFmt, TJs, TJoined, TNext, TSeq, TBreak, TCont, TNever, TRet, TRetN, TDrop, TIfS, L3.TSet, TAug, TPar, GName, GNil, GCons, GTup, TAsg, TIl, TIt, TIs, TIr1, TIr2, TIz, TFor, TOwn, TOwnL, TApp, TExt, TBor, TBorB, TFrz, TPutF, TYes, TLc, TLc2, TCall, TStar, TMake, TOpC, TParO1, TParO0, TPutJ, TBorN, TIenT, TOwnLc, TMaxd, TCallK, lenF, isiAF, isiF, isiTF, PySem.W.kitAny, inF, sumF, allF, anyF, tupleF, int1F, max2F, joinF, ixF, addF, mulF, tyOf, TyK, clsOf, clsOfs, wipeD, hideS, flatD, putD, and_assoc, neNilF, slF, isF, isntF, isND, zipF, zip_self]
          refine compD_map (enc := fun d => D.tup [d, d]) (f := fun _ => .bl true) ds [] (fun d hd acc ψ hl q => ?_) (by show 0 + _ ≤ _; omega) ⟨ds.map fun _ => true, ?_, ?_⟩
          · simp [TVar, TC, TOp, TTst, fI, TAnd, TOr, TNot, TAndV, TOrV, TNotV, TIf, TChain, TChainB, TNoPart, TPart, TSl, TFld, TFldO, TCon, TNil, TCons, TTup, TLst, TCB, TM1, TFmt, TJs, TJoined, TNext, TSeq, TBreak, TCont, TNever, TRet, TRetN, TDrop, TIfS, L3.TSet, TAug, TPar, GName, GNil, GCons, GTup, TAsg, TIl, TIt, TIs, TIr1, TIr2, TIz, TFor, TOwn, TOwnL, TApp, TExt, TBor, TBorB, TFrz, TPutF, TYes, TLc, TLc2, TCall, TStar, TMake, TOpC, TParO1, TParO0, TPutJ, TBorN, TIenT, TOwnLc, TMaxd, TCallK, lenF, isiAF, isiF, isiTF, PySem.W.kitAny, inF, sumF, allF, anyF, tupleF, int1F, max2F, joinF, ixF, addF, mulF, tyOf, TyK, clsOf, clsOfs, wipeD, hideS, flatD, putD, and_assoc, neNilF, slF, isF, isntF, isND]
            exact ⟨d, rfl, hm d hd, hl, q⟩
          · rw [← blsD_map, List.map_map]; rfl
          · rw [all_true]; exact q
      | tup ds =>
        cases n with
        | zero => exact absurd hd id
        | succ n =>
          obtain ⟨hl, hm⟩ := hd
          simp [TVar, TC, TOp, TTst, fI, TAnd, TOr, TNot, TAndV, TOrV, TNotV, TIf, TChain, TChainB, TNoPart, TPart, TSl, TFld, TFldO, TCon, TNil, TCons, TTup, TLst, TCB, TM1, TFmt, TJs, TJoined, TNext, TSeq, TBreak, TCont, TNever, TRet, TRetN, TDrop, TIfS, L3.TSet, TAug, TPar, GName, GNil, GCons, GTup, TAsg, TIl, TIt, TIs, TIr1, TIr2, TIz, TFor, TOwn, TOwnL, TApp, TExt, TBor, TBorB, TFrz, TPutF, TYes, TLc, TLc2, TCall, TStar, TMake, TOpC, TParO1, TParO0, TPutJ, TBorN, TIenT, TOwnLc, TMaxd, TCallK, lenF, isiAF, isiF, isiTF, PySem.W.kitAny, inF, sumF, allF, anyF, tupleF, int1F, max2F, joinF, ixF, addF, mulF, tyOf, TyK, clsOf, clsOfs, wipeD, hideS, flatD, putD, and_assoc, neNilF, slF, isF, isntF, isND, zipF, zip_self]
          refine compD_map (enc := fun d => D.tup [d, d]) (f := fun _ => .bl true) ds [] (fun d hd acc ψ hl q => ?_) (by show 0 + _ ≤ _; omega) ⟨ds.map fun _ => true, ?_, ?_⟩
          · simp [TVar, TC, TOp, TTst, fI, TAnd, TOr, TNot, TAndV, TOrV, TNotV, TIf, TChain, TChainB, TNoPart, TPart, TSl, TFld, TFldO, TCon, TNil, TCons, TTup, TLst, TCB, TM1, TFmt, TJs, TJoined, TNext, TSeq, TBreak, TCont, TNever, TRet, TRetN, TDrop, TIfS, L3.TSet, TAug, TPar, GName, GNil, GCons, GTup, TAsg, TIl, TIt, TIs, TIr1, TIr2, TIz, TFor, TOwn, TOwnL, TApp, TExt, TBor, TBorB, TFrz, TPutF, TYes, TLc, TLc2, TCall, TStar, TMake, TOpC, TParO1, TParO0, TPutJ, TBorN, TIenT, TOwnLc, TMaxd, TCallK, lenF, isiAF, isiF, isiTF, PySem.W.kitAny, inF, sumF, allF, anyF, tupleF, int1F, max2F, joinF, ixF, addF, mulF, tyOf, TyK, clsOf, clsOfs, wipeD, hideS, flatD, putD, and_assoc, neNilF, slF, isF, isntF, isND]
            exact ⟨d, rfl, hm d hd, hl, q⟩
          · rw [← blsD_map, List.map_map]; rfl
          · rw [all_true]; exact q
      | ty _ => cases n <;> exact absurd hd id
      | ref _ => cases n <;> exact absurd hd id
      | ins _ _ => cases n <;> exact absurd hd id
      | exc _ _ => cases n <;> exact absurd hd id
      | clo _ _ => cases n <;> exact absurd hd id
      | lam _ _ => cases n <;> exact absurd hd id
      | dic _ => cases n <;> exact absurd hd id
theorem ok_size {P : Program} {w : World} {K : PySem.W.Frag} {mg : Str → Option Value} {base : Heap} (tx : Tx K mg) : ∀ n : Nat, Fn3 P w K mg base (1 + n) (He.ga K "_law_size") (F_size n)
  | 0 => fn_false (fun _ _ _ _ ⟨t, _, _, h, _⟩ => by have := dep_pos t; omega)
  | n + 1 => by
    obtain ⟨fd, FD⟩ := tx.fd_law_size
    have g_law_size : Fn3 P w K mg base (1 + n) (He.ga K "_law_size") (F_size n) := ok_size tx n
    refine fn3 (k := 1 + n) FD sc_law_size (FD.bindsN fun _ _ _ _ _ _ us hl => match us, hl with | [_], _ => rfl) ?hn (fun cdv A outer s H E hr => (dss_one (ds_ret (de_add de_int (de_callB (cr_sum rfl) cd_sum rfl tx.no_sum (by decide +kernel) (da_cons (de_lc (own := [("_law_kid", 1)]) rfl sc_law_size.nd (di_tup (de_ix (dv 0) de_int)) (blkOk_by (own := [("_law_kid", 1)]) (N := N_law_size) (sc := defScope s_law_size) (by decide +kernel)) (fun _ _ _ _ _ => (dg_name (i := 1) sc_law_size.nd rfl (Or.inl rfl))) (fun _ _ _ _ _ => dts_nil) (fun _ _ _ _ _ => (de_call g_law_size (hr.mono (by omega)) rfl tx.mg_law_size tx.kp_law_size takesN (da_cons (dv 1) da_nil)))) da_nil)))))) ?hT
    case hn =>
      rintro wd ds φ ε ⟨t, rfl, _⟩
      rfl
    case hT =>
      rintro wd ds φ ε ⟨⟨s, ks⟩, rfl, ⟨h1, h2, h3⟩, hd, q⟩
      rw [mD_nd]
      show TRet _ _ _ [.v (.tup [.str (mks s), .tup (ks.map mD)]), .no]
      have hL : sizeLine = 16777216 := sizeLine_eq
      have hB : big = 1000000 := rfl
      have hks := oks_iff.mp h3
      have hdd : deps ks ≤ n := by
        have : 1 + deps ks ≤ n + 1 := hd
        omega
      simp [TVar, TC, TOp, TTst, fI, TAnd, TOr, TNot, TAndV, TOrV, TNotV, TIf, TChain, TChainB, TNoPart, TPart, TSl, TFld, TFldO, TCon, TNil, TCons, TTup, TLst, TCB, TM1, TFmt, TJs, TJoined, TNext, TSeq, TBreak, TCont, TNever, TRet, TRetN, TDrop, TIfS, L3.TSet, TAug, TPar, GName, GNil, GCons, GTup, TAsg, TIl, TIt, TIs, TIr1, TIr2, TIz, TFor, TOwn, TOwnL, TApp, TExt, TBor, TBorB, TFrz, TPutF, TYes, TLc, TLc2, TCall, TStar, TMake, TOpC, TParO1, TParO0, TPutJ, TBorN, TIenT, TOwnLc, TMaxd, TCallK, lenF, isiAF, isiF, isiTF, PySem.W.kitAny, inF, sumF, allF, anyF, tupleF, int1F, max2F, joinF, ixF, addF, mulF, tyOf, TyK, clsOf, clsOfs, wipeD, hideS, flatD, putD, and_assoc, neNilF, slF, isF, isntF, isND]
      refine compD_map (enc := mD) (f := fun t => .int (t.siz : Nat)) ks [] (fun t ht acc ψ hl q => ?_) (by show 0 + _ ≤ _; omega) ⟨ks.map fun t => ((t.siz : Nat) : Int), ?_, ?_⟩
      · simp [TVar, TC, TOp, TTst, fI, TAnd, TOr, TNot, TAndV, TOrV, TNotV, TIf, TChain, TChainB, TNoPart, TPart, TSl, TFld, TFldO, TCon, TNil, TCons, TTup, TLst, TCB, TM1, TFmt, TJs, TJoined, TNext, TSeq, TBreak, TCont, TNever, TRet, TRetN, TDrop, TIfS, L3.TSet, TAug, TPar, GName, GNil, GCons, GTup, TAsg, TIl, TIt, TIs, TIr1, TIr2, TIz, TFor, TOwn, TOwnL, TApp, TExt, TBor, TBorB, TFrz, TPutF, TYes, TLc, TLc2, TCall, TStar, TMake, TOpC, TParO1, TParO0, TPutJ, TBorN, TIenT, TOwnLc, TMaxd, TCallK, lenF, isiAF, isiF, isiTF, PySem.W.kitAny, inF, sumF, allF, anyF, tupleF, int1F, max2F, joinF, ixF, addF, mulF, tyOf, TyK, clsOf, clsOfs, wipeD, hideS, flatD, putD, and_assoc, neNilF, slF, isF, isntF, isND]
        exact ⟨t, rfl, hks t ht, Nat.le_trans (deps_le ht) hdd, hl, q⟩
      · rw [← intsD_map, List.map_map]; rfl
      · rw [← sizs_int]
        exact q
theorem ok_tree {P : Program} {w : World} {K : PySem.W.Frag} {mg : Str → Option Value} {base : Heap} (tx : Tx K mg) : ∀ n : Nat, Fn3 P w K mg base (3 + n) (He.ga K "_law_tree") ((F_mtree (He.ga K "Tree")) n)
  | 0 => fn_false (fun _ _ _ _ ⟨t, _, _, h, _⟩ => by have := dep_pos t; omega)
  | n + 1 => by
    obtain ⟨fd, FD⟩ := tx.fd_law_tree
    have g_law_tree : Fn3 P w K mg base (3 + n) (He.ga K "_law_tree") ((F_mtree (He.ga K "Tree")) n) := ok_tree tx n
    have g_Tree_init : FnI P w K mg base 2 (He.ga K "Tree") (He.ma K (He.ga K "Tree") "__init__") (F_init (He.ga K "Tree")) := ok_init tx
    refine fn3 (k := 3 + n) FD sc_law_tree (FD.bindsN fun _ _ _ _ _ _ us hl => match us, hl with | [_], _ => rfl) ?hn (fun cdv A outer s H E hr => (dss_cons (ds_setLc (i := 1) (own := [("_law_kid", 2)]) rfl sc_law_tree.nd rfl rfl (sw_true rfl rfl rfl (by decide +kernel)) (di_tup (de_ix (dv 0) de_int)) (blkOk_by (own := [("_law_kid", 2)]) (N := N_law_tree) (sc := defScope s_law_tree) (by decide +kernel)) (fun _ _ _ _ _ => (dg_name (i := 2) sc_law_tree.nd rfl (Or.inl rfl))) (fun _ _ _ _ _ => dts_nil) (fun _ _ _ _ _ => (de_call g_law_tree (hr.mono (by omega)) rfl tx.mg_law_tree tx.kp_law_tree takesN (da_cons (dv 2) da_nil))))
    (dss_cons (ds_if (dt_cmp (op_eqD hr.units) opd_eq (de_len rfl tx.no_len (da_cons (dv 1) da_nil)) de_int (nomark _))
     (dss_one (ds_ret (de_make tx.mk_Tree g_Tree_init (hr.mono (by omega)) rfl tx.mg_Tree tk3 (da_cons (de_ix (dv 0) de_int) da_nil))))
     dss_nil)
    (dss_cons (ds_if (dt_cmp (op_eqD hr.units) opd_eq (de_len rfl tx.no_len (da_cons (dv 1) da_nil)) de_int (nomark _))
     (dss_one (ds_ret (de_make tx.mk_Tree g_Tree_init (hr.mono (by omega)) rfl tx.mg_Tree tk3 (da_cons (de_ix (dv 0) de_int) (da_cons (de_ix (dv 1) de_int) da_nil)))))
     dss_nil)
    (dss_one (ds_ret (de_ifExp (dt_cmp (op_eqD hr.units) opd_eq (de_len rfl tx.no_len (da_cons (dv 1) da_nil)) de_int (nomark _)) (de_make tx.mk_Tree g_Tree_init (hr.mono (by omega)) rfl tx.mg_Tree tk3 (da_cons (de_ix (dv 0) de_int) (da_cons (de_ix (dv 1) de_int) (da_cons (de_ix (dv 1) de_int) da_nil)))) (de_make tx.mk_Tree g_Tree_init (hr.mono (by omega)) rfl tx.mg_Tree tk3 (da_cons (de_ix (dv 0) de_int) (da_cons (de_ix (dv 1) de_int) (da_cons (de_ix (dv 1) de_int) (da_cons (de_ix (dv 1) de_int) da_nil)))))))))))) ?hT
    case hn =>
      rintro wd ds φ ε ⟨t, rfl, _⟩
      rfl
    case hT =>
      rintro wd ds φ ε ⟨⟨s, ks⟩, rfl, ⟨h1, h2, h3⟩, hd, hl, q⟩
      rw [mD_nd]
      show TSeq _ _ _ _ [.v (.tup [.str (mks s), .tup (ks.map mD)]), .no, .no]
      have hL : sizeLine = 16777216 := sizeLine_eq
      have hB : big = 1000000 := rfl
      have hks := oks_iff.mp h3
      have hdd : deps ks ≤ n := by
        have : 1 + deps ks ≤ n + 1 := hd
        omega
      have hw := wrapL_len s (txts ks)
      have hwl : (wrapL s (txts ks)).length ≤ big := hl
      have hkl : ∀ t ∈ ks, t.txt.length ≤ big := fun t ht => by
        have : t.txt.length ∈ (txts ks).map List.length := by
          rw [txts_eq, List.map_map]
          exact List.mem_map.mpr ⟨t, ht, rfl⟩
        have := le_sum this
        omega
      simp [TVar, TC, TOp, TTst, fI, TAnd, TOr, TNot, TAndV, TOrV, TNotV, TIf, TChain, TChainB, TNoPart, TPart, TSl, TFld, TFldO, TCon, TNil, TCons, TTup, TLst, TCB, TM1, TFmt, TJs, TJoined, TNext, TSeq, TBreak, TCont, TNever, TRet, TRetN, TDrop, TIfS, L3.TSet, TAug, TPar, GName, GNil, GCons, GTup, TAsg, TIl, TIt, TIs, TIr1, TIr2, TIz, TFor, TOwn, TOwnL, TApp, TExt, TBor, TBorB, TFrz, TPutF, TYes, TLc, TLc2, TCall, TStar, TMake, TOpC, TParO1, TParO0, TPutJ, TBorN, TIenT, TOwnLc, TMaxd, TCallK, lenF, isiAF, isiF, isiTF, PySem.W.kitAny, inF, sumF, allF, anyF, tupleF, int1F, max2F, joinF, ixF, addF, mulF, tyOf, TyK, clsOf, clsOfs, wipeD, hideS, flatD, putD, and_assoc, neNilF, slF, isF, isntF, isND]
      refine compD_map (enc := mD) (f := trD (He.ga K "Tree")) ks [] (fun t ht acc ψ hl q => ?_) (by show 0 + _ ≤ _; omega) ?_
      · simp [TVar, TC, TOp, TTst, fI, TAnd, TOr, TNot, TAndV, TOrV, TNotV, TIf, TChain, TChainB, TNoPart, TPart, TSl, TFld, TFldO, TCon, TNil, TCons, TTup, TLst, TCB, TM1, TFmt, TJs, TJoined, TNext, TSeq, TBreak, TCont, TNever, TRet, TRetN, TDrop, TIfS, L3.TSet, TAug, TPar, GName, GNil, GCons, GTup, TAsg, TIl, TIt, TIs, TIr1, TIr2, TIz, TFor, TOwn, TOwnL, TApp, TExt, TBor, TBorB, TFrz, TPutF, TYes, TLc, TLc2, TCall, TStar, TMake, TOpC, TParO1, TParO0, TPutJ, TBorN, TIenT, TOwnLc, TMaxd, TCallK, lenF, isiAF, isiF, isiTF, PySem.W.kitAny, inF, sumF, allF, anyF, tupleF, int1F, max2F, joinF, ixF, addF, mulF, tyOf, TyK, clsOf, clsOfs, wipeD, hideS, flatD, putD, and_assoc, neNilF, slF, isF, isntF, isND]
        exact ⟨t, rfl, hks t ht, Nat.le_trans (deps_le ht) hdd, hkl t ht, hl, q⟩
      · have fin : F_init (He.ga K "Tree") wd (.str (mks s) :: ks.map (trD (He.ga K "Tree"))) (fun fs => φ (.ins (He.ga K "Tree") fs)) (fun ex => ε ex) := ⟨s, ks, rfl, ⟨h1, h2, h3⟩, hl, by rw [trD_ins] at q; exact q⟩
        match ks, h2, fin with
        | [], _, fin => simpa [TVar, TC, TOp, TTst, fI, TAnd, TOr, TNot, TAndV, TOrV, TNotV, TIf, TChain, TChainB, TNoPart, TPart, TSl, TFld, TFldO, TCon, TNil, TCons, TTup, TLst, TCB, TM1, TFmt, TJs, TJoined, TNext, TSeq, TBreak, TCont, TNever, TRet, TRetN, TDrop, TIfS, L3.TSet, TAug, TPar, GName, GNil, GCons, GTup, TAsg, TIl, TIt, TIs, TIr1, TIr2, TIz, TFor, TOwn, TOwnL, TApp, TExt, TBor, TBorB, TFrz, TPutF, TYes, TLc, TLc2, TCall, TStar, TMake, TOpC, TParO1, TParO0, TPutJ, TBorN, TIenT, TOwnLc, TMaxd, TCallK, lenF, isiAF, isiF, isiTF, PySem.W.kitAny, inF, sumF, allF, anyF, tupleF, int1F, max2F, joinF, ixF, addF, mulF, tyOf, TyK, clsOf, clsOfs, wipeD, hideS, flatD, putD, and_assoc, neNilF, slF, isF, isntF, isND] using fin
        | [a], _, fin => simpa [TVar, TC, TOp, TTst, fI, TAnd, TOr, TNot, TAndV, TOrV, TNotV, TIf, TChain, TChainB, TNoPart, TPart, TSl, TFld, TFldO, TCon, TNil, TCons, TTup, TLst, TCB, TM1, TFmt, TJs, TJoined, TNext, TSeq, TBreak, TCont, TNever, TRet, TRetN, TDrop, TIfS, L3.TSet, TAug, TPar, GName, GNil, GCons, GTup, TAsg, TIl, TIt, TIs, TIr1, TIr2, TIz, TFor, TOwn, TOwnL, TApp, TExt, TBor, TBorB, TFrz, TPutF, TYes, TLc, TLc2, TCall, TStar, TMake, TOpC, TParO1, TParO0, TPutJ, TBorN, TIenT, TOwnLc, TMaxd, TCallK, lenF, isiAF, isiF, isiTF, PySem.W.kitAny, inF, sumF, allF, anyF, tupleF, int1F, max2F, joinF, ixF, addF, mulF, tyOf, TyK, clsOf, clsOfs, wipeD, hideS, flatD, putD, and_assoc, neNilF, slF, isF, isntF, isND] using fin
        | [a, b], _, fin => simpa [TVar, TC, TOp, TTst, fI, TAnd, TOr, TNot, TAndV, TOrV, TNotV, TIf, TChain, TChainB, TNoPart, TPart, TSl, TFld, TFldO, TCon, TNil, TCons, TTup, TLst, TCB, TM1, TFmt, TJs, TJoined, TNext, TSeq, TBreak, TCont, TNever, TRet, TRetN, TDrop, TIfS, L3.TSet, TAug, TPar, GName, GNil, GCons, GTup, TAsg, TIl, TIt, TIs, TIr1, TIr2, TIz, TFor, TOwn, TOwnL, TApp, TExt, TBor, TBorB, TFrz, TPutF, TYes, TLc, TLc2, TCall, TStar, TMake, TOpC, TParO1, TParO0, TPutJ, TBorN, TIenT, TOwnLc, TMaxd, TCallK, lenF, isiAF, isiF, isiTF, PySem.W.kitAny, inF, sumF, allF, anyF, tupleF, int1F, max2F, joinF, ixF, addF, mulF, tyOf, TyK, clsOf, clsOfs, wipeD, hideS, flatD, putD, and_assoc, neNilF, slF, isF, isntF, isND] using fin
        | [a, b, c], _, fin => simpa [TVar, TC, TOp, TTst, fI, TAnd, TOr, TNot, TAndV, TOrV, TNotV, TIf, TChain, TChainB, TNoPart, TPart, TSl, TFld, TFldO, TCon, TNil, TCons, TTup, TLst, TCB, TM1, TFmt, TJs, TJoined, TNext, TSeq, TBreak, TCont, TNever, TRet, TRetN, TDrop, TIfS, L3.TSet, TAug, TPar, GName, GNil, GCons, GTup, TAsg, TIl, TIt, TIs, TIr1, TIr2, TIz, TFor, TOwn, TOwnL, TApp, TExt, TBor, TBorB, TFrz, TPutF, TYes, TLc, TLc2, TCall, TStar, TMake, TOpC, TParO1, TParO0, TPutJ, TBorN, TIenT, TOwnLc, TMaxd, TCallK, lenF, isiAF, isiF, isiTF, PySem.W.kitAny, inF, sumF, allF, anyF, tupleF, int1F, max2F, joinF, ixF, addF, mulF, tyOf, TyK, clsOf, clsOfs, wipeD, hideS, flatD, putD, and_assoc, neNilF, slF, isF, isntF, isND] using fin
        | _ :: _ :: _ :: _ :: _, h2, _ => simp at h2
theorem ok_compare_trees {P : Program} {w : World} {K : PySem.W.Frag} {mg : Str → Option Value} {base : Heap} (tx : Tx K mg) : Fn3 P w K mg base 1 (He.ga K "compare_trees") (F_compare (He.ga K "Tree")) := by
  obtain ⟨fd, FD⟩ := tx.fd_compare_trees
  refine fn3 FD sc_compare_trees (FD.bindsN fun _ _ _ _ _ _ us hl => match us, hl with | [_, _], _ => rfl) ?hn (fun cdv A outer s H E hr => (dss_one (ds_ret (de_sub (de_callTy call_int1 cd_int1 rfl tx.no_int (by decide +kernel) (da_cons (de_cmp (op_gtD hr.units) opd_gtD (de_fldK (K := K) (dv 0)) (de_fldK (K := K) (dv 1)) (nomark _)) da_nil)) (de_callTy call_int1 cd_int1 rfl tx.no_int (by decide +kernel) (da_cons (de_cmp (op_ltD hr.units) opd_ltD (de_fldK (K := K) (dv 0)) (de_fldK (K := K) (dv 1)) (nomark _)) da_nil)))))) ?hT
  case hn =>
    rintro wd ds φ ε ⟨a, b, rfl, _⟩
    rfl
  case hT =>
    rintro wd ds φ ε ⟨a, b, rfl, ha, hb, q⟩
    have t7 : AtK K (He.ga K "Tree") "key" := ⟨tx.cl_Tree, tx.na_Tree_key⟩
    show TRet _ _ _ [.v (trD (He.ga K "Tree") a), .v (trD (He.ga K "Tree") b)]
    obtain ⟨p1, d1⟩ := key_p a
    obtain ⟨p2, d2⟩ := key_p b
    have q1 : (toP a.key).depth ≤ 63 := by omega
    simp [TVar, TC, TOp, TTst, fI, TAnd, TOr, TNot, TAndV, TOrV, TNotV, TIf, TChain, TChainB, TNoPart, TPart, TSl, TFld, TFldO, TCon, TNil, TCons, TTup, TLst, TCB, TM1, TFmt, TJs, TJoined, TNext, TSeq, TBreak, TCont, TNever, TRet, TRetN, TDrop, TIfS, L3.TSet, TAug, TPar, GName, GNil, GCons, GTup, TAsg, TIl, TIt, TIs, TIr1, TIr2, TIz, TFor, TOwn, TOwnL, TApp, TExt, TBor, TBorB, TFrz, TPutF, TYes, TLc, TLc2, TCall, TStar, TMake, TOpC, TParO1, TParO0, TPutJ, TBorN, TIenT, TOwnLc, TMaxd, TCallK, lenF, isiAF, isiF, isiTF, PySem.W.kitAny, inF, sumF, allF, anyF, tupleF, int1F, max2F, joinF, ixF, addF, mulF, tyOf, TyK, clsOf, clsOfs, wipeD, hideS, flatD, putD, and_assoc, neNilF, slF, isF, isntF, isND, trD_ins, t7, fld_key, gtDF, ltDF, p1, p2, key_alike, trD_key_ne, q1]
    exact q
theorem oko_compare_trees {P : Program} {w : World} {K : PySem.W.Frag} {mg : Str → Option Value} {base : Heap} (tx : Tx K mg) : ∃ fd, Fn3O P w K mg base 1 (He.ga K "compare_trees") fd ["one", "other"] (F_compare (He.ga K "Tree")) ∧ KwB K fd ["one", "other"] 0 ["other", "one"] [1, 0] := by
  obtain ⟨fd, FD⟩ := tx.fd_compare_trees
  refine ⟨fd, fn3O FD sc_compare_trees ?hn (fun cdv A outer s H E hr => (dss_one (ds_ret (de_sub (de_callTy call_int1 cd_int1 rfl tx.no_int (by decide +kernel) (da_cons (de_cmp (op_gtD hr.units) opd_gtD (de_fldK (K := K) (dv 0)) (de_fldK (K := K) (dv 1)) (nomark _)) da_nil)) (de_callTy call_int1 cd_int1 rfl tx.no_int (by decide +kernel) (da_cons (de_cmp (op_ltD hr.units) opd_ltD (de_fldK (K := K) (dv 0)) (de_fldK (K := K) (dv 1)) (nomark _)) da_nil)))))) ?hT, kwB_of FD fun _ _ _ _ _ _ us ws h1 h2 => match us, h1, ws, h2 with | [], _, [_, _], _ => rfl⟩
  case hn =>
    rintro wd ds φ ε ⟨a, b, rfl, _⟩
    rfl
  case hT =>
    rintro wd ds φ ε ⟨a, b, rfl, ha, hb, q⟩
    have t7 : AtK K (He.ga K "Tree") "key" := ⟨tx.cl_Tree, tx.na_Tree_key⟩
    show TRet _ _ _ [.v (trD (He.ga K "Tree") a), .v (trD (He.ga K "Tree") b)]
    obtain ⟨p1, d1⟩ := key_p a
    obtain ⟨p2, d2⟩ := key_p b
    have q1 : (toP a.key).depth ≤ 63 := by omega
    simp [TVar, TC, TOp, TTst, fI, TAnd, TOr, TNot, TAndV, TOrV, TNotV, TIf, TChain, TChainB, TNoPart, TPart, TSl, TFld, TFldO, TCon, TNil, TCons, TTup, TLst, TCB, TM1, TFmt, TJs, TJoined, TNext, TSeq, TBreak, TCont, TNever, TRet, TRetN, TDrop, TIfS, L3.TSet, TAug, TPar, GName, GNil, GCons, GTup, TAsg, TIl, TIt, TIs, TIr1, TIr2, TIz, TFor, TOwn, TOwnL, TApp, TExt, TBor, TBorB, TFrz, TPutF, TYes, TLc, TLc2, TCall, TStar, TMake, TOpC, TParO1, TParO0, TPutJ, TBorN, TIenT, TOwnLc, TMaxd, TCallK, lenF, isiAF, isiF, isiTF, PySem.W.kitAny, inF, sumF, allF, anyF, tupleF, int1F, max2F, joinF, ixF, addF, mulF, tyOf, TyK, clsOf, clsOfs, wipeD, hideS, flatD, putD, and_assoc, neNilF, slF, isF, isntF, isND, trD_ins, t7, fld_key, gtDF, ltDF, p1, p2, key_alike, trD_key_ne, q1]
    exact q
theorem ok_key {P : Program} {w : World} {K : PySem.W.Frag} {mg : Str → Option Value} {base : Heap} (tx : Tx K mg) : ∀ n : Nat, Fn3 P w K mg base (50 + n) (He.ga K "_law_key") (F_key n)
  | 0 => fn_false (fun _ _ _ _ ⟨t, _, _, h, _⟩ => by have := dep_pos t; omega)
  | n + 1 => by
    obtain ⟨fd, FD⟩ := tx.fd_law_key
    have g_law_key : Fn3 P w K mg base (50 + n) (He.ga K "_law_key") (F_key n) := ok_key tx n
    have g_law_size := ok_size (P := P) (w := w) (base := base) tx 40
    refine fn3 (k := 50 + n) FD sc_law_key (FD.bindsN fun _ _ _ _ _ _ us hl => match us, hl with | [_], _ => rfl) ?hn (fun cdv A outer s H E hr => (dss_one (ds_ret (de_tup (da_cons (de_call g_law_size (hr.mono (by omega)) rfl tx.mg_law_size tx.kp_law_size tk3 (da_cons (dv 0) da_nil)) (da_cons (de_ix (dv 0) de_int) (da_cons (de_len rfl tx.no_len (da_cons (de_ix (dv 0) de_int) da_nil)) (da_cons (de_callTy call_tuple_of cd_tuple rfl tx.no_tuple (by decide +kernel) (da_cons (de_lc (own := [("_law_kid", 1)]) rfl sc_law_key.nd (di_tup (de_ix (dv 0) de_int)) (blkOk_by (own := [("_law_kid", 1)]) (N := N_law_key) (sc := defScope s_law_key) (by decide +kernel)) (fun _ _ _ _ _ => (dg_name (i := 1) sc_law_key.nd rfl (Or.inl rfl))) (fun _ _ _ _ _ => dts_nil) (fun _ _ _ _ _ => (de_call g_law_key (hr.mono (by omega)) rfl tx.mg_law_key tx.kp_law_key takesN (da_cons (dv 1) da_nil)))) da_nil)) da_nil)))))))) ?hT
    case hn =>
      rintro wd ds φ ε ⟨t, rfl, _⟩
      rfl
    case hT =>
      rintro wd ds φ ε ⟨⟨s, ks⟩, rfl, ⟨h1, h2, h3⟩, hd, hd2, q⟩
      have hok : (Tr.nd s ks).ok := ⟨h1, h2, h3⟩
      show TRet _ _ _ [.v (mD (.nd s ks)), .no]
      have hL : sizeLine = 16777216 := sizeLine_eq
      have hB : big = 1000000 := rfl
      have hks := oks_iff.mp h3
      have hdd : deps ks ≤ n := by
        have : 1 + deps ks ≤ n + 1 := hd
        omega
      have e0 := mD_nd s ks
      simp [TVar, TC, TOp, TTst, fI, TAnd, TOr, TNot, TAndV, TOrV, TNotV, TIf, TChain, TChainB, TNoPart, TPart, TSl, TFld, TFldO, TCon, TNil, TCons, TTup, TLst, TCB, TM1, TFmt, TJs, TJoined, TNext, TSeq, TBreak, TCont, TNever, TRet, TRetN, TDrop, TIfS, L3.TSet, TAug, TPar, GName, GNil, GCons, GTup, TAsg, TIl, TIt, TIs, TIr1, TIr2, TIz, TFor, TOwn, TOwnL, TApp, TExt, TBor, TBorB, TFrz, TPutF, TYes, TLc, TLc2, TCall, TStar, TMake, TOpC, TParO1, TParO0, TPutJ, TBorN, TIenT, TOwnLc, TMaxd, TCallK, lenF, isiAF, isiF, isiTF, PySem.W.kitAny, inF, sumF, allF, anyF, tupleF, int1F, max2F, joinF, ixF, addF, mulF, tyOf, TyK, clsOf, clsOfs, wipeD, hideS, flatD, putD, and_assoc, neNilF, slF, isF, isntF, isND, e0]
      refine ⟨.nd s ks, by rw [e0], hok, hd2, ?_⟩
      refine compD_map (enc := mD) (f := Tr.key) ks [] (fun t ht acc ψ hl q => ?_) (by show 0 + _ ≤ _; omega) ?_
      · simp [TVar, TC, TOp, TTst, fI, TAnd, TOr, TNot, TAndV, TOrV, TNotV, TIf, TChain, TChainB, TNoPart, TPart, TSl, TFld, TFldO, TCon, TNil, TCons, TTup, TLst, TCB, TM1, TFmt, TJs, TJoined, TNext, TSeq, TBreak, TCont, TNever, TRet, TRetN, TDrop, TIfS, L3.TSet, TAug, TPar, GName, GNil, GCons, GTup, TAsg, TIl, TIt, TIs, TIr1, TIr2, TIz, TFor, TOwn, TOwnL, TApp, TExt, TBor, TBorB, TFrz, TPutF, TYes, TLc, TLc2, TCall, TStar, TMake, TOpC, TParO1, TParO0, TPutJ, TBorN, TIenT, TOwnLc, TMaxd, TCallK, lenF, isiAF, isiF, isiTF, PySem.W.kitAny, inF, sumF, allF, anyF, tupleF, int1F, max2F, joinF, ixF, addF, mulF, tyOf, TyK, clsOf, clsOfs, wipeD, hideS, flatD, putD, and_assoc, neNilF, slF, isF, isntF, isND]
        exact ⟨t, rfl, hks t ht, Nat.le_trans (deps_le ht) hdd, by have := deps_le ht; have h4 : 1 + deps ks ≤ 40 := hd2; omega, hl, q⟩
      · rw [List.nil_append, ← keys_eq]
        exact q
theorem ok_places {P : Program} {w : World} {K : PySem.W.Frag} {mg : Str → Option Value} {base : Heap} (tx : Tx K mg) : ∀ n : Nat, Fn3 P w K mg base (1 + n) (He.ga K "_law_places") (F_places n)
  | 0 => fn_false (fun _ _ _ _ ⟨t, _, h, _⟩ => by have := dep_pos t; omega)
  | n + 1 => by
    obtain ⟨fd, FD⟩ := tx.fd_law_places
    have g_law_places : Fn3 P w K mg base (1 + n) (He.ga K "_law_places") (F_places n) := ok_places tx n
    refine fn3 (k := 1 + n) FD sc_law_places (FD.bindsN fun _ _ _ _ _ _ us hl => match us, hl with | [_], _ => rfl) ?hn (fun cdv A outer s H E hr => (dss_cons (ds_set (i := 1) sc_law_places.nd rfl (Or.inl rfl) (de_lst (da_cons (de_tup (da_cons (de_tup da_nil) (da_cons (dv 0) da_nil))) da_nil)))
    (dss_cons (ds_for (vs := [2, 3]) ps3 rfl (di_enumT rfl tx.no_enumerate (da_cons (de_ix (dv 0) de_int) da_nil)) (dg_tup (n := 2) rfl (dgs_cons (dg_name (i := 2) sc_law_places.nd rfl (Or.inr rfl)) (dgs_cons (dg_name (i := 3) sc_law_places.nd rfl (Or.inl rfl)) dgs_nil)))
     (dss_one (ds_set (i := 1) sc_law_places.nd rfl (Or.inl rfl) (de_add (dv 1) (de_lc (own := [("_law_path", 4), ("_law_piece", 5)]) rfl sc_law_places.nd (di_list (de_call g_law_places (hr.mono (by omega)) rfl tx.mg_law_places tx.kp_law_places tk3 (da_cons (dv 3) da_nil))) (blkOk_by (own := [("_law_path", 4), ("_law_piece", 5)]) (N := N_law_places) (sc := defScope s_law_places) (by decide +kernel)) (fun _ _ _ _ _ => (dg_tup (n := 2) rfl (dgs_cons (dg_name (i := 4) sc_law_places.nd rfl (Or.inl rfl)) (dgs_cons (dg_name (i := 5) sc_law_places.nd rfl (Or.inl rfl)) dgs_nil)))) (fun _ _ _ _ _ => dts_nil) (fun _ _ _ _ _ => (de_tup (da_cons (de_add (de_tup (da_cons (dv 2) da_nil)) (dv 4)) (da_cons (dv 5) da_nil)))))))))
    (dss_one (ds_ret (dv 1)))))) ?hT
    case hn =>
      rintro wd ds φ ε ⟨t, rfl, _⟩
      rfl
    case hT =>
      rintro wd ds φ ε ⟨⟨s, ks⟩, rfl, hd, hz, q⟩
      show TSeq _ _ _ _ [.v (mD (.nd s ks)), .no, .no, .no, .no, .no]
      have hL : sizeLine = 16777216 := sizeLine_eq
      have hdd : deps ks ≤ n := by
        have : 1 + deps ks ≤ n + 1 := hd
        omega
      have hzz : 1 + sizs ks ≤ 1000 := hz
      have e0 := mD_nd s ks
      simp [TVar, TC, TOp, TTst, fI, TAnd, TOr, TNot, TAndV, TOrV, TNotV, TIf, TChain, TChainB, TNoPart, TPart, TSl, TFld, TFldO, TCon, TNil, TCons, TTup, TLst, TCB, TM1, TFmt, TJs, TJoined, TNext, TSeq, TBreak, TCont, TNever, TRet, TRetN, TDrop, TIfS, L3.TSet, TAug, TPar, GName, GNil, GCons, GTup, TAsg, TIl, TIt, TIs, TIr1, TIr2, TIz, TFor, TOwn, TOwnL, TApp, TExt, TBor, TBorB, TFrz, TPutF, TYes, TLc, TLc2, TCall, TStar, TMake, TOpC, TParO1, TParO0, TPutJ, TBorN, TIenT, TOwnLc, TMaxd, TCallK, lenF, isiAF, isiF, isiTF, PySem.W.kitAny, inF, sumF, allF, anyF, tupleF, int1F, max2F, joinF, ixF, addF, mulF, tyOf, TyK, clsOf, clsOfs, wipeD, hideS, flatD, putD, and_assoc, neNilF, slF, isF, isntF, isND, e0]
      rw [enum_map]
      refine forD_of (enc := enD) (fun xs env => ∃ (i : Nat) (todo : List Tr) (found : List (List Nat × Tr)) (s2 s3 : Sl), xs = enumT i todo ∧ (∀ t ∈ todo, t ∈ ks) ∧ found ++ plcs i todo = plc (.nd s ks) ∧ env = [.v (.tup [.str (mks s), .tup (ks.map mD)]), .v (.lst (found.map plD)), s2, s3, .no, .no]) _ _
        ⟨0, ks, [([], .nd s ks)], .no, .no, rfl, fun _ h => h, rfl, by rw [← e0]; rfl⟩ ?_ ?_
      · rintro x rest env D2 - hnx - - ⟨i, todo, found, s2, s3, hx, hm, hf, rfl⟩
        cases todo with
        | nil => cases hx
        | cons t r =>
          injection hx with e1 e2
          subst e1 e2
          have ht := hm t List.mem_cons_self
          have htd := deps_le ht
          have hts := sizs_le ht
          have hfl : found.length + (plcs i (t :: r)).length = (Tr.nd s ks).siz := by rw [← List.length_append, hf, plc_len]
          have hfl2 : (Tr.nd s ks).siz = 1 + sizs ks := rfl
          have hpl : (plcs i (t :: r)).length = t.siz + sizs r := plcs_len
          simp [TVar, TC, TOp, TTst, fI, TAnd, TOr, TNot, TAndV, TOrV, TNotV, TIf, TChain, TChainB, TNoPart, TPart, TSl, TFld, TFldO, TCon, TNil, TCons, TTup, TLst, TCB, TM1, TFmt, TJs, TJoined, TNext, TSeq, TBreak, TCont, TNever, TRet, TRetN, TDrop, TIfS, L3.TSet, TAug, TPar, GName, GNil, GCons, GTup, TAsg, TIl, TIt, TIs, TIr1, TIr2, TIz, TFor, TOwn, TOwnL, TApp, TExt, TBor, TBorB, TFrz, TPutF, TYes, TLc, TLc2, TCall, TStar, TMake, TOpC, TParO1, TParO0, TPutJ, TBorN, TIenT, TOwnLc, TMaxd, TCallK, lenF, isiAF, isiF, isiTF, PySem.W.kitAny, inF, sumF, allF, anyF, tupleF, int1F, max2F, joinF, ixF, addF, mulF, tyOf, TyK, clsOf, clsOfs, wipeD, hideS, flatD, putD, and_assoc, neNilF, slF, isF, isntF, isND, enD]
          refine ⟨t, rfl, by omega, by omega, _, rfl, ?_⟩
          refine compD_map (enc := plD) (f := fun x => plD (i :: x.1, x.2)) (plc t) [] (fun x hx acc ψ hl q => ?_) (by show 0 + _ ≤ _; rw [plc_len]; omega) ?_
          · have hxl := plc_pl hx
            have hds := dep_siz t
            simp [TVar, TC, TOp, TTst, fI, TAnd, TOr, TNot, TAndV, TOrV, TNotV, TIf, TChain, TChainB, TNoPart, TPart, TSl, TFld, TFldO, TCon, TNil, TCons, TTup, TLst, TCB, TM1, TFmt, TJs, TJoined, TNext, TSeq, TBreak, TCont, TNever, TRet, TRetN, TDrop, TIfS, L3.TSet, TAug, TPar, GName, GNil, GCons, GTup, TAsg, TIl, TIt, TIs, TIr1, TIr2, TIz, TFor, TOwn, TOwnL, TApp, TExt, TBor, TBorB, TFrz, TPutF, TYes, TLc, TLc2, TCall, TStar, TMake, TOpC, TParO1, TParO0, TPutJ, TBorN, TIenT, TOwnLc, TMaxd, TCallK, lenF, isiAF, isiF, isiTF, PySem.W.kitAny, inF, sumF, allF, anyF, tupleF, int1F, max2F, joinF, ixF, addF, mulF, tyOf, TyK, clsOf, clsOfs, wipeD, hideS, flatD, putD, and_assoc, neNilF, slF, isF, isntF, isND, plD, pathD]
            exact ⟨by omega, hl, q⟩
          · simp [TVar, TC, TOp, TTst, fI, TAnd, TOr, TNot, TAndV, TOrV, TNotV, TIf, TChain, TChainB, TNoPart, TPart, TSl, TFld, TFldO, TCon, TNil, TCons, TTup, TLst, TCB, TM1, TFmt, TJs, TJoined, TNext, TSeq, TBreak, TCont, TNever, TRet, TRetN, TDrop, TIfS, L3.TSet, TAug, TPar, GName, GNil, GCons, GTup, TAsg, TIl, TIt, TIs, TIr1, TIr2, TIz, TFor, TOwn, TOwnL, TApp, TExt, TBor, TBorB, TFrz, TPutF, TYes, TLc, TLc2, TCall, TStar, TMake, TOpC, TParO1, TParO0, TPutJ, TBorN, TIenT, TOwnLc, TMaxd, TCallK, lenF, isiAF, isiF, isiTF, PySem.W.kitAny, inF, sumF, allF, anyF, tupleF, int1F, max2F, joinF, ixF, addF, mulF, tyOf, TyK, clsOf, clsOfs, wipeD, hideS, flatD, putD, and_assoc, neNilF, slF, isF, isntF, isND, plc_len]
            refine ⟨by omega, hnx _ ⟨i + 1, r, found ++ (plc t).map (fun x => (i :: x.1, x.2)), .v (.int (i : Nat)), .v (mD t), rfl, fun t ht => hm t (List.mem_cons_of_mem _ ht), ?_, ?_⟩⟩
            · rw [← hf]
              show _ = found ++ ((plc t).map (fun x => (i :: x.1, x.2)) ++ plcs (i + 1) r)
              rw [List.append_assoc]
            · rw [List.map_append, List.map_map]
              rfl
      · rintro env ⟨i, todo, found, s2, s3, hx, hm, hf, rfl⟩
        have : todo = [] := by
          cases todo with
          | nil => rfl
          | cons t r => cases hx
        subst this
        have hf2 : found = plc (.nd s ks) := by rw [← hf]; exact (List.append_nil _).symm
        rw [hf2]
        simp [TVar, TC, TOp, TTst, fI, TAnd, TOr, TNot, TAndV, TOrV, TNotV, TIf, TChain, TChainB, TNoPart, TPart, TSl, TFld, TFldO, TCon, TNil, TCons, TTup, TLst, TCB, TM1, TFmt, TJs, TJoined, TNext, TSeq, TBreak, TCont, TNever, TRet, TRetN, TDrop, TIfS, L3.TSet, TAug, TPar, GName, GNil, GCons, GTup, TAsg, TIl, TIt, TIs, TIr1, TIr2, TIz, TFor, TOwn, TOwnL, TApp, TExt, TBor, TBorB, TFrz, TPutF, TYes, TLc, TLc2, TCall, TStar, TMake, TOpC, TParO1, TParO0, TPutJ, TBorN, TIenT, TOwnLc, TMaxd, TCallK, lenF, isiAF, isiF, isiTF, PySem.W.kitAny, inF, sumF, allF, anyF, tupleF, int1F, max2F, joinF, ixF, addF, mulF, tyOf, TyK, clsOf, clsOfs, wipeD, hideS, flatD, putD, and_assoc, neNilF, slF, isF, isntF, isND]
        exact q
theorem ok_put {P : Program} {w : World} {K : PySem.W.Frag} {mg : Str → Option Value} {base : Heap} (tx : Tx K mg) : ∀ n : Nat, Fn3 P w K mg base (1 + n) (He.ga K "_law_put") (F_put n)
  | 0 => fn_false (fun _ _ _ _ ⟨_, _, _, _, _, _, h, _⟩ => by omega)
  | n + 1 => by
    obtain ⟨fd, FD⟩ := tx.fd_law_put
    have g_law_put : Fn3 P w K mg base (1 + n) (He.ga K "_law_put") (F_put n) := ok_put tx n
    refine fn3 (k := 1 + n) FD sc_law_put (FD.bindsN fun _ _ _ _ _ _ us hl => match us, hl with | [_, _, _], _ => rfl) ?hn (fun cdv A outer s H E hr => (dss_cons (ds_if (dt_cmp (op_eqD hr.units) opd_eq (dv 1) (de_tup da_nil) (nomark _))
     (dss_one (ds_ret (dv 2)))
     dss_nil)
    (dss_cons (ds_ownList (i := 3) sc_law_put.nd rfl (Or.inl rfl) rfl tx.no_list (by decide +kernel) (de_ix (dv 0) de_int))
    (dss_cons (ds_putI 3 (de_borN 3 (de_call g_law_put (hr.mono (by omega)) rfl tx.mg_law_put tx.kp_law_put tk3 (da_cons (de_ix (dv 3) (de_ix (dv 1) de_int)) (da_cons (de_slice (dv 1) (do_some de_int) do_none) (da_cons (dv 2) da_nil))))) (de_ix (dv 1) de_int))
    (dss_frz 3 (dss_one (ds_ret (de_tup (da_cons (de_ix (dv 0) de_int) (da_cons (de_callTy call_tuple_of cd_tuple rfl tx.no_tuple (by decide +kernel) (da_cons (dv 3) da_nil)) da_nil)))))))))) ?hT
    case hn =>
      rintro wd ds φ ε ⟨t, p, u, v, rfl, _⟩
      rfl
    case hT =>
      rintro wd ds φ ε ⟨t, p, u, v, rfl, hat, hp, hp2, q⟩
      show TSeq _ _ _ _ [.v (mD t), .v (pathD p), .v (mD u), .no]
      have hL : sizeLine = 16777216 := sizeLine_eq
      simp [TVar, TC, TOp, TTst, fI, TAnd, TOr, TNot, TAndV, TOrV, TNotV, TIf, TChain, TChainB, TNoPart, TPart, TSl, TFld, TFldO, TCon, TNil, TCons, TTup, TLst, TCB, TM1, TFmt, TJs, TJoined, TNext, TSeq, TBreak, TCont, TNever, TRet, TRetN, TDrop, TIfS, L3.TSet, TAug, TPar, GName, GNil, GCons, GTup, TAsg, TIl, TIt, TIs, TIr1, TIr2, TIz, TFor, TOwn, TOwnL, TApp, TExt, TBor, TBorB, TFrz, TPutF, TYes, TLc, TLc2, TCall, TStar, TMake, TOpC, TParO1, TParO0, TPutJ, TBorN, TIenT, TOwnLc, TMaxd, TCallK, lenF, isiAF, isiF, isiTF, PySem.W.kitAny, inF, sumF, allF, anyF, tupleF, int1F, max2F, joinF, ixF, addF, mulF, tyOf, TyK, clsOf, clsOfs, wipeD, hideS, flatD, putD, and_assoc, neNilF, slF, isF, isntF, isND, eq_path]
      cases p with
      | nil => simpa [putT] using q
      | cons i p =>
        obtain ⟨s, ks⟩ := t
        obtain ⟨k, hk, hat⟩ := hat
        have hi : i < ks.length := (List.getElem?_eq_some_iff.mp hk).1
        have e0 := mD_nd s ks
        have hp' : p.length < n := by
          have : p.length + 1 < n + 1 := hp
          omega
        have hp3 : p.length + 1 ≤ 1000 := hp2
        have ek : (ks.map mD)[i]? = some (mD k) := by rw [List.getElem?_map, hk]; rfl
        have ek2 : atI (ks.map mD) (i : Int) = some (mD k) := by rw [L3.atI_nat (by rw [List.length_map]; exact hi)]; exact ek
        have ix : ixN ks.length (i : Int) = some i := by
          unfold ixN
          rw [if_pos (by omega), if_pos (by omega)]
          rfl
        simp [TVar, TC, TOp, TTst, fI, TAnd, TOr, TNot, TAndV, TOrV, TNotV, TIf, TChain, TChainB, TNoPart, TPart, TSl, TFld, TFldO, TCon, TNil, TCons, TTup, TLst, TCB, TM1, TFmt, TJs, TJoined, TNext, TSeq, TBreak, TCont, TNever, TRet, TRetN, TDrop, TIfS, L3.TSet, TAug, TPar, GName, GNil, GCons, GTup, TAsg, TIl, TIt, TIs, TIr1, TIr2, TIz, TFor, TOwn, TOwnL, TApp, TExt, TBor, TBorB, TFrz, TPutF, TYes, TLc, TLc2, TCall, TStar, TMake, TOpC, TParO1, TParO0, TPutJ, TBorN, TIenT, TOwnLc, TMaxd, TCallK, lenF, isiAF, isiF, isiTF, PySem.W.kitAny, inF, sumF, allF, anyF, tupleF, int1F, max2F, joinF, ixF, addF, mulF, tyOf, TyK, clsOf, clsOfs, wipeD, hideS, flatD, putD, and_assoc, neNilF, slF, isF, isntF, isND, e0, pathD, cut1, ek2, ix]
        refine ⟨k, p, u, v, rfl, hat, hp', by omega, noL_mD _, ?_⟩
        rw [putT_step hk, mD_nd, List.map_set] at q
        exact q
end K5
namespace K5
open PySem PySem.Spec PyProof.Rows L2 L3

def sgL : List (List Nat × Nat) := [([97], 0), ([98], 0), ([99], 0), ([102], 1), ([103], 2), ([102], 2), ([104], 3)]
def sgD (p : List Nat × Nat) : D := .tup [.str (mks p.1), .int (p.2 : Nat)]
def F_signs : TF := fun _ ds φ _ => ds = [] ∧ φ (.lst (sgL.map sgD))
structure SgOk (sg : List (List Nat × Nat)) : Prop where
  all : ∀ p ∈ sg, isSg p.1 = true ∧ p.2 ≤ 3
  leaf : ∃ p ∈ sg, p.2 = 0
  len : sg.length ≤ 100
theorem sgL_ok : SgOk sgL := ⟨by decide +kernel, ⟨([97], 0), by decide, rfl⟩, by decide⟩
def sgM : List (List Nat × Nat) := [([97], 0), ([97, 97], 0), ([97, 98], 0), ([98], 0), ([102], 1), ([102, 97], 1), ([102], 2), ([103], 2), ([102, 97], 3)]
theorem sgM_ok : SgOk sgM := ⟨by decide +kernel, ⟨([97], 0), by decide, rfl⟩, by decide⟩
theorem oks_app : ∀ {a b : List Tr}, oks a → oks b → oks (a ++ b)
  | [], _, _, h => h
  | _ :: _, _, h, h2 => ⟨h.1, oks_app h.2 h2⟩
def F_drawn : Nat → TF
  | 0 => fun _ _ _ _ => False
  | n + 1 => fun wd ds φ _ => ∃ (h c : Addr) (cells : List Int) (room : Int) (sg : List (List Nat × Nat)), wd = hw h c cells ∧ ds = [.ref h, .lst (sg.map sgD), .int room] ∧ SgOk sg ∧ 1 ≤ room ∧ room ≤ (n + 1 : Nat) ∧ room ≤ 30 ∧ ∀ t : Tr, t.ok → (t.siz : Int) ≤ room → φ (mD t)
theorem ok_law_signs {P : Program} {w : World} {K : PySem.W.Frag} {mg : Str → Option Value} {base : Heap} (tx : Tx K mg) : Fn3 P w K mg base 1 (He.ga K "_law_signs") F_signs := by
  obtain ⟨fd, FD⟩ := tx.fd_law_signs
  refine fn3 FD sc_law_signs (FD.bindsN fun _ _ _ _ _ _ us hl => match us, hl with | [], _ => rfl) ?hn (fun cdv A outer s H E hr => (dss_one (ds_ret (de_lst (da_cons (de_tup (da_cons de_str (da_cons de_int da_nil))) (da_cons (de_tup (da_cons de_str (da_cons de_int da_nil))) (da_cons (de_tup (da_cons de_str (da_cons de_int da_nil))) (da_cons (de_tup (da_cons de_str (da_cons de_int da_nil))) (da_cons (de_tup (da_cons de_str (da_cons de_int da_nil))) (da_cons (de_tup (da_cons de_str (da_cons de_int da_nil))) (da_cons (de_tup (da_cons de_str (da_cons de_int da_nil))) da_nil))))))))))) ?hT
  case hn =>
    rintro wd ds φ ε ⟨rfl, _⟩
    rfl
  case hT =>
    rintro wd ds φ ε ⟨rfl, q⟩
    show TRet _ _ _ []
    simp [TVar, TC, TOp, TTst, fI, TAnd, TOr, TNot, TAndV, TOrV, TNotV, TIf, TChain, TChainB, TNoPart, TPart, TSl, TFld, TFldO, TCon, TNil, TCons, TTup, TLst, TCB, TM1, TFmt, TJs, TJoined, TNext, TSeq, TBreak, TCont, TNever, TRet, TRetN, TDrop, TIfS, L3.TSet, TAug, TPar, GName, GNil, GCons, GTup, TAsg, TIl, TIt, TIs, TIr1, TIr2, TIz, TFor, TOwn, TOwnL, TApp, TExt, TBor, TBorB, TFrz, TPutF, TYes, TLc, TLc2, TCall, TStar, TMake, TOpC, TParO1, TParO0, TPutJ, TBorN, TIenT, TOwnLc, TMaxd, TCallK, lenF, isiAF, isiF, isiTF, PySem.W.kitAny, inF, sumF, allF, anyF, tupleF, int1F, max2F, joinF, ixF, addF, mulF, tyOf, TyK, clsOf, clsOfs, wipeD, hideS, flatD, putD, and_assoc, neNilF, slF, isF, isntF, isND]
    have e : sgL.map sgD = [D.tup [.str "a", .int 0], .tup [.str "b", .int 0], .tup [.str "c", .int 0], .tup [.str "f", .int 1], .tup [.str "g", .int 2], .tup [.str "f", .int 2], .tup [.str "h", .int 3]] := by
      have ea : (Str.ofString "a") = mks [97] := by decide +kernel
      have eb : (Str.ofString "b") = mks [98] := by decide +kernel
      have ec : (Str.ofString "c") = mks [99] := by decide +kernel
      have ef : (Str.ofString "f") = mks [102] := by decide +kernel
      have eg : (Str.ofString "g") = mks [103] := by decide +kernel
      have eh : (Str.ofString "h") = mks [104] := by decide +kernel
      rw [ea, eb, ec, ef, eg, eh]
      rfl
    rw [e] at q
    exact q
theorem ok_drawn {P : Program} {w : World} {K : PySem.W.Frag} {mg : Str → Option Value} {base : Heap} (tx : Tx K mg) : ∀ n : Nat, Fn3 P w K mg base (50 + n) (He.ga K "_law_drawn") (F_drawn n)
  | 0 => fn_false fun _ _ _ _ h => h
  | n + 1 => by
    obtain ⟨fd, FD⟩ := tx.fd_law_drawn
    have g_law_drawn : Fn3 P w K mg base (50 + n) (He.ga K "_law_drawn") (F_drawn n) := ok_drawn tx n
    have g_law_pick := ok_pick (P := P) (w := w) (base := base) tx
    have g_law_of := ok_law_of (P := P) (w := w) (base := base) tx
    have g_law_size := ok_size (P := P) (w := w) (base := base) tx 40
    refine fn3 (k := 50 + n) FD sc_law_drawn (FD.bindsN fun _ _ _ _ _ _ us hl => match us, hl with | [_, _, _], _ => rfl) ?hn (fun cdv A outer s H E hr => (dss_cons (ds_setLc (i := 3) (own := [("_law_pair", 10)]) rfl sc_law_drawn.nd rfl rfl (sw_true rfl rfl rfl (by decide +kernel)) (di_list (dv 1)) (blkOk_by (own := [("_law_pair", 10)]) (N := N_law_drawn) (sc := defScope s_law_drawn) (by decide +kernel)) (fun _ _ _ _ _ => (dg_name (i := 10) sc_law_drawn.nd rfl (Or.inl rfl))) (fun _ _ _ _ _ => (dts_one (dt_bool (dw_or (dt_cmp op_lt opd_lt (de_ix (dv 10) de_int) (dv 2) (nomark _)) (dw_or1 (dt_cmp (op_eqD hr.units) opd_eq (de_ix (dv 10) de_int) de_int (nomark _))))))) (fun _ _ _ _ _ => (dv 10)))
    (dss_cons (ds_asg (vs := [4, 5]) (de_call g_law_of (hr.mono (by omega)) rfl tx.mg_law_of tx.kp_law_of tk3 (da_cons (dv 0) (da_cons (dv 3) da_nil))) (dg_tup (n := 2) rfl (dgs_cons (dg_name (i := 4) sc_law_drawn.nd rfl (Or.inl rfl)) (dgs_cons (dg_name (i := 5) sc_law_drawn.nd rfl (Or.inl rfl)) dgs_nil))))
    (dss_cons (ds_parOwn0 (i := 6) (j := 7) rfl sc_law_drawn.nd rfl rfl (by decide) rfl rfl (de_sub (dv 2) de_int))
    (dss_cons (ds_for (vs := [8]) ps3 rfl (di_range1 rfl tx.no_range (da_cons (dv 5) da_nil)) (dg_name (i := 8) sc_law_drawn.nd rfl (Or.inl rfl))
     (dss_cons (ds_set (i := 9) sc_law_drawn.nd rfl (Or.inl rfl) (de_call g_law_drawn (hr.mono (by omega)) rfl tx.mg_law_drawn tx.kp_law_drawn tk3 (da_cons (dv 0) (da_cons (dv 1) (da_cons (de_add de_int (de_call g_law_pick (hr.mono (by omega)) rfl tx.mg_law_pick tx.kp_law_pick tk3 (da_cons (dv 0) (da_cons (de_sub (dv 7) (de_sub (de_sub (dv 5) (dv 8)) de_int)) da_nil)))) da_nil)))))
    (dss_cons (ds_set (i := 7) sc_law_drawn.nd rfl (Or.inl rfl) (de_sub (dv 7) (de_call g_law_size (hr.mono (by omega)) rfl tx.mg_law_size tx.kp_law_size tk3 (da_cons (dv 9) da_nil))))
    (dss_one (ds_append 6 (dv 9))))))
    (dss_frz 6 (dss_one (ds_ret (de_tup (da_cons (dv 4) (da_cons (de_callTy call_tuple_of cd_tuple rfl tx.no_tuple (by decide +kernel) (da_cons (dv 6) da_nil)) da_nil))))))))))) ?hT
    case hn =>
      rintro wd ds φ ε ⟨h, c, cells, room, sg, rfl, rfl, _⟩
      rfl
    case hT =>
      rintro wd ds φ ε ⟨h, c, cells, room, sg, rfl, rfl, hsg, h1, h2, h30, q⟩
      show TSeq _ _ _ _ [.v (.ref h), .v (.lst (sg.map sgD)), .v (.int room), .no, .no, .no, .no, .no, .no, .no, .no]
      have hL : sizeLine = 16777216 := sizeLine_eq
      simp [TVar, TC, TOp, TTst, fI, TAnd, TOr, TNot, TAndV, TOrV, TNotV, TIf, TChain, TChainB, TNoPart, TPart, TSl, TFld, TFldO, TCon, TNil, TCons, TTup, TLst, TCB, TM1, TFmt, TJs, TJoined, TNext, TSeq, TBreak, TCont, TNever, TRet, TRetN, TDrop, TIfS, L3.TSet, TAug, TPar, GName, GNil, GCons, GTup, TAsg, TIl, TIt, TIs, TIr1, TIr2, TIz, TFor, TOwn, TOwnL, TApp, TExt, TBor, TBorB, TFrz, TPutF, TYes, TLc, TLc2, TCall, TStar, TMake, TOpC, TParO1, TParO0, TPutJ, TBorN, TIenT, TOwnLc, TMaxd, TCallK, lenF, isiAF, isiF, isiTF, PySem.W.kitAny, inF, sumF, allF, anyF, tupleF, int1F, max2F, joinF, ixF, addF, mulF, tyOf, TyK, clsOf, clsOfs, wipeD, hideS, flatD, putD, and_assoc, neNilF, slF, isF, isntF, isND]
      refine compD_fil (enc := sgD) (f := fun p => if (p.2 : Int) < room ∨ (p.2 : Int) = 0 then some (sgD p) else none) sg [] (fun p hp acc ψ hl q => ?_) (by have := hsg.len; show 0 + _ ≤ _; omega) ?_
      · unfold sgD at q ⊢
        simp [TVar, TC, TOp, TTst, fI, TAnd, TOr, TNot, TAndV, TOrV, TNotV, TIf, TChain, TChainB, TNoPart, TPart, TSl, TFld, TFldO, TCon, TNil, TCons, TTup, TLst, TCB, TM1, TFmt, TJs, TJoined, TNext, TSeq, TBreak, TCont, TNever, TRet, TRetN, TDrop, TIfS, L3.TSet, TAug, TPar, GName, GNil, GCons, GTup, TAsg, TIl, TIt, TIs, TIr1, TIr2, TIz, TFor, TOwn, TOwnL, TApp, TExt, TBor, TBorB, TFrz, TPutF, TYes, TLc, TLc2, TCall, TStar, TMake, TOpC, TParO1, TParO0, TPutJ, TBorN, TIenT, TOwnLc, TMaxd, TCallK, lenF, isiAF, isiF, isiTF, PySem.W.kitAny, inF, sumF, allF, anyF, tupleF, int1F, max2F, joinF, ixF, addF, mulF, tyOf, TyK, clsOf, clsOfs, wipeD, hideS, flatD, putD, and_assoc, neNilF, slF, isF, isntF, isND]
        by_cases ha : (p.2 : Int) < room
        · have q' : ψ (acc ++ [D.tup [D.str (mks p.1), D.int (p.2 : Nat)]]) := by simpa [ha] using q
          exact .inr ⟨ha, hl, q'⟩
        · by_cases hb : p.2 = 0
          · have q' : ψ (acc ++ [D.tup [D.str (mks p.1), D.int (p.2 : Nat)]]) := by simpa [hb] using q
            exact .inl ⟨by omega, .inr ⟨hb, hl, q'⟩⟩
          · have q' : ψ acc := by simpa [ha, hb] using q
            exact .inl ⟨by omega, .inl ⟨hb, q'⟩⟩
      rw [List.nil_append]
      refine ⟨h, c, cells, _, rfl, rfl, ?_, ?_, fun d hd => ?_⟩
      · intro e
        obtain ⟨p0, hp0, hz0⟩ := hsg.leaf
        have : sgD p0 ∈ sg.filterMap (fun p => if (p.2 : Int) < room ∨ (p.2 : Int) = 0 then some (sgD p) else none) := List.mem_filterMap.mpr ⟨p0, hp0, by rw [if_pos (.inr (by rw [hz0]; rfl))]⟩
        rw [e] at this
        cases this
      · have := List.length_filterMap_le (fun p : List Nat × Nat => if (p.2 : Int) < room ∨ (p.2 : Int) = 0 then some (sgD p) else none) sg
        have h7 := hsg.len
        omega
      obtain ⟨⟨s, N⟩, hp, e⟩ := List.mem_filterMap.mp hd
      have hc : (N : Int) < room ∨ (N : Int) = 0 := by
        by_cases hc : (N : Int) < room ∨ (N : Int) = 0
        · exact hc
        · rw [if_neg hc] at e
          cases e
      rw [if_pos hc] at e
      have ed : d = .tup [.str (mks s), .int (N : Nat)] := (Option.some.inj e).symm
      subst ed
      have hN := hsg.all _ hp
      have hN3 : N ≤ 3 := hN.2
      refine ⟨_, rfl, rfl, _, _, rfl, _, _, rfl, rfl, fun p => ⟨_, rfl, by omega, by omega, ?_⟩⟩
      rw [Int.toNat_natCast]
      refine forD_of (enc := fun i : Nat => D.int (i : Nat)) (fun xs env => ∃ (j : Nat) (ts : List Tr) (left : Int) (s3 s8 s9 : Sl), xs = List.range' j (N - j) ∧ j ≤ N ∧ ts.length = j ∧ oks ts ∧ left = room - 1 - (sizs ts : Nat) ∧ (N : Int) - j ≤ left ∧
        env = [.v (.ref h), .v (.lst (sg.map sgD)), .v (.int room), s3, .v (.str (mks s)), .v (.int (N : Nat)), .ol p (ts.map mD), .v (.int left), s8, s9, .no]) _ _
        ⟨0, [], room - 1, _, .no, .no, by rw [List.range_eq_range']; rfl, Nat.zero_le _, rfl, trivial, by show room - 1 = room - 1 - 0; omega, by omega, rfl⟩ ?_ ?_
      · rintro x rest env D2 - hnx - - ⟨j, ts, left, s3, s8, s9, hx, hj, htl, hts, hleft, hge, rfl⟩
        have hjN : j < N := by
          rcases Nat.lt_or_ge j N with z | z
          · exact z
          · have : N - j = 0 := by omega
            rw [this] at hx
            cases hx
        have hr : List.range' j (N - j) = j :: List.range' (j + 1) (N - (j + 1)) := by
          have : N - j = (N - (j + 1)) + 1 := by omega
          rw [this, List.range'_succ]
        rw [hr] at hx
        injection hx with hx1 hx2
        subst hx1 hx2
        simp [TVar, TC, TOp, TTst, fI, TAnd, TOr, TNot, TAndV, TOrV, TNotV, TIf, TChain, TChainB, TNoPart, TPart, TSl, TFld, TFldO, TCon, TNil, TCons, TTup, TLst, TCB, TM1, TFmt, TJs, TJoined, TNext, TSeq, TBreak, TCont, TNever, TRet, TRetN, TDrop, TIfS, L3.TSet, TAug, TPar, GName, GNil, GCons, GTup, TAsg, TIl, TIt, TIs, TIr1, TIr2, TIz, TFor, TOwn, TOwnL, TApp, TExt, TBor, TBorB, TFrz, TPutF, TYes, TLc, TLc2, TCall, TStar, TMake, TOpC, TParO1, TParO0, TPutJ, TBorN, TIenT, TOwnLc, TMaxd, TCallK, lenF, isiAF, isiF, isiTF, PySem.W.kitAny, inF, sumF, allF, anyF, tupleF, int1F, max2F, joinF, ixF, addF, mulF, tyOf, TyK, clsOf, clsOfs, wipeD, hideS, flatD, putD, and_assoc, neNilF, slF, isF, isntF, isND]
        refine ⟨h, c, cells, _, rfl, rfl, by omega, by omega, fun r hr1 hr2 => ?_⟩
        simp [TVar, TC, TOp, TTst, fI, TAnd, TOr, TNot, TAndV, TOrV, TNotV, TIf, TChain, TChainB, TNoPart, TPart, TSl, TFld, TFldO, TCon, TNil, TCons, TTup, TLst, TCB, TM1, TFmt, TJs, TJoined, TNext, TSeq, TBreak, TCont, TNever, TRet, TRetN, TDrop, TIfS, L3.TSet, TAug, TPar, GName, GNil, GCons, GTup, TAsg, TIl, TIt, TIs, TIr1, TIr2, TIz, TFor, TOwn, TOwnL, TApp, TExt, TBor, TBorB, TFrz, TPutF, TYes, TLc, TLc2, TCall, TStar, TMake, TOpC, TParO1, TParO0, TPutJ, TBorN, TIenT, TOwnLc, TMaxd, TCallK, lenF, isiAF, isiF, isiTF, PySem.W.kitAny, inF, sumF, allF, anyF, tupleF, int1F, max2F, joinF, ixF, addF, mulF, tyOf, TyK, clsOf, clsOfs, wipeD, hideS, flatD, putD, and_assoc, neNilF, slF, isF, isntF, isND]
        have hn : ∃ n', n = n' + 1 := ⟨n - 1, by omega⟩
        obtain ⟨n', rfl⟩ := hn
        refine ⟨h, c, cells, 1 + r, sg, rfl, rfl, hsg, by omega, by omega, by omega, fun t ht hs => ?_⟩
        simp [TVar, TC, TOp, TTst, fI, TAnd, TOr, TNot, TAndV, TOrV, TNotV, TIf, TChain, TChainB, TNoPart, TPart, TSl, TFld, TFldO, TCon, TNil, TCons, TTup, TLst, TCB, TM1, TFmt, TJs, TJoined, TNext, TSeq, TBreak, TCont, TNever, TRet, TRetN, TDrop, TIfS, L3.TSet, TAug, TPar, GName, GNil, GCons, GTup, TAsg, TIl, TIt, TIs, TIr1, TIr2, TIz, TFor, TOwn, TOwnL, TApp, TExt, TBor, TBorB, TFrz, TPutF, TYes, TLc, TLc2, TCall, TStar, TMake, TOpC, TParO1, TParO0, TPutJ, TBorN, TIenT, TOwnLc, TMaxd, TCallK, lenF, isiAF, isiF, isiTF, PySem.W.kitAny, inF, sumF, allF, anyF, tupleF, int1F, max2F, joinF, ixF, addF, mulF, tyOf, TyK, clsOf, clsOfs, wipeD, hideS, flatD, putD, and_assoc, neNilF, slF, isF, isntF, isND]
        refine ⟨t, rfl, ht, by have := dep_siz t; omega, ?_⟩
        have hsz := siz_pos t
        simp [TVar, TC, TOp, TTst, fI, TAnd, TOr, TNot, TAndV, TOrV, TNotV, TIf, TChain, TChainB, TNoPart, TPart, TSl, TFld, TFldO, TCon, TNil, TCons, TTup, TLst, TCB, TM1, TFmt, TJs, TJoined, TNext, TSeq, TBreak, TCont, TNever, TRet, TRetN, TDrop, TIfS, L3.TSet, TAug, TPar, GName, GNil, GCons, GTup, TAsg, TIl, TIt, TIs, TIr1, TIr2, TIz, TFor, TOwn, TOwnL, TApp, TExt, TBor, TBorB, TFrz, TPutF, TYes, TLc, TLc2, TCall, TStar, TMake, TOpC, TParO1, TParO0, TPutJ, TBorN, TIenT, TOwnLc, TMaxd, TCallK, lenF, isiAF, isiF, isiTF, PySem.W.kitAny, inF, sumF, allF, anyF, tupleF, int1F, max2F, joinF, ixF, addF, mulF, tyOf, TyK, clsOf, clsOfs, wipeD, hideS, flatD, putD, and_assoc, neNilF, slF, isF, isntF, isND]
        refine ⟨by omega, hnx _ ⟨x + 1, ts ++ [t], left - (t.siz : Nat), _, _, _, rfl, by omega, by rw [List.length_append, htl]; rfl, oks_app hts ⟨ht, trivial⟩, by rw [sizs_snoc]; omega, by omega, by rw [List.map_append]; rfl⟩⟩
      · rintro env ⟨j, ts, left, s3, s8, s9, hx, hj, htl, hts, hleft, hge, rfl⟩
        have hjN : j = N := by
          have := congrArg List.length hx
          simp at this
          omega
        subst hjN
        simp [TVar, TC, TOp, TTst, fI, TAnd, TOr, TNot, TAndV, TOrV, TNotV, TIf, TChain, TChainB, TNoPart, TPart, TSl, TFld, TFldO, TCon, TNil, TCons, TTup, TLst, TCB, TM1, TFmt, TJs, TJoined, TNext, TSeq, TBreak, TCont, TNever, TRet, TRetN, TDrop, TIfS, L3.TSet, TAug, TPar, GName, GNil, GCons, GTup, TAsg, TIl, TIt, TIs, TIr1, TIr2, TIz, TFor, TOwn, TOwnL, TApp, TExt, TBor, TBorB, TFrz, TPutF, TYes, TLc, TLc2, TCall, TStar, TMake, TOpC, TParO1, TParO0, TPutJ, TBorN, TIenT, TOwnLc, TMaxd, TCallK, lenF, isiAF, isiF, isiTF, PySem.W.kitAny, inF, sumF, allF, anyF, tupleF, int1F, max2F, joinF, ixF, addF, mulF, tyOf, TyK, clsOf, clsOfs, wipeD, hideS, flatD, putD, and_assoc, neNilF, slF, isF, isntF, isND]
        have := q (.nd s ts) ⟨hN.1, by omega, hts⟩ (by show ((1 + sizs ts : Nat) : Int) ≤ room; omega)
        rw [mD_nd] at this
        exact this
end K5
namespace K5
open PySem PySem.Spec PyProof.Rows L2 L3

theorem zip_trees {C : Addr} : ∀ ms : List Tr, zipD (ms.map mD) (ms.map (trD C)) = ms.map fun m => .tup [mD m, trD C m]
  | [] => rfl
  | m :: r => congrArg (D.tup [mD m, trD C m] :: ·) (zip_trees r)
def wds : List Tr := [.nd [97] [], .nd [97, 97] [], .nd [97, 98] [], .nd [98] [], .nd [102] [.nd [97] []], .nd [102] [.nd [97, 97] []], .nd [102] [.nd [98] []], .nd [103] [.nd [97] []], .nd [103] [.nd [98] []], .nd [102] [.nd [102] [.nd [97] []]],
  .nd [102] [.nd [97] [], .nd [98] []], .nd [102] [.nd [98] [], .nd [97] []], .nd [103] [.nd [97] [], .nd [98] []]]
mutual
def okB : Tr → Bool
  | .nd s ks => isSg s && (decide (ks.length ≤ 3) && okBs ks)
def okBs : List Tr → Bool
  | [] => true
  | t :: r => okB t && okBs r
end
mutual
theorem okB_ok : ∀ {t : Tr}, okB t = true → t.ok
  | .nd s ks, h => by
    have h2 : (isSg s && (decide (ks.length ≤ 3) && okBs ks)) = true := h
    rw [Bool.and_eq_true, Bool.and_eq_true, decide_eq_true_iff] at h2
    exact ⟨h2.1, h2.2.1, okBs_ok h2.2.2⟩
theorem okBs_ok : ∀ {ks : List Tr}, okBs ks = true → oks ks
  | [], _ => trivial
  | t :: r, h => by
    have h2 : (okB t && okBs r) = true := h
    rw [Bool.and_eq_true] at h2
    exact ⟨okB_ok h2.1, okBs_ok h2.2⟩
end
theorem wds_ok : ∀ t ∈ wds, t.ok ∧ t.siz ≤ 7 := fun t ht => by
  have h : wds.all (fun t => okB t && decide (t.siz ≤ 7)) = true := by decide +kernel
  have h2 := List.all_eq_true.mp h t ht
  rw [Bool.and_eq_true, decide_eq_true_iff] at h2
  exact ⟨okB_ok h2.1, h2.2⟩
theorem wds_cmp : ∀ k : Nat, k < 12 → cmpT (wds.getD k (.nd [] [])) (wds.getD (k + 1) (.nd [] [])) = -1 := by decide +kernel
theorem ok_law {P : Program} {w : World} {K : PySem.W.Frag} {mg : Str → Option Value} {base : Heap} (tx : Tx K mg) {fd : FuncData} (FD : FunD K "law" "law" (defArgs s_law) (defBody s_law) (defScope s_law) [] [] (He.ga K "law") fd) : FnOk P w K mg base (L2N.CX P w) 200 (He.ga K "law") fd ["_law_script"] (sp_law K) := by
  have g_law_hand := ok_law_hand (P := P) (w := w) (base := base) tx
  have g_law_pick := ok_pick (P := P) (w := w) (base := base) tx
  have g_law_of := ok_law_of (P := P) (w := w) (base := base) tx
  have g_law_signs := ok_law_signs (P := P) (w := w) (base := base) tx
  have g_law_drawn := ok_drawn (P := P) (w := w) (base := base) tx 31
  have g_law_size := ok_size (P := P) (w := w) (base := base) tx 40
  have g_law_key := ok_key (P := P) (w := w) (base := base) tx 40
  have g_law_tree := ok_tree (P := P) (w := w) (base := base) tx 40
  have g_law_places := ok_places (P := P) (w := w) (base := base) tx 40
  have g_law_put := ok_put (P := P) (w := w) (base := base) tx 40
  have g_law_same := ok_same (P := P) (w := w) (base := base) tx 5
  have g_compare_trees := ok_compare_trees (P := P) (w := w) (base := base) tx
  have g_Tree_read := ok_Tree_read (P := P) (w := w) (base := base) tx
  have g_Tree_eq := ok_Tree__eq (P := P) (w := w) (base := base) tx
  obtain ⟨fd_compare_trees, go_compare_trees, kw_compare_trees⟩ := oko_compare_trees (P := P) (w := w) (base := base) tx
  refine FD.ok sc_law (fun vs H Q E h => ?_) fun cdv A outer s H vs Q E hr h => ⟨_, pss_cons (ps_set (i := 1) sc_law.nd rfl (Or.inr rfl) (show DE (cx3 P w K mg base N_law "law" (defScope s_law) (He.ga K "law") cdv A outer s H E) (W3 E) _ _ from (de_call g_law_hand (hr.mono (by omega)) rfl tx.mg_law_hand tx.kp_law_hand tk3 (da_cons (dv 0) da_nil)))) (show DSs (cx3 P w K mg base N_law "law" (defScope s_law) (He.ga K "law") cdv A outer s H E) (W3 E) _ _ from (dss_cons (ds_for (vs := [2]) ps3 rfl (di_range1 rfl tx.no_range (da_cons de_int da_nil)) (dg_name (i := 2) sc_law.nd rfl (Or.inl rfl))
     (dss_cons (ds_set (i := 3) sc_law.nd rfl (Or.inr rfl) (de_lst (da_cons (de_tup (da_cons de_str (da_cons de_int da_nil))) (da_cons (de_tup (da_cons de_str (da_cons de_int da_nil))) (da_cons (de_tup (da_cons de_str (da_cons de_int da_nil))) (da_cons (de_tup (da_cons de_str (da_cons de_int da_nil))) (da_cons (de_tup (da_cons de_str (da_cons de_int da_nil))) (da_cons (de_tup (da_cons de_str (da_cons de_int da_nil))) (da_cons (de_tup (da_cons de_str (da_cons de_int da_nil))) (da_cons (de_tup (da_cons de_str (da_cons de_int da_nil))) (da_cons (de_tup (da_cons de_str (da_cons de_int da_nil))) da_nil)))))))))))
    (dss_cons (ds_ownLc (i := 4) (own := [("_law_k", 19)]) rfl sc_law.nd rfl rfl (sw_true rfl rfl rfl (by decide +kernel)) (di_range1 rfl tx.no_range (da_cons de_int da_nil)) (blkOk_by (own := [("_law_k", 19)]) (N := N_law) (sc := defScope s_law) (by decide +kernel)) (fun _ _ _ _ _ => (dg_name (i := 19) sc_law.nd rfl (Or.inl rfl))) (fun _ _ _ _ _ => dts_nil) (fun _ _ _ _ _ => (de_call g_law_drawn (hr.mono (by omega)) rfl tx.mg_law_drawn tx.kp_law_drawn takesN (da_cons (dv 1) (da_cons (dv 3) (da_cons (de_add de_int (de_call g_law_pick (hr.mono (by omega)) rfl tx.mg_law_pick tx.kp_law_pick takesN (da_cons (dv 1) (da_cons de_int da_nil)))) da_nil))))))
    (dss_cons (ds_asg (vs := [5, 6]) (de_borN 4 (de_call g_law_of (hr.mono (by omega)) rfl tx.mg_law_of tx.kp_law_of tk3 (da_cons (dv 1) (da_cons (de_call g_law_places (hr.mono (by omega)) rfl tx.mg_law_places tx.kp_law_places tk3 (da_cons (de_ix (dv 4) de_int) da_nil)) da_nil)))) (dg_tup (n := 2) rfl (dgs_cons (dg_name (i := 5) sc_law.nd rfl (Or.inr rfl)) (dgs_cons (dg_name (i := 6) sc_law.nd rfl (Or.inl rfl)) dgs_nil))))
    (dss_cons (ds_append 4 (de_borN 4 (de_call g_law_put (hr.mono (by omega)) rfl tx.mg_law_put tx.kp_law_put tk3 (da_cons (de_ix (dv 4) de_int) (da_cons (dv 5) (da_cons (de_call g_law_drawn (hr.mono (by omega)) rfl tx.mg_law_drawn tx.kp_law_drawn tk3 (da_cons (dv 1) (da_cons (dv 3) (da_cons (de_call g_law_size (hr.mono (by omega)) rfl tx.mg_law_size tx.kp_law_size tk3 (da_cons (dv 6) da_nil)) da_nil)))) da_nil))))))
    (dss_frz 4 (dss_cons (ds_set (i := 7) sc_law.nd rfl (Or.inr rfl) (de_lc (own := [("_law_model", 20)]) rfl sc_law.nd (di_list (dv 4)) (blkOk_by (own := [("_law_model", 20)]) (N := N_law) (sc := defScope s_law) (by decide +kernel)) (fun _ _ _ _ _ => (dg_name (i := 20) sc_law.nd rfl (Or.inl rfl))) (fun _ _ _ _ _ => dts_nil) (fun _ _ _ _ _ => (de_call g_law_tree (hr.mono (by omega)) rfl tx.mg_law_tree tx.kp_law_tree takesN (da_cons (dv 20) da_nil)))))
    (dss_cons (ds_for (vs := [8, 9]) ps3 rfl (di_zip rfl tx.no_zip (da_cons (dv 4) (da_cons (dv 7) da_nil))) (dg_tup (n := 2) rfl (dgs_cons (dg_name (i := 8) sc_law.nd rfl (Or.inl rfl)) (dgs_cons (dg_name (i := 9) sc_law.nd rfl (Or.inl rfl)) dgs_nil)))
     (dss_one (ds_for (vs := [10, 11]) ps3 rfl (di_zip rfl tx.no_zip (da_cons (dv 4) (da_cons (dv 7) da_nil))) (dg_tup (n := 2) rfl (dgs_cons (dg_name (i := 10) sc_law.nd rfl (Or.inl rfl)) (dgs_cons (dg_name (i := 11) sc_law.nd rfl (Or.inl rfl)) dgs_nil)))
     (dss_cons (ds_par (i := 12) (j := 13) rfl sc_law.nd rfl rfl (by decide) rfl rfl (da_cons (de_call g_law_key (hr.mono (by omega)) rfl tx.mg_law_key tx.kp_law_key tk3 (da_cons (dv 8) da_nil)) (da_cons (de_call g_law_key (hr.mono (by omega)) rfl tx.mg_law_key tx.kp_law_key tk3 (da_cons (dv 10) da_nil)) da_nil)))
    (dss_cons (ds_set (i := 14) sc_law.nd rfl (Or.inl rfl) (de_sub (de_callTy call_int1 cd_int1 rfl tx.no_int (by decide +kernel) (da_cons (de_cmp (op_gtD hr.units) opd_gtD (dv 12) (dv 13) (nomark _)) da_nil)) (de_callTy call_int1 cd_int1 rfl tx.no_int (by decide +kernel) (da_cons (de_cmp (op_ltD hr.units) opd_ltD (dv 12) (dv 13) (nomark _)) da_nil))))
    (dss_cons (ds_if (dt_not (dt_val (de_call g_law_same (hr.mono (by omega)) rfl tx.mg_law_same tx.kp_law_same tk3 (da_cons (de_lst (da_cons (de_call g_compare_trees (hr.mono (by omega)) rfl tx.mg_compare_trees tx.kp_compare_trees tk3 (da_cons (dv 9) (da_cons (dv 11) da_nil))) (da_cons (de_callK0 go_compare_trees kw_compare_trees (hr.mono (by omega)) rfl tx.mg_compare_trees tx.kp_compare_trees tk3 (dk_cons (dv 9) (dk_cons (dv 11) dk_nil))) da_nil))) (da_cons (de_lst (da_cons (dv 14) (da_cons (de_sub de_int (dv 14)) da_nil))) da_nil)))))
     (dss_one (ds_ret de_bl))
     dss_nil)
    (dss_one (ds_if (dt_cmp (op_neD hr.units) opd_ne (de_cmp (op_eqD hr.units) opd_eq (dv 14) de_int (nomark _)) (de_cmpC (op_ownEq tx.eq_Tree g_Tree_eq (hr.mono (by omega))) (opd_own (K := K)) (dv 9) (dv 11) (nomark _)) (nomark _))
     (dss_one (ds_ret de_bl))
     dss_nil))))))))
    (dss_cons (ds_set (i := 15) sc_law.nd rfl (Or.inr rfl) (de_call g_law_drawn (hr.mono (by omega)) rfl tx.mg_law_drawn tx.kp_law_drawn tk3 (da_cons (dv 1) (da_cons (de_call0 g_law_signs (hr.mono (by omega)) rfl tx.mg_law_signs tx.kp_law_signs tk3) (da_cons (de_add de_int (de_call g_law_pick (hr.mono (by omega)) rfl tx.mg_law_pick tx.kp_law_pick tk3 (da_cons (dv 1) (da_cons de_int da_nil)))) da_nil)))))
    (dss_cons (ds_asg (vs := [5, 6]) (de_call g_law_of (hr.mono (by omega)) rfl tx.mg_law_of tx.kp_law_of tk3 (da_cons (dv 1) (da_cons (de_call g_law_places (hr.mono (by omega)) rfl tx.mg_law_places tx.kp_law_places tk3 (da_cons (dv 15) da_nil)) da_nil))) (dg_tup (n := 2) rfl (dgs_cons (dg_name (i := 5) sc_law.nd rfl (Or.inr rfl)) (dgs_cons (dg_name (i := 6) sc_law.nd rfl (Or.inl rfl)) dgs_nil))))
    (dss_cons (ds_setLc (i := 16) (own := [("_law_model", 20)]) rfl sc_law.nd rfl rfl (sw_true rfl rfl rfl (by decide +kernel)) (di_list (de_slice (dv 4) do_none (do_some de_int))) (blkOk_by (own := [("_law_model", 20)]) (N := N_law) (sc := defScope s_law) (by decide +kernel)) (fun _ _ _ _ _ => (dg_name (i := 20) sc_law.nd rfl (Or.inl rfl))) (fun _ _ _ _ _ => dts_nil) (fun _ _ _ _ _ => (de_call g_law_tree (hr.mono (by omega)) rfl tx.mg_law_tree tx.kp_law_tree takesN (da_cons (de_call g_law_put (hr.mono (by omega)) rfl tx.mg_law_put tx.kp_law_put takesN (da_cons (dv 15) (da_cons (dv 5) (da_cons (dv 20) da_nil)))) da_nil))))
    (dss_one (ds_if (dt_cmp (op_neD hr.units) opd_ne (de_call g_compare_trees (hr.mono (by omega)) rfl tx.mg_compare_trees tx.kp_compare_trees tk3 (da_cons (de_ix (dv 16) de_int) (da_cons (de_ix (dv 16) de_int) da_nil))) (de_call g_compare_trees (hr.mono (by omega)) rfl tx.mg_compare_trees tx.kp_compare_trees tk3 (da_cons (de_ix (dv 7) de_int) (da_cons (de_ix (dv 7) de_int) da_nil))) (nomark _))
     (dss_one (ds_ret de_bl))
     dss_nil)))))))))))))
    (dss_cons (ds_set (i := 17) sc_law.nd rfl (Or.inl rfl) (de_lst (da_cons de_str (da_cons de_str (da_cons de_str (da_cons de_str (da_cons de_str (da_cons de_str (da_cons de_str (da_cons de_str (da_cons de_str (da_cons de_str (da_cons de_str (da_cons de_str (da_cons de_str da_nil)))))))))))))))
    (dss_cons (ds_set (i := 7) sc_law.nd rfl (Or.inr rfl) (de_lc (own := [("_law_word", 18)]) rfl sc_law.nd (di_list (dv 17)) (blkOk_by (own := [("_law_word", 18)]) (N := N_law) (sc := defScope s_law) (by decide +kernel)) (fun _ _ _ _ _ => (dg_name (i := 18) sc_law.nd rfl (Or.inl rfl))) (fun _ _ _ _ _ => dts_nil) (fun _ _ _ _ _ => (de_smeth tx.sm_Tree_read g_Tree_read (hr.mono (by omega)) rfl tx.mg_Tree takesN (da_cons (dv 18) da_nil)))))
    (dss_one (ds_ret (de_callB (cr_all rfl) cd_all rfl tx.no_all (by decide +kernel) (da_cons (de_lc (own := [("_law_k", 19)]) rfl sc_law.nd (di_range1 rfl tx.no_range (da_cons (de_sub (de_len rfl tx.no_len (da_cons (dv 7) da_nil)) de_int) da_nil)) (blkOk_by (own := [("_law_k", 19)]) (N := N_law) (sc := defScope s_law) (by decide +kernel)) (fun _ _ _ _ _ => (dg_name (i := 19) sc_law.nd rfl (Or.inl rfl))) (fun _ _ _ _ _ => dts_nil) (fun _ _ _ _ _ => (de_cmp (op_eqD hr.units) opd_eq (de_call g_compare_trees (hr.mono (by omega)) rfl tx.mg_compare_trees tx.kp_compare_trees takesN (da_cons (de_ix (dv 7) (dv 19)) (da_cons (de_ix (dv 7) (de_add (dv 19) de_int)) da_nil))) (de_sub de_int de_int) (nomark _)))) da_nil)))))))), law_top (by decide) ⟨E, h⟩ ?_ ?_⟩
  · obtain ⟨a, ns, rfl, _⟩ := h
    rfl
  · intro wd a ns φ hS hl q
    exact ⟨_, rfl, a, ns, rfl, hS, hl, q⟩
  · intro p c ns
    have hB : big = 1000000 := rfl
    have hL : sizeLine = 16777216 := sizeLine_eq
    show TSeq _ _ _ _ [.no, .v (.ref p), .no, .no, .no, .no, .no, .no, .no, .no, .no, .no, .no, .no, .no, .no, .no, .no, .no, .no, .no]
    simp [TVar, TC, TOp, TTst, fI, TAnd, TOr, TNot, TAndV, TOrV, TNotV, TIf, TChain, TChainB, TNoPart, TPart, TSl, TFld, TFldO, TCon, TNil, TCons, TTup, TLst, TCB, TM1, TFmt, TJs, TJoined, TNext, TSeq, TBreak, TCont, TNever, TRet, TRetN, TDrop, TIfS, L3.TSet, TAug, TPar, GName, GNil, GCons, GTup, TAsg, TIl, TIt, TIs, TIr1, TIr2, TIz, TFor, TOwn, TOwnL, TApp, TExt, TBor, TBorB, TFrz, TPutF, TYes, TLc, TLc2, TCall, TStar, TMake, TOpC, TParO1, TParO0, TPutJ, TBorN, TIenT, TOwnLc, TMaxd, TCallK, lenF, isiAF, isiF, isiTF, PySem.W.kitAny, inF, sumF, allF, anyF, tupleF, int1F, max2F, joinF, ixF, addF, mulF, tyOf, TyK, clsOf, clsOfs, wipeD, hideS, flatD, putD, and_assoc, neNilF, slF, isF, isntF, isND]
    refine forD_of (enc := fun i : Nat => D.int (i : Nat)) (fun _ env => ∃ s2 s3 s4 s5 s6 s7 s8 s9 s10 s11 s12 s13 s14 s15 s16, env = [.no, .v (.ref p), s2, s3, s4, s5, s6, s7, s8, s9, s10, s11, s12, s13, s14, s15, s16, .no, .no, .no, .no]) (List.range 6) _ ⟨_, _, _, _, _, _, _, _, _, _, _, _, _, _, _, rfl⟩ ?_ ?_
    · rintro x rest env D2 - hnx - - ⟨s2, s3, s4, s5, s6, s7, s8, s9, s10, s11, s12, s13, s14, s15, s16, rfl⟩
      have esg : [D.tup [.str "a", .int 0], .tup [.str "aa", .int 0], .tup [.str "ab", .int 0], .tup [.str "b", .int 0], .tup [.str "f", .int 1], .tup [.str "fa", .int 1], .tup [.str "f", .int 2], .tup [.str "g", .int 2], .tup [.str "fa", .int 3]] = sgM.map sgD := by
        have ea : (Str.ofString "a") = mks [97] := by decide +kernel
        have eaa : (Str.ofString "aa") = mks [97, 97] := by decide +kernel
        have eab : (Str.ofString "ab") = mks [97, 98] := by decide +kernel
        have eb : (Str.ofString "b") = mks [98] := by decide +kernel
        have ef : (Str.ofString "f") = mks [102] := by decide +kernel
        have efa : (Str.ofString "fa") = mks [102, 97] := by decide +kernel
        have eg : (Str.ofString "g") = mks [103] := by decide +kernel
        rw [ea, eaa, eab, eb, ef, efa, eg]
        rfl
      simp [TVar, TC, TOp, TTst, fI, TAnd, TOr, TNot, TAndV, TOrV, TNotV, TIf, TChain, TChainB, TNoPart, TPart, TSl, TFld, TFldO, TCon, TNil, TCons, TTup, TLst, TCB, TM1, TFmt, TJs, TJoined, TNext, TSeq, TBreak, TCont, TNever, TRet, TRetN, TDrop, TIfS, L3.TSet, TAug, TPar, GName, GNil, GCons, GTup, TAsg, TIl, TIt, TIs, TIr1, TIr2, TIz, TFor, TOwn, TOwnL, TApp, TExt, TBor, TBorB, TFrz, TPutF, TYes, TLc, TLc2, TCall, TStar, TMake, TOpC, TParO1, TParO0, TPutJ, TBorN, TIenT, TOwnLc, TMaxd, TCallK, lenF, isiAF, isiF, isiTF, PySem.W.kitAny, inF, sumF, allF, anyF, tupleF, int1F, max2F, joinF, ixF, addF, mulF, tyOf, TyK, clsOf, clsOfs, wipeD, hideS, flatD, putD, and_assoc, neNilF, slF, isF, isntF, isND]
      rw [esg]
      rw [show List.range 2 = [0, 1] from rfl]
      simp [TVar, TC, TOp, TTst, fI, TAnd, TOr, TNot, TAndV, TOrV, TNotV, TIf, TChain, TChainB, TNoPart, TPart, TSl, TFld, TFldO, TCon, TNil, TCons, TTup, TLst, TCB, TM1, TFmt, TJs, TJoined, TNext, TSeq, TBreak, TCont, TNever, TRet, TRetN, TDrop, TIfS, L3.TSet, TAug, TPar, GName, GNil, GCons, GTup, TAsg, TIl, TIt, TIs, TIr1, TIr2, TIz, TFor, TOwn, TOwnL, TApp, TExt, TBor, TBorB, TFrz, TPutF, TYes, TLc, TLc2, TCall, TStar, TMake, TOpC, TParO1, TParO0, TPutJ, TBorN, TIenT, TOwnLc, TMaxd, TCallK, lenF, isiAF, isiF, isiTF, PySem.W.kitAny, inF, sumF, allF, anyF, tupleF, int1F, max2F, joinF, ixF, addF, mulF, tyOf, TyK, clsOf, clsOfs, wipeD, hideS, flatD, putD, and_assoc, neNilF, slF, isF, isntF, isND, CompD]
      refine ⟨p, c, ns, 7, rfl, rfl, by decide, by decide, fun r0 a0 b0 => ?_⟩
      simp [TVar, TC, TOp, TTst, fI, TAnd, TOr, TNot, TAndV, TOrV, TNotV, TIf, TChain, TChainB, TNoPart, TPart, TSl, TFld, TFldO, TCon, TNil, TCons, TTup, TLst, TCB, TM1, TFmt, TJs, TJoined, TNext, TSeq, TBreak, TCont, TNever, TRet, TRetN, TDrop, TIfS, L3.TSet, TAug, TPar, GName, GNil, GCons, GTup, TAsg, TIl, TIt, TIs, TIr1, TIr2, TIz, TFor, TOwn, TOwnL, TApp, TExt, TBor, TBorB, TFrz, TPutF, TYes, TLc, TLc2, TCall, TStar, TMake, TOpC, TParO1, TParO0, TPutJ, TBorN, TIenT, TOwnLc, TMaxd, TCallK, lenF, isiAF, isiF, isiTF, PySem.W.kitAny, inF, sumF, allF, anyF, tupleF, int1F, max2F, joinF, ixF, addF, mulF, tyOf, TyK, clsOf, clsOfs, wipeD, hideS, flatD, putD, and_assoc, neNilF, slF, isF, isntF, isND]
      refine ⟨p, c, ns, 1 + r0, sgM, rfl, rfl, sgM_ok, by omega, by (have e31 : ((31 : Nat) : Int) = 31 := rfl); show 1 + r0 ≤ ((31 : Nat) : Int); omega, by omega, fun m0 ok0 z0 => ?_⟩
      simp [TVar, TC, TOp, TTst, fI, TAnd, TOr, TNot, TAndV, TOrV, TNotV, TIf, TChain, TChainB, TNoPart, TPart, TSl, TFld, TFldO, TCon, TNil, TCons, TTup, TLst, TCB, TM1, TFmt, TJs, TJoined, TNext, TSeq, TBreak, TCont, TNever, TRet, TRetN, TDrop, TIfS, L3.TSet, TAug, TPar, GName, GNil, GCons, GTup, TAsg, TIl, TIt, TIs, TIr1, TIr2, TIz, TFor, TOwn, TOwnL, TApp, TExt, TBor, TBorB, TFrz, TPutF, TYes, TLc, TLc2, TCall, TStar, TMake, TOpC, TParO1, TParO0, TPutJ, TBorN, TIenT, TOwnLc, TMaxd, TCallK, lenF, isiAF, isiF, isiTF, PySem.W.kitAny, inF, sumF, allF, anyF, tupleF, int1F, max2F, joinF, ixF, addF, mulF, tyOf, TyK, clsOf, clsOfs, wipeD, hideS, flatD, putD, and_assoc, neNilF, slF, isF, isntF, isND]
      refine ⟨by omega, p, c, ns, 7, rfl, rfl, by decide, by decide, fun r1 a1 b1 => ?_⟩
      simp [TVar, TC, TOp, TTst, fI, TAnd, TOr, TNot, TAndV, TOrV, TNotV, TIf, TChain, TChainB, TNoPart, TPart, TSl, TFld, TFldO, TCon, TNil, TCons, TTup, TLst, TCB, TM1, TFmt, TJs, TJoined, TNext, TSeq, TBreak, TCont, TNever, TRet, TRetN, TDrop, TIfS, L3.TSet, TAug, TPar, GName, GNil, GCons, GTup, TAsg, TIl, TIt, TIs, TIr1, TIr2, TIz, TFor, TOwn, TOwnL, TApp, TExt, TBor, TBorB, TFrz, TPutF, TYes, TLc, TLc2, TCall, TStar, TMake, TOpC, TParO1, TParO0, TPutJ, TBorN, TIenT, TOwnLc, TMaxd, TCallK, lenF, isiAF, isiF, isiTF, PySem.W.kitAny, inF, sumF, allF, anyF, tupleF, int1F, max2F, joinF, ixF, addF, mulF, tyOf, TyK, clsOf, clsOfs, wipeD, hideS, flatD, putD, and_assoc, neNilF, slF, isF, isntF, isND]
      refine ⟨p, c, ns, 1 + r1, sgM, rfl, rfl, sgM_ok, by omega, by (have e31 : ((31 : Nat) : Int) = 31 := rfl); show 1 + r1 ≤ ((31 : Nat) : Int); omega, by omega, fun m1 ok1 z1 => ?_⟩
      simp [TVar, TC, TOp, TTst, fI, TAnd, TOr, TNot, TAndV, TOrV, TNotV, TIf, TChain, TChainB, TNoPart, TPart, TSl, TFld, TFldO, TCon, TNil, TCons, TTup, TLst, TCB, TM1, TFmt, TJs, TJoined, TNext, TSeq, TBreak, TCont, TNever, TRet, TRetN, TDrop, TIfS, L3.TSet, TAug, TPar, GName, GNil, GCons, GTup, TAsg, TIl, TIt, TIs, TIr1, TIr2, TIz, TFor, TOwn, TOwnL, TApp, TExt, TBor, TBorB, TFrz, TPutF, TYes, TLc, TLc2, TCall, TStar, TMake, TOpC, TParO1, TParO0, TPutJ, TBorN, TIenT, TOwnLc, TMaxd, TCallK, lenF, isiAF, isiF, isiTF, PySem.W.kitAny, inF, sumF, allF, anyF, tupleF, int1F, max2F, joinF, ixF, addF, mulF, tyOf, TyK, clsOf, clsOfs, wipeD, hideS, flatD, putD, and_assoc, neNilF, slF, isF, isntF, isND]
      refine ⟨by omega, ?_⟩
      have sz0 : m0.siz ≤ 7 := by omega
      have sz1 : m1.siz ≤ 7 := by omega
      have ds0 := dep_siz m0
      have ds1 := dep_siz m1
      refine ⟨m0, rfl, by omega, by omega, ?_⟩
      refine ⟨p, c, ns, (plc m0).map plD, rfl, rfl, ?_, ?_, fun d hd => ?_⟩
      · intro e
        have := congrArg List.length e
        have h2 := siz_pos m0
        rw [List.length_map, plc_len, List.length_nil] at this
        omega
      · rw [List.length_map, plc_len]; omega
      obtain ⟨x1, hx1, rfl⟩ := List.mem_map.mp hd
      have at1 := plc_at hx1
      have pl1 := plc_pl hx1
      have sv1 := siz_at at1
      have sp1 := siz_pos x1.2
      have dv1 := dep_siz x1.2
      refine ⟨noL_pl _, _, rfl, rfl, _, _, rfl, _, _, rfl, rfl, ?_⟩
      refine ⟨x1.2, rfl, ok_at at1 ok0, by omega, ?_⟩
      refine ⟨p, c, ns, _, sgM, rfl, rfl, sgM_ok, by omega, by (have e31 : ((31 : Nat) : Int) = 31 := rfl); show ((x1.2.siz : Nat) : Int) ≤ ((31 : Nat) : Int); omega, by omega, fun u oku zu => ?_⟩
      refine ⟨m0, x1.1, u, x1.2, rfl, at1, by omega, by omega, ?_⟩
      refine ⟨noL_mD _, by omega, ?_⟩
      have ok2 := L3.ok_put at1 ok0 oku
      have sz2 : (putT x1.1 m0 u).siz ≤ 7 := by have := siz_put (u := u) at1; omega
      generalize putT x1.1 m0 u = m2 at ok2 sz2 ⊢
      have hm : ∀ m ∈ [m0, m1, m2], m.ok ∧ m.siz ≤ 7 := by
        intro m hm
        simp only [List.mem_cons, List.not_mem_nil, or_false] at hm
        rcases hm with e | e | e
        · subst e; exact ⟨ok0, sz0⟩
        · subst e; exact ⟨ok1, sz1⟩
        · subst e; exact ⟨ok2, sz2⟩
      have tb : ∀ t : Tr, t.ok → t.siz ≤ 30 → t.dep ≤ 30 ∧ t.txt.length ≤ big := fun t h1 h2 => by
        have h3 := dep_siz t
        have h4 := txt9 h1
        omega
      refine ⟨m0, rfl, ok0, by have := (tb m0 ok0 (by omega)).1; omega, (tb m0 ok0 (by omega)).2, by omega, m1, rfl, ok1, by have := (tb m1 ok1 (by omega)).1; omega, (tb m1 ok1 (by omega)).2, by omega, m2, rfl, ok2, by have := (tb m2 ok2 (by omega)).1; omega, (tb m2 ok2 (by omega)).2, by omega, ?_⟩
      simp only [zipF]
      rw [show zipD [mD m0, mD m1, mD m2] [trD (He.ga K "Tree") m0, trD (He.ga K "Tree") m1, trD (He.ga K "Tree") m2] = [m0, m1, m2].map fun m => D.tup [mD m, trD (He.ga K "Tree") m] from zip_trees [m0, m1, m2]]
      refine forD_of (enc := fun m => D.tup [mD m, trD (He.ga K "Tree") m]) (fun xs env => (∀ m ∈ xs, m ∈ [m0, m1, m2]) ∧ ∃ s8 s9 s10 s11 s12 s13 s14, env = [.no, .v (.ref p), .v (.int (x : Nat)), .v (.lst (sgM.map sgD)), .v (.lst [mD m0, mD m1, mD m2]), .v (pathD x1.1), .v (mD x1.2), .v (.lst [trD (He.ga K "Tree") m0, trD (He.ga K "Tree") m1, trD (He.ga K "Tree") m2]), s8, s9, s10, s11, s12, s13, s14, s15, s16, .no, .no, .no, .no]) [m0, m1, m2] _ ⟨fun _ h => h, _, _, _, _, _, _, _, rfl⟩ ?_ ?_
      · rintro a rest env D3 - hnx3 - - ⟨hsub, s8, s9, s10, s11, s12, s13, s14, rfl⟩
        obtain ⟨oka, sza⟩ := hm a (hsub a List.mem_cons_self)
        obtain ⟨da, ta⟩ := tb a oka (by omega)
        obtain ⟨pa, ka⟩ := key_p a
        simp [TVar, TC, TOp, TTst, fI, TAnd, TOr, TNot, TAndV, TOrV, TNotV, TIf, TChain, TChainB, TNoPart, TPart, TSl, TFld, TFldO, TCon, TNil, TCons, TTup, TLst, TCB, TM1, TFmt, TJs, TJoined, TNext, TSeq, TBreak, TCont, TNever, TRet, TRetN, TDrop, TIfS, L3.TSet, TAug, TPar, GName, GNil, GCons, GTup, TAsg, TIl, TIt, TIs, TIr1, TIr2, TIz, TFor, TOwn, TOwnL, TApp, TExt, TBor, TBorB, TFrz, TPutF, TYes, TLc, TLc2, TCall, TStar, TMake, TOpC, TParO1, TParO0, TPutJ, TBorN, TIenT, TOwnLc, TMaxd, TCallK, lenF, isiAF, isiF, isiTF, PySem.W.kitAny, inF, sumF, allF, anyF, tupleF, int1F, max2F, joinF, ixF, addF, mulF, tyOf, TyK, clsOf, clsOfs, wipeD, hideS, flatD, putD, and_assoc, neNilF, slF, isF, isntF, isND, zipF]
        rw [show zipD [mD m0, mD m1, mD m2] [trD (He.ga K "Tree") m0, trD (He.ga K "Tree") m1, trD (He.ga K "Tree") m2] = [m0, m1, m2].map fun m => D.tup [mD m, trD (He.ga K "Tree") m] from zip_trees [m0, m1, m2]]
        refine forD_of (enc := fun m => D.tup [mD m, trD (He.ga K "Tree") m]) (fun xs env => (∀ m ∈ xs, m ∈ [m0, m1, m2]) ∧ ∃ s10 s11 s12 s13 s14, env = [.no, .v (.ref p), .v (.int (x : Nat)), .v (.lst (sgM.map sgD)), .v (.lst [mD m0, mD m1, mD m2]), .v (pathD x1.1), .v (mD x1.2), .v (.lst [trD (He.ga K "Tree") m0, trD (He.ga K "Tree") m1, trD (He.ga K "Tree") m2]), .v (mD a), .v (trD (He.ga K "Tree") a), s10, s11, s12, s13, s14, s15, s16, .no, .no, .no, .no]) [m0, m1, m2] _ ⟨fun _ h => h, _, _, _, _, _, rfl⟩ ?_ ?_
        · rintro b rest2 env D4 - hnx4 - - ⟨hsub2, s10, s11, s12, s13, s14, rfl⟩
          obtain ⟨okb, szb⟩ := hm b (hsub2 b List.mem_cons_self)
          obtain ⟨db, tb'⟩ := tb b okb (by omega)
          obtain ⟨pb, kb⟩ := key_p b
          have kda : (toP a.key).depth ≤ 63 := by omega
          have kdb : (toP b.key).depth ≤ 63 := by omega
          simp [TVar, TC, TOp, TTst, fI, TAnd, TOr, TNot, TAndV, TOrV, TNotV, TIf, TChain, TChainB, TNoPart, TPart, TSl, TFld, TFldO, TCon, TNil, TCons, TTup, TLst, TCB, TM1, TFmt, TJs, TJoined, TNext, TSeq, TBreak, TCont, TNever, TRet, TRetN, TDrop, TIfS, L3.TSet, TAug, TPar, GName, GNil, GCons, GTup, TAsg, TIl, TIt, TIs, TIr1, TIr2, TIz, TFor, TOwn, TOwnL, TApp, TExt, TBor, TBorB, TFrz, TPutF, TYes, TLc, TLc2, TCall, TStar, TMake, TOpC, TParO1, TParO0, TPutJ, TBorN, TIenT, TOwnLc, TMaxd, TCallK, lenF, isiAF, isiF, isiTF, PySem.W.kitAny, inF, sumF, allF, anyF, tupleF, int1F, max2F, joinF, ixF, addF, mulF, tyOf, TyK, clsOf, clsOfs, wipeD, hideS, flatD, putD, and_assoc, neNilF, slF, isF, isntF, isND]
          refine ⟨a, rfl, oka, by omega, by omega, b, rfl, okb, by omega, by omega, ?_⟩
          simp [TVar, TC, TOp, TTst, fI, TAnd, TOr, TNot, TAndV, TOrV, TNotV, TIf, TChain, TChainB, TNoPart, TPart, TSl, TFld, TFldO, TCon, TNil, TCons, TTup, TLst, TCB, TM1, TFmt, TJs, TJoined, TNext, TSeq, TBreak, TCont, TNever, TRet, TRetN, TDrop, TIfS, L3.TSet, TAug, TPar, GName, GNil, GCons, GTup, TAsg, TIl, TIt, TIs, TIr1, TIr2, TIz, TFor, TOwn, TOwnL, TApp, TExt, TBor, TBorB, TFrz, TPutF, TYes, TLc, TLc2, TCall, TStar, TMake, TOpC, TParO1, TParO0, TPutJ, TBorN, TIenT, TOwnLc, TMaxd, TCallK, lenF, isiAF, isiF, isiTF, PySem.W.kitAny, inF, sumF, allF, anyF, tupleF, int1F, max2F, joinF, ixF, addF, mulF, tyOf, TyK, clsOf, clsOfs, wipeD, hideS, flatD, putD, and_assoc, neNilF, slF, isF, isntF, isND, gtDF, ltDF, pa, pb, key_alike, trD_key_ne, kda, kdb]
          have ec : ((if PySem.W.dataLt (toP b.key) (toP a.key) = true then (1 : Int) else 0) - if PySem.W.dataLt (toP a.key) (toP b.key) = true then 1 else 0) = cmpT a b := rfl
          simp only [ec]
          have hty : tyOf (trD (He.ga K "Tree") b) = .ref (He.ga K "Tree") := by rw [trD_ins]; rfl
          have e0 : decide (cmpT a b = 0) = decide (mks a.txt = mks b.txt) := decide_eq_decide.mpr ⟨fun h => by rw [cmpT_zero.mp h], fun h => cmpT_zero.mpr (txt_inj oka okb (mks_inj h))⟩
          refine ⟨a, b, rfl, da, db, b, a, rfl, db, da, .lst [.int (cmpT a b), .int (cmpT b a)], ?_, ⟨by show 2 ≤ sizeLine; simp, fun d hd => ?_⟩, .inr ⟨rfl, ?_⟩⟩
          · rw [cmpT_swap a b, Int.zero_sub]
          · simp only [List.mem_cons, List.not_mem_nil, or_false] at hd
            rcases hd with e | e
            · subst e; exact trivial
            · subst e; exact trivial
          refine ⟨⟨_, trD_ins a⟩, by rw [hty]; exact fun e => by (cases e), by rw [hty]; exact tx.nf_Tree, a, b, rfl, oka, okb, decide (mks a.txt = mks b.txt), rfl, ?_⟩
          refine neF_bl.mpr ?_
          rw [e0]
          refine .inl ⟨by simp, hnx4 _ ⟨fun m h => hsub2 m (List.mem_cons_of_mem _ h), _, _, _, _, _, rfl⟩⟩
        · rintro env ⟨-, s10, s11, s12, s13, s14, rfl⟩
          exact hnx3 _ ⟨fun m h => hsub m (List.mem_cons_of_mem _ h), _, _, _, _, _, _, _, rfl⟩
      · rintro env ⟨-, s8, s9, s10, s11, s12, s13, s14, rfl⟩
        simp [TVar, TC, TOp, TTst, fI, TAnd, TOr, TNot, TAndV, TOrV, TNotV, TIf, TChain, TChainB, TNoPart, TPart, TSl, TFld, TFldO, TCon, TNil, TCons, TTup, TLst, TCB, TM1, TFmt, TJs, TJoined, TNext, TSeq, TBreak, TCont, TNever, TRet, TRetN, TDrop, TIfS, L3.TSet, TAug, TPar, GName, GNil, GCons, GTup, TAsg, TIl, TIt, TIs, TIr1, TIr2, TIz, TFor, TOwn, TOwnL, TApp, TExt, TBor, TBorB, TFrz, TPutF, TYes, TLc, TLc2, TCall, TStar, TMake, TOpC, TParO1, TParO0, TPutJ, TBorN, TIenT, TOwnLc, TMaxd, TCallK, lenF, isiAF, isiF, isiTF, PySem.W.kitAny, inF, sumF, allF, anyF, tupleF, int1F, max2F, joinF, ixF, addF, mulF, tyOf, TyK, clsOf, clsOfs, wipeD, hideS, flatD, putD, and_assoc, neNilF, slF, isF, isntF, isND, F_signs]
        refine ⟨p, c, ns, 4, rfl, rfl, by decide, by decide, fun r2 a2 b2 => ?_⟩
        simp [TVar, TC, TOp, TTst, fI, TAnd, TOr, TNot, TAndV, TOrV, TNotV, TIf, TChain, TChainB, TNoPart, TPart, TSl, TFld, TFldO, TCon, TNil, TCons, TTup, TLst, TCB, TM1, TFmt, TJs, TJoined, TNext, TSeq, TBreak, TCont, TNever, TRet, TRetN, TDrop, TIfS, L3.TSet, TAug, TPar, GName, GNil, GCons, GTup, TAsg, TIl, TIt, TIs, TIr1, TIr2, TIz, TFor, TOwn, TOwnL, TApp, TExt, TBor, TBorB, TFrz, TPutF, TYes, TLc, TLc2, TCall, TStar, TMake, TOpC, TParO1, TParO0, TPutJ, TBorN, TIenT, TOwnLc, TMaxd, TCallK, lenF, isiAF, isiF, isiTF, PySem.W.kitAny, inF, sumF, allF, anyF, tupleF, int1F, max2F, joinF, ixF, addF, mulF, tyOf, TyK, clsOf, clsOfs, wipeD, hideS, flatD, putD, and_assoc, neNilF, slF, isF, isntF, isND]
        refine ⟨p, c, ns, 1 + r2, sgL, rfl, rfl, sgL_ok, by omega, by (have e31 : ((31 : Nat) : Int) = 31 := rfl); show 1 + r2 ≤ ((31 : Nat) : Int); omega, by omega, fun ar oka za => ?_⟩
        have dar := dep_siz ar
        simp [TVar, TC, TOp, TTst, fI, TAnd, TOr, TNot, TAndV, TOrV, TNotV, TIf, TChain, TChainB, TNoPart, TPart, TSl, TFld, TFldO, TCon, TNil, TCons, TTup, TLst, TCB, TM1, TFmt, TJs, TJoined, TNext, TSeq, TBreak, TCont, TNever, TRet, TRetN, TDrop, TIfS, L3.TSet, TAug, TPar, GName, GNil, GCons, GTup, TAsg, TIl, TIt, TIs, TIr1, TIr2, TIz, TFor, TOwn, TOwnL, TApp, TExt, TBor, TBorB, TFrz, TPutF, TYes, TLc, TLc2, TCall, TStar, TMake, TOpC, TParO1, TParO0, TPutJ, TBorN, TIenT, TOwnLc, TMaxd, TCallK, lenF, isiAF, isiF, isiTF, PySem.W.kitAny, inF, sumF, allF, anyF, tupleF, int1F, max2F, joinF, ixF, addF, mulF, tyOf, TyK, clsOf, clsOfs, wipeD, hideS, flatD, putD, and_assoc, neNilF, slF, isF, isntF, isND]
        refine ⟨ar, rfl, by omega, by omega, ?_⟩
        refine ⟨p, c, ns, (plc ar).map plD, rfl, rfl, ?_, ?_, fun d hd => ?_⟩
        · intro e
          have := congrArg List.length e
          have h2 := siz_pos ar
          rw [List.length_map, plc_len, List.length_nil] at this
          omega
        · rw [List.length_map, plc_len]; omega
        obtain ⟨x2, hx2, rfl⟩ := List.mem_map.mp hd
        have at2 := plc_at hx2
        have pl2 := plc_pl hx2
        refine ⟨_, rfl, rfl, _, _, rfl, _, _, rfl, rfl, ?_⟩
        have ecut : L3.cutD [mD m0, mD m1, mD m2] none (some 2) = [mD m0, mD m1] := by
          unfold L3.cutD
          rw [HT.sIx_none, show (2 : Int) = ((2 : Nat) : Int) from rfl, HT.sIx_nat]
          rfl
        have p0 := L3.ok_put at2 oka ok0
        have p1 := L3.ok_put at2 oka ok1
        have q0 := siz_put (u := m0) at2
        have q1 := siz_put (u := m1) at2
        obtain ⟨u0, v0⟩ := tb _ p0 (by omega)
        obtain ⟨u1, v1⟩ := tb _ p1 (by omega)
        obtain ⟨w0, _⟩ := tb _ ok0 (by omega)
        obtain ⟨w1, _⟩ := tb _ ok1 (by omega)
        rw [ecut]
        simp [TVar, TC, TOp, TTst, fI, TAnd, TOr, TNot, TAndV, TOrV, TNotV, TIf, TChain, TChainB, TNoPart, TPart, TSl, TFld, TFldO, TCon, TNil, TCons, TTup, TLst, TCB, TM1, TFmt, TJs, TJoined, TNext, TSeq, TBreak, TCont, TNever, TRet, TRetN, TDrop, TIfS, L3.TSet, TAug, TPar, GName, GNil, GCons, GTup, TAsg, TIl, TIt, TIs, TIr1, TIr2, TIz, TFor, TOwn, TOwnL, TApp, TExt, TBor, TBorB, TFrz, TPutF, TYes, TLc, TLc2, TCall, TStar, TMake, TOpC, TParO1, TParO0, TPutJ, TBorN, TIenT, TOwnLc, TMaxd, TCallK, lenF, isiAF, isiF, isiTF, PySem.W.kitAny, inF, sumF, allF, anyF, tupleF, int1F, max2F, joinF, ixF, addF, mulF, tyOf, TyK, clsOf, clsOfs, wipeD, hideS, flatD, putD, and_assoc, neNilF, slF, isF, isntF, isND, CompD]
        refine ⟨ar, x2.1, m0, x2.2, rfl, at2, by omega, by omega, putT x2.1 ar m0, rfl, p0, by omega, v0, ?_⟩
        simp [TVar, TC, TOp, TTst, fI, TAnd, TOr, TNot, TAndV, TOrV, TNotV, TIf, TChain, TChainB, TNoPart, TPart, TSl, TFld, TFldO, TCon, TNil, TCons, TTup, TLst, TCB, TM1, TFmt, TJs, TJoined, TNext, TSeq, TBreak, TCont, TNever, TRet, TRetN, TDrop, TIfS, L3.TSet, TAug, TPar, GName, GNil, GCons, GTup, TAsg, TIl, TIt, TIs, TIr1, TIr2, TIz, TFor, TOwn, TOwnL, TApp, TExt, TBor, TBorB, TFrz, TPutF, TYes, TLc, TLc2, TCall, TStar, TMake, TOpC, TParO1, TParO0, TPutJ, TBorN, TIenT, TOwnLc, TMaxd, TCallK, lenF, isiAF, isiF, isiTF, PySem.W.kitAny, inF, sumF, allF, anyF, tupleF, int1F, max2F, joinF, ixF, addF, mulF, tyOf, TyK, clsOf, clsOfs, wipeD, hideS, flatD, putD, and_assoc, neNilF, slF, isF, isntF, isND]
        refine ⟨by omega, ar, x2.1, m1, x2.2, rfl, at2, by omega, by omega, putT x2.1 ar m1, rfl, p1, by omega, v1, ?_⟩
        simp [TVar, TC, TOp, TTst, fI, TAnd, TOr, TNot, TAndV, TOrV, TNotV, TIf, TChain, TChainB, TNoPart, TPart, TSl, TFld, TFldO, TCon, TNil, TCons, TTup, TLst, TCB, TM1, TFmt, TJs, TJoined, TNext, TSeq, TBreak, TCont, TNever, TRet, TRetN, TDrop, TIfS, L3.TSet, TAug, TPar, GName, GNil, GCons, GTup, TAsg, TIl, TIt, TIs, TIr1, TIr2, TIz, TFor, TOwn, TOwnL, TApp, TExt, TBor, TBorB, TFrz, TPutF, TYes, TLc, TLc2, TCall, TStar, TMake, TOpC, TParO1, TParO0, TPutJ, TBorN, TIenT, TOwnLc, TMaxd, TCallK, lenF, isiAF, isiF, isiTF, PySem.W.kitAny, inF, sumF, allF, anyF, tupleF, int1F, max2F, joinF, ixF, addF, mulF, tyOf, TyK, clsOf, clsOfs, wipeD, hideS, flatD, putD, and_assoc, neNilF, slF, isF, isntF, isND]
        refine ⟨by omega, putT x2.1 ar m0, putT x2.1 ar m1, rfl, u0, u1, m0, m1, rfl, w0, w1, ?_⟩
        rw [cmpT_put at2]
        refine neF_int.mpr (.inl ⟨by simp, hnx _ ⟨_, _, _, _, _, _, _, _, _, _, _, _, _, _, _, rfl⟩⟩)
    · rintro env ⟨s2, s3, s4, s5, s6, s7, s8, s9, s10, s11, s12, s13, s14, s15, s16, rfl⟩
      have ew : [D.str "a", D.str "aa", D.str "ab", D.str "b", D.str "f(a)", D.str "f(aa)", D.str "f(b)", D.str "g(a)", D.str "g(b)", D.str "f(f(a))", D.str "f(a,b)", D.str "f(b,a)", D.str "g(a,b)"] = wds.map fun t => D.str (mks t.txt) := by
        have e0 : (Str.ofString "a") = mks [97] := by decide +kernel
        have e1 : (Str.ofString "aa") = mks [97, 97] := by decide +kernel
        have e2 : (Str.ofString "ab") = mks [97, 98] := by decide +kernel
        have e3 : (Str.ofString "b") = mks [98] := by decide +kernel
        have e4 : (Str.ofString "f(a)") = mks [102, 40, 97, 41] := by decide +kernel
        have e5 : (Str.ofString "f(aa)") = mks [102, 40, 97, 97, 41] := by decide +kernel
        have e6 : (Str.ofString "f(b)") = mks [102, 40, 98, 41] := by decide +kernel
        have e7 : (Str.ofString "g(a)") = mks [103, 40, 97, 41] := by decide +kernel
        have e8 : (Str.ofString "g(b)") = mks [103, 40, 98, 41] := by decide +kernel
        have e9 : (Str.ofString "f(f(a))") = mks [102, 40, 102, 40, 97, 41, 41] := by decide +kernel
        have e10 : (Str.ofString "f(a,b)") = mks [102, 40, 97, 44, 98, 41] := by decide +kernel
        have e11 : (Str.ofString "f(b,a)") = mks [102, 40, 98, 44, 97, 41] := by decide +kernel
        have e12 : (Str.ofString "g(a,b)") = mks [103, 40, 97, 44, 98, 41] := by decide +kernel
        rw [e0, e1, e2, e3, e4, e5, e6, e7, e8, e9, e10, e11, e12]
        rfl
      simp [TVar, TC, TOp, TTst, fI, TAnd, TOr, TNot, TAndV, TOrV, TNotV, TIf, TChain, TChainB, TNoPart, TPart, TSl, TFld, TFldO, TCon, TNil, TCons, TTup, TLst, TCB, TM1, TFmt, TJs, TJoined, TNext, TSeq, TBreak, TCont, TNever, TRet, TRetN, TDrop, TIfS, L3.TSet, TAug, TPar, GName, GNil, GCons, GTup, TAsg, TIl, TIt, TIs, TIr1, TIr2, TIz, TFor, TOwn, TOwnL, TApp, TExt, TBor, TBorB, TFrz, TPutF, TYes, TLc, TLc2, TCall, TStar, TMake, TOpC, TParO1, TParO0, TPutJ, TBorN, TIenT, TOwnLc, TMaxd, TCallK, lenF, isiAF, isiF, isiTF, PySem.W.kitAny, inF, sumF, allF, anyF, tupleF, int1F, max2F, joinF, ixF, addF, mulF, tyOf, TyK, clsOf, clsOfs, wipeD, hideS, flatD, putD, and_assoc, neNilF, slF, isF, isntF, isND]
      rw [ew]
      refine ⟨by omega, compD_map (enc := fun t : Tr => D.str (mks t.txt)) (f := trD (He.ga K "Tree")) wds [] (fun t ht acc ψ hl q => ?_) (by show 0 + 13 ≤ _; omega) ?_⟩
      · obtain ⟨h1, h2⟩ := wds_ok t ht
        have h3 := dep_siz t
        have h4 := txt9 h1
        simp [TVar, TC, TOp, TTst, fI, TAnd, TOr, TNot, TAndV, TOrV, TNotV, TIf, TChain, TChainB, TNoPart, TPart, TSl, TFld, TFldO, TCon, TNil, TCons, TTup, TLst, TCB, TM1, TFmt, TJs, TJoined, TNext, TSeq, TBreak, TCont, TNever, TRet, TRetN, TDrop, TIfS, L3.TSet, TAug, TPar, GName, GNil, GCons, GTup, TAsg, TIl, TIt, TIs, TIr1, TIr2, TIz, TFor, TOwn, TOwnL, TApp, TExt, TBor, TBorB, TFrz, TPutF, TYes, TLc, TLc2, TCall, TStar, TMake, TOpC, TParO1, TParO0, TPutJ, TBorN, TIenT, TOwnLc, TMaxd, TCallK, lenF, isiAF, isiF, isiTF, PySem.W.kitAny, inF, sumF, allF, anyF, tupleF, int1F, max2F, joinF, ixF, addF, mulF, tyOf, TyK, clsOf, clsOfs, wipeD, hideS, flatD, putD, and_assoc, neNilF, slF, isF, isntF, isND]
        exact ⟨t, rfl, h1, by omega, by omega, hl, q⟩
      simp [TVar, TC, TOp, TTst, fI, TAnd, TOr, TNot, TAndV, TOrV, TNotV, TIf, TChain, TChainB, TNoPart, TPart, TSl, TFld, TFldO, TCon, TNil, TCons, TTup, TLst, TCB, TM1, TFmt, TJs, TJoined, TNext, TSeq, TBreak, TCont, TNever, TRet, TRetN, TDrop, TIfS, L3.TSet, TAug, TPar, GName, GNil, GCons, GTup, TAsg, TIl, TIt, TIs, TIr1, TIr2, TIz, TFor, TOwn, TOwnL, TApp, TExt, TBor, TBorB, TFrz, TPutF, TYes, TLc, TLc2, TCall, TStar, TMake, TOpC, TParO1, TParO0, TPutJ, TBorN, TIenT, TOwnLc, TMaxd, TCallK, lenF, isiAF, isiF, isiTF, PySem.W.kitAny, inF, sumF, allF, anyF, tupleF, int1F, max2F, joinF, ixF, addF, mulF, tyOf, TyK, clsOf, clsOfs, wipeD, hideS, flatD, putD, and_assoc, neNilF, slF, isF, isntF, isND]
      have hwl : wds.length = 13 := rfl
      have g : ∀ k : Nat, k < 13 → atI (wds.map (trD (He.ga K "Tree"))) (k : Int) = some (trD (He.ga K "Tree") (wds.getD k (.nd [] []))) := fun k hk => by
        rw [L3.atI_nat (by rw [List.length_map]; exact hk), List.getElem?_map, List.getD_eq_getElem?_getD, List.getElem?_eq_getElem (show k < wds.length from hk)]
        rfl
      have gd : ∀ k : Nat, k < 13 → (wds.getD k (.nd [] [])).dep ≤ 30 := fun k hk => by
        have hk2 : k < wds.length := hk
        have e : wds.getD k (.nd [] []) = wds[k] := by rw [List.getD_eq_getElem?_getD, List.getElem?_eq_getElem hk2]; rfl
        rw [e]
        have h1 := (wds_ok _ (List.getElem_mem hk2)).2
        have h2 := dep_siz wds[k]
        omega
      rw [hwl]
      refine ⟨by decide, by decide, compD_map (enc := fun i : Nat => D.int (i : Nat)) (f := fun _ => .bl true) (List.range 12) [] (fun k hk acc ψ hl q => ?_) (by show 0 + 12 ≤ _; omega) ⟨(List.range 12).map fun _ => true, ?_, ?_⟩⟩
      · have hk := List.mem_range.mp hk
        have g1 := g (k + 1) (by omega)
        have ec : ((k + 1 : Nat) : Int) = (k : Int) + 1 := by omega
        rw [ec] at g1
        have hc := wds_cmp k hk
        have d0 := gd k (by omega)
        have d1 := gd (k + 1) (by omega)
        simp [TVar, TC, TOp, TTst, fI, TAnd, TOr, TNot, TAndV, TOrV, TNotV, TIf, TChain, TChainB, TNoPart, TPart, TSl, TFld, TFldO, TCon, TNil, TCons, TTup, TLst, TCB, TM1, TFmt, TJs, TJoined, TNext, TSeq, TBreak, TCont, TNever, TRet, TRetN, TDrop, TIfS, L3.TSet, TAug, TPar, GName, GNil, GCons, GTup, TAsg, TIl, TIt, TIs, TIr1, TIr2, TIz, TFor, TOwn, TOwnL, TApp, TExt, TBor, TBorB, TFrz, TPutF, TYes, TLc, TLc2, TCall, TStar, TMake, TOpC, TParO1, TParO0, TPutJ, TBorN, TIenT, TOwnLc, TMaxd, TCallK, lenF, isiAF, isiF, isiTF, PySem.W.kitAny, inF, sumF, allF, anyF, tupleF, int1F, max2F, joinF, ixF, addF, mulF, tyOf, TyK, clsOf, clsOfs, wipeD, hideS, flatD, putD, and_assoc, neNilF, slF, isF, isntF, isND, g k (by omega), g1]
        refine ⟨wds.getD k (.nd [] []), wds.getD (k + 1) (.nd [] []), by simp, d0, d1, ?_⟩
        rw [hc]
        refine eqF_int.mpr ⟨hl, q⟩
      · rw [← blsD_map, List.map_map]; rfl
      · simp
end K5
namespace K5
open PySem PySem.Spec PyProof.Rows L2 L3
def d_is_sign : He5.DefA := { at_ := fun K => (He.ga K "is_sign"), name := "is_sign", qual := "is_sign", params := defArgs s_is_sign, body := defBody s_is_sign, scope := defScope s_is_sign }
def d_Tree__init : He5.DefA := { at_ := fun K => (He.ma K (He.ga K "Tree") "__init__"), name := "__init__", qual := "Tree.__init__", params := defArgs s_Tree__init, body := defBody s_Tree__init, scope := defScope s_Tree__init }
def d_Tree_read : He5.DefA := { at_ := fun K => (He5.wf K (He.ga K "Tree") "staticmethod" "read"), name := "read", qual := "Tree.read", params := defArgs s_Tree_read, body := defBody s_Tree_read, scope := defScope s_Tree_read }
def d_Tree__eq : He5.DefA := { at_ := fun K => (He.ma K (He.ga K "Tree") "__eq__"), name := "__eq__", qual := "Tree.__eq__", params := defArgs s_Tree__eq, body := defBody s_Tree__eq, scope := defScope s_Tree__eq }
def d_deepest : He5.DefA := { at_ := fun K => (He.ga K "deepest"), name := "deepest", qual := "deepest", params := defArgs s_deepest, body := defBody s_deepest, scope := defScope s_deepest }
def d_tree_from : He5.DefA := { at_ := fun K => (He.ga K "tree_from"), name := "tree_from", qual := "tree_from", params := defArgs s_tree_from, body := defBody s_tree_from, scope := defScope s_tree_from }
def d_compare_trees : He5.DefA := { at_ := fun K => (He.ga K "compare_trees"), name := "compare_trees", qual := "compare_trees", params := defArgs s_compare_trees, body := defBody s_compare_trees, scope := defScope s_compare_trees }
def d_law_hand : He5.DefA := { at_ := fun K => (He.ga K "_law_hand"), name := "_law_hand", qual := "_law_hand", params := defArgs s_law_hand, body := defBody s_law_hand, scope := defScope s_law_hand }
def d_law_pick : He5.DefA := { at_ := fun K => (He.ga K "_law_pick"), name := "_law_pick", qual := "_law_pick", params := defArgs s_law_pick, body := defBody s_law_pick, scope := defScope s_law_pick }
def d_law_of : He5.DefA := { at_ := fun K => (He.ga K "_law_of"), name := "_law_of", qual := "_law_of", params := defArgs s_law_of, body := defBody s_law_of, scope := defScope s_law_of }
def d_law_same : He5.DefA := { at_ := fun K => (He.ga K "_law_same"), name := "_law_same", qual := "_law_same", params := defArgs s_law_same, body := defBody s_law_same, scope := defScope s_law_same }
def d_law_tree : He5.DefA := { at_ := fun K => (He.ga K "_law_tree"), name := "_law_tree", qual := "_law_tree", params := defArgs s_law_tree, body := defBody s_law_tree, scope := defScope s_law_tree }
def d_law_size : He5.DefA := { at_ := fun K => (He.ga K "_law_size"), name := "_law_size", qual := "_law_size", params := defArgs s_law_size, body := defBody s_law_size, scope := defScope s_law_size }
def d_law_key : He5.DefA := { at_ := fun K => (He.ga K "_law_key"), name := "_law_key", qual := "_law_key", params := defArgs s_law_key, body := defBody s_law_key, scope := defScope s_law_key }
def d_law_signs : He5.DefA := { at_ := fun K => (He.ga K "_law_signs"), name := "_law_signs", qual := "_law_signs", params := defArgs s_law_signs, body := defBody s_law_signs, scope := defScope s_law_signs }
def d_law_drawn : He5.DefA := { at_ := fun K => (He.ga K "_law_drawn"), name := "_law_drawn", qual := "_law_drawn", params := defArgs s_law_drawn, body := defBody s_law_drawn, scope := defScope s_law_drawn }
def d_law_places : He5.DefA := { at_ := fun K => (He.ga K "_law_places"), name := "_law_places", qual := "_law_places", params := defArgs s_law_places, body := defBody s_law_places, scope := defScope s_law_places }
def d_law_put : He5.DefA := { at_ := fun K => (He.ga K "_law_put"), name := "_law_put", qual := "_law_put", params := defArgs s_law_put, body := defBody s_law_put, scope := defScope s_law_put }
def d_law : He5.DefA := { at_ := fun K => (He.ga K "law"), name := "law", qual := "law", params := defArgs s_law, body := defBody s_law, scope := defScope s_law }
def fa : List He.Fa := [.glo "Tree", .cls "Tree", .mkr "Tree", .noat "Tree" "sign", .noat "Tree" "branches", .noat "Tree" "size", .noat "Tree" "depth", .noat "Tree" "text", .noat "Tree" "inside", .noat "Tree" "key", .glo "is_sign", .glo "deepest", .glo "tree_from", .glo "compare_trees", .glo "_law_hand", .glo "_law_pick", .glo "_law_of", .glo "_law_same", .glo "_law_tree", .glo "_law_size", .glo "_law_key", .glo "_law_signs", .glo "_law_drawn", .glo "_law_places", .glo "_law_put", .glo "law", .free "isinstance", .free "str", .free "len", .free "all", .free "int", .free "sum", .free "max", .free "tuple", .free "bool", .free "list", .free "zip", .free "range", .free "enumerate", .int "MOST_LETTERS" 6, .int "MOST_BRANCHES_trees" 3, .int "MOST_NESTED" 100, .str "LETTERS" "abcdefghijklmnopqrstuvwxyz"]
def fn : List He5.DefA := [d_is_sign, d_Tree__init, d_Tree_read, d_Tree__eq, d_deepest, d_tree_from, d_compare_trees, d_law_hand, d_law_pick, d_law_of, d_law_same, d_law_tree, d_law_size, d_law_key, d_law_signs, d_law_drawn, d_law_places, d_law_put, d_law]
def ex : List ExB := [insB "Tree", eqB "Tree", nfB "Tree" (rC "Tree"), kitB (rC "Tree") (rC "Tree") true, crB "Tree", smB "Tree" "read"]
def loose0 : List Str := ["_wall", "TradeError", "InvalidSign", "InvalidBranches", "InvalidText", "LETTERS", "MOST_LETTERS", "MOST_BRANCHES_trees", "MOST_NESTED", "is_sign", "Tree", "deepest", "tree_from", "compare_trees", "_law_hand", "_law_pick", "_law_of", "_law_same", "_law_tree", "_law_size", "_law_key", "_law_signs", "_law_drawn", "_law_places", "_law_put"]
def loose : List Str := loose0
abbrev R : PySem.W.OpenRow := PySem.W.OpenLaw.row PySem.Challenge.rw_piecetrade_k05_whole_order_of_trees
abbrev hk : PySem.W.Hook := hookX 6 fa fn ex
def ob (s : PySem.W.SharedT) : He.AlD := obsXG 6 fa fn ex (HandSHeadRun.getT s)
theorem ob_eq (s : PySem.W.SharedT) : ob s = hk.obs s.abs := obsXG_eq (HandSHeadRun.getT_eq s)
theorem run (w : World) : HandSHeadRun.RunEq R (PySem.W.view R.prog [28]) hk ob 3000 loose w := by
  intro os
  kernel_rfl
theorem tx_of {K : PySem.W.Frag} {h : Heap} {mg : Str → Option Value} (X : K.In h) (G : h.Ns mainGlobals mg) (c : SaysX fa fn ex K) : Tx K mg where
  mg_Tree := He.glo_ok X G (c.fact 0 (f := .glo "Tree") rfl)
  cl_Tree := He.cls_ok (c.fact 1 (f := .cls "Tree") rfl)
  mk_Tree := He.mkr_ok (c.fact 2 (f := .mkr "Tree") rfl)
  in_Tree := insB_ok (c.ex_ 0 (f := insB "Tree") rfl) (He.cls_ok (c.fact 1 (f := .cls "Tree") rfl))
  eq_Tree := eqB_ok (c.ex_ 1 (f := eqB "Tree") rfl)
  nf_Tree := c.ex_ 2 (f := nfB "Tree" (rC "Tree")) rfl
  ki_Tree := kitB_ok (c.ex_ 3 (f := kitB (rC "Tree") (rC "Tree") true) rfl)
  na_Tree_sign := He.noat_ok (c.fact 3 (f := .noat "Tree" "sign") rfl)
  na_Tree_branches := He.noat_ok (c.fact 4 (f := .noat "Tree" "branches") rfl)
  na_Tree_size := He.noat_ok (c.fact 5 (f := .noat "Tree" "size") rfl)
  na_Tree_depth := He.noat_ok (c.fact 6 (f := .noat "Tree" "depth") rfl)
  na_Tree_text := He.noat_ok (c.fact 7 (f := .noat "Tree" "text") rfl)
  na_Tree_inside := He.noat_ok (c.fact 8 (f := .noat "Tree" "inside") rfl)
  na_Tree_key := He.noat_ok (c.fact 9 (f := .noat "Tree" "key") rfl)
  mg_is_sign := He.glo_ok X G (c.fact 10 (f := .glo "is_sign") rfl)
  fd_is_sign := c.def_ 0 (d := d_is_sign) rfl
  kp_is_sign := (c.def_ 0 (d := d_is_sign) rfl).choose_spec.kp
  fd_Tree__init := c.def_ 1 (d := d_Tree__init) rfl
  sm_Tree_read := smB_ok (crB_ok (c.ex_ 4 (f := crB "Tree") rfl)) (c.ex_ 5 (f := smB "Tree" "read") rfl)
  fd_Tree_read := c.def_ 2 (d := d_Tree_read) rfl
  fd_Tree__eq := c.def_ 3 (d := d_Tree__eq) rfl
  mg_deepest := He.glo_ok X G (c.fact 11 (f := .glo "deepest") rfl)
  fd_deepest := c.def_ 4 (d := d_deepest) rfl
  kp_deepest := (c.def_ 4 (d := d_deepest) rfl).choose_spec.kp
  mg_tree_from := He.glo_ok X G (c.fact 12 (f := .glo "tree_from") rfl)
  fd_tree_from := c.def_ 5 (d := d_tree_from) rfl
  kp_tree_from := (c.def_ 5 (d := d_tree_from) rfl).choose_spec.kp
  mg_compare_trees := He.glo_ok X G (c.fact 13 (f := .glo "compare_trees") rfl)
  fd_compare_trees := c.def_ 6 (d := d_compare_trees) rfl
  kp_compare_trees := (c.def_ 6 (d := d_compare_trees) rfl).choose_spec.kp
  mg_law_hand := He.glo_ok X G (c.fact 14 (f := .glo "_law_hand") rfl)
  fd_law_hand := c.def_ 7 (d := d_law_hand) rfl
  kp_law_hand := (c.def_ 7 (d := d_law_hand) rfl).choose_spec.kp
  mg_law_pick := He.glo_ok X G (c.fact 15 (f := .glo "_law_pick") rfl)
  fd_law_pick := c.def_ 8 (d := d_law_pick) rfl
  kp_law_pick := (c.def_ 8 (d := d_law_pick) rfl).choose_spec.kp
  mg_law_of := He.glo_ok X G (c.fact 16 (f := .glo "_law_of") rfl)
  fd_law_of := c.def_ 9 (d := d_law_of) rfl
  kp_law_of := (c.def_ 9 (d := d_law_of) rfl).choose_spec.kp
  mg_law_same := He.glo_ok X G (c.fact 17 (f := .glo "_law_same") rfl)
  fd_law_same := c.def_ 10 (d := d_law_same) rfl
  kp_law_same := (c.def_ 10 (d := d_law_same) rfl).choose_spec.kp
  mg_law_tree := He.glo_ok X G (c.fact 18 (f := .glo "_law_tree") rfl)
  fd_law_tree := c.def_ 11 (d := d_law_tree) rfl
  kp_law_tree := (c.def_ 11 (d := d_law_tree) rfl).choose_spec.kp
  mg_law_size := He.glo_ok X G (c.fact 19 (f := .glo "_law_size") rfl)
  fd_law_size := c.def_ 12 (d := d_law_size) rfl
  kp_law_size := (c.def_ 12 (d := d_law_size) rfl).choose_spec.kp
  mg_law_key := He.glo_ok X G (c.fact 20 (f := .glo "_law_key") rfl)
  fd_law_key := c.def_ 13 (d := d_law_key) rfl
  kp_law_key := (c.def_ 13 (d := d_law_key) rfl).choose_spec.kp
  mg_law_signs := He.glo_ok X G (c.fact 21 (f := .glo "_law_signs") rfl)
  fd_law_signs := c.def_ 14 (d := d_law_signs) rfl
  kp_law_signs := (c.def_ 14 (d := d_law_signs) rfl).choose_spec.kp
  mg_law_drawn := He.glo_ok X G (c.fact 22 (f := .glo "_law_drawn") rfl)
  fd_law_drawn := c.def_ 15 (d := d_law_drawn) rfl
  kp_law_drawn := (c.def_ 15 (d := d_law_drawn) rfl).choose_spec.kp
  mg_law_places := He.glo_ok X G (c.fact 23 (f := .glo "_law_places") rfl)
  fd_law_places := c.def_ 16 (d := d_law_places) rfl
  kp_law_places := (c.def_ 16 (d := d_law_places) rfl).choose_spec.kp
  mg_law_put := He.glo_ok X G (c.fact 24 (f := .glo "_law_put") rfl)
  fd_law_put := c.def_ 17 (d := d_law_put) rfl
  kp_law_put := (c.def_ 17 (d := d_law_put) rfl).choose_spec.kp
  mg_law := He.glo_ok X G (c.fact 25 (f := .glo "law") rfl)
  fd_law := c.def_ 18 (d := d_law) rfl
  kp_law := (c.def_ 18 (d := d_law) rfl).choose_spec.kp
  no_isinstance := He.free_ok X G (c.fact 26 (f := .free "isinstance") rfl)
  no_str := He.free_ok X G (c.fact 27 (f := .free "str") rfl)
  no_len := He.free_ok X G (c.fact 28 (f := .free "len") rfl)
  no_all := He.free_ok X G (c.fact 29 (f := .free "all") rfl)
  no_int := He.free_ok X G (c.fact 30 (f := .free "int") rfl)
  no_sum := He.free_ok X G (c.fact 31 (f := .free "sum") rfl)
  no_max := He.free_ok X G (c.fact 32 (f := .free "max") rfl)
  no_tuple := He.free_ok X G (c.fact 33 (f := .free "tuple") rfl)
  no_bool := He.free_ok X G (c.fact 34 (f := .free "bool") rfl)
  no_list := He.free_ok X G (c.fact 35 (f := .free "list") rfl)
  no_zip := He.free_ok X G (c.fact 36 (f := .free "zip") rfl)
  no_range := He.free_ok X G (c.fact 37 (f := .free "range") rfl)
  no_enumerate := He.free_ok X G (c.fact 38 (f := .free "enumerate") rfl)
  mg_MOST_LETTERS := He.int_ok X G (c.fact 39 (f := .int "MOST_LETTERS" 6) rfl)
  mg_MOST_BRANCHES_trees := He.int_ok X G (c.fact 40 (f := .int "MOST_BRANCHES_trees" 3) rfl)
  mg_MOST_NESTED := He.int_ok X G (c.fact 41 (f := .int "MOST_NESTED" 100) rfl)
  mg_LETTERS := He.str_ok X G (c.fact 42 (f := .str "LETTERS" "abcdefghijklmnopqrstuvwxyz") rfl)
end K5
open PySem PySem.W PySem.Calls PyProof.Rows
theorem PySem.Challenge.cw_piecetrade_k05_whole_order_of_trees_holds : PySem.Challenge.rw_piecetrade_k05_whole_order_of_trees.Holds := by
  w_on; o_law
  refine HandSHeadRun.head_any (r := OpenLaw.row PySem.Challenge.rw_piecetrade_k05_whole_order_of_trees) (q := view (OpenLaw.row PySem.Challenge.rw_piecetrade_k05_whole_order_of_trees).prog [28]) (H := K5.hk) (ob := K5.ob) (M := 3000) (loose := K5.loose) (d := HandSHeadRun.topDef (OpenLaw.row PySem.Challenge.rw_piecetrade_k05_whole_order_of_trees).prog 28) (kwd := []) K5.ob_eq
    (by kernel_rfl) (fun s => by kernel_rfl) K5.run (by kernel_rfl) (by kernel_rfl) (by kernel_rfl) (by rfl) (by first | assumption | decide +kernel) (by decide +kernel) ⟨rfl, rfl, rfl, rfl, rfl, by decide +kernel⟩ ?hw ?hc
  case hw => w_witness2
  case hc =>
    refine L3.walk_ofEW (l := PySem.Challenge.rw_piecetrade_k05_whole_order_of_trees) (n := 63) (k := 200) (x := "_law_script") (CX' := fun w => L2N.CX (PySem.Challenge.rw_piecetrade_k05_whole_order_of_trees).prog w) rfl (by decide) (by kernel_rfl) ⟨rfl, by decide, by decide⟩ ?F (fun _ _ _ _ _ z => L3.cx_no z)
    intro w mg fa h Y G hmg0
    obtain ⟨K, KX, c⟩ := Y
    have tx := K5.tx_of KX G c
    have hmg : mg ("law" : PySem.Str) = some (.ref fa) := by
      have e : (HandSHeadRun.topDef (OpenLaw.row PySem.Challenge.rw_piecetrade_k05_whole_order_of_trees).prog 28).name = ("law" : PySem.Str) := by kernel_rfl
      rw [← e]
      exact hmg0
    have e := hmg.symm.trans tx.mg_law
    cases e
    obtain ⟨fd, FD⟩ := tx.fd_law
    have b := L2.FunD.bindsA (ps := ["_law_script"]) FD fun _ _ _ _ _ _ us hl => match us, hl with | [_], _ => rfl
    exact ⟨K, fd, L3.sp_law K, KX, fun s v => b s [v] rfl, fun H a ns hl hO hS => ⟨a, ns, rfl, hO, hS, hl, fun _ => rfl⟩, fun base _ _ => K5.ok_law tx FD⟩
