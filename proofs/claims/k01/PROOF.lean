import PyProof.Rows.All
import Wide.All
import OpenK.AllK
import Wide.FinOn
import KE.KLam
import KE.KDflt
import HandS.ForMost
import HandS.Exc
import HandS.ExcCtx
import HandS.Lambda
import HandS.WordsExc
import HandS.CallSlots
import HandS.TupAny
import HandS.FStr
import HandS.IsInst
import HandS.Zip
import HandS.Small
import HandS.Defaults
import HandS.Star
import HandS.More
import PyProof.InstEq
import PyProof.InstNe
import HandS.ClsMeth
import KE.DataMinMax
import PyProof.Rows.CallKwBuiltin
import KE.DataCmp
import KE.GoesEnum
import KE.KStateDown
import HandS.Head0
import HandS.Head1
import HandS.Head2
import HandS.HeadEnd
import HandS.HeadHook1
import HandS.HeadHook2
import HandS.HeadNt
import KE.KExcSuper
import KE.KExcInit
import HandS.ExcInit
import KE.KSuper
import HandS.ExcInitHot
import HandS.RaiseFrom
import HandS.HotCalls
import HandS.ExcField
import KE.KTryMore
import HandS.HeadHook4
import HandS.HeadWalk
import HandS.EndTab
import HandS.NestedK
import HandS.SuiteRaise
import HandS.MakeKwOnly
import KE.KFmtOwn
import PyProof.InstSpecial
import HandS.NoneIn
import PySem.Challenge.RW_piecetrade_k01_trees_made_and_refused
set_option Elab.async false
set_option linter.all false
set_option maxRecDepth 100000
set_option maxHeartbeats 4000000
/-! L3: values by what they hold (no heap), over the hand layer. -/
namespace PySem.W
open PySem
theorem lam_defaultsOf_eq (args : Arguments) (env : Env) : defaultsOf args env = (evalEach args.defaults env, evalEachOpt args.kw_defaults env) := by cases args; rfl
end PySem.W
namespace L3
open PySem PySem.Spec PyProof.Rows L2

/-- a lambda's text -/
structure LamC where
  qual : Str
  params : Arguments
  body : Expr
  scope : Scope
/-- a value with all that it holds; exc: an own exception held as a value; clo: a lambda with what it captured; lam: the same within its maker, with the maker's cells; dic: a dict that stays -/
inductive D where
  | non | bl (b : Bool) | int (i : Int) | str (x : Str) | ty (n : String) | ref (a : Addr)
  | tup (ds : List D) | lst (ds : List D) | ins (C : Addr) (fs : List (Str × D))
  | exc (C : Addr) (fs : List (Str × D)) | clo (L : LamC) (ds : List D) | lam (L : LamC) (cl : List (Str × Addr)) | dic (kvs : List (Key × D))
instance : Inhabited D := ⟨.non⟩
/-- the names that a lambda captures, as its closure keeps them -/
def lamN (sc : Scope) : List Str := ((sc.names.filter fun y => y.2 == .free).map (·.1)).reverse
theorem defaults_nil {params : Arguments} {env : Env} (h : defaultsOf params env = ([], [])) : params.defaults = [] := by
  rw [PySem.W.lam_defaultsOf_eq] at h
  have h1 : evalEach params.defaults env = [] := congrArg Prod.fst h
  cases e : params.defaults with
  | nil => rfl
  | cons a r =>
    rw [e] at h1
    cases h1
/-- the defaults of a lambda (none, or one), as its function object holds them -/
def DvAt (R : Hp) (ps : Arguments) (dV : Value) : Prop := (ps.defaults = [] ∧ dV = .none) ∨ (ps.defaults ≠ [] ∧ ∃ t v, dV = .ref t ∧ R t = some (.frz (PySem.W.kdv_tup [v]) (.ext fun _ => True)))
theorem DvAt.mono {R R' : Hp} (s : Same R R') {ps : Arguments} {dV : Value} (h : DvAt R ps dV) : DvAt R' ps dV := by
  rcases h with h | ⟨h1, t, v, h2, h3⟩
  · exact .inl h
  · exact .inr ⟨h1, t, v, h2, s _ _ h3⟩
/-- a lambda's function object lies at f -/
def LamAt (R : Hp) (L : LamC) (cl : List (Str × Addr)) (f : Addr) : Prop := ∃ (c : Addr) (pm ctv dV doc : Value) (o : HO), R f = some o ∧ (∀ P w H h, ObjOk P w H h f o → h.get? f = some (PySem.W.kdv_obj "<lambda>" L.qual L.params (.expr L.body) L.scope cl dV doc pm c ctv)) ∧ R c = some (LamX.CodeO c L.qual) ∧
  cl.map (·.1) = lamN L.scope ∧ (∀ x y a, cl.lookup x = some a → cl.lookup y = some a → x = y) ∧ DvAt R L.params dV
/-- the cells hold these values, tracked for a while -/
def CellsAt (R : Hp) : List (Str × Addr) → List V → Prop
  | [], vs => vs = []
  | (_, c) :: r, vs => ∃ v t x u, vs = v :: t ∧ R c = some (.frz x (.ext fun _ => True)) ∧ x.data = .cell (some u) ∧ RelV v u ∧ CellsAt R r t
/-- an exception's object at a, its dict at dx -/
def ExcAt (R : Hp) (C dx a : Addr) : Prop := ∃ o : HO, R a = some o ∧ ∀ P w H h, ObjOk P w H h a o → ∃ (oe : Obj) (vs : Array Value), h.get? a = some oe ∧ oe.cls = .ref C ∧ oe.dict = some dx ∧ oe.data = .fields vs
theorem LamAt.mono {R R' : Hp} (s : Same R R') {L : LamC} {cl : List (Str × Addr)} {f : Addr} (h : LamAt R L cl f) : LamAt R' L cl f := by
  obtain ⟨c, pm, ctv, dV, doc, φ, h1, h2, h3, h4, h5, h6⟩ := h
  exact ⟨c, pm, ctv, dV, doc, φ, s _ _ h1, h2, s _ _ h3, h4, h5, h6.mono s⟩
theorem CellsAt.mono {R R' : Hp} (s : Same R R') : ∀ {cl : List (Str × Addr)} {vs : List V}, CellsAt R cl vs → CellsAt R' cl vs
  | [], _, h => h
  | (x, c) :: r, vs, h => by
    obtain ⟨v, t, φ, u, e, h1, h2, h3, h4⟩ := h
    exact ⟨v, t, φ, u, e, s _ _ h1, h2, h3, CellsAt.mono s h4⟩
theorem ExcAt.mono {R R' : Hp} (s : Same R R') {C dx a : Addr} (h : ExcAt R C dx a) : ExcAt R' C dx a := by
  obtain ⟨φ, h1, h2⟩ := h
  exact ⟨φ, s _ _ h1, h2⟩

mutual
def Rep (K : PySem.W.Frag) (R : Hp) : D → V → Prop
  | .non, v => v = .non
  | .bl b, v => v = .bl b
  | .int i, v => v = .int i
  | .str x, v => v = .str x
  | .ty n, v => v = .ty n
  | .ref a, v => v = .ref a
  | .tup ds, v => ∃ p xs, v = .ref p ∧ R p = some (.tup xs) ∧ Reps K R ds xs
  | .lst ds, v => ∃ p xs, v = .ref p ∧ R p = some (.lst xs) ∧ Reps K R ds xs
  | .ins C fs, v => ∃ p dx fvs, v = .ref p ∧ R p = some (.ins C dx fvs) ∧ RepF K R fs fvs
  | .exc C fs, v => ∃ p dx fvs, v = .ref p ∧ ExcAt R C dx p ∧ R dx = some (.xd fvs) ∧ RepF K R fs fvs
  | .clo L ds, v => ∃ f cl xs, v = .ref f ∧ LamAt R L cl f ∧ CellsAt R cl xs ∧ Reps K R ds xs
  | .lam L cl, v => ∃ f, v = .ref f ∧ LamAt R L cl f
  | .dic kvs, v => ∃ p xs, v = .ref p ∧ R p = some (.dK xs) ∧ RepK K R kvs xs
def Reps (K : PySem.W.Frag) (R : Hp) : List D → List V → Prop
  | [], vs => vs = []
  | d :: ds, vs => ∃ v r, vs = v :: r ∧ Rep K R d v ∧ Reps K R ds r
def RepF (K : PySem.W.Frag) (R : Hp) : List (Str × D) → List (Str × V) → Prop
  | [], vs => vs = []
  | (f, d) :: ds, vs => ∃ v r, vs = (f, v) :: r ∧ Rep K R d v ∧ RepF K R ds r
def RepK (K : PySem.W.Frag) (R : Hp) : List (Key × D) → List (Key × V) → Prop
  | [], vs => vs = []
  | (f, d) :: ds, vs => ∃ v r, vs = (f, v) :: r ∧ Rep K R d v ∧ RepK K R ds r
end
section
variable {K : PySem.W.Frag} {R R' : Hp}
theorem same_seqT {H H' : Hp} {a : Addr} {xs : List V} (e : Same H H') (h : SqT K H a xs) : SqT K H' a xs := by
  rcases h with (h | ⟨o, h⟩) | h
  · exact .inl (.inl (e _ _ h))
  · exact .inl (.inr ⟨o, e _ _ h⟩)
  · exact .inr h
mutual
theorem Rep.mono (s : Same R R') : ∀ {d : D} {v : V}, Rep K R d v → Rep K R' d v
  | .non, _, h => h
  | .bl _, _, h => h
  | .int _, _, h => h
  | .str _, _, h => h
  | .ty _, _, h => h
  | .ref _, _, h => h
  | .tup ds, v, h => by
    unfold Rep at h ⊢
    obtain ⟨p, xs, e, q, r⟩ := h
    exact ⟨p, xs, e, s _ _ q, Reps.mono s r⟩
  | .lst ds, v, h => by
    unfold Rep at h ⊢
    obtain ⟨p, xs, e, q, r⟩ := h
    exact ⟨p, xs, e, s _ _ q, Reps.mono s r⟩
  | .ins C fs, v, h => by
    unfold Rep at h ⊢
    obtain ⟨p, dx, xs, e, q, r⟩ := h
    exact ⟨p, dx, xs, e, s _ _ q, RepF.mono s r⟩
  | .exc C fs, v, h => by
    unfold Rep at h ⊢
    obtain ⟨p, dx, xs, e, q, q2, r⟩ := h
    exact ⟨p, dx, xs, e, q.mono s, s _ _ q2, RepF.mono s r⟩
  | .clo L ds, v, h => by
    unfold Rep at h ⊢
    obtain ⟨f, cl, xs, e, q, q2, r⟩ := h
    exact ⟨f, cl, xs, e, q.mono s, q2.mono s, Reps.mono s r⟩
  | .lam L cl, v, h => by
    unfold Rep at h ⊢
    obtain ⟨f, e, q⟩ := h
    exact ⟨f, e, q.mono s⟩
  | .dic kvs, v, h => by
    unfold Rep at h ⊢
    obtain ⟨p, xs, e, q, r⟩ := h
    exact ⟨p, xs, e, s _ _ q, RepK.mono s r⟩
theorem Reps.mono (s : Same R R') : ∀ {ds : List D} {vs : List V}, Reps K R ds vs → Reps K R' ds vs
  | [], _, h => h
  | d :: ds, vs, h => by
    unfold Reps at h ⊢
    obtain ⟨v, r, e, h1, h2⟩ := h
    exact ⟨v, r, e, Rep.mono s h1, Reps.mono s h2⟩
theorem RepF.mono (s : Same R R') : ∀ {ds : List (Str × D)} {vs : List (Str × V)}, RepF K R ds vs → RepF K R' ds vs
  | [], _, h => h
  | (f, d) :: ds, vs, h => by
    unfold RepF at h ⊢
    obtain ⟨v, r, e, h1, h2⟩ := h
    exact ⟨v, r, e, Rep.mono s h1, RepF.mono s h2⟩
theorem RepK.mono (s : Same R R') : ∀ {ds : List (Key × D)} {vs : List (Key × V)}, RepK K R ds vs → RepK K R' ds vs
  | [], _, h => h
  | (f, d) :: ds, vs, h => by
    unfold RepK at h ⊢
    obtain ⟨v, r, e, h1, h2⟩ := h
    exact ⟨v, r, e, Rep.mono s h1, RepK.mono s h2⟩
end
theorem Reps.length : ∀ {ds : List D} {vs : List V}, Reps K R ds vs → vs.length = ds.length
  | [], vs, h => by
    have e : vs = [] := h
    rw [e]; rfl
  | d :: ds, vs, h => by
    obtain ⟨v, r, e, _, h2⟩ := (show ∃ v r, vs = v :: r ∧ Rep K R d v ∧ Reps K R ds r from h)
    rw [e, List.length_cons, List.length_cons, Reps.length h2]
theorem Reps.get : ∀ {ds : List D} {vs : List V} {i : Nat} {d : D}, Reps K R ds vs → ds[i]? = some d → ∃ v, vs[i]? = some v ∧ Rep K R d v
  | [], vs, i, d, h, e => by simp at e
  | d' :: ds, vs, i, d, h, e => by
    obtain ⟨v, r, ev, h1, h2⟩ := (show ∃ v r, vs = v :: r ∧ Rep K R d' v ∧ Reps K R ds r from h)
    subst ev
    cases i with
    | zero =>
      have : d' = d := by simpa using e
      subst this
      exact ⟨v, rfl, h1⟩
    | succ i =>
      obtain ⟨u, q1, q2⟩ := Reps.get h2 (show ds[i]? = some d by simpa using e)
      exact ⟨u, by simpa using q1, q2⟩
theorem Reps.get' {ds : List D} {vs : List V} {i : Nat} {v : V} (h : Reps K R ds vs) (e : vs[i]? = some v) : ∃ d, ds[i]? = some d ∧ Rep K R d v := by
  have hl := h.length
  have hi : i < ds.length := by
    rw [← hl]
    exact (List.getElem?_eq_some_iff.mp e).1
  obtain ⟨u, h1, h2⟩ := h.get (List.getElem?_eq_getElem hi)
  rw [e] at h1
  cases h1
  exact ⟨_, List.getElem?_eq_getElem hi, h2⟩
theorem Reps.append : ∀ {ds es : List D} {vs us : List V}, Reps K R ds vs → Reps K R es us → Reps K R (ds ++ es) (vs ++ us)
  | [], es, vs, us, h, q => by
    have e : vs = [] := h
    subst e
    exact q
  | d :: ds, es, vs, us, h, q => by
    obtain ⟨v, r, e, h1, h2⟩ := (show ∃ v r, vs = v :: r ∧ Rep K R d v ∧ Reps K R ds r from h)
    subst e
    exact ⟨v, r ++ us, rfl, h1, Reps.append h2 q⟩
theorem Reps.one {d : D} {v : V} (h : Rep K R d v) : Reps K R [d] [v] := ⟨v, [], rfl, h, rfl⟩
theorem Reps.cons {d : D} {v : V} {ds : List D} {vs : List V} (h : Rep K R d v) (q : Reps K R ds vs) : Reps K R (d :: ds) (v :: vs) := ⟨v, vs, rfl, h, q⟩
theorem Reps.nil : Reps K R [] [] := rfl
theorem Reps.snoc {d : D} {v : V} {ds : List D} {vs : List V} (q : Reps K R ds vs) (h : Rep K R d v) : Reps K R (ds ++ [d]) (vs ++ [v]) := q.append (.one h)
theorem Reps.drop : ∀ {ds : List D} {vs : List V} (n : Nat), Reps K R ds vs → Reps K R (ds.drop n) (vs.drop n)
  | ds, vs, 0, h => h
  | [], vs, n + 1, h => by
    have e : vs = [] := h
    subst e
    exact h
  | d :: ds, vs, n + 1, h => by
    obtain ⟨v, r, e, _, h2⟩ := (show ∃ v r, vs = v :: r ∧ Rep K R d v ∧ Reps K R ds r from h)
    subst e
    exact Reps.drop n h2
theorem Reps.take : ∀ {ds : List D} {vs : List V} (n : Nat), Reps K R ds vs → Reps K R (ds.take n) (vs.take n)
  | ds, vs, 0, h => by
    rw [List.take_zero, List.take_zero]
    exact .nil
  | [], vs, n + 1, h => by
    have e : vs = [] := h
    subst e
    exact h
  | d :: ds, vs, n + 1, h => by
    obtain ⟨v, r, e, h1, h2⟩ := (show ∃ v r, vs = v :: r ∧ Rep K R d v ∧ Reps K R ds r from h)
    subst e
    exact .cons h1 (Reps.take n h2)
theorem Reps.set : ∀ {ds : List D} {vs : List V} (n : Nat) {d : D} {v : V}, Reps K R ds vs → Rep K R d v → Reps K R (ds.set n d) (vs.set n v)
  | [], vs, n, d, v, h, _ => by
    have e : vs = [] := h
    subst e
    exact h
  | c :: ds, vs, 0, d, v, h, q => by
    obtain ⟨u, r, e, h1, h2⟩ := (show ∃ v r, vs = v :: r ∧ Rep K R c v ∧ Reps K R ds r from h)
    subst e
    exact .cons q h2
  | c :: ds, vs, n + 1, d, v, h, q => by
    obtain ⟨u, r, e, h1, h2⟩ := (show ∃ v r, vs = v :: r ∧ Rep K R c v ∧ Reps K R ds r from h)
    subst e
    exact .cons h1 (Reps.set n h2 q)
/-- texts -/
theorem Reps.strs : ∀ {xs : List Str} {vs : List V}, Reps K R (xs.map D.str) vs → vs = xs.map V.str
  | [], vs, h => h
  | x :: xs, vs, h => by
    obtain ⟨v, r, e, h1, h2⟩ := (show ∃ v r, vs = v :: r ∧ Rep K R (.str x) v ∧ Reps K R (xs.map D.str) r from h)
    have h3 : v = .str x := h1
    rw [e, h3, Reps.strs h2]
    rfl
theorem Reps.ints : ∀ {xs : List Int} {vs : List V}, Reps K R (xs.map D.int) vs → vs = xs.map V.int
  | [], vs, h => h
  | x :: xs, vs, h => by
    obtain ⟨v, r, e, h1, h2⟩ := (show ∃ v r, vs = v :: r ∧ Rep K R (.int x) v ∧ Reps K R (xs.map D.int) r from h)
    have h3 : v = .int x := h1
    rw [e, h3, Reps.ints h2]
    rfl
theorem Reps.bls : ∀ {xs : List Bool} {vs : List V}, Reps K R (xs.map D.bl) vs → vs = xs.map V.bl
  | [], vs, h => h
  | x :: xs, vs, h => by
    obtain ⟨v, r, e, h1, h2⟩ := (show ∃ v r, vs = v :: r ∧ Rep K R (.bl x) v ∧ Reps K R (xs.map D.bl) r from h)
    have h3 : v = .bl x := h1
    rw [e, h3, Reps.bls h2]
    rfl
theorem RepF.length : ∀ {fs : List (Str × D)} {vs : List (Str × V)}, RepF K R fs vs → vs.length = fs.length
  | [], vs, h => by
    have e : vs = [] := h
    rw [e]; rfl
  | (f, d) :: ds, vs, h => by
    obtain ⟨v, r, e, _, h2⟩ := (show ∃ v r, vs = (f, v) :: r ∧ Rep K R d v ∧ RepF K R ds r from h)
    rw [e, List.length_cons, List.length_cons, RepF.length h2]
theorem RepF.look : ∀ {fs : List (Str × D)} {vs : List (Str × V)} {f : Str} {d : D}, RepF K R fs vs → fs.lookup f = some d → ∃ v, vs.lookup f = some v ∧ Rep K R d v
  | [], vs, f, d, h, e => by cases e
  | (g, c) :: ds, vs, f, d, h, e => by
    obtain ⟨v, r, ev, h1, h2⟩ := (show ∃ v r, vs = (g, v) :: r ∧ Rep K R c v ∧ RepF K R ds r from h)
    subst ev
    by_cases q : (f == g) = true
    · have e2 : c = d := by
        have e3 : (match f == g with | true => some c | false => ds.lookup f) = some d := e
        rw [q] at e3
        exact Option.some.inj e3
      subst e2
      refine ⟨v, ?_, h1⟩
      show (match f == g with | true => some v | false => r.lookup f) = some v
      rw [q]
    · have q' : (f == g) = false := by
        cases z : f == g with
        | true => exact absurd z q
        | false => rfl
      have e2 : ds.lookup f = some d := by
        have e3 : (match f == g with | true => some c | false => ds.lookup f) = some d := e
        rw [q'] at e3
        exact e3
      obtain ⟨u, z1, z2⟩ := RepF.look h2 e2
      refine ⟨u, ?_, z2⟩
      show (match f == g with | true => some v | false => r.lookup f) = some u
      rw [q']
      exact z1
theorem RepF.none : ∀ {fs : List (Str × D)} {vs : List (Str × V)} {f : Str}, RepF K R fs vs → fs.lookup f = Option.none → vs.lookup f = Option.none
  | [], vs, f, h, e => by
    have e : vs = [] := h
    subst e
    rfl
  | (g, c) :: ds, vs, f, h, e => by
    obtain ⟨v, r, ev, h1, h2⟩ := (show ∃ v r, vs = (g, v) :: r ∧ Rep K R c v ∧ RepF K R ds r from h)
    subst ev
    have e3 : (match f == g with | true => some c | false => ds.lookup f) = Option.none := e
    show (match f == g with | true => some v | false => r.lookup f) = Option.none
    cases q : f == g with
    | true =>
      rw [q] at e3
      cases e3
    | false =>
      rw [q] at e3
      exact RepF.none h2 e3
end
/-- a field stored, by what it holds -/
def putD (f : Str) (v : D) : List (Str × D) → List (Str × D)
  | [] => [(f, v)]
  | (g, u) :: r => if g = f then (g, v) :: r else (g, u) :: putD f v r
theorem RepF.put {K : PySem.W.Frag} {R : Hp} {f : Str} {d : D} {v : V} (h : Rep K R d v) : ∀ {fs : List (Str × D)} {vs : List (Str × V)}, RepF K R fs vs → RepF K R (putD f d fs) (putF f v vs)
  | [], vs, q => by
    have e : vs = [] := q
    subst e
    exact ⟨v, [], rfl, h, rfl⟩
  | (g, c) :: ds, vs, q => by
    obtain ⟨u, r, e, h1, h2⟩ := (show ∃ v r, vs = (g, v) :: r ∧ Rep K R c v ∧ RepF K R ds r from q)
    subst e
    unfold putD putF
    by_cases z : g = f
    · rw [if_pos z, if_pos z]
      exact ⟨v, r, rfl, h, h2⟩
    · rw [if_neg z, if_neg z]
      exact ⟨u, _, rfl, h1, RepF.put h h2⟩

/-! ### what may change, what stays -/
/-- the part of the memory that may change: where it stands, what holds of it -/
structure Wd where
  foot : Addr → Prop
  inv : Hp → Prop
  there : ∀ H b, inv H → foot b → ∃ o, H b = some o
  ext : ∀ H H', inv H → (∀ b o, foot b → H b = some o → H' b = some o) → (∀ b φ, H b = some (.ext φ) → H' b = some (.ext φ)) → inv H'
/-- nothing may change -/
def Wd.nil : Wd := ⟨fun _ => False, fun _ => True, fun _ _ _ h => h.elim, fun _ _ h _ _ => h⟩
/-- a step of the memory: R the part that never changes -/
structure Fin (w : Wd) (R H R' H' : Hp) : Prop where
  up : Same R R'
  sub : Same R' H'
  keep : ∀ b o, H b = some o → ¬ w.foot b → H' b = some o
  newX : ∀ b o, R b = none → H b = some o → (∀ φ, o ≠ .ext φ) → R' b = none
  inv : w.inv H'
  ft : ∀ b, w.foot b → R' b = none
structure Bas (w : Wd) (R H : Hp) : Prop where
  sub : Same R H
  inv : w.inv H
  ft : ∀ b, w.foot b → R b = none
section
variable {w : Wd} {R H R1 H1 R2 H2 : Hp}
theorem Fin.new (f : Fin w R H R1 H1) (b : Addr) (o : HO) (h1 : R b = none) (h2 : H b = some o) (h3 : ∀ φ, o ≠ .ext φ := by intro φ z; cases z) : R1 b = none := f.newX b o h1 h2 h3
theorem Fin.refl (b : Bas w R H) : Fin w R H R H := ⟨fun _ _ h => h, b.sub, fun _ _ h _ => h, fun _ _ h _ _ => h, b.inv, b.ft⟩
theorem Fin.bas (f : Fin w R H R1 H1) : Bas w R1 H1 := ⟨f.sub, f.inv, f.ft⟩
theorem Fin.there (f : Fin w R H R1 H1) {b : Addr} {o : HO} (h : H b = some o) : ∃ u, H1 b = some u := by
  by_cases q : w.foot b
  · exact w.there _ _ f.inv q
  · exact ⟨o, f.keep b o h q⟩
theorem Fin.trans (f : Fin w R H R1 H1) (g : Fin w R1 H1 R2 H2) : Fin w R H R2 H2 :=
  ⟨f.up.trans g.up, g.sub, fun b o h q => g.keep b o (f.keep b o h q) q, fun b o h q n => by
    by_cases z : w.foot b
    · exact g.ft b z
    · exact g.newX b o (f.newX b o h q n) (f.keep b o q z) n, g.inv, g.ft⟩
/-- a new thing that stays -/
theorem Fin.alloc (b : Bas w R H) {p : Addr} {o : HO} (hp : H p = none) : Fin w R H (upd R p o) (upd H p o) := by
  have hn : ∀ q, w.foot q → q ≠ p := fun q hq e => by
    obtain ⟨u, hu⟩ := w.there _ _ b.inv hq
    rw [e, hp] at hu
    cases hu
  have hR : R p = none := by
    cases z : R p with
    | none => rfl
    | some u =>
      rw [b.sub p u z] at hp
      cases hp
  refine ⟨fun q u h => ?_, fun q u h => ?_, fun q u h _ => ?_, fun q u h1 h2 _ => ?_, ?_, fun q hq => ?_⟩
  · rw [upd_ne (ne_of_none h hR)]; exact h
  · by_cases e : q = p
    · subst e
      rw [upd_same] at h ⊢
      exact h
    · rw [upd_ne e] at h ⊢
      exact b.sub q u h
  · rw [upd_ne (ne_of_none h hp)]; exact h
  · rw [upd_ne (ne_of_none h2 hp)]; exact h1
  · refine w.ext _ _ b.inv (fun q u hq h => ?_) fun q φ h => by rw [upd_ne (ne_of_none h hp)]; exact h
    rw [upd_ne (ne_of_none h hp)]; exact h
  · rw [upd_ne (hn q hq)]; exact b.ft q hq
/-- a new thing that may still change -/
theorem Fin.fresh (b : Bas w R H) {p : Addr} {o : HO} (hp : H p = none) : Fin w R H R (upd H p o) := by
  refine ⟨fun _ _ h => h, fun q u h => ?_, fun q u h _ => ?_, fun _ _ h _ _ => h, ?_, b.ft⟩
  · rw [upd_ne (ne_of_none (b.sub q u h) hp)]; exact b.sub q u h
  · rw [upd_ne (ne_of_none h hp)]; exact h
  · refine w.ext _ _ b.inv (fun q u hq h => ?_) fun q φ h => by rw [upd_ne (ne_of_none h hp)]; exact h
    rw [upd_ne (ne_of_none h hp)]; exact h
end

/-! ### the names of a def by what they hold -/
inductive Sl where
  | no | v (d : D)
  /-- a list, an instance, that this def alone holds: it may change -/
  | ol (p : Addr) (ds : List D) | oi (p : Addr) (C : Addr) (fs : List (Str × D))
def Sl.ad : Sl → Option Addr
  | .ol p _ => some p
  | .oi p _ _ => some p
  | _ => none
def SlOk (K : PySem.W.Frag) (R H : Hp) (o : Option V) : Sl → Prop
  | .no => True
  | .v d => ∃ v, o = some v ∧ Rep K R d v
  | .ol p ds => o = some (.ref p) ∧ ∃ xs, H p = some (.lst xs) ∧ Reps K R ds xs
  | .oi p C fs => o = some (.ref p) ∧ ∃ dx fvs, H p = some (.ins C dx fvs) ∧ RepF K R fs fvs
abbrev Ev := List Sl
/-- an error, by what it holds -/
structure Er where
  C : Addr
  fs : List (Str × D)
/-- what a piece of code runs in: what may change; what is wanted of an error -/
structure Ct where
  wd : Wd
  er : Er → Ev → Prop
structure Sta where
  c : Ct
  R0 : Hp
  H0 : Hp
  /-- what stays in any case -/
  Rb : Hp
def adAt (env : Ev) (i : Nat) : Option Addr := (env[i]?).bind Sl.ad
structure Ok3 (K : PySem.W.Frag) (S : Sta) (R H : Hp) (σ : L2.St) (env : Ev) : Prop where
  fin : Fin S.c.wd S.R0 S.H0 R H
  rb : Same S.Rb R
  sl : Paired (SlOk K R H) σ env
  own : ∀ i p, adAt env i = some p → R p = none ∧ S.H0 p = none ∧ ¬ S.c.wd.foot p
  dis : ∀ i j p, adAt env i = some p → adAt env j = some p → i = j
section
variable {K : PySem.W.Frag} {S : Sta} {R H R' H' : Hp} {σ : L2.St} {env : Ev}
theorem pair_get {α β : Type} {F : α → β → Prop} : ∀ {xs : List α} {ys : List β} {i : Nat} {y : β}, Paired F xs ys → ys[i]? = some y → ∃ x, xs[i]? = some x ∧ F x y
  | _, _, i, _, .nil, e => by simp at e
  | _, _, 0, _, .cons r _, e => by
    simp at e
    subst e
    exact ⟨_, rfl, r⟩
  | _, _, i + 1, _, .cons _ t, e => by
    obtain ⟨x, h1, h2⟩ := pair_get (i := i) t (by simpa using e)
    exact ⟨x, by simpa using h1, h2⟩
theorem pair_set {α β : Type} {F : α → β → Prop} {x : α} {y : β} (h : F x y) : ∀ {xs : List α} {ys : List β} (i : Nat), Paired F xs ys → Paired F (xs.set i x) (ys.set i y)
  | _, _, _, .nil => .nil
  | _, _, 0, .cons _ t => .cons h t
  | _, _, i + 1, .cons r t => .cons r (pair_set h i t)
theorem pair_imp {α β : Type} {F G : α → β → Prop} : ∀ {xs : List α} {ys : List β}, Paired F xs ys → (∀ (i : Nat) (x : α) (y : β), xs[i]? = some x → ys[i]? = some y → F x y → G x y) → Paired G xs ys
  | _, _, .nil, _ => .nil
  | _, _, .cons r t, f => .cons (f 0 _ _ rfl rfl r) (pair_imp t fun i x y h1 h2 => f (i + 1) x y (by simpa using h1) (by simpa using h2))
theorem Ok3.bas (o : Ok3 K S R H σ env) : Bas S.c.wd R H := o.fin.bas
theorem SlOk.through {w : Wd} {o : Option V} {s : Sl} (f : Fin w R H R' H') (h : SlOk K R H o s) (ho : ∀ p, s.ad = some p → ¬ w.foot p) : SlOk K R' H' o s := by
  cases s with
  | no => trivial
  | v d =>
    obtain ⟨v, e, r⟩ := h
    exact ⟨v, e, r.mono f.up⟩
  | ol p ds =>
    obtain ⟨e, xs, h1, h2⟩ := h
    exact ⟨e, xs, f.keep _ _ h1 (ho p rfl), h2.mono f.up⟩
  | oi p C fs =>
    obtain ⟨e, dx, xs, h1, h2⟩ := h
    exact ⟨e, dx, xs, f.keep _ _ h1 (ho p rfl), h2.mono f.up⟩
/-- a step of the memory that does not touch what the names hold alone -/
theorem Ok3.through (o : Ok3 K S R H σ env) (f : Fin S.c.wd R H R' H') : Ok3 K S R' H' σ env := by
  have hat : ∀ i s p, env[i]? = some s → s.ad = some p → adAt env i = some p := fun i s p e h => by
    unfold adAt
    rw [e]
    exact h
  refine ⟨o.fin.trans f, o.rb.trans f.up, pair_imp o.sl fun i x y _ h2 h => h.through f fun p hp => (o.own i p (hat i y p h2 hp)).2.2, fun i p h => ?_, o.dis⟩
  obtain ⟨h1, h2, h3⟩ := o.own i p h
  refine ⟨?_, h2, h3⟩
  unfold adAt at h
  cases e : env[i]? with
  | none =>
    rw [e] at h
    cases h
  | some s =>
    rw [e] at h
    obtain ⟨x, _, q⟩ := pair_get o.sl e
    have hs : s.ad = some p := h
    cases s with
    | no => cases hs
    | v d => cases hs
    | ol p' ds =>
      have : p' = p := Option.some.inj hs
      subst this
      obtain ⟨_, xs, hh, _⟩ := q
      exact f.new _ _ h1 hh
    | oi p' C fs =>
      have : p' = p := Option.some.inj hs
      subst this
      obtain ⟨_, dx, xs, hh, _⟩ := q
      exact f.new _ _ h1 hh
theorem Ok3.val (o : Ok3 K S R H σ env) {i : Nat} {d : D} (e : env[i]? = some (.v d)) : ∃ v, σ[i]? = some (some v) ∧ Rep K R d v := by
  obtain ⟨x, h1, v, h2, h3⟩ := pair_get o.sl e
  subst h2
  exact ⟨v, h1, h3⟩
theorem adAt_set {i j : Nat} {s : Sl} {p : Addr} (h : adAt (env.set i s) j = some p) : (j = i ∧ s.ad = some p) ∨ (j ≠ i ∧ adAt env j = some p) := by
  unfold adAt at h ⊢
  by_cases e : j = i
  · subst e
    by_cases hl : j < env.length
    · rw [List.getElem?_set_self hl] at h
      exact .inl ⟨rfl, h⟩
    · rw [List.getElem?_eq_none (by simpa using hl)] at h
      cases h
  · rw [List.getElem?_set_ne (Ne.symm e)] at h
    exact .inr ⟨e, h⟩
/-- a name takes a value -/
theorem Ok3.put (o : Ok3 K S R H σ env) {i : Nat} {d : D} {v : V} (r : Rep K R d v) : Ok3 K S R H (σ.set i (some v)) (env.set i (.v d)) := by
  refine ⟨o.fin, o.rb, pair_set (F := SlOk K R H) (show SlOk K R H (some v) (.v d) from ⟨v, rfl, r⟩) i o.sl, fun j p h => ?_, fun j k p h1 h2 => ?_⟩
  · rcases adAt_set h with ⟨_, z⟩ | ⟨_, z⟩
    · cases z
    · exact o.own j p z
  · rcases adAt_set h1 with ⟨_, z⟩ | ⟨_, z⟩
    · cases z
    · rcases adAt_set h2 with ⟨_, z'⟩ | ⟨_, z'⟩
      · cases z'
      · exact o.dis j k p z z'
/-- a name is forgotten -/
theorem Ok3.drop (o : Ok3 K S R H σ env) {i : Nat} {x : Option V} : Ok3 K S R H (σ.set i x) (env.set i .no) := by
  refine ⟨o.fin, o.rb, pair_set (F := SlOk K R H) (show SlOk K R H x .no from trivial) i o.sl, fun j p h => ?_, fun j k p h1 h2 => ?_⟩
  · rcases adAt_set h with ⟨_, z⟩ | ⟨_, z⟩
    · cases z
    · exact o.own j p z
  · rcases adAt_set h1 with ⟨_, z⟩ | ⟨_, z⟩
    · cases z
    · rcases adAt_set h2 with ⟨_, z'⟩ | ⟨_, z'⟩
      · cases z'
      · exact o.dis j k p z z'
abbrev Sta.base (S : Sta) (R : Hp) : Sta := ⟨S.c, S.R0, S.H0, R⟩
theorem Ok3.rebase (o : Ok3 K S R H σ env) : Ok3 K (S.base R) R H σ env := ⟨o.fin, fun _ _ h => h, o.sl, o.own, o.dis⟩
theorem Ok3.back {R1 : Hp} (o : Ok3 K (S.base R1) R H σ env) (s : Same S.Rb R1) : Ok3 K S R H σ env := ⟨o.fin, s.trans o.rb, o.sl, o.own, o.dis⟩
end
end L3
namespace L3
open PySem PySem.Spec PyProof.Rows L2

/-! ### readings by what is held -/
abbrev TD := Ct → Ev → (D → Prop) → Prop
abbrev TB := Ct → Ev → (Bool → Prop) → Prop
abbrev TL := Ct → Ev → (List D → Prop) → Prop
structure EndD where
  nx : Ev → Prop
  rt : D → Ev → Prop
  bk : Ev → Prop := fun _ => False
  ct : Ev → Prop := fun _ => False
abbrev TSD := Ct → EndD → Ev → Prop
/-- an error lies at its class with its own dict -/
def XRep (K : PySem.W.Frag) (R : Hp) (ex : Er) (cls : Value) (od : Option Addr) : Prop := cls = .ref ex.C ∧ ∃ dx fvs, od = some dx ∧ R dx = some (.xd fvs) ∧ RepF K R ex.fs fvs
/-- what is wanted of errors is met -/
def Lk (K : PySem.W.Frag) (S : Sta) (W : WX) : Prop := ∀ R H σ env cls od ex, Ok3 K S R H σ env → XRep K R ex cls od → S.c.er ex env → W cls od σ H
theorem Lk.base {K : PySem.W.Frag} {S : Sta} {W : WX} (lk : Lk K S W) {R1 : Hp} (s : Same S.Rb R1) : Lk K (S.base R1) W := fun R H σ env cls od ex ok xr e => lk R H σ env cls od ex (ok.back s) xr e
def Pst (K : PySem.W.Frag) (c : Ct) (R H : Hp) (φ : D → Prop) : VK := fun v H' => ∃ R' d, Fin c.wd R H R' H' ∧ Rep K R' d v ∧ φ d
def PstL (K : PySem.W.Frag) (c : Ct) (R H : Hp) (φ : List D → Prop) : List V → Hp → Prop := fun v H' => ∃ R' d, Fin c.wd R H R' H' ∧ Reps K R' d v ∧ φ d
def PstB (c : Ct) (R H : Hp) (φ : Bool → Prop) : Bool → Hp → Prop := fun b H' => ∃ R', Fin c.wd R H R' H' ∧ φ b
def tD (K : PySem.W.Frag) (W : WX) (T : TD) : TE := fun σ H Q => ∃ S R env φ, Lk K S W ∧ Ok3 K S R H σ env ∧ T S.c env φ ∧ ∀ v H', Pst K S.c R H φ v H' → Q v H'
def tB3 (K : PySem.W.Frag) (W : WX) (T : TB) : TT := fun σ H Q => ∃ S R env φ, Lk K S W ∧ Ok3 K S R H σ env ∧ T S.c env φ ∧ ∀ v H', PstB S.c R H φ v H' → Q v H'
def tL3 (K : PySem.W.Frag) (W : WX) (T : TL) : TA := fun σ H Q => ∃ S R env φ, Lk K S W ∧ Ok3 K S R H σ env ∧ T S.c env φ ∧ ∀ v H', PstL K S.c R H φ v H' → Q v H'
structure EndOk (K : PySem.W.Frag) (S : Sta) (D3 : EndD) (E : Ends) : Prop where
  nx : ∀ R H σ env, Ok3 K S R H σ env → D3.nx env → E.nx σ H
  rt : ∀ R H σ env d v, Ok3 K S R H σ env → Rep K R d v → D3.rt d env → E.rt v H
  bk : ∀ R H σ env, Ok3 K S R H σ env → D3.bk env → E.bk σ H
  ct : ∀ R H σ env, Ok3 K S R H σ env → D3.ct env → E.ct σ H
def tS3 (K : PySem.W.Frag) (W : WX) (T : TSD) : TS := fun E σ H => ∃ S R env D3, Lk K S W ∧ Ok3 K S R H σ env ∧ T S.c D3 env ∧ EndOk K S D3 E
abbrev DE (X : Cx) (W : WX) (e : Expr) (T : TD) : Prop := PE X e (tD X.K W T)
abbrev DT (X : Cx) (W : WX) (e : Expr) (T : TB) : Prop := PT X e (tB3 X.K W T)
abbrev DW (X : Cx) (W : WX) (e : Expr) (T : TB) : Prop := PW X e (tB3 X.K W T)
abbrev DA (X : Cx) (W : WX) (es : List Expr) (T : TL) : Prop := PA X es (tL3 X.K W T)
abbrev DS (X : Cx) (W : WX) (st : Stmt) (T : TSD) : Prop := PS X st (tS3 X.K W T)
abbrev DSs (X : Cx) (W : WX) (st : List Stmt) (T : TSD) : Prop := PSs X st (tS3 X.K W T)
section
variable {X : Cx} {W : WX}
theorem de_mk {e : Expr} {t : TE} {T : TD} (h : PE X e t) (k : ∀ S R H σ env φ, Lk X.K S W → Ok3 X.K S R H σ env → T S.c env φ → t σ H (Pst X.K S.c R H φ)) : DE X W e T :=
  ⟨fun pins s σ H Q I ⟨S, R, env, φ, lk, ok, hT, hQ⟩ => thn (h.run pins s σ H _ I (k S R H σ env φ lk ok hT)) fun v s' ⟨x, H', I', r, p⟩ => ⟨x, H', I', r, hQ x H' p⟩⟩
theorem dt_mk {e : Expr} {t : TT} {T : TB} (h : PT X e t) (k : ∀ S R H σ env φ, Lk X.K S W → Ok3 X.K S R H σ env → T S.c env φ → t σ H (PstB S.c R H φ)) : DT X W e T :=
  ⟨fun pins s σ H Q I ⟨S, R, env, φ, lk, ok, hT, hQ⟩ => thn (h.run pins s σ H _ I (k S R H σ env φ lk ok hT)) fun v s' ⟨H', I', p⟩ => ⟨H', I', hQ v H' p⟩⟩
theorem dw_mk {e : Expr} {t : TT} {T : TB} (h : PW X e t) (k : ∀ S R H σ env φ, Lk X.K S W → Ok3 X.K S R H σ env → T S.c env φ → t σ H (PstB S.c R H φ)) : DW X W e T :=
  ⟨fun whole pins s σ H Q I ⟨S, R, env, φ, lk, ok, hT, hQ⟩ => thn (h.run whole pins s σ H _ I (k S R H σ env φ lk ok hT)) fun v s' ⟨H', I', p⟩ => ⟨H', I', hQ v H' p⟩⟩
theorem da_mk {e : List Expr} {t : TA} {T : TL} (h : PA X e t) (k : ∀ S R H σ env φ, Lk X.K S W → Ok3 X.K S R H σ env → T S.c env φ → t σ H (PstL X.K S.c R H φ)) : DA X W e T :=
  ⟨fun pos pins s σ H Q I ⟨S, R, env, φ, lk, ok, hT, hQ⟩ => thn (h.run pos pins s σ H _ I (k S R H σ env φ lk ok hT)) fun v s' ⟨xs, H', I', r, p⟩ => ⟨xs, H', I', r, hQ xs H' p⟩⟩
/-- from what follows by what is held -/
def endsOf (K : PySem.W.Frag) (S : Sta) (D3 : EndD) : Ends where
  nx := fun σ H => ∃ R env, Ok3 K S R H σ env ∧ D3.nx env
  rt := fun v H => ∃ R σ env d, Ok3 K S R H σ env ∧ Rep K R d v ∧ D3.rt d env
  bk := fun σ H => ∃ R env, Ok3 K S R H σ env ∧ D3.bk env
  ct := fun σ H => ∃ R env, Ok3 K S R H σ env ∧ D3.ct env
theorem SP.to {pins : List (Addr × Obj)} {S : Sta} {D3 : EndD} {E : Ends} {f : Flow} {s' : Shared} (eo : EndOk X.K S D3 E) (h : SP X pins (endsOf X.K S D3) f s') : SP X pins E f s' := by
  cases f with
  | next =>
    obtain ⟨σ, H, I, R, env, ok, q⟩ := h
    exact ⟨σ, H, I, eo.nx R H σ env ok q⟩
  | brk =>
    obtain ⟨σ, H, I, R, env, ok, q⟩ := h
    exact ⟨σ, H, I, eo.bk R H σ env ok q⟩
  | cont =>
    obtain ⟨σ, H, I, R, env, ok, q⟩ := h
    exact ⟨σ, H, I, eo.ct R H σ env ok q⟩
  | ret u =>
    obtain ⟨v, σ, H, I, r, R, σ', env, d, ok, rep, q⟩ := h
    exact ⟨v, σ, H, I, r, eo.rt R H σ' env d v ok rep q⟩
theorem ds_mk {st : Stmt} {t : TS} {T : TSD} (h : PS X st t) (k : ∀ S R H σ env D3, Lk X.K S W → Ok3 X.K S R H σ env → T S.c D3 env → t (endsOf X.K S D3) σ H) : DS X W st T :=
  ⟨fun pins s σ H E I ⟨S, R, env, D3, lk, ok, hT, eo⟩ => thn (h.run pins s σ H _ I (k S R H σ env D3 lk ok hT)) fun f s' p => SP.to eo p⟩
theorem dss_mk {st : List Stmt} {t : TS} {T : TSD} (h : PSs X st t) (k : ∀ S R H σ env D3, Lk X.K S W → Ok3 X.K S R H σ env → T S.c D3 env → t (endsOf X.K S D3) σ H) : DSs X W st T :=
  ⟨fun pins s σ H E I ⟨S, R, env, D3, lk, ok, hT, eo⟩ => thn (h.run pins s σ H _ I (k S R H σ env D3 lk ok hT)) fun f s' p => SP.to eo p⟩
end
/-- a subexpression is asked -/
theorem tD.ask {K : PySem.W.Frag} {W : WX} {S : Sta} {R H : Hp} {σ : L2.St} {env : Ev} {T : TD} {φ : D → Prop} {Q : VK} (lk : Lk K S W) (ok : Ok3 K S R H σ env) (h : T S.c env φ) (k : ∀ R' H' d v, Fin S.c.wd R H R' H' → Ok3 K S R' H' σ env → Rep K R' d v → φ d → Q v H') : tD K W T σ H Q :=
  ⟨S, R, env, φ, lk, ok, h, fun v H' ⟨R', d, f, r, q⟩ => k R' H' d v f (ok.through f) r q⟩
theorem tB3.ask {K : PySem.W.Frag} {W : WX} {S : Sta} {R H : Hp} {σ : L2.St} {env : Ev} {T : TB} {φ : Bool → Prop} {Q : Bool → Hp → Prop} (lk : Lk K S W) (ok : Ok3 K S R H σ env) (h : T S.c env φ) (k : ∀ R' H' b, Fin S.c.wd R H R' H' → Ok3 K S R' H' σ env → φ b → Q b H') : tB3 K W T σ H Q :=
  ⟨S, R, env, φ, lk, ok, h, fun b H' ⟨R', f, q⟩ => k R' H' b f (ok.through f) q⟩
theorem tL3.ask {K : PySem.W.Frag} {W : WX} {S : Sta} {R H : Hp} {σ : L2.St} {env : Ev} {T : TL} {φ : List D → Prop} {Q : List V → Hp → Prop} (lk : Lk K S W) (ok : Ok3 K S R H σ env) (h : T S.c env φ) (k : ∀ R' H' ds vs, Fin S.c.wd R H R' H' → Ok3 K S R' H' σ env → Reps K R' ds vs → φ ds → Q vs H') : tL3 K W T σ H Q :=
  ⟨S, R, env, φ, lk, ok, h, fun vs H' ⟨R', ds, f, r, q⟩ => k R' H' ds vs f (ok.through f) r q⟩
theorem tS3.ask {K : PySem.W.Frag} {W : WX} {S : Sta} {R H : Hp} {σ : L2.St} {env : Ev} {T : TSD} {D3 : EndD} {E : Ends} (lk : Lk K S W) (ok : Ok3 K S R H σ env) (h : T S.c D3 env) (eo : EndOk K S D3 E) : tS3 K W T E σ H := ⟨S, R, env, D3, lk, ok, h, eo⟩
section
variable {K : PySem.W.Frag} {c : Ct} {R H R1 H1 : Hp} {φ : D → Prop} {v : V}
theorem Pst.now {d : D} (b : Bas c.wd R H) (r : Rep K R d v) (q : φ d) : Pst K c R H φ v H := ⟨R, d, Fin.refl b, r, q⟩
theorem Pst.from (f : Fin c.wd R H R1 H1) {v : V} {H2 : Hp} (h : Pst K c R1 H1 φ v H2) : Pst K c R H φ v H2 := by
  obtain ⟨R2, d, f2, r, q⟩ := h
  exact ⟨R2, d, f.trans f2, r, q⟩
/-- a new tuple, a new list -/
theorem Pst.tup {ds : List D} {vs : List V} {p : Addr} (b : Bas c.wd R H) (hp : H p = none) (r : Reps K R ds vs) (q : φ (.tup ds)) : Pst K c R H φ (.ref p) (upd H p (.tup vs)) :=
  ⟨_, .tup ds, Fin.alloc b hp, ⟨p, vs, rfl, upd_same, r.mono (Fin.alloc (o := .tup vs) b hp).up⟩, q⟩
theorem Pst.lst {ds : List D} {vs : List V} {p : Addr} (b : Bas c.wd R H) (hp : H p = none) (r : Reps K R ds vs) (q : φ (.lst ds)) : Pst K c R H φ (.ref p) (upd H p (.lst vs)) :=
  ⟨_, .lst ds, Fin.alloc b hp, ⟨p, vs, rfl, upd_same, r.mono (Fin.alloc (o := .lst vs) b hp).up⟩, q⟩
end

/-! ### names, constants -/
section
variable {X : Cx} {W : WX} {pos : Pos}
def TVar (i : Nat) : TD := fun _ env φ => ∃ d, env[i]? = some (.v d) ∧ φ d
def TC (d : D) : TD := fun _ _ φ => φ d
theorem dv (i : Nat) {x : Str} (hN : X.N[i]? = some x := by rfl) (hv : Vis X.env.scope x := by first | exact Or.inl rfl | exact Or.inr (Or.inl rfl) | exact Or.inr (Or.inr rfl)) (hd : (x == ("__debug__" : Str)) = false := by decide)
    (hcd : (x == ("__classdict__" : Str)) = false := by decide) : DE X W (.Name x pos) (TVar i) :=
  de_mk (pe_var hN hv hd hcd) fun S R H σ env φ _ ok ⟨d, e, q⟩ => by
    obtain ⟨v, h1, h2⟩ := ok.val e
    exact ⟨v, h1, Pst.now ok.bas h2 q⟩
theorem de_c {e : Expr} {v : V} {d : D} (h : PE X e (tC v)) (r : ∀ K R, Rep K R d v := by intro _ _; rfl) : DE X W e (TC d) :=
  de_mk h fun S R H σ env φ _ ok q => Pst.now ok.bas (r _ _) q
theorem de_int {i j} : DE X W (.Constant (.int i) j pos) (TC (.int i)) := de_c pe_int
theorem de_bl {b j} : DE X W (.Constant (.bool b) j pos) (TC (.bl b)) := de_c pe_bl
theorem de_non {j} : DE X W (.Constant .none j pos) (TC .non) := de_c pe_non
theorem de_str {x j} : DE X W (.Constant (.str x) j pos) (TC (.str x)) := de_c pe_str
theorem de_gref {x : Str} {a : Addr} (hg : Gl X x) (hm : X.mg x = some (.ref a)) (hd : (x == ("__debug__" : Str)) = false := by decide) : DE X W (.Name x pos) (TC (.ref a)) := de_c (pe_glob hg hm (show RelV (.ref a) _ from rfl) hd)
theorem de_gint {x : Str} {i : Int} (hg : Gl X x) (hm : ∃ t, X.mg x = some (.int i t)) (hd : (x == ("__debug__" : Str)) = false := by decide) : DE X W (.Name x pos) (TC (.int i)) := by
  obtain ⟨t, hm⟩ := hm
  exact de_c (pe_glob hg hm (show RelV (.int i) _ from ⟨t, rfl⟩) hd)
theorem de_gstr {x z : Str} (hg : Gl X x) (hm : ∃ t, X.mg x = some (.str z t)) (hd : (x == ("__debug__" : Str)) = false := by decide) : DE X W (.Name x pos) (TC (.str z)) := by
  obtain ⟨t, hm⟩ := hm
  exact de_c (pe_glob hg hm (show RelV (.str z) _ from ⟨t, rfl⟩) hd)

/-! ### operators -/
abbrev F2 := D → D → (D → Prop) → Prop
/-- an operator by what its sides hold -/
def OpD (K : PySem.W.Frag) (r : R2) (f : F2) : Prop := ∀ (c : Ct) (R H : Hp) (x y : V) (dx dy : D) (φ : D → Prop) (Q : VK), Bas c.wd R H → Rep K R dx x → Rep K R dy y → f dx dy φ → (∀ v H', Pst K c R H φ v H' → Q v H') → r x y H Q
def TOp (f : F2) (Ta Tb : TD) : TD := fun c env φ => Ta c env fun x => Tb c env fun y => f x y φ
variable {a b : Expr} {Ta Tb : TD}
theorem op_ask {r : R2} {f : F2} (k : OpD X.K r f) {S : Sta} {R H : Hp} {σ : L2.St} {env : Ev} {φ : D → Prop} {Q : VK} (lk : Lk X.K S W) (ok : Ok3 X.K S R H σ env) (h : TOp f Ta Tb S.c env φ) (kQ : ∀ v H', Pst X.K S.c R H φ v H' → Q v H') :
    tOp r (tD X.K W Ta) (tD X.K W Tb) σ H Q := by
  refine tD.ask lk ok h fun R1 H1 d1 v1 f1 ok1 r1 q1 => tD.ask lk ok1 q1 fun R2 H2 d2 v2 f2 ok2 r2 q2 => ?_
  exact k S.c R2 H2 v1 v2 d1 d2 φ _ ok2.bas (r1.mono f2.up) r2 q2 fun v H' p => kQ v H' (Pst.from (f1.trans f2) p)
theorem de_op {op : Operator} {r : R2} {f : F2} (ho : OpR X (binaryOp op) r) (k : OpD X.K r f) (ha : DE X W a Ta) (hb : DE X W b Tb) : DE X W (.BinOp a op b pos) (TOp f Ta Tb) :=
  de_mk (pe_op ho ha hb) fun S R H σ env φ lk ok h => op_ask k lk ok h fun _ _ p => p
theorem de_cmp {op : CmpOp} {r : R2} {f : F2} (ho : OpR X (compareOp op) r) (k : OpD X.K r f) (ha : DE X W a Ta) (hb : DE X W b Tb) (hm : behindInMarks op b = false) : DE X W (.Compare a [op] [b] pos) (TOp f Ta Tb) :=
  de_mk (pe_cmpR ho ha hb hm) fun S R H σ env φ lk ok h => op_ask k lk ok h fun _ _ p => p
/-- a value that is a bool, as a test -/
def TTst (T : TD) : TB := fun c env φ => T c env fun d => ∃ k, d = .bl k ∧ φ k
theorem rep_bl {K : PySem.W.Frag} {R : Hp} {k : Bool} {v : V} (h : Rep K R (.bl k) v) : v = .bl k := h
theorem rep_int {K : PySem.W.Frag} {R : Hp} {k : Int} {v : V} (h : Rep K R (.int k) v) : v = .int k := h
theorem rep_str {K : PySem.W.Frag} {R : Hp} {k : Str} {v : V} (h : Rep K R (.str k) v) : v = .str k := h
theorem tst_ask {T : TD} {S : Sta} {R H : Hp} {σ : L2.St} {env : Ev} {φ : Bool → Prop} (lk : Lk X.K S W) (ok : Ok3 X.K S R H σ env) (h : TTst T S.c env φ) : tB (tD X.K W T) σ H (PstB S.c R H φ) :=
  tD.ask lk ok h fun R1 H1 d v f ok1 r ⟨k, e, q⟩ => by
    subst e
    exact ⟨k, r, R1, f, q⟩
theorem dt_cmp {op : CmpOp} {r : R2} {f : F2} (ho : OpR X (compareOp op) r) (k : OpD X.K r f) (ha : DE X W a Ta) (hb : DE X W b Tb) (hm : behindInMarks op b = false) : DT X W (.Compare a [op] [b] pos) (TTst (TOp f Ta Tb)) :=
  dt_mk (pt_cmpR ho ha hb hm) fun S R H σ env φ lk ok h => by
    refine op_ask (φ := fun d => ∃ k, d = .bl k ∧ φ k) k lk ok h fun v H' ⟨R1, d, f1, rr, k, e, q⟩ => ?_
    subst e
    exact ⟨k, rr, R1, f1, q⟩
theorem dt_val {e : Expr} {T : TD} (h : DE X W e T) (he : ∀ whole, isTrue e X.env whole = (do let v ← whole; standAt e.pos; holding [v] (truthy v)) := by intro _; rfl) : DT X W e (TTst T) :=
  dt_mk (pt_val h he) fun S R H σ env φ lk ok h => tst_ask lk ok h
theorem OpD.or {K : PySem.W.Frag} {r r' : R2} {f f' : F2} (h : OpD K r f) (h' : OpD K r' f') : OpD K (fun x y H Q => r x y H Q ∨ r' x y H Q) (fun x y φ => f x y φ ∨ f' x y φ) := fun c R H x y dx dy φ Q b r1 r2 q k => by
  rcases q with q | q
  · exact .inl (h c R H x y dx dy φ Q b r1 r2 q k)
  · exact .inr (h' c R H x y dx dy φ Q b r1 r2 q k)
/-- two ints -/
def fI (C : Int → Int → Prop) (g : Int → Int → D) : F2 := fun x y φ => ∃ i j, x = .int i ∧ y = .int j ∧ C i j ∧ φ (g i j)
theorem opd_I {C : Int → Int → Prop} {g : Int → Int → V} {gd : Int → Int → D} (hg : ∀ K R i j, Rep K R (gd i j) (g i j)) {K : PySem.W.Frag} : OpD K (rI C g) (fI C gd) := fun c R H x y dx dy φ Q b r1 r2 ⟨i, j, e1, e2, hc, q⟩ k => by
  subst e1 e2
  exact ⟨i, j, r1, r2, hc, k _ _ (Pst.now b (hg _ _ _ _) q)⟩
theorem opd_I0 {g : Int → Int → V} {gd : Int → Int → D} (hg : ∀ K R i j, Rep K R (gd i j) (g i j)) {K : PySem.W.Frag} : OpD K (rI0 g) (fI (fun _ _ => True) gd) := fun c R H x y dx dy φ Q b r1 r2 ⟨i, j, e1, e2, _, q⟩ k => by
  subst e1 e2
  exact ⟨i, j, r1, r2, k _ _ (Pst.now b (hg _ _ _ _) q)⟩
/-- + of ints, texts, lists, tuples -/
def addF : F2
  | .int i, .int j, φ => φ (.int (i + j))
  | .str x, .str y, φ => x.length + y.length ≤ sizeLine ∧ φ (.str (x ++ y))
  | .lst a, .lst b, φ => a.length + b.length ≤ sizeLine ∧ φ (.lst (a ++ b))
  | .tup a, .tup b, φ => a.length + b.length ≤ sizeLine ∧ φ (.tup (a ++ b))
  | _, _, _ => False
abbrev rAddS : R2 := fun x y H Q => ∃ i j, x = .str i ∧ y = .str j ∧ i.length + j.length ≤ sizeLine ∧ Q (.str (i ++ j)) H
abbrev rAddA (K : PySem.W.Frag) : R2 := fun x y H Q => (fun x y H Q => rI0 (fun i j => .int (i + j)) x y H Q ∨ rAddS x y H Q) x y H Q ∨ (fun x y H Q => rCat x y H Q ∨ rCatA K x y H Q) x y H Q
theorem op_addA : OpR X (binaryOp .Add) (rAddA X.K) := OpR.or (OpR.or op_add op_add_str) (OpR.or op_cat op_catA)
theorem reps_nil {K : PySem.W.Frag} {R : Hp} {ds : List D} (h : Reps K R ds []) : ds = [] := by
  have := h.length
  cases ds with
  | nil => rfl
  | cons d r => simp at this
theorem opd_add {K : PySem.W.Frag} : OpD K (rAddA K) addF := fun c R H x y dx dy φ Q b r1 r2 q k => by
  cases dx <;> cases dy <;> try exact q.elim
  case int i j =>
    exact .inl (.inl ⟨i, j, r1, r2, k _ _ (Pst.now b (show Rep K R (.int (i + j)) _ from rfl) q)⟩)
  case str i j =>
    exact .inl (.inr ⟨i, j, r1, r2, q.1, k _ _ (Pst.now b (show Rep K R (.str (i ++ j)) _ from rfl) q.2)⟩)
  case lst ds es =>
    obtain ⟨p, xs, e1, h1, q1⟩ := (show ∃ p xs, x = .ref p ∧ R p = some (.lst xs) ∧ Reps K R ds xs from r1)
    obtain ⟨p2, ys, e2, h2, q2⟩ := (show ∃ p xs, y = .ref p ∧ R p = some (.lst xs) ∧ Reps K R es xs from r2)
    refine .inr (.inl ⟨p, p2, xs, ys, e1, e2, b.sub _ _ h1, b.sub _ _ h2, by rw [q1.length, q2.length]; exact q.1, fun n hn => k _ _ (Pst.lst b hn (q1.append q2) q.2)⟩)
  case tup ds es =>
    obtain ⟨p, xs, e1, h1, q1⟩ := (show ∃ p xs, x = .ref p ∧ R p = some (.tup xs) ∧ Reps K R ds xs from r1)
    obtain ⟨p2, ys, e2, h2, q2⟩ := (show ∃ p xs, y = .ref p ∧ R p = some (.tup xs) ∧ Reps K R es xs from r2)
    refine .inr (.inr ⟨p, p2, xs, ys, e1, e2, SqT.of (b.sub _ _ h1), SqT.of (b.sub _ _ h2), by rw [q1.length, q2.length]; exact q.1, fun e => ?_, fun _ e => ?_, fun _ _ n hn => k _ _ (Pst.tup b hn (q1.append q2) q.2)⟩)
    · subst e
      refine k _ _ (Pst.now b (d := .tup (ds ++ es)) ⟨p2, ys, rfl, h2, ?_⟩ q.2)
      rw [reps_nil q1]
      exact q2
    · subst e
      refine k _ _ (Pst.now b (d := .tup (ds ++ es)) ⟨p, xs, rfl, h1, ?_⟩ q.2)
      rw [reps_nil q2, List.append_nil]
      exact q1
theorem de_add (ha : DE X W a Ta) (hb : DE X W b Tb) : DE X W (.BinOp a .Add b pos) (TOp addF Ta Tb) := de_op op_addA opd_add ha hb
abbrev subF : F2 := fI (fun _ _ => True) fun i j => .int (i - j)
theorem de_sub (ha : DE X W a Ta) (hb : DE X W b Tb) : DE X W (.BinOp a .Sub b pos) (TOp subF Ta Tb) := de_op op_sub (opd_I0 (by intros; rfl)) ha hb
abbrev modF : F2 := fI (fun _ j => 0 < j) fun i j => .int (i % j)
theorem de_mod (ha : DE X W a Ta) (hb : DE X W b Tb) : DE X W (.BinOp a .Mod b pos) (TOp modF Ta Tb) := de_op op_mod (opd_I (by intros; rfl)) ha hb
abbrev fdivF : F2 := fI CDiv fun i j => .int (i / j)
theorem de_fdiv (ha : DE X W a Ta) (hb : DE X W b Tb) : DE X W (.BinOp a .FloorDiv b pos) (TOp fdivF Ta Tb) := de_op op_fdiv (opd_I (by intros; rfl)) ha hb
abbrev powF : F2 := fI CPow fun i j => .int (i ^ j.toNat)
theorem de_pow (ha : DE X W a Ta) (hb : DE X W b Tb) : DE X W (.BinOp a .Pow b pos) (TOp powF Ta Tb) := de_op op_pow (opd_I (by intros; rfl)) ha hb
/-- * of ints; a text, a list by an int -/
def mulF : F2
  | .int i, .int j, φ => CMul i j ∧ φ (.int (i * j))
  | .str x, .int n, φ => MulOk x n ∧ φ (.str (Txt.mul x n))
  | .lst ds, .int n, φ => -2 ^ 63 ≤ n ∧ n < 2 ^ 63 ∧ ds.length * n.toNat ≤ sizeLine ∧ φ (.lst (List.replicate n.toNat ds).flatten)
  | _, _, _ => False
abbrev rMulS : R2 := fun x y H Q => ∃ i j, x = .str i ∧ y = .int j ∧ MulOk i j ∧ Q (.str (Txt.mul i j)) H
theorem op_mulS : OpR X (binaryOp .Mult) rMulS := by
  intro pins s σ H x y v u Q I rx ry h
  obtain ⟨i, j, rfl, rfl, hm, q⟩ := h
  obtain ⟨t, rfl⟩ := rx
  obtain ⟨t', rfl⟩ := ry
  exact SB.mul hm fun t' k => ⟨.str _, H, I.tok k, ⟨_, rfl⟩, q⟩
abbrev rMulA : R2 := fun x y H Q => (fun x y H Q => rI CMul (fun i j => .int (i * j)) x y H Q ∨ rMulS x y H Q) x y H Q ∨ rRep x y H Q
theorem op_mulA : OpR X (binaryOp .Mult) rMulA := OpR.or (OpR.or op_mul op_mulS) op_rep
theorem Reps.flat {K : PySem.W.Frag} {R : Hp} {ds : List D} {xs : List V} (h : Reps K R ds xs) : ∀ n : Nat, Reps K R (List.replicate n ds).flatten (List.replicate n xs).flatten
  | 0 => rfl
  | n + 1 => by
    rw [List.replicate_succ, List.replicate_succ, List.flatten_cons, List.flatten_cons]
    exact h.append (Reps.flat h n)
theorem opd_mul {K : PySem.W.Frag} : OpD K rMulA mulF := fun c R H x y dx dy φ Q b r1 r2 q k => by
  cases dx <;> cases dy <;> try exact q.elim
  case int i j => exact .inl (.inl ⟨i, j, r1, r2, q.1, k _ _ (Pst.now b (show Rep K R (.int (i * j)) _ from rfl) q.2)⟩)
  case str i j => exact .inl (.inr ⟨i, j, r1, r2, q.1, k _ _ (Pst.now b (show Rep K R (.str _) _ from rfl) q.2)⟩)
  case lst ds n =>
    obtain ⟨p, xs, e1, h1, q1⟩ := (show ∃ p xs, x = .ref p ∧ R p = some (.lst xs) ∧ Reps K R ds xs from r1)
    exact .inr ⟨p, n, xs, e1, r2, b.sub _ _ h1, q.1, q.2.1, by rw [q1.length]; exact q.2.2.1, fun m hm => k _ _ (Pst.lst b hm (q1.flat _) q.2.2.2)⟩
theorem de_mul (ha : DE X W a Ta) (hb : DE X W b Tb) : DE X W (.BinOp a .Mult b pos) (TOp mulF Ta Tb) := de_op op_mulA opd_mul ha hb

/-! ### comparisons -/
abbrev ltF : F2 := fI (fun _ _ => True) fun i j => .bl (decide (i < j))
abbrev leF : F2 := fI (fun _ _ => True) fun i j => .bl (decide (i ≤ j))
abbrev gtF : F2 := fI (fun _ _ => True) fun i j => .bl (decide (j < i))
abbrev geF : F2 := fI (fun _ _ => True) fun i j => .bl (decide (j ≤ i))
theorem opd_lt {K : PySem.W.Frag} : OpD K (rI0 fun i j => .bl (decide (i < j))) ltF := opd_I0 (by intros; rfl)
theorem opd_le {K : PySem.W.Frag} : OpD K (rI0 fun i j => .bl (decide (i ≤ j))) leF := opd_I0 (by intros; rfl)
theorem opd_gt {K : PySem.W.Frag} : OpD K (rI0 fun i j => .bl (decide (j < i))) gtF := opd_I0 (by intros; rfl)
theorem opd_ge {K : PySem.W.Frag} : OpD K (rI0 fun i j => .bl (decide (j ≤ i))) geF := opd_I0 (by intros; rfl)
/-! what can be compared at any depth -/
mutual
def toP : D → PyData
  | .non => .none
  | .bl b => .bool b
  | .int i => .int i
  | .str x => .str x
  | .tup ds => .tuple (toPs ds)
  | .lst ds => .list (toPs ds)
  | _ => .none
def toPs : List D → List PyData
  | [] => []
  | d :: ds => toP d :: toPs ds
end
mutual
def isP : D → Bool
  | .non => true
  | .bl _ => true
  | .int _ => true
  | .str _ => true
  | .tup ds => isPs ds
  | .lst ds => isPs ds
  | _ => false
def isPs : List D → Bool
  | [] => true
  | d :: ds => isP d && isPs ds
end
mutual
theorem dp_of {K : PySem.W.Frag} {H : Hp} : ∀ {d : D} {v : V}, isP d = true → Rep K H d v → Dp K H v (toP d)
  | .non, v, _, r => by
    have e : v = .non := r
    subst e
    exact .non
  | .bl b, v, _, r => by
    have e : v = .bl b := r
    subst e
    exact .bl _
  | .int b, v, _, r => by
    have e : v = .int b := r
    subst e
    exact .int _
  | .str b, v, _, r => by
    have e : v = .str b := r
    subst e
    exact .str _
  | .tup ds, v, hp, r => by
    obtain ⟨p, xs, e, h, q⟩ := (show ∃ p xs, v = .ref p ∧ H p = some (.tup xs) ∧ Reps K H ds xs from r)
    subst e
    exact .tup (SqT.of h) (dps_of hp q)
  | .lst ds, v, hp, r => by
    obtain ⟨p, xs, e, h, q⟩ := (show ∃ p xs, v = .ref p ∧ H p = some (.lst xs) ∧ Reps K H ds xs from r)
    subst e
    exact .lst (SqL.of h) (dps_of hp q)
  | .ty n, _, hp, _ => by cases hp
  | .ref n, _, hp, _ => by cases hp
  | .ins n fs, _, hp, _ => by cases hp
  | .exc n fs, _, hp, _ => by cases hp
  | .clo n fs, _, hp, _ => by cases hp
  | .lam n fs, _, hp, _ => by cases hp
  | .dic n, _, hp, _ => by cases hp
theorem dps_of {K : PySem.W.Frag} {H : Hp} : ∀ {ds : List D} {vs : List V}, isPs ds = true → Reps K H ds vs → DpAll K H vs (toPs ds)
  | [], vs, _, r => by
    have e : vs = [] := r
    subst e
    exact .nil
  | d :: ds, vs, hp, r => by
    obtain ⟨v, t, e, h1, h2⟩ := (show ∃ v r, vs = v :: r ∧ Rep K H d v ∧ Reps K H ds r from r)
    subst e
    obtain ⟨p1, p2⟩ := Bool.and_eq_true_iff.mp (show (isP d && isPs ds) = true from hp)
    exact .cons (dp_of p1 h1) (dps_of p2 h2)
end
/-- == and != of plain data -/
def eqF : F2 := fun x y φ => isP x = true ∧ isP y = true ∧ SeqAt.shaped (toP x) = true ∧ SeqAt.shaped (toP y) = true ∧ φ (.bl (PyData.eqv (toP x) (toP y)))
def neF : F2 := fun x y φ => isP x = true ∧ isP y = true ∧ SeqAt.shaped (toP x) = true ∧ SeqAt.shaped (toP y) = true ∧ φ (.bl (!PyData.eqv (toP x) (toP y)))
theorem opd_eq {K : PySem.W.Frag} : OpD K (rEqD K) eqF := fun c R H x y dx dy φ Q b r1 r2 ⟨p1, p2, s1, s2, q⟩ k =>
  ⟨_, _, dp_of p1 (r1.mono b.sub), dp_of p2 (r2.mono b.sub), s1, s2, k _ _ (Pst.now b (show Rep K R (.bl _) _ from rfl) q)⟩
theorem opd_ne {K : PySem.W.Frag} : OpD K (rNeD K) neF := fun c R H x y dx dy φ Q b r1 r2 ⟨p1, p2, s1, s2, q⟩ k =>
  ⟨_, _, dp_of p1 (r1.mono b.sub), dp_of p2 (r2.mono b.sub), s1, s2, k _ _ (Pst.now b (show Rep K R (.bl _) _ from rfl) q)⟩
/-- is None -/
def flatD : D → Bool
  | .non => true
  | .bl _ => true
  | .int _ => true
  | .str _ => true
  | _ => false
def isND : D → Bool
  | .non => true
  | _ => false
theorem isN_rep {K : PySem.W.Frag} {R : Hp} {d : D} {v : V} (r : Rep K R d v) : decide (v = .non) = isND d := by
  cases d
  case non => exact decide_eq_true r
  case bl => rw [show v = .bl _ from r]; exact decide_eq_false (by intro e; cases e)
  case int => rw [show v = .int _ from r]; exact decide_eq_false (by intro e; cases e)
  case str => rw [show v = .str _ from r]; exact decide_eq_false (by intro e; cases e)
  case ty => rw [show v = .ty _ from r]; exact decide_eq_false (by intro e; cases e)
  case ref => rw [show v = .ref _ from r]; exact decide_eq_false (by intro e; cases e)
  case tup ds =>
    obtain ⟨p, xs, e, _⟩ := (show ∃ p xs, v = .ref p ∧ R p = some (.tup xs) ∧ Reps K R ds xs from r)
    rw [e]; exact decide_eq_false (by intro e; cases e)
  case lst ds =>
    obtain ⟨p, xs, e, _⟩ := (show ∃ p xs, v = .ref p ∧ R p = some (.lst xs) ∧ Reps K R ds xs from r)
    rw [e]; exact decide_eq_false (by intro e; cases e)
  case ins C fs =>
    obtain ⟨p, dx, xs, e, _⟩ := (show ∃ p dx fvs, v = .ref p ∧ R p = some (.ins C dx fvs) ∧ RepF K R fs fvs from r)
    rw [e]; exact decide_eq_false (by intro e; cases e)
  case exc C fs =>
    obtain ⟨p, dx, xs, e, _⟩ := (show ∃ p dx fvs, v = .ref p ∧ ExcAt R C dx p ∧ R dx = some (.xd fvs) ∧ RepF K R fs fvs from r)
    rw [e]; exact decide_eq_false (by intro e; cases e)
  case clo L ds =>
    obtain ⟨f, cl, xs, e, _⟩ := (show ∃ f cl xs, v = .ref f ∧ LamAt R L cl f ∧ CellsAt R cl xs ∧ Reps K R ds xs from r)
    rw [e]; exact decide_eq_false (by intro e; cases e)
  case lam L cl =>
    obtain ⟨f, e, _⟩ := (show ∃ f, v = .ref f ∧ LamAt R L cl f from r)
    rw [e]; exact decide_eq_false (by intro e; cases e)
  case dic kvs =>
    obtain ⟨p, xs, e, _⟩ := (show ∃ p xs, v = .ref p ∧ R p = some (.dK xs) ∧ RepK K R kvs xs from r)
    rw [e]; exact decide_eq_false (by intro e; cases e)
def isF : F2 := fun x y φ => y = .non ∧ φ (.bl (isND x))
def isntF : F2 := fun x y φ => y = .non ∧ φ (.bl (!isND x))
theorem opd_is {K : PySem.W.Frag} : OpD K (fun x y H Q => y = .non ∧ Q (.bl (decide (x = .non))) H) isF := fun c R H x y dx dy φ Q b r1 r2 ⟨e, q⟩ k => by
  subst e
  exact ⟨r2, k _ _ (Pst.now b (d := .bl (isND dx)) (by rw [isN_rep r1]; rfl) q)⟩
theorem opd_isnt {K : PySem.W.Frag} : OpD K (fun x y H Q => y = .non ∧ Q (.bl (!decide (x = .non))) H) isntF := fun c R H x y dx dy φ Q b r1 r2 ⟨e, q⟩ k => by
  subst e
  exact ⟨r2, k _ _ (Pst.now b (d := .bl (!isND dx)) (by rw [isN_rep r1]; rfl) q)⟩
/-- in: a text in a text; a flat value in a tuple, a list of such -/
def flV : D → V
  | .bl b => .bl b
  | .int i => .int i
  | .str x => .str x
  | _ => .non
def occ (x y : Str) : Bool := !(Builtin.Str.occurrences y x 0 y.length 1).isEmpty
def inF (neg : Bool) : F2
  | .str x, .str y, φ => φ (.bl (if neg then !occ x y else occ x y))
  | x, .tup ds, φ => flatD x = true ∧ ds.all flatD = true ∧ φ (.bl (if neg then !inV (flV x) (ds.map flV) else inV (flV x) (ds.map flV)))
  | x, .lst ds, φ => flatD x = true ∧ ds.all flatD = true ∧ φ (.bl (if neg then !inV (flV x) (ds.map flV) else inV (flV x) (ds.map flV)))
  | _, _, _ => False
theorem fl_rep {K : PySem.W.Frag} {R : Hp} {d : D} {v : V} (f : flatD d = true) (r : Rep K R d v) : v = flV d ∧ flatV v = true := by
  cases d <;> try (exact Bool.noConfusion f)
  case non => rw [show v = .non from r]; exact ⟨rfl, rfl⟩
  case bl => rw [show v = .bl _ from r]; exact ⟨rfl, rfl⟩
  case int => rw [show v = .int _ from r]; exact ⟨rfl, rfl⟩
  case str => rw [show v = .str _ from r]; exact ⟨rfl, rfl⟩
theorem fls_rep {K : PySem.W.Frag} {R : Hp} : ∀ {ds : List D} {vs : List V}, ds.all flatD = true → Reps K R ds vs → vs = ds.map flV ∧ vs.all flatV = true
  | [], vs, _, r => by
    have e : vs = [] := r
    subst e
    exact ⟨rfl, rfl⟩
  | d :: ds, vs, f, r => by
    obtain ⟨v, t, e, h1, h2⟩ := (show ∃ v r, vs = v :: r ∧ Rep K R d v ∧ Reps K R ds r from r)
    subst e
    rw [List.all_cons, Bool.and_eq_true] at f
    obtain ⟨e1, g1⟩ := fl_rep f.1 h1
    obtain ⟨e2, g2⟩ := fls_rep f.2 h2
    refine ⟨by rw [List.map_cons, ← e1, ← e2], by rw [List.all_cons, g1, g2]; rfl⟩
abbrev rInA (K : PySem.W.Frag) : R2 := fun x y H Q => (∃ i j, x = .str i ∧ y = .str j ∧ Q (.bl (!(Builtin.Str.occurrences j i 0 j.length 1).isEmpty)) H) ∨ rIn K false x y H Q
abbrev rNinA (K : PySem.W.Frag) : R2 := fun x y H Q => (∃ i j, x = .str i ∧ y = .str j ∧ Q (.bl (!(!(Builtin.Str.occurrences j i 0 j.length 1).isEmpty))) H) ∨ rIn K true x y H Q
theorem op_inA : OpR X (compareOp .In) (rInA X.K) := OpR.or op_in_str op_in_seq
theorem op_ninA : OpR X (compareOp .NotIn) (rNinA X.K) := OpR.or op_notin_str op_notIn_seq
theorem in_seq {K : PySem.W.Frag} {neg : Bool} {c : Ct} {R H : Hp} {x y : V} {dx : D} {ds : List D} {φ : D → Prop} {Q : VK} (b : Bas c.wd R H) (r1 : Rep K R dx x) (hy : ∃ p xs, y = .ref p ∧ (SqL K H p xs ∨ SqT K H p xs) ∧ Reps K R ds xs)
    (q : flatD dx = true ∧ ds.all flatD = true ∧ φ (.bl (if neg then !inV (flV dx) (ds.map flV) else inV (flV dx) (ds.map flV)))) (k : ∀ v H', Pst K c R H φ v H' → Q v H') : rIn K neg x y H Q := by
  obtain ⟨p, xs, e, h, q2⟩ := hy
  obtain ⟨f1, f2, q⟩ := q
  obtain ⟨e1, g1⟩ := fl_rep f1 r1
  obtain ⟨e2, g2⟩ := fls_rep f2 q2
  refine ⟨p, xs, e, h, g1, g2, k _ _ (Pst.now b (d := .bl (if neg then !inV (flV dx) (ds.map flV) else inV (flV dx) (ds.map flV))) ?_ q)⟩
  rw [← e1, ← e2]
  rfl
theorem rep_seq {K : PySem.W.Frag} {c : Ct} {R H : Hp} {y : V} {ds : List D} (b : Bas c.wd R H) (h : Rep K R (.tup ds) y ∨ Rep K R (.lst ds) y) : ∃ p xs, y = .ref p ∧ (SqL K H p xs ∨ SqT K H p xs) ∧ Reps K R ds xs := by
  rcases h with h | h
  · obtain ⟨p, xs, e, h, q⟩ := (show ∃ p xs, y = .ref p ∧ R p = some (.tup xs) ∧ Reps K R ds xs from h)
    exact ⟨p, xs, e, .inr (SqT.of (b.sub _ _ h)), q⟩
  · obtain ⟨p, xs, e, h, q⟩ := (show ∃ p xs, y = .ref p ∧ R p = some (.lst xs) ∧ Reps K R ds xs from h)
    exact ⟨p, xs, e, .inl (SqL.of (b.sub _ _ h)), q⟩
theorem opd_in {K : PySem.W.Frag} : OpD K (rInA K) (inF false) := fun c R H x y dx dy φ Q b r1 r2 q k => by
  cases dy
  case str j =>
    cases dx <;> try exact q.elim
    case str i => exact .inl ⟨i, j, r1, r2, k _ _ (Pst.now b (show Rep K R (.bl _) _ from rfl) q)⟩
  case tup ds => exact .inr (in_seq (neg := false) b r1 (rep_seq b (.inl r2)) (by cases dx <;> exact q) k)
  case lst ds => exact .inr (in_seq (neg := false) b r1 (rep_seq b (.inr r2)) (by cases dx <;> exact q) k)
  all_goals (exact absurd q (by cases dx <;> exact id))
theorem opd_nin {K : PySem.W.Frag} : OpD K (rNinA K) (inF true) := fun c R H x y dx dy φ Q b r1 r2 q k => by
  cases dy
  case str j =>
    cases dx <;> try exact q.elim
    case str i => exact .inl ⟨i, j, r1, r2, k _ _ (Pst.now b (show Rep K R (.bl _) _ from rfl) q)⟩
  case tup ds => exact .inr (in_seq (neg := true) b r1 (rep_seq b (.inl r2)) (by cases dx <;> exact q) k)
  case lst ds => exact .inr (in_seq (neg := true) b r1 (rep_seq b (.inr r2)) (by cases dx <;> exact q) k)
  all_goals (exact absurd q (by cases dx <;> exact id))
end
end L3
namespace L3
open PySem PySem.Spec PyProof.Rows L2
section
variable {X : Cx} {W : WX} {pos : Pos} {a b : Expr} {Ta Tb : TD} {A B : TB}
/-! ### tests -/
def TAnd (A B : TB) : TB := fun c env φ => A c env fun k => if k = true then B c env φ else φ false
def TOr (A B : TB) : TB := fun c env φ => A c env fun k => if k = true then φ true else B c env φ
def TNot (A : TB) : TB := fun c env φ => A c env fun k => φ (!k)
theorem PstB.from {c : Ct} {R H R1 H1 : Hp} {φ : Bool → Prop} (f : Fin c.wd R H R1 H1) {k : Bool} {H2 : Hp} (h : PstB c R1 H1 φ k H2) : PstB c R H φ k H2 := by
  obtain ⟨R2, f2, q⟩ := h
  exact ⟨R2, f.trans f2, q⟩
theorem tB3.go {K : PySem.W.Frag} {W : WX} {S : Sta} {R H R1 H1 : Hp} {σ : L2.St} {env : Ev} {T : TB} {φ : Bool → Prop} (lk : Lk K S W) (f : Fin S.c.wd R H R1 H1) (ok : Ok3 K S R1 H1 σ env) (h : T S.c env φ) : tB3 K W T σ H1 (PstB S.c R H φ) :=
  tB3.ask lk ok h fun R' H' b f' _ q => ⟨R', f.trans f', q⟩
theorem tD.go {K : PySem.W.Frag} {W : WX} {S : Sta} {R H R1 H1 : Hp} {σ : L2.St} {env : Ev} {T : TD} {φ : D → Prop} (lk : Lk K S W) (f : Fin S.c.wd R H R1 H1) (ok : Ok3 K S R1 H1 σ env) (h : T S.c env φ) : tD K W T σ H1 (Pst K S.c R H φ) :=
  tD.ask lk ok h fun R' H' d v f' _ r q => ⟨R', d, f.trans f', r, q⟩
theorem dw_and1 (ha : DT X W a A) : DW X W (.BoolOp .And [a] pos) A := pw_and1 ha
theorem dw_or1 (ha : DT X W a A) : DW X W (.BoolOp .Or [a] pos) A := pw_or1 ha
theorem dw_and {rest : List Expr} (ha : DT X W a A) (hb : DW X W (.BoolOp .And (b :: rest) pos) B) : DW X W (.BoolOp .And (a :: b :: rest) pos) (TAnd A B) :=
  dw_mk (pw_and ha hb) fun S R H σ env φ lk ok h => tB3.ask lk ok h fun R1 H1 k f ok1 q => by
    cases k with
    | true => exact iteT (tB3.go lk f ok1 (by rw [if_pos rfl] at q; exact q))
    | false => exact iteF ⟨R1, f, by rw [if_neg Bool.false_ne_true] at q; exact q⟩
theorem dw_or {rest : List Expr} (ha : DT X W a A) (hb : DW X W (.BoolOp .Or (b :: rest) pos) B) : DW X W (.BoolOp .Or (a :: b :: rest) pos) (TOr A B) :=
  dw_mk (pw_or ha hb) fun S R H σ env φ lk ok h => tB3.ask lk ok h fun R1 H1 k f ok1 q => by
    cases k with
    | false => exact iteF (tB3.go lk f ok1 (by rw [if_neg Bool.false_ne_true] at q; exact q))
    | true => exact iteT ⟨R1, f, by rw [if_pos rfl] at q; exact q⟩
theorem dt_bool {e : Expr} (h : DW X W e A) : DT X W e A := h.pt
theorem dt_not (ha : DT X W a A) : DT X W (.UnaryOp .Not a pos) (TNot A) :=
  dt_mk (pt_not ha) fun S R H σ env φ lk ok h => tB3.ask lk ok h fun R1 H1 k f ok1 q => ⟨R1, f, q⟩
/-- .. as values (bools) -/
def TAndV (Ta Tb : TD) : TD := fun c env φ => Ta c env fun x => ∃ k, x = .bl k ∧ if k = true then Tb c env φ else φ (.bl false)
def TOrV (Ta Tb : TD) : TD := fun c env φ => Ta c env fun x => ∃ k, x = .bl k ∧ if k = true then φ (.bl true) else Tb c env φ
def TNotV (Ta : TD) : TD := fun c env φ => Ta c env fun x => ∃ k, x = .bl k ∧ φ (.bl (!k))
theorem de_one {op} {T : TD} (h : DE X W a T) : DE X W (.BoolOp op [a] pos) T := pe_one h
theorem de_and {rest : List Expr} (ha : DE X W a Ta) (hb : DE X W (.BoolOp .And (b :: rest) pos) Tb) : DE X W (.BoolOp .And (a :: b :: rest) pos) (TAndV Ta Tb) :=
  de_mk (pe_and ha hb) fun S R H σ env φ lk ok h => tD.ask lk ok h fun R1 H1 d v f ok1 r ⟨k, e, q⟩ => by
    subst e
    refine ⟨k, r, ?_⟩
    cases k with
    | true => exact iteT (tD.go lk f ok1 (by rw [if_pos rfl] at q; exact q))
    | false => exact iteF ⟨R1, _, f, (show Rep X.K R1 (.bl false) _ from rfl), by rw [if_neg Bool.false_ne_true] at q; exact q⟩
theorem de_or {rest : List Expr} (ha : DE X W a Ta) (hb : DE X W (.BoolOp .Or (b :: rest) pos) Tb) : DE X W (.BoolOp .Or (a :: b :: rest) pos) (TOrV Ta Tb) :=
  de_mk (pe_or ha hb) fun S R H σ env φ lk ok h => tD.ask lk ok h fun R1 H1 d v f ok1 r ⟨k, e, q⟩ => by
    subst e
    refine ⟨k, r, ?_⟩
    cases k with
    | false => exact iteF (tD.go lk f ok1 (by rw [if_neg Bool.false_ne_true] at q; exact q))
    | true => exact iteT ⟨R1, _, f, (show Rep X.K R1 (.bl true) _ from rfl), by rw [if_pos rfl] at q; exact q⟩
theorem de_not (ha : DE X W a Ta) : DE X W (.UnaryOp .Not a pos) (TNotV Ta) :=
  de_mk (pe_not ha) fun S R H σ env φ lk ok h => tD.ask lk ok h fun R1 H1 d v f ok1 r ⟨k, e, q⟩ => by
    subst e
    exact ⟨k, r, R1, _, f, (show Rep X.K R1 (.bl (!k)) _ from rfl), q⟩
def TIf (A : TB) (Ta Tb : TD) : TD := fun c env φ => A c env fun k => if k = true then Ta c env φ else Tb c env φ
theorem de_ifExp {t : Expr} (hc : DT X W t A) (ha : DE X W a Ta) (hb : DE X W b Tb) : DE X W (.IfExp t a b pos) (TIf A Ta Tb) :=
  de_mk (pe_ifExp hc ha hb) fun S R H σ env φ lk ok h => tB3.ask lk ok h fun R1 H1 k f ok1 q => by
    cases k with
    | true => exact iteT (tD.go lk f ok1 (by rw [if_pos rfl] at q; exact q))
    | false => exact iteF (tD.go lk f ok1 (by rw [if_neg Bool.false_ne_true] at q; exact q))
/-- a < b < c -/
def TChain (f g : F2) (Ta Tb Tc : TD) : TD := fun c env φ => Ta c env fun x => Tb c env fun y => f x y fun z => ∃ k, z = .bl k ∧ if k = true then Tc c env fun w => g y w φ else φ (.bl false)
theorem tChain_ask {r r' : R2} {f g : F2} {Tc : TD} (k : OpD X.K r f) (k' : OpD X.K r' g) {S : Sta} {R H : Hp} {σ : L2.St} {env : Ev} {φ : D → Prop} {Q : VK} (lk : Lk X.K S W) (ok : Ok3 X.K S R H σ env) (h : TChain f g Ta Tb Tc S.c env φ)
    (kQ : ∀ v H', Pst X.K S.c R H φ v H' → Q v H') : tChain r r' (tD X.K W Ta) (tD X.K W Tb) (tD X.K W Tc) σ H Q := by
  refine tD.ask lk ok h fun R1 H1 d1 v1 f1 ok1 r1 q1 => tD.ask lk ok1 q1 fun R2 H2 d2 v2 f2 ok2 r2 q2 => ?_
  refine k S.c R2 H2 v1 v2 d1 d2 _ _ ok2.bas (r1.mono f2.up) r2 q2 fun z H3 p => ?_
  obtain ⟨R3, d3, f3, r3, b, e, q3⟩ := p
  subst e
  refine ⟨b, r3, ?_⟩
  have ok3 := ok2.through f3
  cases b with
  | true =>
    rw [if_pos rfl] at q3 ⊢
    refine tD.ask lk ok3 q3 fun R4 H4 d4 v4 f4 ok4 r4 q4 => ?_
    exact k' S.c R4 H4 v2 v4 d2 d4 φ _ ok4.bas (r2.mono (f3.trans f4).up) r4 q4 fun v H' p => kQ v H' (Pst.from (((f1.trans f2).trans f3).trans f4) p)
  | false =>
    rw [if_neg Bool.false_ne_true] at q3 ⊢
    exact kQ _ _ ⟨R3, _, (f1.trans f2).trans f3, (show Rep X.K R3 (.bl false) _ from rfl), q3⟩
theorem de_chain {op op' : CmpOp} {r r' : R2} {f g : F2} {cc : Expr} {Tc : TD} (ho : OpR X (compareOp op) r) (k : OpD X.K r f) (ho' : OpR X (compareOp op') r') (k' : OpD X.K r' g) (ha : DE X W a Ta) (hb : DE X W b Tb) (hc : DE X W cc Tc)
    (hm : lastMarks [op, op'] [b, cc] = false := by rfl) : DE X W (.Compare a [op, op'] [b, cc] pos) (TChain f g Ta Tb Tc) :=
  de_mk (pe_chain ho ho' ha hb hc hm) fun S R H σ env φ lk ok h => tChain_ask k k' lk ok h fun _ _ p => p

/-! ### items, slices -/
def ixF : F2
  | .lst ds, .int i, φ => ∃ d, atI ds i = some d ∧ φ d
  | .tup ds, .int i, φ => ∃ d, atI ds i = some d ∧ φ d
  | .str z, .int i, φ => z.length ≤ sizeLine ∧ ∃ c, atI z.cps.toList i = some c ∧ φ (.str ⟨#[c]⟩)
  | _, _, _ => False
theorem atI_rep {K : PySem.W.Frag} {R : Hp} {ds : List D} {vs : List V} {i : Int} {d : D} (r : Reps K R ds vs) (h : atI ds i = some d) : ∃ v, atI vs i = some v ∧ Rep K R d v := by
  unfold atI at h ⊢
  rw [r.length]
  cases e : ixN ds.length i with
  | none =>
    rw [e] at h
    cases h
  | some j =>
    rw [e] at h
    exact r.get (show ds[j]? = some d from h)
theorem opd_ix {K : PySem.W.Frag} : OpD K (rIx K) ixF := fun c R H x y dx dy φ Q b r1 r2 q k => by
  cases dx <;> cases dy <;> try exact q.elim
  case lst ds i =>
    obtain ⟨p, xs, e, h, q2⟩ := (show ∃ p xs, x = .ref p ∧ R p = some (.lst xs) ∧ Reps K R ds xs from r1)
    obtain ⟨d, hd, q⟩ := q
    obtain ⟨v, hv, rv⟩ := atI_rep q2 hd
    exact .inl ⟨p, xs, i, v, e, r2, SqL.of (b.sub _ _ h), hv, k _ _ (Pst.now b rv q)⟩
  case tup ds i =>
    obtain ⟨p, xs, e, h, q2⟩ := (show ∃ p xs, x = .ref p ∧ R p = some (.tup xs) ∧ Reps K R ds xs from r1)
    obtain ⟨d, hd, q⟩ := q
    obtain ⟨v, hv, rv⟩ := atI_rep q2 hd
    exact .inr (.inl ⟨p, xs, i, v, e, r2, SqT.of (b.sub _ _ h), hv, k _ _ (Pst.now b rv q)⟩)
  case str z i =>
    obtain ⟨hz, cc, hc, q⟩ := q
    exact .inr (.inr ⟨z, i, cc, r1, r2, hz, hc, k _ _ (Pst.now b (show Rep K R (.str _) _ from rfl) q)⟩)
theorem de_ix (ha : DE X W a Ta) (hb : DE X W b Tb) (hp : PlainIx b := by exact fun _ _ => rfl) : DE X W (.Subscript a b pos) (TOp ixF Ta Tb) :=
  de_mk (pe_ix ix_seq ha hb hp) fun S R H σ env φ lk ok h => op_ask opd_ix lk ok h fun _ _ p => p
/-- the parts of a slice -/
abbrev TPD := Ct → Ev → (Option Int → Prop) → Prop
def tO3 (K : PySem.W.Frag) (W : WX) (T : TPD) : TO := fun σ H Q => ∃ S R env φ, Lk K S W ∧ Ok3 K S R H σ env ∧ T S.c env φ ∧ ∀ v H', (∃ R', Fin S.c.wd R H R' H' ∧ φ v) → Q v H'
abbrev DO (X : Cx) (W : WX) (e : Option Expr) (T : TPD) : Prop := PO X e (tO3 X.K W T)
theorem do_mk {e : Option Expr} {t : TO} {T : TPD} (h : PO X e t) (k : ∀ S R H σ env φ, Lk X.K S W → Ok3 X.K S R H σ env → T S.c env φ → t σ H (fun v H' => ∃ R', Fin S.c.wd R H R' H' ∧ φ v)) : DO X W e T :=
  ⟨fun pins s σ H Q I ⟨S, R, env, φ, lk, ok, hT, hQ⟩ => thn (h.run pins s σ H _ I (k S R H σ env φ lk ok hT)) fun v s' ⟨x, H', I', r, p⟩ => ⟨x, H', I', r, hQ x H' p⟩⟩
def TNoPart : TPD := fun _ _ φ => φ none
def TPart (T : TD) : TPD := fun c env φ => T c env fun x => ∃ i, x = .int i ∧ φ (some i)
theorem do_none : DO X W none TNoPart := do_mk po_none fun S R H σ env φ lk ok h => ⟨R, Fin.refl ok.bas, h⟩
theorem do_some (h : DE X W a Ta) : DO X W (some a) (TPart Ta) := do_mk (po_some h) fun S R H σ env φ lk ok q => tD.ask lk ok q fun R1 H1 d v f ok1 r ⟨i, e, q⟩ => by
  subst e
  exact ⟨i, r, R1, f, q⟩
def cutD (xs : List D) (lo hi : Option Int) : List D := List.take (HT.sIx xs.length xs.length hi - HT.sIx xs.length 0 lo) (List.drop (HT.sIx xs.length 0 lo) xs)
def slF : D → Option Int → Option Int → (D → Prop) → Prop
  | .str z, lo, hi, φ => z.length ≤ sizeLine ∧ φ (.str (cutS z lo hi))
  | .lst ds, lo, hi, φ => φ (.lst (cutD ds lo hi))
  | .tup ds, lo, hi, φ => φ (.tup (cutD ds lo hi))
  | _, _, _, _ => False
theorem cut_rep {K : PySem.W.Frag} {R : Hp} {ds : List D} {vs : List V} {lo hi : Option Int} (r : Reps K R ds vs) : Reps K R (cutD ds lo hi) (cutV vs lo hi) := by
  unfold cutD cutV
  rw [r.length]
  exact (r.drop _).take _
abbrev rSlAll (K : PySem.W.Frag) : V → Option Int → Option Int → Hp → VK → Prop := fun x lo hi H Q => rSlS x lo hi H Q ∨ (fun x lo hi H Q => rSlL K x lo hi H Q ∨ rSlA K x lo hi H Q) x lo hi H Q
theorem sl_all : SlR X (rSlAll X.K) := SlR.or sl_str (SlR.or sl_list sl_tupA)
def TSl (T : TD) (Tl Th : TPD) : TD := fun c env φ => T c env fun x => Tl c env fun lo => Th c env fun hi => slF x lo hi φ
theorem tO3.ask {K : PySem.W.Frag} {W : WX} {S : Sta} {R H : Hp} {σ : L2.St} {env : Ev} {T : TPD} {φ : Option Int → Prop} {Q : Option Int → Hp → Prop} (lk : Lk K S W) (ok : Ok3 K S R H σ env) (h : T S.c env φ) (k : ∀ R' H' b, Fin S.c.wd R H R' H' → Ok3 K S R' H' σ env → φ b → Q b H') : tO3 K W T σ H Q :=
  ⟨S, R, env, φ, lk, ok, h, fun b H' ⟨R', f, q⟩ => k R' H' b f (ok.through f) q⟩
theorem cutV_all {vs : List V} {lo hi : Option Int} (h : HT.sIx vs.length 0 lo = 0 ∧ HT.sIx vs.length vs.length hi = vs.length) : cutV vs lo hi = vs := by
  unfold cutV
  rw [h.1, h.2]
  simp
theorem de_slice {lo hi : Option Expr} {p2 : Pos} {Tl Th : TPD} (ha : DE X W a Ta) (hl : DO X W lo Tl) (hu : DO X W hi Th) : DE X W (.Subscript a (.Slice lo hi none p2) pos) (TSl Ta Tl Th) :=
  de_mk (pe_slice sl_all ha hl hu) fun S R H σ env φ lk ok h => by
    refine tD.ask lk ok h fun R1 H1 d v f1 ok1 r1 q1 => tO3.ask lk ok1 q1 fun R2 H2 l f2 ok2 q2 => tO3.ask lk ok2 q2 fun R3 H3 u f3 ok3 q3 => ?_
    have r3 := r1.mono (f2.trans f3).up
    have ff := (f1.trans f2).trans f3
    cases d <;> try exact q3.elim
    case str z => exact .inl ⟨z, r3, q3.1, R3, _, ff, (show Rep X.K R3 (.str _) _ from rfl), q3.2⟩
    case lst ds =>
      obtain ⟨p, xs, e, hh, q⟩ := (show ∃ p xs, v = .ref p ∧ R3 p = some (.lst xs) ∧ Reps X.K R3 ds xs from r3)
      exact .inr (.inl ⟨p, xs, e, SqL.of (ok3.bas.sub _ _ hh), fun n hn => Pst.from ff (Pst.lst ok3.bas hn (cut_rep q) q3)⟩)
    case tup ds =>
      obtain ⟨p, xs, e, hh, q⟩ := (show ∃ p xs, v = .ref p ∧ R3 p = some (.tup xs) ∧ Reps X.K R3 ds xs from r3)
      refine .inr (.inr ⟨p, xs, e, SqT.of (ok3.bas.sub _ _ hh), fun hw => ?_, fun _ n hn => Pst.from ff (Pst.tup ok3.bas hn (cut_rep q) q3)⟩)
      have cr := cut_rep (lo := l) (hi := u) q
      rw [cutV_all hw] at cr
      exact Pst.from ff (Pst.now ok3.bas (d := .tup (cutD ds l u)) ⟨p, xs, rfl, hh, cr⟩ q3)

/-! ### attributes -/
structure AtK (K : PySem.W.Frag) (C : Addr) (f : Str) : Prop where
  cls : Cls K C
  no : NoAttr K C f
def TFld (K : PySem.W.Frag) (T : TD) (f : Str) : TD := fun c env φ => T c env fun x => ∃ C fs d, x = .ins C fs ∧ AtK K C f ∧ fs.lookup f = some d ∧ φ d
theorem de_fld {f : Str} (ha : DE X W a Ta) (hb : attributeBase a f X.env (eval a X.env) = eval a X.env := by rfl) : DE X W (.Attribute a f pos) (TFld X.K Ta f) :=
  de_mk (pe_fld ha hb) fun S R H σ env φ lk ok h => tD.ask lk ok h fun R1 H1 d v f1 ok1 r1 ⟨C, fs, d', e, ak, l, q⟩ => by
    subst e
    obtain ⟨p, dx, fvs, e2, hh, rf⟩ := (show ∃ p dx fvs, v = .ref p ∧ R1 p = some (.ins C dx fvs) ∧ RepF X.K R1 fs fvs from r1)
    obtain ⟨u, l2, r2⟩ := rf.look l
    exact ⟨p, C, dx, fvs, u, e2, ok1.bas.sub _ _ hh, ak.cls, ak.no, l2, R1, d', f1, r2, q⟩
/-- .. of the instance that this def alone holds -/
def TFldO (K : PySem.W.Frag) (i : Nat) (f : Str) : TD := fun _ env φ => ∃ p C fs d, env[i]? = some (.oi p C fs) ∧ AtK K C f ∧ fs.lookup f = some d ∧ φ d
theorem de_fldO (i : Nat) {x : Str} {p0 : Pos} {f : Str} (hN : X.N[i]? = some x := by rfl) (hv : Vis X.env.scope x := by first | exact Or.inl rfl | exact Or.inr (Or.inl rfl) | exact Or.inr (Or.inr rfl)) (hd : (x == ("__debug__" : Str)) = false := by decide)
    (hcd : (x == ("__classdict__" : Str)) = false := by decide) (hb : attributeBase (.Name x p0) f X.env (eval (.Name x p0) X.env) = eval (.Name x p0) X.env := by rfl) : DE X W (.Attribute (.Name x p0) f pos) (TFldO X.K i f) :=
  de_mk (pe_fld (pe_var hN hv hd hcd) hb) fun S R H σ env φ lk ok ⟨p, C, fs, d, e, ak, l, q⟩ => by
    obtain ⟨o, h1, e1, dx, fvs, h2, rf⟩ := pair_get ok.sl e
    subst e1
    obtain ⟨u, l2, r2⟩ := rf.look l
    exact ⟨_, h1, p, C, dx, fvs, u, rfl, h2, ak.cls, ak.no, l2, Pst.now ok.bas r2 q⟩
/-- a constant of the class -/
def TCon (K : PySem.W.Frag) (T : TD) (f : Str) : TD := fun c env φ => T c env fun x => ∃ C fs d u, x = .ins C fs ∧ Cls K C ∧ Con K C f (flV d) u ∧ flatD d = true ∧ fs.lookup f = none ∧ φ d
theorem flV_rep {K : PySem.W.Frag} {R : Hp} {d : D} (h : flatD d = true) : Rep K R d (flV d) := by
  cases d <;> first | exact Bool.noConfusion h | rfl
theorem de_con {f : Str} (ha : DE X W a Ta) (hb : attributeBase a f X.env (eval a X.env) = eval a X.env := by rfl) : DE X W (.Attribute a f pos) (TCon X.K Ta f) :=
  de_mk (pe_con ha hb) fun S R H σ env φ lk ok h => tD.ask lk ok h fun R1 H1 d v f1 ok1 r1 ⟨C, fs, d', u, e, ck, kk, fl, l, q⟩ => by
    subst e
    obtain ⟨p, dx, fvs, e2, hh, rf⟩ := (show ∃ p dx fvs, v = .ref p ∧ R1 p = some (.ins C dx fvs) ∧ RepF X.K R1 fs fvs from r1)
    exact ⟨p, C, dx, fvs, flV d', u, e2, ok1.bas.sub _ _ hh, ck, kk, rf.none l, R1, d', f1, flV_rep fl, q⟩

/-! ### several values, displays -/
def TNil : TL := fun _ _ φ => φ []
def TCons (T : TD) (U : TL) : TL := fun c env φ => T c env fun x => U c env fun xs => φ (x :: xs)
theorem da_nil : DA X W [] TNil := da_mk pa_nil fun S R H σ env φ lk ok h => ⟨R, [], Fin.refl ok.bas, rfl, h⟩
theorem da_cons {es : List Expr} {U : TL} (ha : DE X W a Ta) (hr : DA X W es U) (hs : starEach (a :: es) X.env = (false, eval a X.env) :: starEach es X.env := by rfl) : DA X W (a :: es) (TCons Ta U) :=
  da_mk (pa_cons ha hr hs) fun S R H σ env φ lk ok h => tD.ask lk ok h fun R1 H1 d v f1 ok1 r1 q1 => tL3.ask lk ok1 q1 fun R2 H2 ds vs f2 ok2 r2 q2 =>
    ⟨R2, d :: ds, f1.trans f2, ⟨v, vs, rfl, r1.mono f2.up, r2⟩, q2⟩
def TTup (U : TL) : TD := fun c env φ => U c env fun ds => ds.length ≤ sizeLine ∧ φ (.tup ds)
def TLst (U : TL) : TD := fun c env φ => U c env fun ds => ds.length ≤ sizeLine ∧ φ (.lst ds)
theorem de_tup {es : List Expr} {x1} {U : TL} (h : DA X W es U) : DE X W (.Tuple es x1 pos) (TTup U) :=
  de_mk (pe_tup h) fun S R H σ env φ lk ok q => tL3.ask lk ok q fun R1 H1 ds vs f1 ok1 r1 q1 => ⟨by rw [r1.length]; exact q1.1, fun p hp => Pst.from f1 (Pst.tup ok1.bas hp r1 q1.2)⟩
theorem de_lst {es : List Expr} {U : TL} (h : DA X W es U) : DE X W (.List es pos) (TLst U) :=
  de_mk (pe_lst h) fun S R H σ env φ lk ok q => tL3.ask lk ok q fun R1 H1 ds vs f1 ok1 r1 q1 => ⟨by rw [r1.length]; exact q1.1, fun p hp => Pst.from f1 (Pst.lst ok1.bas hp r1 q1.2)⟩

/-! ### built-in calls -/
abbrev F1 := List D → (D → Prop) → Prop
def CallD (K : PySem.W.Frag) (r : List V → Hp → VK → Prop) (f : F1) : Prop := ∀ (c : Ct) (R H : Hp) (xs : List V) (ds : List D) (φ : D → Prop) (Q : VK), Bas c.wd R H → Reps K R ds xs → f ds φ → (∀ v H', Pst K c R H φ v H' → Q v H') → r xs H Q
def TCB (f : F1) (U : TL) : TD := fun c env φ => U c env fun ds => f ds φ
theorem cb_ask {r : List V → Hp → VK → Prop} {f : F1} {U : TL} (k : CallD X.K r f) {S : Sta} {R H : Hp} {σ : L2.St} {env : Ev} {φ : D → Prop} (lk : Lk X.K S W) (ok : Ok3 X.K S R H σ env) (h : TCB f U S.c env φ) : tCB r (tL3 X.K W U) σ H (Pst X.K S.c R H φ) :=
  tL3.ask lk ok h fun R1 H1 ds vs f1 ok1 r1 q1 => k S.c R1 H1 vs ds φ _ ok1.bas r1 q1 fun v H' p => Pst.from f1 p
theorem de_callB {id : String} {x : Str} {e : Expr} {es : List Expr} {p : Pos} {r : List V → Hp → VK → Prop} {f : F1} {U : TL} (hc : CallR X (.builtin id) r) (k : CallD X.K r f) (hg : Gl X x) (hm : X.mg x = none) (hv : bootBuiltins x = some (.builtin id)) (ha : DA X W (e :: es) U)
    (hn : x ≠ "__name__" := by decide) (hdb : (x == ("__debug__" : Str)) = false := by decide) (he : starEach (e :: es) X.env = (false, eval e X.env) :: starEach es X.env := by rfl) (hpl : (backTo pos (starEach es X.env)).any (·.1) = false := by rfl) :
    DE X W (.Call (.Name x p) (e :: es) [] pos) (TCB f U) :=
  de_mk (pe_callB hc hg hm hv ha hn hdb he hpl) fun S R H σ env φ lk ok h => cb_ask k lk ok h
theorem de_callTy {T : String} {x : Str} {e : Expr} {es : List Expr} {p : Pos} {r : List V → Hp → VK → Prop} {f : F1} {U : TL} (hc : CallR X (.type T) r) (k : CallD X.K r f) (hg : Gl X x) (hm : X.mg x = none) (hv : bootBuiltins x = some (.type T)) (ha : DA X W (e :: es) U)
    (hn : x ≠ "__name__" := by decide) (hdb : (x == ("__debug__" : Str)) = false := by decide) (he : starEach (e :: es) X.env = (false, eval e X.env) :: starEach es X.env := by rfl) (hpl : (backTo pos (starEach es X.env)).any (·.1) = false := by rfl) :
    DE X W (.Call (.Name x p) (e :: es) [] pos) (TCB f U) :=
  de_mk (pe_callTy hc hg hm hv ha hn hdb he hpl) fun S R H σ env φ lk ok h => cb_ask k lk ok h
def lenF : F1
  | [.str z], φ => z.length ≤ sizeLine ∧ φ (.int (z.length : Nat))
  | [.lst ds], φ => φ (.int (ds.length : Nat))
  | [.tup ds], φ => φ (.int (ds.length : Nat))
  | _, _ => False
abbrev rLen3 (K : PySem.W.Frag) : List V → Hp → VK → Prop := fun xs H Q => ∃ (x : V) (n : Nat), xs = [x] ∧ LenV K x H n ∧ Q (V.int (n : Int)) H
theorem reps1 {K : PySem.W.Frag} {R : Hp} {d : D} {xs : List V} (h : Reps K R [d] xs) : ∃ v, xs = [v] ∧ Rep K R d v := by
  obtain ⟨v, r, e, h1, h2⟩ := (show ∃ v r, xs = v :: r ∧ Rep K R d v ∧ Reps K R [] r from h)
  have e2 : r = [] := h2
  subst e2
  exact ⟨v, e, h1⟩
theorem reps2 {K : PySem.W.Frag} {R : Hp} {d e : D} {xs : List V} (h : Reps K R [d, e] xs) : ∃ v u, xs = [v, u] ∧ Rep K R d v ∧ Rep K R e u := by
  obtain ⟨v, r, e, h1, h2⟩ := (show ∃ v r, xs = v :: r ∧ Rep K R d v ∧ Reps K R [_] r from h)
  obtain ⟨u, e2, h3⟩ := reps1 h2
  subst e2
  exact ⟨v, u, e, h1, h3⟩
theorem cd_len {K : PySem.W.Frag} : CallD K (rLen3 K) lenF := fun c R H xs ds φ Q b r q k => by
  unfold lenF at q
  split at q
  · obtain ⟨v, e, h⟩ := reps1 r
    subst e
    rw [rep_str h]
    exact ⟨_, _, rfl, ⟨q.1, rfl⟩, k _ _ (Pst.now b (show Rep K R (.int _) _ from rfl) q.2)⟩
  · obtain ⟨v, e, h⟩ := reps1 r
    subst e
    obtain ⟨p, xs, e, hh, hr⟩ := (show ∃ p xs, v = .ref p ∧ R p = some (.lst xs) ∧ Reps K R _ xs from h)
    subst e
    exact ⟨_, _, rfl, .inl ⟨xs, SqL.of (b.sub _ _ hh), rfl⟩, k _ _ (Pst.now b (show Rep K R (.int _) _ from rfl) (by rw [hr.length]; exact q))⟩
  · obtain ⟨v, e, h⟩ := reps1 r
    subst e
    obtain ⟨p, xs, e, hh, hr⟩ := (show ∃ p xs, v = .ref p ∧ R p = some (.tup xs) ∧ Reps K R _ xs from h)
    subst e
    exact ⟨_, _, rfl, .inr ⟨xs, SqT.of (b.sub _ _ hh), rfl⟩, k _ _ (Pst.now b (show Rep K R (.int _) _ from rfl) (by rw [hr.length]; exact q))⟩
  · exact q.elim
theorem de_len {e : Expr} {p : Pos} {U : TL} (hg : Gl X "len") (hm : X.mg "len" = none) (ha : DA X W [e] U) (he : starEach [e] X.env = (false, eval e X.env) :: starEach [] X.env := by rfl) : DE X W (.Call (.Name "len" p) [e] [] pos) (TCB lenF U) :=
  de_callB call_len cd_len hg hm boot_len ha (by decide) (by decide) he rfl
end
end L3
namespace L3
open PySem PySem.Spec PyProof.Rows L2
section
variable {X : Cx} {W : WX} {pos : Pos} {a b : Expr} {Ta Tb : TD} {A B : TB}
/-! ### more built-ins -/
def intsD : List D → Option (List Int)
  | [] => some []
  | .int i :: r => (intsD r).map (i :: ·)
  | _ => none
def blsD : List D → Option (List Bool)
  | [] => some []
  | .bl i :: r => (blsD r).map (i :: ·)
  | _ => none
def strsD : List D → Option (List Str)
  | [] => some []
  | .str i :: r => (strsD r).map (i :: ·)
  | _ => none
theorem intsD_eq : ∀ {ds : List D} {ns : List Int}, intsD ds = some ns → ds = ns.map D.int
  | [], ns, h => by
    cases h
    rfl
  | d :: r, ns, h => by
    cases d <;> try (cases h; done)
    case int i =>
      have h2 : (intsD r).map (i :: ·) = some ns := h
      obtain ⟨ms, h3, h4⟩ := Option.map_eq_some_iff.mp h2
      rw [← h4, intsD_eq h3]
      rfl
theorem blsD_eq : ∀ {ds : List D} {ns : List Bool}, blsD ds = some ns → ds = ns.map D.bl
  | [], ns, h => by
    cases h
    rfl
  | d :: r, ns, h => by
    cases d <;> try (cases h; done)
    case bl i =>
      have h2 : (blsD r).map (i :: ·) = some ns := h
      obtain ⟨ms, h3, h4⟩ := Option.map_eq_some_iff.mp h2
      rw [← h4, blsD_eq h3]
      rfl
theorem strsD_eq : ∀ {ds : List D} {ns : List Str}, strsD ds = some ns → ds = ns.map D.str
  | [], ns, h => by
    cases h
    rfl
  | d :: r, ns, h => by
    cases d <;> try (cases h; done)
    case str i =>
      have h2 : (strsD r).map (i :: ·) = some ns := h
      obtain ⟨ms, h3, h4⟩ := Option.map_eq_some_iff.mp h2
      rw [← h4, strsD_eq h3]
      rfl
@[simp] theorem intsD_map : ∀ ns : List Int, intsD (ns.map D.int) = some ns
  | [] => rfl
  | n :: r => by
    show (intsD (r.map D.int)).map (n :: ·) = _
    rw [intsD_map r]; rfl
@[simp] theorem blsD_map : ∀ ns : List Bool, blsD (ns.map D.bl) = some ns
  | [] => rfl
  | n :: r => by
    show (blsD (r.map D.bl)).map (n :: ·) = _
    rw [blsD_map r]; rfl
@[simp] theorem strsD_map : ∀ ns : List Str, strsD (ns.map D.str) = some ns
  | [] => rfl
  | n :: r => by
    show (strsD (r.map D.str)).map (n :: ·) = _
    rw [strsD_map r]; rfl
theorem rep_lst {K : PySem.W.Frag} {R : Hp} {ds : List D} {v : V} (h : Rep K R (.lst ds) v) : ∃ p xs, v = .ref p ∧ R p = some (.lst xs) ∧ Reps K R ds xs := h
theorem rep_tup {K : PySem.W.Frag} {R : Hp} {ds : List D} {v : V} (h : Rep K R (.tup ds) v) : ∃ p xs, v = .ref p ∧ R p = some (.tup xs) ∧ Reps K R ds xs := h
theorem rep_ins {K : PySem.W.Frag} {R : Hp} {C : Addr} {ds : List (Str × D)} {v : V} (h : Rep K R (.ins C ds) v) : ∃ p dx fvs, v = .ref p ∧ R p = some (.ins C dx fvs) ∧ RepF K R ds fvs := h
def sumF : F1
  | [.lst ds], φ => ∃ ns, intsD ds = some ns ∧ φ (.int ns.sum)
  | _, _ => False
theorem cd_sum {K : PySem.W.Frag} : CallD K (rSum K) sumF := fun c R H xs ds φ Q b r q k => by
  unfold sumF at q
  split at q
  · obtain ⟨v, e, h⟩ := reps1 r
    subst e
    obtain ⟨ns, h1, q⟩ := q
    rw [intsD_eq h1] at h
    obtain ⟨p, xs, e, hh, hr⟩ := rep_lst h
    subst e
    rw [hr.ints] at hh
    exact ⟨p, ns, rfl, SqL.of (b.sub _ _ hh), k _ _ (Pst.now b (show Rep K R (.int _) _ from rfl) q)⟩
  · exact q.elim
def allF : F1
  | [.lst ds], φ => ∃ ns, blsD ds = some ns ∧ φ (.bl (ns.all id))
  | _, _ => False
theorem cd_all {K : PySem.W.Frag} : CallD K (rAll K) allF := fun c R H xs ds φ Q b r q k => by
  unfold allF at q
  split at q
  · obtain ⟨v, e, h⟩ := reps1 r
    subst e
    obtain ⟨ns, h1, q⟩ := q
    rw [blsD_eq h1] at h
    obtain ⟨p, xs, e, hh, hr⟩ := rep_lst h
    subst e
    rw [hr.bls] at hh
    exact ⟨p, ns, rfl, SqL.of (b.sub _ _ hh), k _ _ (Pst.now b (show Rep K R (.bl _) _ from rfl) q)⟩
  · exact q.elim
def anyF : F1
  | [.lst ds], φ => ∃ ns, blsD ds = some ns ∧ φ (.bl (ns.any id))
  | _, _ => False
theorem cd_any {K : PySem.W.Frag} : CallD K (rAny K) anyF := fun c R H xs ds φ Q b r q k => by
  unfold anyF at q
  split at q
  · obtain ⟨v, e, h⟩ := reps1 r
    subst e
    obtain ⟨ns, h1, q⟩ := q
    rw [blsD_eq h1] at h
    obtain ⟨p, xs, e, hh, hr⟩ := rep_lst h
    subst e
    rw [hr.bls] at hh
    exact ⟨p, ns, rfl, SqL.of (b.sub _ _ hh), k _ _ (Pst.now b (show Rep K R (.bl _) _ from rfl) q)⟩
  · exact q.elim
def max2F : F1
  | [.int i, .int j], φ => φ (.int (if j > i then j else i))
  | _, _ => False
theorem cd_max2 {K : PySem.W.Frag} : CallD K (fun xs H Q => ∃ i j, xs = [.int i, .int j] ∧ Q (.int (if j > i then j else i)) H) max2F := fun c R H xs ds φ Q b r q k => by
  unfold max2F at q
  split at q
  · obtain ⟨v, u, e, h1, h2⟩ := reps2 r
    subst e
    exact ⟨_, _, by rw [rep_int h1, rep_int h2], k _ _ (Pst.now b (show Rep K R (.int _) _ from rfl) q)⟩
  · exact q.elim
def int1F : F1
  | [.int i], φ => φ (.int i)
  | [.bl i], φ => φ (.int (if i then 1 else 0))
  | _, _ => False
theorem cd_int1 {K : PySem.W.Frag} : CallD K (fun xs H Q => (∃ i, xs = [.int i] ∧ Q (.int i) H) ∨ ∃ k, xs = [.bl k] ∧ Q (.int (if k then 1 else 0)) H) int1F := fun c R H xs ds φ Q b r q k => by
  unfold int1F at q
  split at q
  · obtain ⟨v, e, h1⟩ := reps1 r
    subst e
    exact .inl ⟨_, by rw [rep_int h1], k _ _ (Pst.now b (show Rep K R (.int _) _ from rfl) q)⟩
  · obtain ⟨v, e, h1⟩ := reps1 r
    subst e
    exact .inr ⟨_, by rw [rep_bl h1], k _ _ (Pst.now b (show Rep K R (.int _) _ from rfl) q)⟩
  · exact q.elim
def tupleF : F1
  | [.lst ds], φ => φ (.tup ds)
  | [.tup ds], φ => φ (.tup ds)
  | _, _ => False
theorem cd_tuple {K : PySem.W.Frag} : CallD K (fun xs H Q => ∃ p ys, xs = [V.ref p] ∧ ((SqL K H p ys ∧ ∀ (l : Addr), H l = none → Q (V.ref l) (upd H l (HO.tup ys))) ∨ SqT K H p ys ∧ Q (V.ref p) H)) tupleF := fun c R H xs ds φ Q b r q k => by
  unfold tupleF at q
  split at q
  · obtain ⟨v, e, h⟩ := reps1 r
    subst e
    obtain ⟨p, xs, e, hh, hr⟩ := rep_lst h
    subst e
    exact ⟨p, xs, rfl, .inl ⟨SqL.of (b.sub _ _ hh), fun l hl => k _ _ (Pst.tup b hl hr q)⟩⟩
  · obtain ⟨v, e, h⟩ := reps1 r
    subst e
    obtain ⟨p, xs, e, hh, hr⟩ := rep_tup h
    subst e
    exact ⟨p, xs, rfl, .inr ⟨SqT.of (b.sub _ _ hh), k _ _ (Pst.now b (d := .tup _) ⟨p, xs, rfl, hh, hr⟩ q)⟩⟩
  · exact q.elim
def listF : F1
  | [.lst ds], φ => φ (.lst ds)
  | [.tup ds], φ => φ (.lst ds)
  | _, _ => False
theorem cd_list {K : PySem.W.Frag} : CallD K (fun xs H Q => ∃ p ys, xs = [V.ref p] ∧ (SqL K H p ys ∨ SqT K H p ys) ∧ ∀ (l : Addr), H l = none → Q (V.ref l) (upd H l (HO.lst ys))) listF := fun c R H xs ds φ Q b r q k => by
  unfold listF at q
  split at q
  · obtain ⟨v, e, h⟩ := reps1 r
    subst e
    obtain ⟨p, xs, e, hh, hr⟩ := rep_lst h
    subst e
    exact ⟨p, xs, rfl, .inl (SqL.of (b.sub _ _ hh)), fun l hl => k _ _ (Pst.lst b hl hr q)⟩
  · obtain ⟨v, e, h⟩ := reps1 r
    subst e
    obtain ⟨p, xs, e, hh, hr⟩ := rep_tup h
    subst e
    exact ⟨p, xs, rfl, .inr (SqT.of (b.sub _ _ hh)), fun l hl => k _ _ (Pst.lst b hl hr q)⟩
  · exact q.elim
def strF : F1
  | [.int i], φ => i.natAbs.log2 < 1920 ∧ φ (.str (toString i))
  | _, _ => False
theorem cd_str {K : PySem.W.Frag} : CallD K (fun xs H Q => ∃ i, xs = [.int i] ∧ i.natAbs.log2 < 1920 ∧ Q (.str (toString i)) H) strF := fun c R H xs ds φ Q b r q k => by
  unfold strF at q
  split at q
  · obtain ⟨v, e, h1⟩ := reps1 r
    subst e
    exact ⟨_, by rw [rep_int h1], q.1, k _ _ (Pst.now b (show Rep K R (.str _) _ from rfl) q.2)⟩
  · exact q.elim
/-- isinstance -/
structure InsK (K : PySem.W.Frag) (C : Addr) : Prop where
  cls : Cls K C
  c1 : PySem.W.findIn K (Value.ref C) (Str.ofString "__class__") = some (some (Value.builtin "object.__class__"))
  c2 : PySem.W.specialIn K (Value.builtin "object.__class__") (Str.ofString "__get__") = some (some (Value.builtin "getset_descriptor.__get__"))
  c3 : PySem.W.takesIn K (Value.builtin "object.__class__") = some true
  c4 : PySem.W.mroIn K C (Value.type "object") = some true
def tyOf : D → Value
  | .non => .type "NoneType"
  | .bl _ => .type "bool"
  | .int _ => .type "int"
  | .str _ => .type "str"
  | .tup _ => .type "tuple"
  | .lst _ => .type "list"
  | .ins C _ => .ref C
  | _ => .none
/-- its class is known there -/
def TyK (K : PySem.W.Frag) : D → Prop
  | .ins C _ => InsK K C
  | .ty _ => False
  | .ref _ => False
  | .exc _ _ => False
  | .clo _ _ => False
  | .lam _ _ => False
  | .dic _ => False
  | _ => True
theorem ty_rep {K : PySem.W.Frag} {c : Ct} {R H : Hp} {d : D} {v : V} (b : Bas c.wd R H) (r : Rep K R d v) (t : TyK K d) : TyX K H v (tyOf d) := by
  cases d
  case non => rw [show v = .non from r]; exact .base .non
  case bl => rw [show v = .bl _ from r]; exact .base (.bl _)
  case int => rw [show v = .int _ from r]; exact .base (.int _)
  case str => rw [show v = .str _ from r]; exact .base (.str _)
  case ty => exact t.elim
  case ref => exact t.elim
  case exc => exact t.elim
  case clo => exact t.elim
  case lam => exact t.elim
  case dic => exact t.elim
  case tup ds =>
    obtain ⟨p, xs, e, hh, hr⟩ := rep_tup r
    subst e
    exact .base (.tup (b.sub _ _ hh))
  case lst ds =>
    obtain ⟨p, xs, e, hh, hr⟩ := rep_lst r
    subst e
    exact .base (.lst (b.sub _ _ hh))
  case ins C fs =>
    obtain ⟨p, dx, xs, e, hh, hr⟩ := rep_ins r
    subst e
    have t' : InsK K C := t
    exact .base (.ins (b.sub _ _ hh) t'.cls t'.c1 t'.c2 t'.c3 t'.c4)
def clsOf : D → Option Value
  | .ty n => some (.type n)
  | .ref a => some (.ref a)
  | _ => none
def clsOfs : List D → Option (List Value)
  | [] => some []
  | d :: r => match clsOf d, clsOfs r with
    | some v, some vs => some (v :: vs)
    | _, _ => none
theorem cls_rep {K : PySem.W.Frag} {R : Hp} {d : D} {v : V} {u : Value} (r : Rep K R d v) (h : clsOf d = some u) : ClsV v u := by
  cases d <;> try (cases h; done)
  case ty n =>
    cases h
    rw [show v = .ty n from r]
    exact .ty n
  case ref n =>
    cases h
    rw [show v = .ref n from r]
    exact .own n
theorem clss_rep {K : PySem.W.Frag} {R : Hp} : ∀ {ds : List D} {vs : List V} {us : List Value}, Reps K R ds vs → clsOfs ds = some us → Paired ClsV vs us
  | [], vs, us, r, h => by
    have e : vs = [] := r
    subst e
    cases h
    exact .nil
  | d :: ds, vs, us, r, h => by
    obtain ⟨v, t, e, h1, h2⟩ := (show ∃ v r, vs = v :: r ∧ Rep K R d v ∧ Reps K R ds r from r)
    subst e
    have h3 : (match clsOf d, clsOfs ds with
      | some v, some vs => some (v :: vs)
      | _, _ => none) = some us := h
    cases e1 : clsOf d with
    | none =>
      rw [e1] at h3
      cases h3
    | some u =>
      cases e2 : clsOfs ds with
      | none =>
        rw [e1, e2] at h3
        cases h3
      | some ws =>
        rw [e1, e2] at h3
        cases h3
        exact .cons (cls_rep h1 e1) (clss_rep h2 e2)
def isiF (K : PySem.W.Frag) : F1
  | [x, c], φ => TyK K x ∧ ∃ u b, clsOf c = some u ∧ PySem.W.kitOne K (tyOf x) u = some b ∧ φ (.bl b)
  | _, _ => False
theorem cd_isi {K : PySem.W.Frag} : CallD K (rIsi K) (isiF K) := fun c R H xs ds φ Q b r q k => by
  unfold isiF at q
  split at q
  · obtain ⟨v, u, e, h1, h2⟩ := reps2 r
    subst e
    obtain ⟨t, u', bb, e1, e2, q⟩ := q
    exact ⟨v, u, _, u', bb, rfl, cls_rep h2 e1, ty_rep b h1 t, e2, k _ _ (Pst.now b (show Rep K R (.bl _) _ from rfl) q)⟩
  · exact q.elim
def isiTF (K : PySem.W.Frag) : F1
  | [x, .tup cs], φ => TyK K x ∧ ∃ us b, clsOfs cs = some us ∧ PySem.W.kitAny K (tyOf x) us = some b ∧ φ (.bl b)
  | _, _ => False
theorem cd_isiT {K : PySem.W.Frag} : CallD K (rIsiT K) (isiTF K) := fun c R H xs ds φ Q b r q k => by
  unfold isiTF at q
  split at q
  · obtain ⟨v, u, e, h1, h2⟩ := reps2 r
    subst e
    obtain ⟨t, us, bb, e1, e2, q⟩ := q
    obtain ⟨p, xs, e3, hh, hr⟩ := rep_tup h2
    subst e3
    exact ⟨v, p, xs, _, us, bb, rfl, b.sub _ _ hh, clss_rep hr e1, ty_rep b h1 t, e2, k _ _ (Pst.now b (show Rep K R (.bl _) _ from rfl) q)⟩
  · exact q.elim
theorem CallR.or {f : Value} {r r' : List V → Hp → VK → Prop} (h : CallR X f r) (h' : CallR X f r') : CallR X f (fun xs H Q => r xs H Q ∨ r' xs H Q) := fun pins s σ H xs us Q I v q => by
  rcases q with q | q
  · exact h pins s σ H xs us Q I v q
  · exact h' pins s σ H xs us Q I v q
/-- isinstance with a class or with a tuple of classes -/
def isiAF (K : PySem.W.Frag) : F1
  | [x, .tup cs], φ => isiTF K [x, .tup cs] φ
  | [x, c], φ => isiF K [x, c] φ
  | _, _ => False
theorem cd_isiA {K : PySem.W.Frag} : CallD K (fun xs H Q => rIsi K xs H Q ∨ rIsiT K xs H Q) (isiAF K) := fun c R H xs ds φ Q b r q k => by
  unfold isiAF at q
  split at q
  · exact .inr (cd_isiT c R H xs _ φ Q b r q k)
  · exact .inl (cd_isi c R H xs _ φ Q b r q k)
  · exact q.elim

/-! ### methods of texts -/
def MethD (K : PySem.W.Frag) (r : V → List V → Hp → VK → Prop) (f : D → List D → (D → Prop) → Prop) : Prop := ∀ (c : Ct) (R H : Hp) (x : V) (d : D) (xs : List V) (ds : List D) (φ : D → Prop) (Q : VK), Bas c.wd R H → Rep K R d x → Reps K R ds xs → f d ds φ →
  (∀ v H', Pst K c R H φ v H' → Q v H') → r x xs H Q
def joinF : D → List D → (D → Prop) → Prop
  | .str a, [.lst ds], φ => ∃ ys, strsD ds = some ys ∧ (List.map (fun x => x.length) ys).sum + ys.length * a.length ≤ 16777216 ∧ φ (.str (Txt.join a ys))
  | _, _, _ => False
def TM1 (f : D → List D → (D → Prop) → Prop) (To Te : TD) : TD := fun c env φ => To c env fun x => (∃ a, x = .str a) ∧ Te c env fun y => f x [y] φ
theorem de_join {o e : Expr} {apos : Pos} {To Te : TD} (ho : DE X W o To) (he : DE X W e Te) (hs : starEach [e] X.env = [(false, eval e X.env)] := by rfl) (hb : attributeBase o (Str.ofString "join") X.env (eval o X.env) = eval o X.env := by rfl)
    (hl : (apos.endLine == pos.line) = true := by rfl) : DE X W (.Call (.Attribute o (Str.ofString "join") apos) [e] [] pos) (TM1 joinF To Te) :=
  de_mk (pe_join ho he hs hb hl) fun S R H σ env φ lk ok h => tD.ask lk ok h fun R1 H1 d v f1 ok1 r1 ⟨⟨a, ea⟩, q1⟩ => by
    subst ea
    refine ⟨⟨a, r1⟩, ?_⟩
    refine tD.ask lk ok1 q1 fun R2 H2 d2 v2 f2 ok2 r2 q2 => ?_
    cases d2 <;> try exact q2.elim
    case lst ds =>
      obtain ⟨ys, e1, hz, q⟩ := q2
      rw [strsD_eq e1] at r2
      obtain ⟨p, xs, e, hh, hr⟩ := rep_lst r2
      subst e
      rw [hr.strs] at hh
      exact ⟨a, p, ys, r1, rfl, .inl (SqL.of (ok2.bas.sub _ _ hh)), hz, R2, _, f1.trans f2, (show Rep X.K R2 (.str _) _ from rfl), q⟩
/-! ### f-strings -/
def TFmt (T : TD) : TD := fun c env φ => T c env fun x => (∃ y : Str, x = .str y ∧ y.length ≤ sizeLine ∧ φ (.str y)) ∨ ∃ i : Int, x = .int i ∧ i.natAbs.log2 < 1920 ∧ φ (.str (toString i))
theorem de_fmt {e : Expr} {T : TD} (he : DE X W e T) : DE X W (.FormattedValue e (-1) none pos) (TFmt T) :=
  de_mk (pe_fmt he) fun S R H σ env φ lk ok h => tD.ask lk ok h fun R1 H1 d v f1 ok1 r1 q1 => by
    rcases q1 with ⟨y, e, hz, q⟩ | ⟨y, e, hz, q⟩
    · subst e
      exact .inl ⟨y, r1, hz, R1, _, f1, (show Rep X.K R1 (.str _) _ from rfl), q⟩
    · subst e
      exact .inr ⟨y, r1, hz, R1, _, f1, (show Rep X.K R1 (.str _) _ from rfl), q⟩
inductive DJ (X : Cx) (W : WX) : List Expr → List TD → Prop where
  | nil : DJ X W [] []
  | cons {e : Expr} {t : TD} {es : List Expr} {ts : List TD} (h : DE X W e t) (r : DJ X W es ts) : DJ X W (e :: es) (t :: ts)
theorem DJ.pj {es : List Expr} {ts : List TD} (h : DJ X W es ts) : PJ X es (ts.map (tD X.K W)) := by
  induction h with
  | nil => exact .nil
  | cons h _ ih => exact .cons h ih
def TJs : List TD → Str → Ct → Ev → (Str → Prop) → Prop
  | [], acc, _, _, φ => φ acc
  | t :: ts, acc, c, env, φ => t c env fun x => ∃ y : Str, x = .str y ∧ (acc ++ y).length ≤ sizeLine ∧ TJs ts (acc ++ y) c env φ
theorem tjs_ask {S : Sta} {σ : L2.St} {env : Ev} (lk : Lk X.K S W) : ∀ {ts : List TD} {acc : Str} {R H : Hp} {φ : Str → Prop} {Q : Str → Hp → Prop}, Ok3 X.K S R H σ env → TJs ts acc S.c env φ → (∀ R' H' out, Fin S.c.wd R H R' H' → φ out → Q out H') → tJs (ts.map (tD X.K W)) acc σ H Q
  | [], acc, R, H, φ, Q, ok, h, k => k R H acc (Fin.refl ok.bas) h
  | t :: ts, acc, R, H, φ, Q, ok, h, k => tD.ask lk ok (show t S.c env _ from h) fun R1 H1 d v f1 ok1 r1 ⟨y, e, hz, q⟩ => by
    subst e
    exact ⟨y, r1, hz, tjs_ask lk ok1 q fun R' H' out f q => k R' H' out (f1.trans f) q⟩
def TJoined (ts : List TD) : TD := fun c env φ => TJs ts Str.empty c env fun out => φ (.str out)
theorem de_joined {v1 v2 : Expr} {rest : List Expr} {ts : List TD} (h : DJ X W (v1 :: v2 :: rest) ts) : DE X W (.JoinedStr (v1 :: v2 :: rest) pos) (TJoined ts) :=
  de_mk (pe_joined h.pj) fun S R H σ env φ lk ok q => tjs_ask lk ok q fun R' H' out f q => ⟨R', _, f, (show Rep X.K R' (.str out) _ from rfl), q⟩
end
end L3
namespace L3
open PySem PySem.Spec PyProof.Rows L2
section
variable {X : Cx} {W : WX} {pos : Pos} {a b : Expr} {Ta Tb : TD} {A B : TB}
/-! ### statements -/
theorem EndOk.self {K : PySem.W.Frag} {S : Sta} {D3 : EndD} : EndOk K S D3 (endsOf K S D3) :=
  ⟨fun R H σ env ok q => ⟨R, env, ok, q⟩, fun R H σ env d v ok r q => ⟨R, σ, env, d, ok, r, q⟩, fun R H σ env ok q => ⟨R, env, ok, q⟩, fun R H σ env ok q => ⟨R, env, ok, q⟩⟩
def TNext : TSD := fun _ D env => D.nx env
def TSeq (T U : TSD) : TSD := fun c D env => T c { D with nx := U c D } env
theorem dss_nil : DSs X W [] TNext := dss_mk pss_nil fun S R H σ env D3 lk ok h => ⟨R, env, ok, h⟩
theorem dss_one {st : Stmt} {T : TSD} (h : DS X W st T) : DSs X W [st] T := pss_one h
theorem dss_cons {st : Stmt} {rest : List Stmt} {T U : TSD} (h1 : DS X W st T) (h2 : DSs X W rest U) : DSs X W (st :: rest) (TSeq T U) :=
  dss_mk (pss_cons h1 h2) fun S R H σ env D3 lk ok h => by
    refine tS3.ask lk ok h ⟨fun R' H' σ' env' ok' q => tS3.ask lk ok' q EndOk.self, fun R' H' σ' env' d v ok' r q => ⟨R', σ', env', d, ok', r, q⟩, fun R' H' σ' env' ok' q => ⟨R', env', ok', q⟩, fun R' H' σ' env' ok' q => ⟨R', env', ok', q⟩⟩
def TBreak : TSD := fun _ D env => D.bk env
def TCont : TSD := fun _ D env => D.ct env
theorem ds_pass : DS X W (.Pass pos) TNext := ds_mk ps_pass fun S R H σ env D3 lk ok h => ⟨R, env, ok, h⟩
theorem ds_break : DS X W (.Break pos) TBreak := ds_mk ps_break fun S R H σ env D3 lk ok h => ⟨R, env, ok, h⟩
theorem ds_continue : DS X W (.Continue pos) TCont := ds_mk ps_continue fun S R H σ env D3 lk ok h => ⟨R, env, ok, h⟩
def TNever : TSD := fun _ _ _ => False
theorem ds_never {st : Stmt} : DS X W st TNever := ds_mk ps_never fun S R H σ env D3 lk ok h => h
theorem dss_never {st : List Stmt} : DSs X W st TNever := dss_mk pss_never fun S R H σ env D3 lk ok h => h
def TRet (T : TD) : TSD := fun c D env => T c env fun d => D.rt d env
def TRetN : TSD := fun _ D env => D.rt .non env
theorem ds_ret {e : Expr} {T : TD} (h : DE X W e T) : DS X W (.Return (some e) pos) (TRet T) :=
  ds_mk (ps_ret h) fun S R H σ env D3 lk ok q => tD.ask lk ok q fun R1 H1 d v f1 ok1 r1 q1 => ⟨R1, σ, env, d, ok1, r1, q1⟩
theorem ds_retN : DS X W (.Return none pos) TRetN := ds_mk ps_retN fun S R H σ env D3 lk ok q => ⟨R, σ, env, .non, ok, rfl, q⟩
def TDrop (T : TD) : TSD := fun c D env => T c env fun _ => D.nx env
theorem ds_expr {e : Expr} {T : TD} (h : DE X W e T) (hs : swapsWith e none pos.line X.env = pure false := by rfl) : DS X W (.Expr e pos) (TDrop T) :=
  ds_mk (ps_expr h hs) fun S R H σ env D3 lk ok q => tD.ask lk ok q fun R1 H1 d v f1 ok1 r1 q1 => ⟨R1, env, ok1, q1⟩
theorem ds_doc {x j pos' } : DS X W (.Expr (.Constant (.str x) j pos) pos') TNext := ds_mk ps_doc fun S R H σ env D3 lk ok h => ⟨R, env, ok, h⟩
def TIfS (A : TB) (T U : TSD) : TSD := fun c D env => A c env fun k => if k = true then T c D env else U c D env
theorem ds_if {c : Expr} {s1 s2 : List Stmt} {T U : TSD} (hc : DT X W c A) (h1 : DSs X W s1 T) (h2 : DSs X W s2 U) : DS X W (.If c s1 s2 pos) (TIfS A T U) :=
  ds_mk (ps_if hc h1 h2) fun S R H σ env D3 lk ok q => tB3.ask lk ok q fun R1 H1 k f1 ok1 q1 => by
    cases k with
    | true => exact iteT (tS3.ask lk ok1 (by rw [if_pos rfl] at q1; exact q1) EndOk.self)
    | false => exact iteF (tS3.ask lk ok1 (by rw [if_neg Bool.false_ne_true] at q1; exact q1) EndOk.self)
def TSet (i : Nat) (T : TD) : TSD := fun c D env => T c env fun d => D.nx (env.set i (.v d))
theorem ds_set {i : Nat} {x : Str} {e : Expr} {pos' : Pos} {T : TD} (hN : X.N.Nodup) (hi : X.N[i]? = some x) (hx : Loc X.env.scope x) (he : DE X W e T) (hs : swapsWith e (some (.Name x pos')) pos.line X.env = pure false := by rfl)
    (hf : X.fn x = true ∨ X.env.scope.names.lookup x = some .local := by first | exact .inl rfl | exact .inr rfl | assumption) : DS X W (.Assign [.Name x pos'] e pos) (TSet i T) :=
  ds_mk (ps_set hN hi hx he hs hf) fun S R H σ env D3 lk ok q => tD.ask lk ok q fun R1 H1 d v f1 ok1 r1 q1 => ⟨R1, _, ok1.put r1, q1⟩
/-- name op= e -/
def TAug (i : Nat) (f : F2) (T : TD) : TSD := fun c D env => ∃ x, env[i]? = some (.v x) ∧ T c env fun y => f x y fun z => D.nx (env.set i (.v z))
theorem ds_augAdd {i : Nat} {x : Str} {e : Expr} {pos' : Pos} {T : TD} (hN : X.N.Nodup) (hi : X.N[i]? = some x) (hx : Loc X.env.scope x) (he : DE X W e T)
    (hf : X.fn x = true ∨ X.env.scope.names.lookup x = some .local := by first | exact .inl rfl | exact .inr rfl | assumption) : DS X W (.AugAssign (.Name x pos') .Add e pos) (TAug i (fI (fun _ _ => True) fun i j => .int (i + j)) T) :=
  ds_mk (ps_aug hN hi hx he ip_add hf) fun S R H σ env D3 lk ok ⟨d, e, q⟩ => by
    obtain ⟨v, h1, r⟩ := ok.val e
    refine ⟨v, h1, tD.ask lk ok q fun R1 H1 d1 v1 f1 ok1 r1 q1 => ?_⟩
    obtain ⟨i, j, e1, e2, _, q2⟩ := q1
    subst e1 e2
    exact ⟨i, j, r, r1, R1, _, ok1.put (show Rep X.K R1 (.int (i + j)) _ from rfl), q2⟩
theorem ds_augSub {i : Nat} {x : Str} {e : Expr} {pos' : Pos} {T : TD} (hN : X.N.Nodup) (hi : X.N[i]? = some x) (hx : Loc X.env.scope x) (he : DE X W e T)
    (hf : X.fn x = true ∨ X.env.scope.names.lookup x = some .local := by first | exact .inl rfl | exact .inr rfl | assumption) : DS X W (.AugAssign (.Name x pos') .Sub e pos) (TAug i (fI (fun _ _ => True) fun i j => .int (i - j)) T) :=
  ds_mk (ps_aug hN hi hx he ip_sub hf) fun S R H σ env D3 lk ok ⟨d, e, q⟩ => by
    obtain ⟨v, h1, r⟩ := ok.val e
    refine ⟨v, h1, tD.ask lk ok q fun R1 H1 d1 v1 f1 ok1 r1 q1 => ?_⟩
    obtain ⟨i, j, e1, e2, _, q2⟩ := q1
    subst e1 e2
    exact ⟨i, j, r, r1, R1, _, ok1.put (show Rep X.K R1 (.int (i - j)) _ from rfl), q2⟩
/-- a, b = e1, e2 (local names) -/
def TPar (i j : Nat) (U : TL) : TSD := fun c D env => U c env fun ds => ∃ d e, ds = [d, e] ∧ D.nx ((env.set i (.v d)).set j (.v e))
/-! ### while -/
def WhN (A : TB) (B : TSD) (c : Ct) (D : EndD) : Nat → Ev → Prop
  | 0, _ => False
  | n + 1, env => A c env fun k => if k = true then B c { D with nx := WhN A B c D n, ct := WhN A B c D n, bk := D.nx } env else D.nx env
def TWh (A : TB) (B : TSD) : TSD := fun c D env => ∃ n, WhN A B c D n env
theorem ds_while {c : Expr} {body : List Stmt} {T : TSD} (hp : PassesOwn (model X.prog X.w) X.A X.env X.xe) (hc : DT X W c A) (hb : DSs X W body T) : DS X W (.While c body [] pos) (TWh A T) :=
  ds_mk (ps_while hp hc hb) fun S R H σ env D3 lk ok ⟨n, q⟩ => by
    refine ⟨fun m σ H => ∃ R env, Ok3 X.K S R H σ env ∧ WhN A T S.c D3 m env, ⟨n, R, env, ok, q⟩, ?_⟩
    rintro m σ H ⟨R, env, ok, q⟩
    cases m with
    | zero => exact q.elim
    | succ m =>
      refine tB3.ask lk ok q fun R1 H1 k f1 ok1 q1 => ?_
      cases k with
      | true =>
        rw [if_pos rfl] at q1
        refine iteT ⟨fun σ H => ∃ R env, Ok3 X.K S R H σ env ∧ WhN A T S.c D3 m env, fun σ' H' h => ⟨m, Nat.lt_succ_self m, h⟩, ?_⟩
        exact tS3.ask lk ok1 q1 ⟨fun R H σ env ok q => ⟨R, env, ok, q⟩, fun R H σ env d v ok r q => ⟨R, σ, env, d, ok, r, q⟩, fun R H σ env ok q => ⟨R, env, ok, q⟩, fun R H σ env ok q => ⟨R, env, ok, q⟩⟩
      | false =>
        rw [if_neg Bool.false_ne_true] at q1
        exact iteF ⟨R1, env, ok1, q1⟩

/-! ### targets -/
abbrev TGD := D → Ev → (Ev → Prop) → Prop
abbrev TGsD := List D → Ev → (Ev → Prop) → Prop
def gD3 (K : PySem.W.Frag) (vs : List Nat) (g : TGD) : TG := fun v σ H Q => ∃ S R env d k, Ok3 K S R H σ env ∧ Rep K R d v ∧ g d env k ∧ ∀ env' σ', wipe σ' vs = wipe σ vs → Ok3 K S R H σ' env' → k env' → Q σ' H
def gsD3 (K : PySem.W.Frag) (vs : List Nat) (g : TGsD) : TGs := fun v σ H Q => ∃ S R env d k, Ok3 K S R H σ env ∧ Reps K R d v ∧ g d env k ∧ ∀ env' σ', wipe σ' vs = wipe σ vs → Ok3 K S R H σ' env' → k env' → Q σ' H
abbrev DG (X : Cx) (vs : List Nat) (e : Expr) (g : TGD) : Prop := PG X e (gD3 X.K vs g)
abbrev DGs (X : Cx) (vs : List Nat) (es : List Expr) (g : TGsD) : Prop := PGs X es (gsD3 X.K vs g)
theorem wipe_set {x : Option V} {i : Nat} {σ : L2.St} : ∀ {vs : List Nat}, i ∈ vs → wipe (σ.set i x) vs = wipe σ vs
  | [], h => by cases h
  | v :: vs, h => by
    unfold wipe
    by_cases e : i ∈ vs
    · rw [wipe_set e]
    · have ei : i = v := by
        rcases List.mem_cons.mp h with z | z
        · exact z
        · exact absurd z e
      subst ei
      have key : ∀ ws : List Nat, i ∉ ws → wipe (σ.set i x) ws = (wipe σ ws).set i x := by
        intro ws
        induction ws with
        | nil => intro _; rfl
        | cons w ws ih =>
          intro hn
          have h1 : w ≠ i := fun z => hn (by rw [z]; exact List.mem_cons_self)
          have h2 : i ∉ ws := fun z => hn (List.mem_cons_of_mem _ z)
          show (wipe (σ.set i x) ws).set w none = ((wipe σ ws).set w none).set i x
          rw [ih h2, List.set_comm _ _ h1.symm]
      rw [key vs e, List.set_set]
def GName (i : Nat) : TGD := fun d env k => k (env.set i (.v d))
theorem pg_imp {e : Expr} {g g' : TG} (h : PG X e g) (k : ∀ v σ H Q, g' v σ H Q → g v σ H Q) : PG X e g' := ⟨fun pins s σ H v u Q I r q => h.run pins s σ H v u Q I r (k _ _ _ _ q)⟩
theorem pgs_imp {e : List Expr} {g g' : TGs} (h : PGs X e g) (k : ∀ v σ H Q, g' v σ H Q → g v σ H Q) : PGs X e g' := ⟨fun pins s σ H v u Q I r q => h.run pins s σ H v u Q I r (k _ _ _ _ q)⟩
theorem dg_name {i : Nat} {x : Str} {vs : List Nat} (hN : X.N.Nodup) (hi : X.N[i]? = some x) (hx : Loc X.env.scope x) (hv : i ∈ vs := by decide) (hf : X.fn x = true ∨ X.env.scope.names.lookup x = some .local := by first | exact .inl rfl | exact .inr rfl | assumption) :
    DG X vs (.Name x pos) (GName i) :=
  pg_imp (pg_name hN hi hx hf) fun v σ H Q ⟨S, R, env, d, k, ok, r, q, hq⟩ => hq _ _ (wipe_set hv) (ok.put r) q
def GNil : TGsD := fun ds env k => ds = [] ∧ k env
def GCons (g : TGD) (u : TGsD) : TGsD := fun ds env k => ∃ d r, ds = d :: r ∧ g d env fun env' => u r env' k
theorem dgs_nil {vs : List Nat} : DGs X vs [] GNil :=
  pgs_imp pgs_nil fun v σ H Q ⟨S, R, env, d, k, ok, r, ⟨e, q⟩, hq⟩ => by
    subst e
    exact ⟨r, hq _ _ rfl ok q⟩
theorem dgs_cons {e : Expr} {es : List Expr} {vs : List Nat} {g : TGD} {u : TGsD} (h1 : DG X vs e g) (h2 : DGs X vs es u) (hs : (assignEach (e :: es) X.env).map (·.2) = assign e X.env :: (assignEach es X.env).map (·.2) := by rfl) : DGs X vs (e :: es) (GCons g u) :=
  pgs_imp (pgs_cons h1 h2 hs) fun v σ H Q ⟨S, R, env, ds, k, ok, r, ⟨d, rs, e, q⟩, hq⟩ => by
    subst e
    obtain ⟨v1, vr, e1, r1, r2⟩ := (show ∃ v' r, v = v' :: r ∧ Rep X.K R d v' ∧ Reps X.K R rs r from r)
    subst e1
    exact ⟨v1, vr, rfl, S, R, env, d, _, ok, r1, q, fun env' σ' hw ok' q' => ⟨S, R, env', rs, k, ok', r2, q', fun env2 σ2 hw2 ok2 q2 => hq _ _ (hw2.trans hw) ok2 q2⟩⟩
def GTup (n : Nat) (u : TGsD) : TGD := fun d env k => ∃ ds, d = .tup ds ∧ ds.length = n ∧ u ds env k
theorem dg_tup {es : List Expr} {kk : Nat} {vs : List Nat} {u : TGsD} {n : Nat} (hc : X.calm = true) (h : DGs X vs es u) (hn : (assignEach es X.env).length = n := by rfl) (hst : (assignEach es X.env).findIdx? (·.1) = none := by rfl) : DG X vs (.Tuple es kk pos) (GTup n u) :=
  pg_imp (pg_tup hc h hn hst) fun v σ H Q ⟨S, R, env, d, k, ok, r, ⟨ds, e, hl, q⟩, hq⟩ => by
    subst e
    obtain ⟨p, xs, e, hh, hr⟩ := rep_tup r
    subst e
    exact ⟨p, xs, rfl, SqT.of (ok.bas.sub _ _ hh), by rw [hr.length]; exact hl, S, R, env, ds, k, ok, hr, q, hq⟩
/-- target = e -/
def TAsg (T : TD) (g : TGD) : TSD := fun c D env => T c env fun d => g d env D.nx
theorem ds_asg {tg e : Expr} {vs : List Nat} {T : TD} {g : TGD} (he : DE X W e T) (hg : DG X vs tg g) (hs : swapsWithSole [tg] e pos.line X.env = pure false := by rfl) (hw : swappedStores [tg] e X.env = pure none := by rfl) (h1 : (assignEach [tg] X.env).map (·.2) = [assign tg X.env] := by rfl) : DS X W (.Assign [tg] e pos) (TAsg T g) :=
  ds_mk (ps_asg he hg hs hw h1) fun S R H σ env D3 lk ok q => tD.ask lk ok q fun R1 H1 d v f1 ok1 r1 q1 => ⟨S, R1, env, d, _, ok1, r1, q1, fun env' σ' _ ok' q' => ⟨R1, env', ok', q'⟩⟩
end
end L3
namespace L3
open PySem PySem.Spec PyProof.Rows L2
section
variable {X : Cx} {W : WX} {pos : Pos} {a b tg : Expr} {Ta Tb : TD} {A B : TB}
/-! ### what is walked -/
structure ItOk (K : PySem.W.Frag) (w : Wd) (J : It) (R : Hp) (ds : List D) : Prop where
  go : ∀ i R1 H d, Same R R1 → Bas w R1 H → ds[i]? = some d → J.go i H
  stop : ∀ i R1 H, Same R R1 → Bas w R1 H → ds.length ≤ i → J.stop i H
  yld : ∀ i R1 H x H' d, Same R R1 → Bas w R1 H → ds[i]? = some d → J.yld i H x H' → ∃ R', Fin w R1 H R' H' ∧ Rep K R' d x
def tI3 (K : PySem.W.Frag) (W : WX) (T : TL) : TI := fun σ H Q => ∃ S R env φ, Lk K S W ∧ Ok3 K S R H σ env ∧ T S.c env φ ∧ ∀ J H' R' ds, Fin S.c.wd R H R' H' → ItOk K S.c.wd J R' ds → φ ds → Q J H'
abbrev DI (X : Cx) (W : WX) (tg iter : Expr) (T : TL) : Prop := PI X tg iter (tI3 X.K W T)
theorem pi_imp {iter : Expr} {w w' : TI} (h : PI X tg iter w) (k : ∀ σ H Q, w' σ H Q → w σ H Q) : PI X tg iter w' := ⟨fun pins s σ H Q I q => h.run pins s σ H Q I (k _ _ _ q)⟩
def TIl (T : TD) : TL := fun c env φ => T c env fun d => ∃ ds, d = .lst ds ∧ φ ds
def TIt (T : TD) : TL := fun c env φ => T c env fun d => ∃ ds, d = .tup ds ∧ φ ds
def TIs (T : TD) : TL := fun c env φ => T c env fun d => ∃ z, d = .str z ∧ φ (z.cps.toList.map fun c => .str ⟨#[c]⟩)
theorem itok_list {K : PySem.W.Frag} {w : Wd} {R : Hp} {p : Addr} {xs : List V} {ds : List D} (h : R p = some (.lst xs)) (r : Reps K R ds xs) : ItOk K w (Itl K p) R ds where
  go := fun i R1 H d s b e => by
    obtain ⟨v, hv, _⟩ := r.get e
    exact ⟨xs, v, SqL.of (b.sub _ _ (s _ _ h)), hv⟩
  stop := fun i R1 H s b e => ⟨xs, SqL.of (b.sub _ _ (s _ _ h)), by rw [r.length]; exact e⟩
  yld := fun i R1 H x H' d s b e y => by
    obtain ⟨e1, y⟩ := y
    subst e1
    obtain ⟨v, hv, rv⟩ := r.get e
    have := y xs (SqL.of (b.sub _ _ (s _ _ h)))
    rw [hv] at this
    cases this
    exact ⟨R1, Fin.refl b, rv.mono s⟩
theorem itok_tup {K : PySem.W.Frag} {w : Wd} {R : Hp} {p : Addr} {xs : List V} {ds : List D} (h : R p = some (.tup xs)) (r : Reps K R ds xs) : ItOk K w (Itt K p) R ds where
  go := fun i R1 H d s b e => by
    obtain ⟨v, hv, _⟩ := r.get e
    exact ⟨xs, v, SqT.of (b.sub _ _ (s _ _ h)), hv⟩
  stop := fun i R1 H s b e => ⟨xs, SqT.of (b.sub _ _ (s _ _ h)), by rw [r.length]; exact e⟩
  yld := fun i R1 H x H' d s b e y => by
    obtain ⟨e1, y⟩ := y
    subst e1
    obtain ⟨v, hv, rv⟩ := r.get e
    have := y xs (SqT.of (b.sub _ _ (s _ _ h)))
    rw [hv] at this
    cases this
    exact ⟨R1, Fin.refl b, rv.mono s⟩
theorem itok_str {K : PySem.W.Frag} {w : Wd} {R : Hp} {z : Str} : ItOk K w (Its z) R (z.cps.toList.map fun c => .str ⟨#[c]⟩) where
  go := fun i R1 H d s b e => by
    have := (List.getElem?_eq_some_iff.mp e).1
    show i < z.cps.size
    simpa using this
  stop := fun i R1 H s b e => by
    show z.cps.size ≤ i
    simpa using e
  yld := fun i R1 H x H' d s b e y => by
    obtain ⟨e1, c, hc, ex⟩ := y
    subst e1 ex
    rw [List.getElem?_map, Array.getElem?_toList, hc] at e
    cases e
    exact ⟨R1, Fin.refl b, rfl⟩
theorem itok_range {K : PySem.W.Frag} {w : Wd} {R : Hp} {lo : Int} {n : Nat} : ItOk K w (Itr lo n) R ((List.range n).map fun i => .int (lo + (i : Nat))) where
  go := fun i R1 H d s b e => by
    have := (List.getElem?_eq_some_iff.mp e).1
    show i < n
    simpa using this
  stop := fun i R1 H s b e => by
    show n ≤ i
    simpa using e
  yld := fun i R1 H x H' d s b e y => by
    obtain ⟨e1, ex⟩ := y
    subst e1 ex
    have hl := (List.getElem?_eq_some_iff.mp e).1
    have hl2 : i < n := by simpa using hl
    rw [List.getElem?_map, List.getElem?_range hl2] at e
    cases e
    exact ⟨R1, Fin.refl b, rfl⟩
theorem di_list {l : Expr} (h : DE X W l Ta) : DI X W tg l (TIl Ta) :=
  pi_imp (pi_list h) fun σ H Q ⟨S, R, env, φ, lk, ok, q, hQ⟩ => tD.ask lk ok q fun R1 H1 d v f1 ok1 r1 ⟨ds, e, q1⟩ => by
    subst e
    obtain ⟨p, xs, e, hh, hr⟩ := rep_lst r1
    subst e
    exact ⟨p, rfl, ⟨xs, SqL.of (ok1.bas.sub _ _ hh)⟩, hQ _ _ R1 ds f1 (itok_list hh hr) q1⟩
theorem di_tup {l : Expr} (h : DE X W l Ta) : DI X W tg l (TIt Ta) :=
  pi_imp (pi_tup h) fun σ H Q ⟨S, R, env, φ, lk, ok, q, hQ⟩ => tD.ask lk ok q fun R1 H1 d v f1 ok1 r1 ⟨ds, e, q1⟩ => by
    subst e
    obtain ⟨p, xs, e, hh, hr⟩ := rep_tup r1
    subst e
    exact ⟨p, rfl, ⟨xs, SqT.of (ok1.bas.sub _ _ hh)⟩, hQ _ _ R1 ds f1 (itok_tup hh hr) q1⟩
theorem di_str {l : Expr} (h : DE X W l Ta) : DI X W tg l (TIs Ta) :=
  pi_imp (pi_str h) fun σ H Q ⟨S, R, env, φ, lk, ok, q, hQ⟩ => tD.ask lk ok q fun R1 H1 d v f1 ok1 r1 ⟨z, e, q1⟩ => by
    subst e
    exact ⟨z, r1, hQ _ _ R1 _ f1 itok_str q1⟩
def TIr1 (U : TL) : TL := fun c env φ => U c env fun ds => ∃ j : Int, ds = [.int j] ∧ -(2 ^ 62) ≤ j ∧ j < 2 ^ 62 ∧ φ ((List.range j.toNat).map fun i => .int (0 + (i : Nat)))
theorem di_range1 {e : Expr} {p : Pos} {U : TL} (hg : Gl X "range") (hm : X.mg "range" = none) (ha : DA X W [e] U) (hs : starEach [e] X.env = [(false, eval e X.env)] := by rfl) : DI X W tg (.Call (.Name "range" p) [e] [] pos) (TIr1 U) :=
  pi_imp (pi_range1 hg hm ha hs) fun σ H Q ⟨S, R, env, φ, lk, ok, q, hQ⟩ => tL3.ask lk ok q fun R1 H1 ds vs f1 ok1 r1 ⟨j, e, h1, h2, q1⟩ => by
    subst e
    obtain ⟨v, e, r⟩ := reps1 r1
    subst e
    exact ⟨j, by rw [rep_int r], h1, h2, hQ _ _ R1 _ f1 itok_range q1⟩
def TIr2 (U : TL) : TL := fun c env φ => U c env fun ds => ∃ i j : Int, ds = [.int i, .int j] ∧ (-(2 ^ 62) ≤ i ∧ i < 2 ^ 62 ∧ -(2 ^ 62) ≤ j ∧ j < 2 ^ 62) ∧ φ ((List.range (j - i).toNat).map fun k => .int (i + (k : Nat)))
theorem di_range2 {e e2 : Expr} {p : Pos} {U : TL} (hg : Gl X "range") (hm : X.mg "range" = none) (ha : DA X W [e, e2] U) (hs : starEach [e, e2] X.env = [(false, eval e X.env), (false, eval e2 X.env)] := by rfl) (hs2 : starEach [e2] X.env = [(false, eval e2 X.env)] := by rfl) :
    DI X W tg (.Call (.Name "range" p) [e, e2] [] pos) (TIr2 U) :=
  pi_imp (pi_range2 hg hm ha hs hs2) fun σ H Q ⟨S, R, env, φ, lk, ok, q, hQ⟩ => tL3.ask lk ok q fun R1 H1 ds vs f1 ok1 r1 ⟨i, j, e, h1, q1⟩ => by
    subst e
    obtain ⟨v, u, e, r, r'⟩ := reps2 r1
    subst e
    exact ⟨i, j, by rw [rep_int r, rep_int r'], h1, hQ _ _ R1 _ f1 itok_range q1⟩
/-- zip of two lists, of two tuples -/
def zipD : List D → List D → List D
  | d :: ds, e :: es => .tup [d, e] :: zipD ds es
  | _, _ => []
theorem zipD_len : ∀ {ds es : List D}, (zipD ds es).length = min ds.length es.length
  | [], _ => by simp [zipD]
  | d :: ds, [] => by simp [zipD]
  | d :: ds, e :: es => by
    show (zipD ds es).length + 1 = _
    rw [zipD_len, List.length_cons, List.length_cons]
    omega
theorem zipD_get : ∀ {ds es : List D} {i : Nat} {d : D}, (zipD ds es)[i]? = some d → ∃ x y, ds[i]? = some x ∧ es[i]? = some y ∧ d = .tup [x, y]
  | [], _, i, d, h => by simp [zipD] at h
  | x :: ds, [], i, d, h => by simp [zipD] at h
  | x :: ds, y :: es, 0, d, h => by
    have h2 : some (D.tup [x, y]) = some d := by simpa [zipD] using h
    cases h2
    exact ⟨x, y, rfl, rfl, rfl⟩
  | x :: ds, y :: es, i + 1, d, h => by
    obtain ⟨u, w, h1, h2, h3⟩ := zipD_get (ds := ds) (es := es) (i := i) (d := d) (by simpa [zipD] using h)
    exact ⟨u, w, by simpa using h1, by simpa using h2, h3⟩
theorem itok_zipL {K : PySem.W.Frag} {w : Wd} {R : Hp} {p q : Addr} {xs ys : List V} {ds es : List D} (h : R p = some (.lst xs)) (r : Reps K R ds xs) (h' : R q = some (.lst ys)) (r' : Reps K R es ys) : ItOk K w (Itz K p q) R (zipD ds es) where
  go := fun i R1 H d s b e => by
    obtain ⟨x, y, e1, e2, _⟩ := zipD_get e
    obtain ⟨v, hv, _⟩ := r.get e1
    obtain ⟨u, hu, _⟩ := r'.get e2
    exact ⟨xs, ys, v, u, SqL.of (b.sub _ _ (s _ _ h)), SqL.of (b.sub _ _ (s _ _ h')), hv, hu⟩
  stop := fun i R1 H s b e => by
    rw [zipD_len] at e
    exact ⟨xs, ys, SqL.of (b.sub _ _ (s _ _ h)), SqL.of (b.sub _ _ (s _ _ h')), by rw [r.length, r'.length]; omega⟩
  yld := fun i R1 H x H' d s b e y => by
    obtain ⟨T, x1, y1, ex, hT, eH, k1, k2⟩ := y
    subst ex eH
    obtain ⟨dx, dy, e1, e2, e3⟩ := zipD_get e
    subst e3
    obtain ⟨v, hv, rv⟩ := r.get e1
    obtain ⟨u, hu, ru⟩ := r'.get e2
    have a1 := k1 xs (SqL.of (b.sub _ _ (s _ _ h)))
    have a2 := k2 ys (SqL.of (b.sub _ _ (s _ _ h')))
    rw [hv] at a1
    rw [hu] at a2
    have z1 := Option.some.inj a1
    have z2 := Option.some.inj a2
    subst z1 z2
    have f := Fin.alloc (o := .tup [v, u]) b hT
    exact ⟨_, f, T, [v, u], rfl, upd_same, ⟨v, [u], rfl, (rv.mono s).mono f.up, u, [], rfl, (ru.mono s).mono f.up, rfl⟩⟩
theorem itok_zipT {K : PySem.W.Frag} {w : Wd} {R : Hp} {p q : Addr} {xs ys : List V} {ds es : List D} (h : R p = some (.tup xs)) (r : Reps K R ds xs) (h' : R q = some (.tup ys)) (r' : Reps K R es ys) : ItOk K w (RZ.ItzT K p q) R (zipD ds es) where
  go := fun i R1 H d s b e => by
    obtain ⟨x, y, e1, e2, _⟩ := zipD_get e
    obtain ⟨v, hv, _⟩ := r.get e1
    obtain ⟨u, hu, _⟩ := r'.get e2
    exact ⟨xs, ys, v, u, SqT.of (b.sub _ _ (s _ _ h)), SqT.of (b.sub _ _ (s _ _ h')), hv, hu⟩
  stop := fun i R1 H s b e => by
    rw [zipD_len] at e
    exact ⟨xs, ys, SqT.of (b.sub _ _ (s _ _ h)), SqT.of (b.sub _ _ (s _ _ h')), by rw [r.length, r'.length]; omega⟩
  yld := fun i R1 H x H' d s b e y => by
    obtain ⟨T, x1, y1, ex, hT, eH, k1, k2⟩ := y
    subst ex eH
    obtain ⟨dx, dy, e1, e2, e3⟩ := zipD_get e
    subst e3
    obtain ⟨v, hv, rv⟩ := r.get e1
    obtain ⟨u, hu, ru⟩ := r'.get e2
    have a1 := k1 xs (SqT.of (b.sub _ _ (s _ _ h)))
    have a2 := k2 ys (SqT.of (b.sub _ _ (s _ _ h')))
    rw [hv] at a1
    rw [hu] at a2
    have z1 := Option.some.inj a1
    have z2 := Option.some.inj a2
    subst z1 z2
    have f := Fin.alloc (o := .tup [v, u]) b hT
    exact ⟨_, f, T, [v, u], rfl, upd_same, ⟨v, [u], rfl, (rv.mono s).mono f.up, u, [], rfl, (ru.mono s).mono f.up, rfl⟩⟩
def zipF : List D → (List D → Prop) → Prop
  | [.lst ds, .lst es], φ => φ (zipD ds es)
  | [.tup ds, .tup es], φ => φ (zipD ds es)
  | _, _ => False
def TIz (U : TL) : TL := fun c env φ => U c env fun ds => zipF ds φ
theorem di_zip {e e2 : Expr} {p tpos : Pos} {elts : List Expr} {kk : Nat} {U : TL} (hg : Gl X "zip") (hm : X.mg "zip" = none) (ha : DA X W [e, e2] U)
    (hs : starEach [e, e2] X.env = (false, eval e X.env) :: starEach [e2] X.env := by rfl) (hpl : (backTo pos (starEach [e2] X.env)).any (·.1) = false := by rfl) : DI X W (.Tuple elts kk tpos) (.Call (.Name "zip" p) [e, e2] [] pos) (TIz U) :=
  pi_imp (RZ.pi_zipA hg hm ha hs hpl) fun σ H Q ⟨S, R, env, φ, lk, ok, q, hQ⟩ => tL3.ask lk ok q fun R1 H1 ds vs f1 ok1 r1 q1 => by
    unfold zipF at q1
    split at q1
    · obtain ⟨v, u, e, h1, h2⟩ := reps2 r1
      subst e
      obtain ⟨p1, xs, e, hh, hr⟩ := rep_lst h1
      obtain ⟨p2, ys, e', hh', hr'⟩ := rep_lst h2
      subst e e'
      exact ⟨p1, p2, xs, ys, rfl, .inl ⟨SqL.of (ok1.bas.sub _ _ hh), SqL.of (ok1.bas.sub _ _ hh'), hQ _ _ R1 _ f1 (itok_zipL hh hr hh' hr') q1⟩⟩
    · obtain ⟨v, u, e, h1, h2⟩ := reps2 r1
      subst e
      obtain ⟨p1, xs, e, hh, hr⟩ := rep_tup h1
      obtain ⟨p2, ys, e', hh', hr'⟩ := rep_tup h2
      subst e e'
      exact ⟨p1, p2, xs, ys, rfl, .inr ⟨SqT.of (ok1.bas.sub _ _ hh), SqT.of (ok1.bas.sub _ _ hh'), hQ _ _ R1 _ f1 (itok_zipT hh hr hh' hr') q1⟩⟩
    · exact q1.elim

/-! ### for -/
def ForD (g : TGD) (B : TSD) (c : Ct) (D : EndD) : List L3.D → Ev → Prop
  | [], env => D.nx env
  | d :: ds, env => g d env fun env' => B c { D with nx := ForD g B c D ds, ct := ForD g B c D ds, bk := D.nx } env'
def TFor (T : TL) (g : TGD) (B : TSD) : TSD := fun c D env => T c env fun ds => ForD g B c D ds env
theorem ds_for {iter : Expr} {body : List Stmt} {T : TL} {g : TGD} {Bb : TSD} {vs : List Nat} (hp : PassesOwn (model X.prog X.w) X.A X.env X.xe) (hc : X.calm = true) (hi : DI X W tg iter T) (hg : DG X vs tg g) (hb : DSs X W body Bb)
    (hs : ∀ x, foldedSetIterable iter X.env x = pure x := by intro _; rfl) : DS X W (.For tg iter body [] pos) (TFor T g Bb) :=
  ds_mk (ps_for hp hc hi hg hb hs) fun S R H σ env D3 lk ok q => by
    refine ⟨S, R, env, _, lk, ok, q, fun J H1 R1 ds f1 io q1 => ?_⟩
    have ok1 := ok.through f1
    refine ⟨fun i m σ H => m = ds.length - i ∧ ∃ R2 env, Ok3 X.K (S.base R1) R2 H σ env ∧ ForD g Bb S.c D3 (ds.drop i) env, ⟨ds.length, by simp, R1, env, ok1.rebase, by rw [List.drop_zero]; exact q1⟩, ?_⟩
    rintro i m σ H ⟨rfl, R2, env, ok2, q2⟩
    by_cases hi : i < ds.length
    · have hd := List.getElem?_eq_getElem hi
      refine .inr ⟨io.go i R2 H _ ok2.rb ok2.bas hd, fun σ H => ∃ R3 env, Ok3 X.K (S.base R1) R3 H σ env ∧ ForD g Bb S.c D3 (ds.drop (i + 1)) env, fun σ' H' ⟨R3, env', h1, h3⟩ => ⟨ds.length - (i + 1), by omega, rfl, R3, env', h1, h3⟩, fun x H' y => ?_⟩
      obtain ⟨R3, f3, r3⟩ := io.yld i R2 H x H' _ ok2.rb ok2.bas hd y
      have ok3 := ok2.through f3
      rw [List.drop_eq_getElem_cons hi] at q2
      refine ⟨S.base R1, R3, env, _, _, ok3, r3, q2, fun env' σ' _ ok' q' => ?_⟩
      exact tS3.ask (lk.base ok1.rb) ok' q' ⟨fun R4 H4 σ4 env4 ok4 q4 => ⟨R4, env4, ok4, q4⟩, fun R4 H4 σ4 env4 d v ok4 r q => ⟨R4, σ4, env4, d, ok4.back ok1.rb, r, q⟩, fun R4 H4 σ4 env4 ok4 q => ⟨R4, env4, ok4.back ok1.rb, q⟩, fun R4 H4 σ4 env4 ok4 q4 => ⟨R4, env4, ok4, q4⟩⟩
    · have e : ds.drop i = [] := List.drop_eq_nil_of_le (by omega)
      rw [e] at q2
      exact .inl ⟨io.stop i R2 H ok2.rb ok2.bas (by omega), R2, env, ok2.back ok1.rb, q2⟩

/-! ### a list that this def alone holds -/
theorem Fin.mut {w : Wd} {R H R1 H1 : Hp} (f : Fin w R H R1 H1) {p : Addr} {o : HO} (hp : H p = none) (h1 : R1 p = none) (hf : ¬ w.foot p) (hx : ∀ φ, H1 p ≠ some (.ext φ)) : Fin w R H R1 (upd H1 p o) := by
  refine ⟨f.up, fun b u h => ?_, fun b u h q => ?_, f.newX, ?_, f.ft⟩
  · rw [upd_ne (ne_of_none h h1)]; exact f.sub b u h
  · rw [upd_ne (ne_of_none h hp)]; exact f.keep b u h q
  · refine w.ext _ _ f.inv (fun b u hb h => ?_) fun b φ h => by rw [upd_ne (fun e => hx φ (by rw [← e]; exact h))]; exact h
    rw [upd_ne (fun e => hf (by rw [← e]; exact hb))]; exact h
theorem Fin.frz {w : Wd} {R H R1 H1 : Hp} (f : Fin w R H R1 H1) {p : Addr} {o : HO} (hp : H p = none) (h1 : H1 p = some o) (hn : R1 p = none) (hf : ¬ w.foot p) : Fin w R H (upd R1 p o) H1 := by
  refine ⟨fun b u h => ?_, fun b u h => ?_, f.keep, fun b u h q n => ?_, f.inv, fun b hb => ?_⟩
  · rw [upd_ne (ne_of_none (f.up b u h) hn)]; exact f.up b u h
  · by_cases e : b = p
    · subst e
      rw [upd_same] at h
      rw [← h]
      exact h1
    · rw [upd_ne e] at h
      exact f.sub b u h
  · rw [upd_ne (ne_of_none q hp)]; exact f.newX b u h q n
  · rw [upd_ne (fun e => hf (by rw [← e]; exact hb))]; exact f.ft b hb
theorem up_upd {R : Hp} {p : Addr} {o : HO} (h : R p = none) : Same R (upd R p o) := fun b u q => by
  rw [upd_ne (ne_of_none q h)]; exact q
section
variable {K : PySem.W.Frag} {S : Sta} {R H : Hp} {σ : L2.St} {env : Ev}
/-- a new list for a name -/
theorem Ok3.newOwn (o : Ok3 K S R H σ env) {i : Nat} {p : Addr} {ds : List L3.D} {xs : List V} (hp : H p = none) (r : Reps K R ds xs) : Ok3 K S R (upd H p (.lst xs)) (σ.set i (some (.ref p))) (env.set i (.ol p ds)) := by
  have f := Fin.fresh (o := .lst xs) o.bas hp
  have o1 := o.through f
  have hS : S.H0 p = none := by
    cases q : S.H0 p with
    | none => rfl
    | some u =>
      obtain ⟨z, hz⟩ := o.fin.there q
      rw [hp] at hz
      cases hz
  have hR : R p = none := by
    cases q : R p with
    | none => rfl
    | some u =>
      rw [o.bas.sub p u q] at hp
      cases hp
  have hF : ¬ S.c.wd.foot p := fun z => by
    obtain ⟨u, hu⟩ := S.c.wd.there _ _ o.bas.inv z
    rw [hp] at hu
    cases hu
  have nope : ∀ j, adAt env j ≠ some p := fun j z => by
    unfold adAt at z
    cases e : env[j]? with
    | none =>
      rw [e] at z
      cases z
    | some s =>
      rw [e] at z
      obtain ⟨x, _, q⟩ := pair_get o.sl e
      have hs : s.ad = some p := z
      cases s with
      | no => cases hs
      | v d => cases hs
      | ol p' ds =>
        have : p' = p := Option.some.inj hs
        subst this
        obtain ⟨_, xs, hh, _⟩ := q
        rw [hp] at hh
        cases hh
      | oi p' C fs =>
        have : p' = p := Option.some.inj hs
        subst this
        obtain ⟨_, dx, xs, hh, _⟩ := q
        rw [hp] at hh
        cases hh
  refine ⟨o1.fin, o1.rb, pair_set (F := SlOk K R (upd H p (.lst xs))) (show SlOk K R (upd H p (.lst xs)) (some (.ref p)) (.ol p ds) from ⟨rfl, xs, upd_same, r⟩) i o1.sl, fun j q h => ?_, fun j k q h1 h2 => ?_⟩
  · rcases adAt_set h with ⟨_, z⟩ | ⟨_, z⟩
    · have : p = q := Option.some.inj z
      subst this
      exact ⟨hR, hS, hF⟩
    · exact o1.own j q z
  · rcases adAt_set h1 with ⟨e1, z⟩ | ⟨e1, z⟩
    · have : p = q := Option.some.inj z
      subst this
      rcases adAt_set h2 with ⟨e2, z'⟩ | ⟨_, z'⟩
      · rw [e1, e2]
      · exact absurd z' (nope k)
    · rcases adAt_set h2 with ⟨_, z'⟩ | ⟨_, z'⟩
      · have : p = q := Option.some.inj z'
        subst this
        exact absurd z (nope j)
      · exact o1.dis j k q z z'
/-- its own thing changes -/
theorem Ok3.mut (o : Ok3 K S R H σ env) {i : Nat} {p : Addr} {s : Sl} {u : HO} (e : adAt env i = some p) (hs : s.ad = some p) (hx : ∀ x, σ[i]? = some x → x = some (.ref p) → SlOk K R (upd H p u) x s) : Ok3 K S R (upd H p u) σ (env.set i s) := by
  obtain ⟨h1, h2, h3⟩ := o.own i p e
  have h4 : ∀ φ, H p ≠ some (.ext φ) := fun φ z => by
    unfold adAt at e
    cases q : env[i]? with
    | none =>
      rw [q] at e
      cases e
    | some s0 =>
      rw [q] at e
      have e' : s0.ad = some p := e
      obtain ⟨x0, _, ok0⟩ := pair_get o.sl q
      cases s0 with
      | no => cases e'
      | v d => cases e'
      | ol p' ds =>
        have : p' = p := Option.some.inj e'
        subst this
        obtain ⟨_, xs, hh, _⟩ := ok0
        rw [hh] at z
        cases z
      | oi p' C fs =>
        have : p' = p := Option.some.inj e'
        subst this
        obtain ⟨_, dx, xs, hh, _⟩ := ok0
        rw [hh] at z
        cases z
  refine ⟨o.fin.mut h2 h1 h3 h4, o.rb, ?_, fun j q h => ?_, fun j k q a1 a2 => ?_⟩
  · have hl : σ = σ.set i (σ.getD i none) := by
      by_cases hi : i < σ.length
      · rw [List.getD_eq_getElem?_getD, List.getElem?_eq_getElem hi]
        simp
      · rw [List.set_eq_of_length_le (by omega)]
    have ei : ∃ s0, env[i]? = some s0 ∧ s0.ad = some p := by
      unfold adAt at e
      cases q : env[i]? with
      | none =>
        rw [q] at e
        cases e
      | some s0 =>
        rw [q] at e
        exact ⟨s0, rfl, e⟩
    obtain ⟨s0, q0, q1⟩ := ei
    obtain ⟨x0, hx0, ok0⟩ := pair_get o.sl q0
    have hr : x0 = some (.ref p) := by
      cases s0 with
      | no => cases q1
      | v d => cases q1
      | ol p' ds =>
        have : p' = p := Option.some.inj q1
        subst this
        exact ok0.1
      | oi p' C fs =>
        have : p' = p := Option.some.inj q1
        subst this
        exact ok0.1
    have key : ∀ {xs : L2.St} {ys : Ev} {j : Nat}, Paired (SlOk K R H) xs ys → (∀ (k : Nat) (s1 : Sl) (q : Addr), k ≠ j → ys[k]? = some s1 → s1.ad = some q → q ≠ p) → xs[j]? = some x0 → SlOk K R (upd H p u) x0 s → Paired (SlOk K R (upd H p u)) xs (ys.set j s) := by
      intro xs ys j pr
      induction pr generalizing j with
      | nil => intro _ h; simp at h
      | @cons x y xs ys r t ih =>
        intro hne hj hs2
        have ch : ∀ {x : Option V} {y : Sl}, SlOk K R H x y → (∀ q, y.ad = some q → q ≠ p) → SlOk K R (upd H p u) x y := by
          intro x y hy hq
          cases y with
          | no => trivial
          | v d => exact hy
          | ol q ds =>
            obtain ⟨a1, zs, a2, a3⟩ := hy
            exact ⟨a1, zs, by rw [upd_ne (hq q rfl)]; exact a2, a3⟩
          | oi q C fs =>
            obtain ⟨a1, dx, zs, a2, a3⟩ := hy
            exact ⟨a1, dx, zs, by rw [upd_ne (hq q rfl)]; exact a2, a3⟩
        cases j with
        | zero =>
          have : x = x0 := by simpa using hj
          subst this
          refine .cons hs2 ?_
          have go : ∀ {xs : L2.St} {ys : Ev}, Paired (SlOk K R H) xs ys → (∀ (k : Nat) (s1 : Sl) (q : Addr), ys[k]? = some s1 → s1.ad = some q → q ≠ p) → Paired (SlOk K R (upd H p u)) xs ys := by
            intro xs ys pr
            induction pr with
            | nil => intro _; exact .nil
            | cons r t ih => intro hq; exact .cons (ch r fun q hh => hq 0 _ q rfl hh) (ih fun k s1 q a b => hq (k + 1) s1 q (by simpa using a) b)
          exact go t fun k s1 q a b => hne (k + 1) s1 q (by omega) (by simpa using a) b
        | succ j => exact .cons (ch r fun q hh => hne 0 _ q (by omega) rfl hh) (ih (fun k s1 q hk a b => hne (k + 1) s1 q (by omega) (by simpa using a) b) (by simpa using hj) hs2)
    refine key o.sl (fun k s1 q hk a b z => hk ?_) hx0 (hx x0 hx0 hr)
    subst z
    exact o.dis k i q (by unfold adAt; rw [a]; exact b) e
  · rcases adAt_set h with ⟨_, z⟩ | ⟨_, z⟩
    · rw [hs] at z
      have : p = q := Option.some.inj z
      subst this
      exact ⟨h1, h2, h3⟩
    · exact o.own j q z
  · rcases adAt_set a1 with ⟨e1, z⟩ | ⟨e1, z⟩
    · rw [hs] at z
      have : p = q := Option.some.inj z
      subst this
      rcases adAt_set a2 with ⟨e2, z'⟩ | ⟨e2, z'⟩
      · rw [e1, e2]
      · exact absurd (o.dis k i p z' e) e2
    · rcases adAt_set a2 with ⟨e2, z'⟩ | ⟨_, z'⟩
      · rw [hs] at z'
        have : p = q := Option.some.inj z'
        subst this
        exact absurd (o.dis j i p z e) e1
      · exact o.dis j k q z z'
/-- from now on it stays -/
theorem Ok3.freezeP (o : Ok3 K S R H σ env) {i : Nat} {p : Addr} {ds : List L3.D} (e : env[i]? = some (.ol p ds)) : ∃ xs, R p = none ∧ Ok3 K S (upd R p (.lst xs)) H σ (env.set i (.v (.lst ds))) := by
  have ea : adAt env i = some p := by
    unfold adAt
    rw [e]
    rfl
  obtain ⟨h1, h2, h3⟩ := o.own i p ea
  obtain ⟨x0, hx0, ex, xs, hh, hr⟩ := pair_get o.sl e
  subst ex
  refine ⟨xs, h1, o.fin.frz h2 hh h1 h3, o.rb.trans (up_upd h1), ?_, fun j q h => ?_, fun j k q a1 a2 => ?_⟩
  · have hl : σ = σ.set i (some (.ref p)) := by
      apply List.ext_getElem?
      intro j
      by_cases ej : j = i
      · subst ej
        rw [List.getElem?_set_self (List.getElem?_eq_some_iff.mp hx0).1]
        exact hx0
      · rw [List.getElem?_set_ne (Ne.symm ej)]
    rw [hl]
    refine pair_set (F := SlOk K (upd R p (.lst xs)) H) (show SlOk K (upd R p (.lst xs)) H (some (.ref p)) (.v (.lst ds)) from ⟨.ref p, rfl, p, xs, rfl, upd_same, hr.mono (up_upd h1)⟩) i ?_
    refine pair_imp o.sl fun j x y _ _ h => ?_
    cases y with
    | no => trivial
    | v d =>
      obtain ⟨v, a, b⟩ := h
      exact ⟨v, a, b.mono (up_upd h1)⟩
    | ol q ds =>
      obtain ⟨a1, zs, a2, a3⟩ := h
      exact ⟨a1, zs, a2, a3.mono (up_upd h1)⟩
    | oi q C fs =>
      obtain ⟨a1, dx, zs, a2, a3⟩ := h
      exact ⟨a1, dx, zs, a2, a3.mono (up_upd h1)⟩
  · rcases adAt_set h with ⟨_, z⟩ | ⟨ej, z⟩
    · cases z
    · obtain ⟨b1, b2, b3⟩ := o.own j q z
      have hq : q ≠ p := fun z2 => ej (o.dis j i p (by rw [← z2]; exact z) ea)
      exact ⟨by rw [upd_ne hq]; exact b1, b2, b3⟩
  · rcases adAt_set a1 with ⟨_, z⟩ | ⟨_, z⟩
    · cases z
    · rcases adAt_set a2 with ⟨_, z'⟩ | ⟨_, z'⟩
      · cases z'
      · exact o.dis j k q z z'
theorem Ok3.freeze (o : Ok3 K S R H σ env) {i : Nat} {p : Addr} {ds : List L3.D} (e : env[i]? = some (.ol p ds)) : ∃ R', Ok3 K S R' H σ (env.set i (.v (.lst ds))) := let ⟨_, _, h⟩ := o.freezeP e; ⟨_, h⟩
end
end
end L3
namespace L3
open PySem PySem.Spec PyProof.Rows L2
section
variable {X : Cx} {W : WX} {pos : Pos} {a b tg e : Expr} {Ta Tb T : TD} {A B : TB}
theorem de_fs1 (he : DE X W e T) : DE X W (.JoinedStr [e] pos) T := pe_fs1 he
/-! ### lists that this def alone holds -/
theorem ad_of {env : Ev} {i : Nat} {s : Sl} {p : Addr} (e : env[i]? = some s) (h : s.ad = some p) : adAt env i = some p := by
  unfold adAt
  rw [e]
  exact h
/-- x = [..] -/
def TOwn (i : Nat) (U : TL) : TSD := fun c D env => U c env fun ds => ds.length ≤ sizeLine ∧ ∀ p, D.nx (env.set i (.ol p ds))
theorem ds_own {i : Nat} {x : Str} {es : List Expr} {pos' p2 : Pos} {U : TL} (hN : X.N.Nodup) (hi : X.N[i]? = some x) (hx : Loc X.env.scope x) (he : DA X W es U) (hs : swapsWith (.List es p2) (some (.Name x pos')) pos.line X.env = pure false := by rfl)
    (hf : X.fn x = true ∨ X.env.scope.names.lookup x = some .local := by first | exact .inl rfl | exact .inr rfl | assumption) : DS X W (.Assign [.Name x pos'] (.List es p2) pos) (TOwn i U) :=
  ds_mk (ps_set hN hi hx (pe_lst he) hs hf) fun S R H σ env D3 lk ok q => tL3.ask lk ok q fun R1 H1 ds vs f1 ok1 r1 q1 => ⟨by rw [r1.length]; exact q1.1, fun p hp => ⟨R1, _, ok1.newOwn hp r1, q1.2 p⟩⟩
/-- x = list(..) -/
def TOwnL (i : Nat) (T : TD) : TSD := fun c D env => T c env fun d => ∃ ds, (d = .lst ds ∨ d = .tup ds) ∧ ∀ p, D.nx (env.set i (.ol p ds))
theorem ds_ownList {i : Nat} {x : Str} {pos' p p2 : Pos} (hN : X.N.Nodup) (hi : X.N[i]? = some x) (hx : Loc X.env.scope x) (hg : Gl X "list") (hm : X.mg "list" = none) (hv : bootBuiltins "list" = some (.type "list")) (he : DE X W e T)
    (hs : swapsWith (.Call (.Name "list" p) [e] [] p2) (some (.Name x pos')) pos.line X.env = pure false := by rfl) (hst : starEach [e] X.env = (false, eval e X.env) :: starEach [] X.env := by rfl)
    (hf : X.fn x = true ∨ X.env.scope.names.lookup x = some .local := by first | exact .inl rfl | exact .inr rfl | assumption) : DS X W (.Assign [.Name x pos'] (.Call (.Name "list" p) [e] [] p2) pos) (TOwnL i T) :=
  ds_mk (ps_set hN hi hx (pe_callTy call_list_of hg hm hv (pa_cons he pa_nil hst) (by decide) (by decide) hst rfl) hs hf) fun S R H σ env D3 lk ok q => tD.ask lk ok q fun R1 H1 d v f1 ok1 r1 ⟨ds, e, q1⟩ => by
    rcases e with e | e
    · subst e
      obtain ⟨p, xs, e, hh, hr⟩ := rep_lst r1
      subst e
      exact ⟨p, xs, rfl, .inl (SqL.of (ok1.bas.sub _ _ hh)), fun l hl => ⟨R1, _, ok1.newOwn hl hr, q1 l⟩⟩
    · subst e
      obtain ⟨p, xs, e, hh, hr⟩ := rep_tup r1
      subst e
      exact ⟨p, xs, rfl, .inr (SqT.of (ok1.bas.sub _ _ hh)), fun l hl => ⟨R1, _, ok1.newOwn hl hr, q1 l⟩⟩
/-- x.append(e) -/
def TApp (i : Nat) (T : TD) : TSD := fun c D env => ∃ p ds, env[i]? = some (.ol p ds) ∧ T c env fun d => ds.length < sizeLine ∧ D.nx (env.set i (.ol p (ds ++ [d])))
theorem ol_mut {K : PySem.W.Frag} {S : Sta} {R H : Hp} {σ : L2.St} {env : Ev} (o : Ok3 K S R H σ env) {i : Nat} {p : Addr} {ds es : List L3.D} {xs : List V} (e : env[i]? = some (.ol p ds)) (r : Reps K R es xs) : Ok3 K S R (upd H p (.lst xs)) σ (env.set i (.ol p es)) :=
  o.mut (ad_of e rfl) rfl fun x _ hx => ⟨hx, xs, upd_same, r⟩
theorem ol_at {K : PySem.W.Frag} {S : Sta} {R H : Hp} {σ : L2.St} {env : Ev} (o : Ok3 K S R H σ env) {i : Nat} {p : Addr} {ds : List L3.D} (e : env[i]? = some (.ol p ds)) : σ[i]? = some (some (.ref p)) ∧ ∃ xs, H p = some (.lst xs) ∧ Reps K R ds xs := by
  obtain ⟨x, h1, h2, h3⟩ := pair_get o.sl e
  subst h2
  exact ⟨h1, h3⟩
theorem ds_append (i : Nat) {x : Str} {p0 apos cpos : Pos} (he : DE X W e T) (hN : X.N[i]? = some x := by rfl) (hv : Vis X.env.scope x := by first | exact Or.inl rfl | exact Or.inr (Or.inl rfl) | exact Or.inr (Or.inr rfl))
    (hd : (x == ("__debug__" : Str)) = false := by decide) (hcd : (x == ("__classdict__" : Str)) = false := by decide) (hbase : attributeBase (.Name x p0) ("append" : Str) X.env (eval (.Name x p0) X.env) = eval (.Name x p0) X.env := by rfl)
    (hfew : ((backTo cpos (starEach (e :: []) X.env)).all (fun x => !x.1) && (backToKw cpos (keywordEach [] X.env)).all (fun x => x.1.isSome) && decide ((e :: []).length + ([] : List Keyword).length + (if ([] : List Keyword).isEmpty then 0 else 1) < 30)) = true := by rfl)
    (hline : (apos.endLine == cpos.line) = true := by rfl) (hs : starEach (e :: []) X.env = (false, eval e X.env) :: starEach [] X.env := by rfl) (hsw : swapsWith (.Call (.Attribute (.Name x p0) ("append" : Str) apos) [e] [] cpos) none pos.line X.env = pure false := by rfl) :
    DS X W (.Expr (.Call (.Attribute (.Name x p0) ("append" : Str) apos) [e] [] cpos) pos) (TApp i T) :=
  ds_mk (ps_expr (pe_bm PySem.F.plainAttrs_list PySem.F.slot_list_append PySem.F.type_list_append mt_append (pe_var hN hv hd hcd) (pa_cons he pa_nil hs) hbase hfew hline hs rfl) hsw) fun S R H σ env D3 lk ok ⟨p, ds, e0, q⟩ => by
    obtain ⟨h1, xs, h2, h3⟩ := ol_at ok e0
    refine ⟨_, h1, .inl ⟨rfl, xs, SqL.of h2⟩, tD.ask lk ok q fun R1 H1 d v f1 ok1 r1 q1 => ?_⟩
    obtain ⟨_, ys, h4, h5⟩ := ol_at ok1 e0
    exact ⟨p, ys, v, rfl, rfl, h4, by rw [h5.length]; exact q1.1, R1, _, ol_mut ok1 e0 (h5.snoc r1), q1.2⟩
/-- x.extend(e) -/
def TExt (i : Nat) (T : TD) : TSD := fun c D env => ∃ p ds, env[i]? = some (.ol p ds) ∧ T c env fun d => ∃ es, d = .lst es ∧ ds.length + es.length ≤ sizeLine ∧ D.nx (env.set i (.ol p (ds ++ es)))
theorem ds_extend (i : Nat) {x : Str} {p0 apos cpos : Pos} (he : DE X W e T) (hN : X.N[i]? = some x := by rfl) (hv : Vis X.env.scope x := by first | exact Or.inl rfl | exact Or.inr (Or.inl rfl) | exact Or.inr (Or.inr rfl))
    (hd : (x == ("__debug__" : Str)) = false := by decide) (hcd : (x == ("__classdict__" : Str)) = false := by decide) (hbase : attributeBase (.Name x p0) ("extend" : Str) X.env (eval (.Name x p0) X.env) = eval (.Name x p0) X.env := by rfl)
    (hfew : ((backTo cpos (starEach (e :: []) X.env)).all (fun x => !x.1) && (backToKw cpos (keywordEach [] X.env)).all (fun x => x.1.isSome) && decide ((e :: []).length + ([] : List Keyword).length + (if ([] : List Keyword).isEmpty then 0 else 1) < 30)) = true := by rfl)
    (hline : (apos.endLine == cpos.line) = true := by rfl) (hs : starEach (e :: []) X.env = (false, eval e X.env) :: starEach [] X.env := by rfl) (hsw : swapsWith (.Call (.Attribute (.Name x p0) ("extend" : Str) apos) [e] [] cpos) none pos.line X.env = pure false := by rfl) :
    DS X W (.Expr (.Call (.Attribute (.Name x p0) ("extend" : Str) apos) [e] [] cpos) pos) (TExt i T) :=
  ds_mk (ps_expr (pe_bm PySem.F.plainAttrs_list PySem.F.slot_list_extend PySem.F.type_list_extend mt_extend (pe_var hN hv hd hcd) (pa_cons he pa_nil hs) hbase hfew hline hs rfl) hsw) fun S R H σ env D3 lk ok ⟨p, ds, e0, q⟩ => by
    obtain ⟨h1, xs, h2, h3⟩ := ol_at ok e0
    refine ⟨_, h1, .inl ⟨rfl, xs, SqL.of h2⟩, tD.ask lk ok q fun R1 H1 d v f1 ok1 r1 ⟨es, e1, q1⟩ => ?_⟩
    subst e1
    obtain ⟨_, ys, h4, h5⟩ := ol_at ok1 e0
    obtain ⟨p2, zs, e2, hh, hr⟩ := rep_lst r1
    subst e2
    exact ⟨p, p2, ys, zs, rfl, rfl, h4, ok1.bas.sub _ _ hh, by rw [h5.length, hr.length]; exact q1.1, R1, _, ol_mut ok1 e0 (h5.append hr), q1.2⟩
/-- x[k] = e -/
def TPutI (i : Nat) (Tk T : TD) : TSD := fun c D env => T c env fun d => Tk c env fun k => ∃ p ds n j, env[i]? = some (.ol p ds) ∧ k = .int n ∧ ixN ds.length n = some j ∧ D.nx (env.set i (.ol p (ds.set j d)))
/-- read as it stands: a flat answer -/
def TBor (i : Nat) (T : TD) : TD := fun c env φ => ∃ p ds, env[i]? = some (.ol p ds) ∧ T c (env.set i (.v (.lst ds))) fun d => flatD d = true ∧ φ d
def TBorB (i : Nat) (T : TB) : TB := fun c env φ => ∃ p ds, env[i]? = some (.ol p ds) ∧ T c (env.set i (.v (.lst ds))) φ
theorem Fin.under {w : Wd} {R R' H R1 H1 : Hp} (b : Bas w R H) (s : Same R R') (f : Fin w R' H R1 H1) : Fin w R H R H1 :=
  ⟨fun _ _ h => h, fun c o h => f.sub c o (f.up c o (s c o h)), f.keep, fun _ _ h _ _ => h, f.inv, b.ft⟩
theorem Ok3.borrow {K : PySem.W.Frag} {S : Sta} {R H : Hp} {σ : L2.St} {env : Ev} (o : Ok3 K S R H σ env) {i : Nat} {p : Addr} {ds : List L3.D} (e : env[i]? = some (.ol p ds)) : ∃ R', Same R R' ∧ Ok3 K S R' H σ (env.set i (.v (.lst ds))) := by
  obtain ⟨R', o'⟩ := (o.rebase).freeze e
  exact ⟨R', o'.rb, o'.back o.rb⟩
theorem rep_flat {K : PySem.W.Frag} {R R' : Hp} {d : L3.D} {v : V} (h : flatD d = true) (r : Rep K R d v) : Rep K R' d v := by
  cases d <;> first | exact Bool.noConfusion h | exact r
/-- no name is changed by an error's wish here: the wish stands at the names as they were lent -/
theorem de_bor (i : Nat) (he : DE X W e T) : DE X W e (TBor i T) :=
  ⟨fun pins s σ H Q I ⟨S, R, env, φ, lk, ok, ⟨p, ds, e0, q⟩, hQ⟩ => by
    obtain ⟨R', sm, ok'⟩ := ok.borrow e0
    exact he.run pins s σ H Q I ⟨S, R', _, _, lk, ok', q, fun v H' ⟨R2, d, f, r, hf, q2⟩ => hQ v H' ⟨R, d, Fin.under ok.bas sm f, rep_flat hf r, q2⟩⟩⟩
theorem dt_bor (i : Nat) (he : DT X W e A) : DT X W e (TBorB i A) :=
  ⟨fun pins s σ H Q I ⟨S, R, env, φ, lk, ok, ⟨p, ds, e0, q⟩, hQ⟩ => by
    obtain ⟨R', sm, ok'⟩ := ok.borrow e0
    exact he.run pins s σ H Q I ⟨S, R', _, _, lk, ok', q, fun v H' ⟨R2, f, q2⟩ => hQ v H' ⟨R, Fin.under ok.bas sm f, q2⟩⟩⟩
/-- from here on it stays -/
def TFrz (i : Nat) (T : TSD) : TSD := fun c D env => ∃ p ds, env[i]? = some (.ol p ds) ∧ T c D (env.set i (.v (.lst ds)))
theorem ds_frz (i : Nat) {st : Stmt} {U : TSD} (h : DS X W st U) : DS X W st (TFrz i U) :=
  ⟨fun pins s σ H E I ⟨S, R, env, D3, lk, ok, ⟨p, ds, e0, q⟩, eo⟩ => by
    obtain ⟨R', ok'⟩ := ok.freeze e0
    exact h.run pins s σ H E I ⟨S, R', _, D3, lk, ok', q, eo⟩⟩
theorem dss_frz (i : Nat) {st : List Stmt} {U : TSD} (h : DSs X W st U) : DSs X W st (TFrz i U) :=
  ⟨fun pins s σ H E I ⟨S, R, env, D3, lk, ok, ⟨p, ds, e0, q⟩, eo⟩ => by
    obtain ⟨R', ok'⟩ := ok.freeze e0
    exact h.run pins s σ H E I ⟨S, R', _, D3, lk, ok', q, eo⟩⟩
/-! ### the instance that an __init__ fills -/
def TPutF (K : PySem.W.Frag) (i : Nat) (f : Str) (T : TD) : TSD := fun c D env => T c env fun d => ∃ p C fs, env[i]? = some (.oi p C fs) ∧ AtK K C f ∧ fs.length < 1000 ∧ D.nx (env.set i (.oi p C (putD f d fs)))
theorem oi_at {K : PySem.W.Frag} {S : Sta} {R H : Hp} {σ : L2.St} {env : Ev} (o : Ok3 K S R H σ env) {i : Nat} {p C : Addr} {fs : List (Str × L3.D)} (e : env[i]? = some (.oi p C fs)) : σ[i]? = some (some (.ref p)) ∧ ∃ dx fvs, H p = some (.ins C dx fvs) ∧ RepF K R fs fvs := by
  obtain ⟨x, h1, h2, h3⟩ := pair_get o.sl e
  subst h2
  exact ⟨h1, h3⟩
theorem ds_putF (i : Nat) {x f : Str} {p0 pos' : Pos} (he : DE X W e T) (hN : X.N[i]? = some x := by rfl) (hv : Vis X.env.scope x := by first | exact Or.inl rfl | exact Or.inr (Or.inl rfl) | exact Or.inr (Or.inr rfl))
    (hd : (x == ("__debug__" : Str)) = false := by decide) (hcd : (x == ("__classdict__" : Str)) = false := by decide) (hs : swapsWith e (some (.Attribute (.Name x p0) f pos')) pos.line X.env = pure false := by rfl) :
    DS X W (.Assign [.Attribute (.Name x p0) f pos'] e pos) (TPutF X.K i f T) :=
  ds_mk (ps_fld (pe_var hN hv hd hcd) he hs) fun S R H σ env D3 lk ok q => tD.ask lk ok q fun R1 H1 d v f1 ok1 r1 ⟨p, C, fs, e0, ak, hl, q1⟩ => by
    obtain ⟨h1, dx, fvs, h2, h3⟩ := oi_at ok1 e0
    exact ⟨_, h1, p, C, dx, fvs, rfl, h2, ak.cls, ak.no, by rw [h3.length]; exact hl, R1, _, ok1.mut (s := .oi p C (putD f d fs)) (ad_of e0 rfl) rfl fun x _ hx => ⟨hx, dx, _, upd_same, h3.put r1⟩, q1⟩
end
end L3
namespace L3
open PySem PySem.Spec PyProof.Rows L2
/-- nothing is let out -/
abbrev WF : WX := fun _ _ _ _ => False
section
variable {X : Cx} {W : WX} {pos : Pos} {a b tg e elt iter : Expr} {Ta Tb T : TD} {A B : TB}
/-! ### comprehensions -/
def hideS : Sl → Sl
  | .v d => .v d
  | _ => .no
def wipeD (env : Ev) : List Nat → Ev
  | [] => env.map hideS
  | v :: vs => (wipeD env vs).set v .no
abbrev dtN : Nat := 0
def TYes : TB := fun _ _ φ => φ true
theorem dts_nil : PTs X [] (tB3 X.K W TYes) := ⟨fun pins s σ H Q I ⟨S, R, env, φ, lk, ok, hT, hQ⟩ => (pts_nil (X := X)).run pins s σ H Q I (hQ true H ⟨R, Fin.refl ok.bas, hT⟩)⟩
theorem dts_one {c : Expr} (h : DT X W c A) : PTs X [c] (tB3 X.K W A) := pts_one h
def CompD (g : TGD) (A : TB) (T : TD) (c : Ct) (env : Ev) : List L3.D → List L3.D → (List L3.D → Prop) → Prop
  | [], acc, φ => φ acc
  | d :: ds, acc, φ => g d env fun env' => A c env' fun k => if k = true then T c env' fun y => acc.length < sizeLine ∧ CompD g A T c env ds (acc ++ [y]) φ else CompD g A T c env ds acc φ
/-- what runs in a comprehension -/
abbrev Ct.in (c : Ct) : Ct := ⟨c.wd, fun _ _ => False⟩
def TLc (U : TL) (g : TGD) (A : TB) (T : TD) (vs : List Nat) : TD := fun c env φ => U c env fun ds => CompD g A T c.in (wipeD env vs) ds [] fun out => φ (.lst out)
theorem wipe_wipe {σ : L2.St} : ∀ {vs : List Nat}, wipe (wipe σ vs) vs = wipe σ vs := by
  have key : ∀ (ws vs : List Nat), (∀ x ∈ ws, x ∈ vs) → wipe (wipe σ vs) ws = wipe σ vs := by
    intro ws vs
    induction ws with
    | nil => intro _; rfl
    | cons w ws ih =>
      intro h
      show (wipe (wipe σ vs) ws).set w none = wipe σ vs
      rw [ih fun x hx => h x (List.mem_cons_of_mem _ hx)]
      have hw := h w List.mem_cons_self
      clear ih h
      induction vs with
      | nil => cases hw
      | cons v vs ih =>
        show ((wipe σ vs).set v none).set w none = (wipe σ vs).set v none
        by_cases e : w = v
        · subst e
          rw [List.set_set]
        · rw [List.set_comm _ _ (Ne.symm e)]
          rcases List.mem_cons.mp hw with z | z
          · exact absurd z e
          · rw [ih z]
  intro vs
  exact key _ _ fun x hx => hx
theorem pair_map {α β γ : Type} {F : α → β → Prop} {G : α → γ → Prop} {f : β → γ} : ∀ {xs : List α} {ys : List β}, Paired F xs ys → (∀ x y, F x y → G x (f y)) → Paired G xs (ys.map f)
  | _, _, .nil, _ => .nil
  | _, _, .cons r t, h => .cons (h _ _ r) (pair_map t h)
theorem wipe_ok {K : PySem.W.Frag} {R R' H H' : Hp} {σ : L2.St} {env : Ev} (s : Same R R') (h : Paired (SlOk K R H) σ env) : ∀ vs : List Nat, Paired (SlOk K R' H') (wipe σ vs) (wipeD env vs)
  | [] => pair_map h fun x y hy => by
    cases y with
    | no => trivial
    | v d =>
      obtain ⟨v, e, r⟩ := hy
      exact ⟨v, e, r.mono s⟩
    | ol p ds => trivial
    | oi p C fs => trivial
  | v :: vs => pair_set (F := SlOk K R' H') (show SlOk K R' H' none .no from trivial) v (wipe_ok s h vs)
theorem wipeD_ad {env : Ev} : ∀ {vs : List Nat} {i : Nat}, adAt (wipeD env vs) i = none
  | [], i => by
    unfold adAt wipeD
    rw [List.getElem?_map]
    cases e : env[i]? with
    | none => rfl
    | some s => cases s <;> rfl
  | v :: vs, i => by
    cases z : adAt (wipeD env (v :: vs)) i with
    | none => rfl
    | some p =>
      rcases adAt_set (show adAt ((wipeD env vs).set v .no) i = some p from z) with ⟨_, q⟩ | ⟨_, q⟩
      · cases q
      · rw [wipeD_ad] at q
        cases q
/-- the state of a comprehension's turn -/
theorem Ok3.block {K : PySem.W.Frag} {S : Sta} {R H R' H' : Hp} {σ : L2.St} {env : Ev} (o : Ok3 K S R H σ env) (f : Fin S.c.wd R H R' H') (vs : List Nat) : Ok3 K ⟨S.c.in, R', H', R'⟩ R' H' (wipe σ vs) (wipeD env vs) :=
  ⟨Fin.refl f.bas, fun _ _ h => h, wipe_ok f.up o.sl vs, fun i p h => (by rw [wipeD_ad] at h; cases h), fun i j p h _ => (by rw [wipeD_ad] at h; cases h)⟩
theorem lk_in {K : PySem.W.Frag} {c : Ct} {R H Rb : Hp} {W : WX} : Lk K ⟨c.in, R, H, Rb⟩ W := fun _ _ _ _ _ _ _ _ _ h => h.elim
theorem Fin.kept {w : Wd} {R H R1 H1 : Hp} (f : Fin w R H R1 H1) {p : Addr} {o : HO} (h : H p = some o) (hf : ¬ w.foot p) : H1 p = some o := f.keep p o h hf
theorem not_foot {w : Wd} {R H : Hp} (b : Bas w R H) {p : Addr} (h : H p = none) : ¬ w.foot p := fun z => by
  obtain ⟨u, hu⟩ := w.there _ _ b.inv z
  rw [h] at hu
  cases hu
theorem not_R {w : Wd} {R H : Hp} (b : Bas w R H) {p : Addr} (h : H p = none) : R p = none := by
  cases q : R p with
  | none => rfl
  | some u =>
    rw [b.sub p u q] at h
    cases h
theorem lc_ask {S : Sta} {R H : Hp} {σ : L2.St} {env : Ev} {U : TL} {g : TGD} {vs : List Nat} {φ : L3.D → Prop} (lk : Lk X.K S W) (ok : Ok3 X.K S R H σ env) {Q : VK} (q : TLc U g A T vs S.c env φ) (kQ : ∀ v H', Pst X.K S.c R H φ v H' → Q v H') :
    tLc (tI3 X.K W U) (gD3 X.K vs g) (tB3 X.K WF A) (tD X.K WF T) vs σ H Q := by
  refine ⟨S, R, env, _, lk, ok, q, fun J H1 R1 ds f1 io q1 D hD => ?_⟩
  have nf := not_foot f1.bas hD
  have nR := not_R f1.bas hD
  refine ⟨fun i m Hh => m = ds.length - i ∧ ∃ R2 acc accV, Fin S.c.wd R1 H1 R2 Hh ∧ R2 D = none ∧ Hh D = some (.lst accV) ∧ Reps X.K R2 acc accV ∧ CompD g A T S.c.in (wipeD env vs) (ds.drop i) acc fun out => φ (.lst out),
    ⟨ds.length, by simp, R1, [], [], Fin.fresh f1.bas hD, nR, upd_same, rfl, by rw [List.drop_zero]; exact q1⟩, ?_⟩
  rintro i m Hh ⟨rfl, R2, acc, accV, f2, n2, h2, r2, q2⟩
  by_cases hi : i < ds.length
  · have hd := List.getElem?_eq_getElem hi
    refine .inr ⟨io.go i R2 Hh _ f2.up f2.bas hd, fun H' => ∃ R3 acc accV, Fin S.c.wd R1 H1 R3 H' ∧ R3 D = none ∧ H' D = some (.lst accV) ∧ Reps X.K R3 acc accV ∧ CompD g A T S.c.in (wipeD env vs) (ds.drop (i + 1)) acc fun out => φ (.lst out),
      fun H' ⟨R3, ac, av, h1, h2, h3, h4, h5⟩ => ⟨ds.length - (i + 1), by omega, rfl, R3, ac, av, h1, h2, h3, h4, h5⟩, fun x H' y => ?_⟩
    obtain ⟨R3, f3, r3⟩ := io.yld i R2 Hh x H' _ f2.up f2.bas hd y
    have f03 := (f1.trans f2).trans f3
    have ok3 := ok.block f03 vs
    rw [List.drop_eq_getElem_cons hi] at q2
    have n3 := f3.new D _ n2 h2
    have h3 := f3.kept h2 nf
    refine ⟨⟨S.c.in, R3, H', R3⟩, R3, wipeD env vs, _, _, ok3, r3, q2, fun env' σ' hw ok' q' => ⟨hw.trans wipe_wipe, ?_⟩⟩
    refine tB3.ask lk_in ok' q' fun R4 H4 k f4 ok4 q4 => ?_
    have f34 := ok4.fin
    cases k with
    | true =>
      rw [if_pos rfl] at q4
      refine iteT (tD.ask lk_in ok4 q4 fun R5 H5 dy y f5 ok5 ry q5 => ?_)
      have f35 := ok5.fin
      have h5 := f35.kept h3 nf
      have n5 := f35.new D _ n3 h3
      refine ⟨accV, h5, by rw [r2.length]; exact q5.1, R5, acc ++ [dy], accV ++ [y], ((f2.trans f3).trans f35).mut hD n5 nf (fun φ z => by rw [h5] at z; cases z), n5, upd_same, ((r2.mono f3.up).mono f35.up).snoc ry, q5.2⟩
    | false =>
      rw [if_neg Bool.false_ne_true] at q4
      refine iteF ⟨R4, acc, accV, (f2.trans f3).trans f34, f34.new D _ n3 h3, f34.kept h3 nf, (r2.mono f3.up).mono f34.up, q4⟩
  · have e : ds.drop i = [] := List.drop_eq_nil_of_le (by omega)
    rw [e] at q2
    have fz := f2.frz hD h2 n2 nf
    exact .inl ⟨io.stop i R2 Hh f2.up f2.bas (by omega), kQ _ _ ⟨_, .lst acc, f1.trans fz, ⟨D, accV, rfl, upd_same, r2.mono (up_upd n2)⟩, q2⟩⟩
theorem de_lc {ifs : List Expr} {scope : Scope} {own : List (Str × Nat)} {U : TL} {g : TGD} (hc : X.calm = true) (hN : X.N.Nodup) (hi : DI X W tg iter U) (ok : BlkOk X.N X.env.scope scope own)
    (hg : ∀ (s : Shared) (H : Hp) (C : Addr) (cl : List (Str × Addr)) (fp : List Addr), DG (X.blk s H scope (compEnvC scope cl C X.env) fp) (own.map (·.2)) tg g)
    (ht : ∀ (s : Shared) (H : Hp) (C : Addr) (cl : List (Str × Addr)) (fp : List Addr), PTs (X.blk s H scope (compEnvC scope cl C X.env) fp) ifs (tB3 X.K WF A))
    (he : ∀ (s : Shared) (H : Hp) (C : Addr) (cl : List (Str × Addr)) (fp : List Addr), DE (X.blk s H scope (compEnvC scope cl C X.env) fp) WF elt T)
    (hs : ∀ x, foldedSetIterable iter X.env x = pure x := by intro _; rfl) :
    DE X W (.ListComp elt [{ target := tg, iter := iter, ifs := ifs, is_async := 0 }] scope pos) (TLc U g A T (own.map (·.2))) :=
  de_mk (pe_lc hc hN hi ok hg ht he hs) fun S R H σ env φ lk ok q => lc_ask lk ok q fun _ _ p => p
theorem ds_setLc {i : Nat} {y : Str} {py spos : Pos} {ifs : List Expr} {scope : Scope} {own : List (Str × Nat)} {U : TL} {g : TGD} (hc : X.calm = true) (hN : X.N.Nodup) (hy : X.N[i]? = some y) (hyl : X.env.scope.names.lookup y = some .local)
    (hsw : swapsWith (.ListComp elt [⟨tg, iter, ifs, 0⟩] scope pos) (some (.Name y py)) spos.line X.env = pure true) (hi : DI X W tg iter U) (ok : BlkOk X.N X.env.scope scope own)
    (hg : ∀ (s : Shared) (H : Hp) (C : Addr) (cl : List (Str × Addr)) (fp : List Addr), DG (X.blk s H scope (compEnvC scope cl C X.env) fp) (own.map (·.2)) tg g)
    (ht : ∀ (s : Shared) (H : Hp) (C : Addr) (cl : List (Str × Addr)) (fp : List Addr), PTs (X.blk s H scope (compEnvC scope cl C X.env) fp) ifs (tB3 X.K WF A))
    (he : ∀ (s : Shared) (H : Hp) (C : Addr) (cl : List (Str × Addr)) (fp : List Addr), DE (X.blk s H scope (compEnvC scope cl C X.env) fp) WF elt T)
    (hs : ∀ x, foldedSetIterable iter X.env x = pure x := by intro _; rfl) :
    DS X W (.Assign [.Name y py] (.ListComp elt [⟨tg, iter, ifs, 0⟩] scope pos) spos) (TSet i (TLc U g A T (own.map (·.2)))) :=
  ds_mk (ps_setLc hc hN hy hyl hsw hi ok hg ht he hs) fun S R H σ env D3 lk ok q => lc_ask lk ok q fun v H' ⟨R', d, f, r, q'⟩ => ⟨R', _, (ok.through f).put r, q'⟩
/-! ### two walks -/
def CompD1 (g : TGD) (A : TB) (T : TD) (c : Ct) (env : Ev) : List L3.D → List L3.D → (List L3.D → Prop) → Prop
  | [], acc, φ => φ acc
  | d :: ds, acc, φ => g d env fun env' => A c env' fun k => if k = true then T c env' fun y => acc.length < sizeLine ∧ CompD1 g A T c env ds (acc ++ [y]) φ else CompD1 g A T c env ds acc φ
def CompD2 (g : TGD) (A : TB) (U1 : TL) (g1 : TGD) (A1 : TB) (T : TD) (vs1 : List Nat) (c : Ct) (env : Ev) : List L3.D → List L3.D → (List L3.D → Prop) → Prop
  | [], acc, φ => φ acc
  | d :: ds, acc, φ => g d env fun env' => A c env' fun k => if k = true then U1 c env' fun es => CompD1 g1 A1 T c (wipeD env' vs1) es acc fun out => CompD2 g A U1 g1 A1 T vs1 c env ds out φ else CompD2 g A U1 g1 A1 T vs1 c env ds acc φ
def TLc2 (U : TL) (g : TGD) (A : TB) (U1 : TL) (g1 : TGD) (A1 : TB) (T : TD) (vs vs1 : List Nat) : TD := fun c env φ => U c env fun ds => CompD2 g A U1 g1 A1 T vs1 c.in (wipeD env vs) ds [] fun out => φ (.lst out)
theorem lc2_ask {S : Sta} {R H : Hp} {σ : L2.St} {env : Ev} {U U1 : TL} {g g1 : TGD} {A1 : TB} {vs vs1 : List Nat} {φ : L3.D → Prop} (lk : Lk X.K S W) (ok : Ok3 X.K S R H σ env) {Q : VK} (q : TLc2 U g A U1 g1 A1 T vs vs1 S.c env φ) (kQ : ∀ v H', Pst X.K S.c R H φ v H' → Q v H') :
    tLc2 (tI3 X.K W U) (gD3 X.K vs g) (tB3 X.K WF A) (tI3 X.K WF U1) (gD3 X.K vs1 g1) (tB3 X.K WF A1) (tD X.K WF T) vs vs1 σ H Q := by
  refine ⟨S, R, env, _, lk, ok, q, fun J H1 R1 ds f1 io q1 D hD => ?_⟩
  have nf := not_foot f1.bas hD
  have nR := not_R f1.bas hD
  refine ⟨fun i m Hh => m = ds.length - i ∧ ∃ R2 acc accV, Fin S.c.wd R1 H1 R2 Hh ∧ R2 D = none ∧ Hh D = some (.lst accV) ∧ Reps X.K R2 acc accV ∧ CompD2 g A U1 g1 A1 T vs1 S.c.in (wipeD env vs) (ds.drop i) acc fun out => φ (.lst out),
    ⟨ds.length, by simp, R1, [], [], Fin.fresh f1.bas hD, nR, upd_same, rfl, by rw [List.drop_zero]; exact q1⟩, ?_⟩
  rintro i m Hh ⟨rfl, R2, acc, accV, f2, n2, h2, r2, q2⟩
  by_cases hi : i < ds.length
  · have hd := List.getElem?_eq_getElem hi
    refine .inr ⟨io.go i R2 Hh _ f2.up f2.bas hd, fun H' => ∃ R3 acc accV, Fin S.c.wd R1 H1 R3 H' ∧ R3 D = none ∧ H' D = some (.lst accV) ∧ Reps X.K R3 acc accV ∧ CompD2 g A U1 g1 A1 T vs1 S.c.in (wipeD env vs) (ds.drop (i + 1)) acc fun out => φ (.lst out),
      fun H' ⟨R3, ac, av, h1, h2, h3, h4, h5⟩ => ⟨ds.length - (i + 1), by omega, rfl, R3, ac, av, h1, h2, h3, h4, h5⟩, fun x H' y => ?_⟩
    obtain ⟨R3, f3, r3⟩ := io.yld i R2 Hh x H' _ f2.up f2.bas hd y
    have f03 := (f1.trans f2).trans f3
    have ok3 := ok.block f03 vs
    rw [List.drop_eq_getElem_cons hi] at q2
    have n3 := f3.new D _ n2 h2
    have h3 := f3.kept h2 nf
    refine ⟨⟨S.c.in, R3, H', R3⟩, R3, wipeD env vs, _, _, ok3, r3, q2, fun env' σ' hw ok' q' => ⟨hw.trans wipe_wipe, ?_⟩⟩
    refine tB3.ask lk_in ok' q' fun R4 H4 k f4 ok4 q4 => ?_
    have f34 := ok4.fin
    have n4 := f34.new D _ n3 h3
    have h4 := f34.kept h3 nf
    cases k with
    | true =>
      rw [if_pos rfl] at q4
      refine iteT ⟨_, R4, env', _, lk_in, ok4, q4, fun J1 H5 R5 es f5 io1 q5 => ?_⟩
      have f45 := f5
      refine ⟨fun j m Hh => m = es.length - j ∧ ∃ R6 acc accV, Fin S.c.wd R1 H1 R6 Hh ∧ Same R5 R6 ∧ R6 D = none ∧ Hh D = some (.lst accV) ∧ Reps X.K R6 acc accV ∧ CompD1 g1 A1 T S.c.in (wipeD env' vs1) (es.drop j) acc fun out => CompD2 g A U1 g1 A1 T vs1 S.c.in (wipeD env vs) (ds.drop (i + 1)) out fun out => φ (.lst out),
        ⟨es.length, by simp, R5, acc, accV, ((f2.trans f3).trans f34).trans f45, fun _ _ h => h, f45.new D _ n4 h4, f45.kept h4 nf, ((r2.mono f3.up).mono f34.up).mono f45.up, by rw [List.drop_zero]; exact q5⟩, ?_⟩
      rintro j m Hk ⟨rfl, R6, ac6, av6, g6, s6, n6, h6, r6, q6⟩
      by_cases hj : j < es.length
      · have hdj := List.getElem?_eq_getElem hj
        refine .inr ⟨io1.go j R6 Hk _ s6 g6.bas hdj, fun H' => ∃ R7 acc accV, Fin S.c.wd R1 H1 R7 H' ∧ Same R5 R7 ∧ R7 D = none ∧ H' D = some (.lst accV) ∧ Reps X.K R7 acc accV ∧ CompD1 g1 A1 T S.c.in (wipeD env' vs1) (es.drop (j + 1)) acc fun out => CompD2 g A U1 g1 A1 T vs1 S.c.in (wipeD env vs) (ds.drop (i + 1)) out fun out => φ (.lst out),
          fun H' ⟨R7, ac, av, z1, z2, z3, z4, z5, z6⟩ => ⟨es.length - (j + 1), by omega, rfl, R7, ac, av, z1, z2, z3, z4, z5, z6⟩, fun x H' y => ?_⟩
        obtain ⟨R7, f7, r7⟩ := io1.yld j R6 Hk x H' _ s6 g6.bas hdj y
        have ok7 : Ok3 X.K ⟨S.c.in, R7, H', R7⟩ R7 H' (wipe σ' vs1) (wipeD env' vs1) :=
          ⟨Fin.refl f7.bas, fun _ _ h => h, wipe_ok ((f45.up.trans s6).trans f7.up) ok4.sl vs1, fun i p h => (by rw [wipeD_ad] at h; cases h), fun i j p h _ => (by rw [wipeD_ad] at h; cases h)⟩
        rw [List.drop_eq_getElem_cons hj] at q6
        have n7 := f7.new D _ n6 h6
        have h7 := f7.kept h6 nf
        refine ⟨⟨S.c.in, R7, H', R7⟩, R7, wipeD env' vs1, _, _, ok7, r7, q6, fun env2 σ2 hw2 ok2 q7 => ⟨hw2.trans wipe_wipe, ?_⟩⟩
        refine tB3.ask lk_in ok2 q7 fun R8 H8 k8 f8 ok8 q8 => ?_
        have f78 := ok8.fin
        cases k8 with
        | true =>
          rw [if_pos rfl] at q8
          refine iteT (tD.ask lk_in ok8 q8 fun R9 H9 dy y f9 ok9 ry q9 => ?_)
          have f79 := ok9.fin
          have h9 := f79.kept h7 nf
          have n9 := f79.new D _ n7 h7
          exact ⟨av6, h9, by rw [r6.length]; exact q9.1, R9, ac6 ++ [dy], av6 ++ [y], ((g6.trans f7).trans f79).mut hD n9 nf (fun φ z => by rw [h9] at z; cases z), (s6.trans f7.up).trans f79.up, n9, upd_same, ((r6.mono f7.up).mono f79.up).snoc ry, q9.2⟩
        | false =>
          rw [if_neg Bool.false_ne_true] at q8
          exact iteF ⟨R8, ac6, av6, (g6.trans f7).trans f78, (s6.trans f7.up).trans f78.up, f78.new D _ n7 h7, f78.kept h7 nf, (r6.mono f7.up).mono f78.up, q8⟩
      · have e : es.drop j = [] := List.drop_eq_nil_of_le (by omega)
        rw [e] at q6
        exact .inl ⟨io1.stop j R6 Hk s6 g6.bas (by omega), R6, ac6, av6, g6, n6, h6, r6, q6⟩
    | false =>
      rw [if_neg Bool.false_ne_true] at q4
      exact iteF ⟨R4, acc, accV, (f2.trans f3).trans f34, n4, h4, (r2.mono f3.up).mono f34.up, q4⟩
  · have e : ds.drop i = [] := List.drop_eq_nil_of_le (by omega)
    rw [e] at q2
    have fz := f2.frz hD h2 n2 nf
    exact .inl ⟨io.stop i R2 Hh f2.up f2.bas (by omega), kQ _ _ ⟨_, .lst acc, f1.trans fz, ⟨D, accV, rfl, upd_same, r2.mono (up_upd n2)⟩, q2⟩⟩
theorem de_lc2 {tg1 iter1 : Expr} {ifs ifs1 : List Expr} {scope : Scope} {own : List (Str × Nat)} {vs1 : List Nat} {U U1 : TL} {g g1 : TGD} {A1 : TB} (hc : X.calm = true) (hN : X.N.Nodup) (hi : DI X W tg iter U) (ok : BlkOk X.N X.env.scope scope own) (hv : ∀ i ∈ vs1, i ∈ own.map (·.2))
    (hg : ∀ (s : Shared) (H : Hp) (C : Addr) (cl : List (Str × Addr)) (fp : List Addr), DG (X.blk s H scope (compEnvC scope cl C X.env) fp) (own.map (·.2)) tg g)
    (ht : ∀ (s : Shared) (H : Hp) (C : Addr) (cl : List (Str × Addr)) (fp : List Addr), PTs (X.blk s H scope (compEnvC scope cl C X.env) fp) ifs (tB3 X.K WF A))
    (hi1 : ∀ (s : Shared) (H : Hp) (C : Addr) (cl : List (Str × Addr)) (fp : List Addr), DI (X.blk s H scope (compEnvC scope cl C X.env) fp) WF tg1 iter1 U1)
    (hg1 : ∀ (s : Shared) (H : Hp) (C : Addr) (cl : List (Str × Addr)) (fp : List Addr), DG (X.blk s H scope (compEnvC scope cl C X.env) fp) vs1 tg1 g1)
    (ht1 : ∀ (s : Shared) (H : Hp) (C : Addr) (cl : List (Str × Addr)) (fp : List Addr), PTs (X.blk s H scope (compEnvC scope cl C X.env) fp) ifs1 (tB3 X.K WF A1))
    (he : ∀ (s : Shared) (H : Hp) (C : Addr) (cl : List (Str × Addr)) (fp : List Addr), DE (X.blk s H scope (compEnvC scope cl C X.env) fp) WF elt T)
    (hs : ∀ x, foldedSetIterable iter X.env x = pure x := by intro _; rfl) (hs1 : ∀ env x, foldedSetIterable iter1 env x = pure x := by intro _ _; rfl) :
    DE X W (.ListComp elt [⟨tg, iter, ifs, 0⟩, ⟨tg1, iter1, ifs1, 0⟩] scope pos) (TLc2 U g A U1 g1 A1 T (own.map (·.2)) vs1) :=
  de_mk (pe_lc2 hc hN hi ok hv hg ht hi1 hg1 ht1 he hs hs1) fun S R H σ env φ lk ok q => lc2_ask lk ok q fun _ _ p => p
theorem ds_setLc2 {i : Nat} {y : Str} {py spos : Pos} {tg1 iter1 : Expr} {ifs ifs1 : List Expr} {scope : Scope} {own : List (Str × Nat)} {vs1 : List Nat} {U U1 : TL} {g g1 : TGD} {A1 : TB} (hc : X.calm = true) (hN : X.N.Nodup) (hy : X.N[i]? = some y) (hyl : X.env.scope.names.lookup y = some .local)
    (hsw : swapsWith (.ListComp elt [⟨tg, iter, ifs, 0⟩, ⟨tg1, iter1, ifs1, 0⟩] scope pos) (some (.Name y py)) spos.line X.env = pure true) (hi : DI X W tg iter U) (ok : BlkOk X.N X.env.scope scope own) (hv : ∀ i ∈ vs1, i ∈ own.map (·.2))
    (hg : ∀ (s : Shared) (H : Hp) (C : Addr) (cl : List (Str × Addr)) (fp : List Addr), DG (X.blk s H scope (compEnvC scope cl C X.env) fp) (own.map (·.2)) tg g)
    (ht : ∀ (s : Shared) (H : Hp) (C : Addr) (cl : List (Str × Addr)) (fp : List Addr), PTs (X.blk s H scope (compEnvC scope cl C X.env) fp) ifs (tB3 X.K WF A))
    (hi1 : ∀ (s : Shared) (H : Hp) (C : Addr) (cl : List (Str × Addr)) (fp : List Addr), DI (X.blk s H scope (compEnvC scope cl C X.env) fp) WF tg1 iter1 U1)
    (hg1 : ∀ (s : Shared) (H : Hp) (C : Addr) (cl : List (Str × Addr)) (fp : List Addr), DG (X.blk s H scope (compEnvC scope cl C X.env) fp) vs1 tg1 g1)
    (ht1 : ∀ (s : Shared) (H : Hp) (C : Addr) (cl : List (Str × Addr)) (fp : List Addr), PTs (X.blk s H scope (compEnvC scope cl C X.env) fp) ifs1 (tB3 X.K WF A1))
    (he : ∀ (s : Shared) (H : Hp) (C : Addr) (cl : List (Str × Addr)) (fp : List Addr), DE (X.blk s H scope (compEnvC scope cl C X.env) fp) WF elt T)
    (hs : ∀ x, foldedSetIterable iter X.env x = pure x := by intro _; rfl) (hs1 : ∀ env x, foldedSetIterable iter1 env x = pure x := by intro _ _; rfl) :
    DS X W (.Assign [.Name y py] (.ListComp elt [⟨tg, iter, ifs, 0⟩, ⟨tg1, iter1, ifs1, 0⟩] scope pos) spos) (TSet i (TLc2 U g A U1 g1 A1 T (own.map (·.2)) vs1)) :=
  ds_mk (ps_setLc2 hc hN hy hyl hsw hi ok hv hg ht hi1 hg1 ht1 he hs hs1) fun S R H σ env D3 lk ok q => lc2_ask lk ok q fun v H' ⟨R', d, f, r, q'⟩ => ⟨R', _, (ok.through f).put r, q'⟩
end
end L3
namespace L3
open PySem PySem.Spec PyProof.Rows L2
theorem cxUpN {P : Program} {w : World} : StX.CXUp (L2.CX P w) := by
  rintro outer s H s2 H2 E e s' un kp ho ⟨a, B, H', cls, d, ea, fl, hok, ub, na, os, ag, he⟩
  refine ⟨a, B, H', cls, d, ea, fl, hok, ⟨fun b o q n hb => ub.keep b o (kp b o q) (un.free b o q n (by simp)) hb, fun b o q hb => ub.slot b o (kp b o q) hb, fun b o q n => ub.free b o (kp b o q) (un.free b o q n (by simp)),
    fun b o q hb => ub.there b o (kp b o q) hb, fun b xs q => ub.tups b xs (un.tups b xs q), fun b o xs q => ub.frzs b o xs (un.frzs b o xs q), fun b ps q => ?_⟩, na, os.trans ho, ag, he⟩
  obtain ⟨m1, e1⟩ := un.tbls b ps q
  obtain ⟨m2, e2⟩ := ub.tbls b _ e1
  exact ⟨m1 ++ m2, by rw [e2, Array.append_assoc]⟩
/-! ### what a def promises, by what is held -/
abbrev TF := Wd → List D → (D → Prop) → (Er → Prop) → Prop
def spW (K : PySem.W.Frag) (F : TF) : Sp := fun vs H Q E => ∃ (wd : Wd) (R : Hp) (ds : List D) (φ : D → Prop) (ε : Er → Prop), Bas wd R H ∧ Reps K R ds vs ∧ F wd ds φ ε ∧
  (∀ v R' H' d, Fin wd R H R' H' → Rep K R' d v → φ d → Q v H') ∧ ∀ cls od R' H' ex, Fin wd R H R' H' → XRep K R' ex cls od → ε ex → E cls od H'
/-- a def that keeps it, called by values -/
abbrev Fn3 (P : Program) (w : World) (K : PySem.W.Frag) (mg : Str → Option Value) (base : Heap) (k : Nat) (f : Addr) (F : TF) : Prop := FnR P w K mg base (L2.CX P w) k f (spW K F)
theorem Fn3.mono {P : Program} {w : World} {K : PySem.W.Frag} {mg : Str → Option Value} {base : Heap} {j k : Nat} {f : Addr} {F : TF} (h : Fn3 P w K mg base j f F) (q : j ≤ k) : Fn3 P w K mg base k f F := FnR.mono h q
theorem Fn3.imp {P : Program} {w : World} {K : PySem.W.Frag} {mg : Str → Option Value} {base : Heap} {k : Nat} {f : Addr} {F G : TF} (h : Fn3 P w K mg base k f F) (q : ∀ wd ds φ ε, G wd ds φ ε → F wd ds φ ε) : Fn3 P w K mg base k f G :=
  FnR.imp h fun vs H Q E ⟨wd, R, ds, φ, ε, b, r, g, z⟩ => ⟨wd, R, ds, φ, ε, b, r, q _ _ _ _ g, z⟩
section
variable {X : Cx} {W : WX} {pos : Pos} {e : Expr} {es : List Expr} {U : TL} {F : TF} {k : Nat} {f : Addr} {x : Str} {p0 : Pos}
/-- a callee, at the names as they stand -/
theorem call_at {sp : Sp} {pins : List (Addr × Obj)} {σ : L2.St} {H : Hp} {s : Shared} {Q : VK} {us : List Value} {vs : List V} (F : FnR X.prog X.w X.K X.mg X.base (L2.CX X.prog X.w) k f sp) (hr : Room k X.A) (tk : L2.Takes X W)
    (I : Inv X pins σ H s) (r : Vals vs us) (h : sp vs H Q (WE W σ)) : wpAny (model X.prog X.w) X.A (call (.ref f) us) (EP X pins σ Q) X.xe s :=
  wpAny_call (codeAny_mono (F X.A X.stack s H us vs Q _ hr I.env0 r h) fun res s' hres => match res, hres with
    | .error er, hres => L2.passAt tk σ pins H s er s' I hres
    | .ok (.ret u), hres => I.after hres)
/-- a new instance by its __init__, at the names as they stand -/
theorem make_at {sp : Sp} {C : Addr} {pins : List (Addr × Obj)} {σ : L2.St} {H : Hp} {s : Shared} {Q : VK} {us : List Value} {vs : List V} (M : Mk X.K C f) (F : FnR X.prog X.w X.K X.mg X.base (L2.CX X.prog X.w) k f sp) (hr : Room (k + 1) X.A) (tk : L2.Takes X W)
    (I : Inv X pins σ H s) (r : Vals vs us) (h : ∀ a dx, H a = none → H dx = none → dx ≠ a → sp (.ref a :: vs) (upd (upd H dx (.own a)) a (.ins C dx [])) (fun v H2 => v = .non ∧ Q (.ref a) H2) fun cls od H2 => WE W σ cls od H2) :
    wpAny (model X.prog X.w) X.A (call (.ref C) us) (EP X pins σ Q) X.xe s := by
  have J := Inv.made (C := C) I
  refine wpAny_call (make_map (f := f) I.kIn M.makes M.init (beq_iff_eq.mp M.fn) (codeAny_mono (F _ X.stack _ _ (.ref (s.heap.objs.size + 1) :: us) (.ref (s.heap.objs.size + 1) :: vs) _ _ (hr.make C us []) (J.env0.make C us []) (.cons rfl r)
    (h (s.heap.objs.size + 1) s.heap.objs.size (I.hok.fresh (Nat.le_succ _)) (I.hok.fresh (Nat.le_refl _)) (Nat.ne_of_lt (Nat.lt_succ_self _)))) fun res s' hres => ?_))
  match res, hres with
  | .error er, hres => exact L2.passAt tk σ pins _ _ er s' J hres
  | .ok (.ret u), hres =>
    obtain ⟨v, H', J2, rv, ev, q⟩ := J.after hres
    subst ev
    exact ⟨rv, V.ref (s.heap.objs.size + 1), H', J2, rfl, q⟩
/-- the call of a def, by what is held -/
def TCall (F : TF) (U : TL) : TD := fun c env φ => U c env fun ds => F c.wd ds φ fun ex => c.er ex env
theorem spW_ask {S : Sta} {R H : Hp} {σ : L2.St} {env : Ev} {φ : D → Prop} {Q : VK} {vs : List V} {ds : List D} (lk : Lk X.K S W) (ok : Ok3 X.K S R H σ env) (r : Reps X.K R ds vs) (h : F S.c.wd ds φ fun ex => S.c.er ex env)
    (kQ : ∀ v H', Pst X.K S.c R H φ v H' → Q v H') : spW X.K F vs H Q (WE W σ) :=
  ⟨S.c.wd, R, ds, φ, _, ok.bas, r, h, fun v R' H' d f rv q => kQ v H' ⟨R', d, f, rv, q⟩, fun cls od R' H' ex f xr q => lk R' H' σ env cls od ex (ok.through f) xr q⟩
theorem tcall_ask {S : Sta} {R H : Hp} {σ : L2.St} {env : Ev} {φ : D → Prop} (lk : Lk X.K S W) (ok : Ok3 X.K S R H σ env) (h : TCall F U S.c env φ) : tL3 X.K W U σ H fun vs H1 => spW X.K F vs H1 (Pst X.K S.c R H φ) (WE W σ) :=
  tL3.ask lk ok h fun R1 H1 ds vs f1 ok1 r1 q1 => spW_ask lk ok1 r1 q1 fun v H' p => Pst.from f1 p
theorem de_call (G : Fn3 X.prog X.w X.K X.mg X.base k f F) (hr : Room k X.A) (hG : Gl X x) (hM : X.mg x = some (.ref f)) (hK : PySem.W.keepIn X.K (.ref f) = true) (tk : L2.Takes X W) (ha : DA X W (e :: es) U)
    (hD : (x == ("__debug__" : Str)) = false := by decide) (hS : starEach (e :: es) X.env = (false, eval e X.env) :: starEach es X.env := by rfl) (hP : (backTo pos (starEach es X.env)).any (·.1) = false := by rfl) : DE X W (.Call (.Name x p0) (e :: es) [] pos) (TCall F U) :=
  de_mk (t := fun σ H Q => tL3 X.K W U σ H fun vs H1 => spW X.K F vs H1 Q (WE W σ)) ⟨fun pins s σ H Q I h => wpAny_Call_Name_kw (ld_glob I hG hM (PySem.W.callWith_K (h₀ := X.base) I.ok.mod.kin hK (thn (ha.run pos pins s σ H _ I h)
    fun us s1 ⟨vs, H1, I1, r, q⟩ => ⟨I1.kIn, call_at G hr tk I1 r q⟩) hS hP) hD)⟩ fun S R H σ env φ lk ok h => tcall_ask lk ok h
theorem de_call0 (G : Fn3 X.prog X.w X.K X.mg X.base k f F) (hr : Room k X.A) (hG : Gl X x) (hM : X.mg x = some (.ref f)) (hK : PySem.W.keepIn X.K (.ref f) = true) (tk : L2.Takes X W)
    (hD : (x == ("__debug__" : Str)) = false := by decide) : DE X W (.Call (.Name x p0) [] [] pos) (TCall F TNil) :=
  de_mk (t := fun σ H Q => spW X.K F [] H Q (WE W σ)) ⟨fun pins s σ H Q I h => wpAny_Call_Name_kw (ld_glob I hG hM (PySem.W.callWith_K0 I.kIn hK (call_at (us := []) G hr tk I .nil h)) hD)⟩ fun S R H σ env φ lk ok h => spW_ask lk ok (show Reps X.K R [] [] from rfl) h fun _ _ p => p
/-- f(a, .., *xs) -/
theorem de_callS (G : Fn3 X.prog X.w X.K X.mg X.base k f F) (hr : Room k X.A) (hG : Gl X x) (hM : X.mg x = some (.ref f)) (hK : PySem.W.keepIn X.K (.ref f) = true) (tk : L2.Takes X W) (ha : DA X W (e :: es) U)
    (hD : (x == ("__debug__" : Str)) = false := by decide) (hS : starEach (e :: es) X.env = (false, eval e X.env) :: starEach es X.env := by rfl) (hP : (backTo pos (starEach es X.env)).any (·.1) = true := by rfl) : DE X W (.Call (.Name x p0) (e :: es) [] pos) (TCall F U) :=
  de_mk (t := fun σ H Q => tL3 X.K W U σ H fun vs H1 => spW X.K F vs H1 Q (WE W σ)) ⟨fun pins s σ H Q I h => wpAny_Call_Name_kw (ld_glob I hG hM (PySem.W.callWith_S2 (h₀ := X.base) I.ok.mod.kin hK (thn (ha.run pos pins s σ H _ I h)
    fun us s1 ⟨vs, H1, I1, r, q⟩ => ⟨I1.kIn, call_at G hr tk I1 r q⟩) hS hP) hD)⟩ fun S R H σ env φ lk ok h => tcall_ask lk ok h
/-- *xs among the arguments -/
def TStar (T : TD) (U : TL) : TL := fun c env φ => T c env fun x => ∃ xs, (x = .tup xs ∨ x = .lst xs) ∧ U c env fun ys => φ (xs ++ ys)
theorem da_star {T : TD} {p : Pos} (he : DE X W e T) (hr : DA X W es U) (hs : starEach (.Starred e p :: es) X.env = (true, eval e X.env) :: starEach es X.env := by rfl) : DA X W (.Starred e p :: es) (TStar T U) :=
  da_mk (StX.pa_star he hr hs) fun S R H σ env φ lk ok h => tD.ask lk ok h fun R1 H1 d v f1 ok1 r1 ⟨xs, ed, q1⟩ => by
    rcases ed with ed | ed
    · subst ed
      obtain ⟨p, vs, e1, hh, hr1⟩ := rep_tup r1
      subst e1
      exact ⟨p, vs, rfl, .inl (SqT.of (ok1.bas.sub _ _ hh)), tL3.ask lk ok1 q1 fun R2 H2 ds us f2 ok2 r2 q2 => ⟨R2, xs ++ ds, f1.trans f2, (hr1.mono f2.up).append r2, q2⟩⟩
    · subst ed
      obtain ⟨p, vs, e1, hh, hr1⟩ := rep_lst r1
      subst e1
      exact ⟨p, vs, rfl, .inr (SqL.of (ok1.bas.sub _ _ hh)), tL3.ask lk ok1 q1 fun R2 H2 ds us f2 ok2 r2 q2 => ⟨R2, xs ++ ds, f1.trans f2, (hr1.mono f2.up).append r2, q2⟩⟩
end

/-! ### the promise of an __init__ -/
abbrev TFI := Wd → List D → (List (Str × D) → Prop) → (Er → Prop) → Prop
def spI (K : PySem.W.Frag) (C : Addr) (F : TFI) : Sp := fun vs H Q E => ∃ (a dx : Addr) (ws : List V) (wd : Wd) (R H1 : Hp) (ds : List D) (φ : List (Str × D) → Prop) (ε : Er → Prop), vs = .ref a :: ws ∧ H1 a = none ∧ H1 dx = none ∧ dx ≠ a ∧
  H = upd (upd H1 dx (.own a)) a (.ins C dx []) ∧ Bas wd R H1 ∧ Reps K R ds ws ∧ F wd ds φ ε ∧
  (∀ R' H' fs fvs dx', Fin wd R H1 R' H' → R' a = none → H' a = some (.ins C dx' fvs) → RepF K R' fs fvs → φ fs → Q .non H') ∧ ∀ cls od R' H' ex, Fin wd R H1 R' H' → XRep K R' ex cls od → ε ex → E cls od H'
abbrev FnI (P : Program) (w : World) (K : PySem.W.Frag) (mg : Str → Option Value) (base : Heap) (k : Nat) (C f : Addr) (F : TFI) : Prop := FnR P w K mg base (L2.CX P w) k f (spI K C F)
section
variable {X : Cx} {W : WX} {pos : Pos} {e : Expr} {es : List Expr} {U : TL} {F : TFI} {k : Nat} {f C : Addr} {x : Str} {p0 : Pos}
def TMake (C : Addr) (F : TFI) (U : TL) : TD := fun c env φ => U c env fun ds => F c.wd ds (fun fs => φ (.ins C fs)) fun ex => c.er ex env
theorem spI_ask {S : Sta} {R H : Hp} {σ : L2.St} {env : Ev} {φ : D → Prop} {vs : List V} {ds : List D} {R0 H0 : Hp} (f0 : Fin S.c.wd R0 H0 R H) (lk : Lk X.K S W) (ok : Ok3 X.K S R H σ env) (r : Reps X.K R ds vs) (h : F S.c.wd ds (fun fs => φ (.ins C fs)) fun ex => S.c.er ex env) {a dx : Addr} (ha : H a = none) (hd : H dx = none) (hne : dx ≠ a) :
    spI X.K C F (.ref a :: vs) (upd (upd H dx (.own a)) a (.ins C dx [])) (fun v H2 => v = .non ∧ Pst X.K S.c R0 H0 φ (.ref a) H2) fun cls od H2 => WE W σ cls od H2 :=
  ⟨a, dx, vs, S.c.wd, R, H, ds, _, _, rfl, ha, hd, hne, rfl, ok.bas, r, h, fun R' H' fs fvs dx' f hR hH rf q => ⟨rfl, _, .ins C fs, f0.trans (f.frz ha hH hR (not_foot ok.bas ha)), ⟨a, dx', fvs, rfl, upd_same, rf.mono (up_upd hR)⟩, q⟩,
    fun cls od R' H' ex f xr q => lk R' H' σ env cls od ex (ok.through f) xr q⟩
theorem tmake_ask {S : Sta} {R H : Hp} {σ : L2.St} {env : Ev} {φ : D → Prop} (lk : Lk X.K S W) (ok : Ok3 X.K S R H σ env) (h : TMake C F U S.c env φ) :
    tL3 X.K W U σ H fun vs H1 => ∀ a dx, H1 a = none → H1 dx = none → dx ≠ a → spI X.K C F (.ref a :: vs) (upd (upd H1 dx (.own a)) a (.ins C dx [])) (fun v H2 => v = .non ∧ Pst X.K S.c R H φ (.ref a) H2) fun cls od H2 => WE W σ cls od H2 :=
  tL3.ask lk ok h fun R1 H1 ds vs f1 ok1 r1 q1 a dx ha hd hne => spI_ask f1 lk ok1 r1 q1 ha hd hne
abbrev tMk3 (K : PySem.W.Frag) (W : WX) (C : Addr) (F : TFI) (U : TL) : TE := fun σ H Q => tL3 K W U σ H fun vs H1 => ∀ a dx, H1 a = none → H1 dx = none → dx ≠ a → spI K C F (.ref a :: vs) (upd (upd H1 dx (.own a)) a (.ins C dx [])) (fun v H2 => v = .non ∧ Q (.ref a) H2) fun cls od H2 => WE W σ cls od H2
theorem de_make (M : Mk X.K C f) (G : FnI X.prog X.w X.K X.mg X.base k C f F) (hr : Room (k + 1) X.A) (hG : Gl X x) (hM : X.mg x = some (.ref C)) (tk : L2.Takes X W) (ha : DA X W (e :: es) U)
    (hD : (x == ("__debug__" : Str)) = false := by decide) (hS : starEach (e :: es) X.env = (false, eval e X.env) :: starEach es X.env := by rfl) (hP : (backTo pos (starEach es X.env)).any (·.1) = false := by rfl) : DE X W (.Call (.Name x p0) (e :: es) [] pos) (TMake C F U) :=
  de_mk (t := tMk3 X.K W C F U) ⟨fun pins s σ H Q I h => wpAny_Call_Name_kw (ld_glob I hG hM (PySem.W.callWith_K (h₀ := X.base) I.ok.mod.kin M.kp (thn (ha.run pos pins s σ H _ I h)
    fun us s1 ⟨vs, H1, I1, r, q⟩ => ⟨I1.kIn, make_at M G hr tk I1 r q⟩) hS hP) hD)⟩ fun S R H σ env φ lk ok h => tmake_ask lk ok h
theorem de_makeS (M : Mk X.K C f) (G : FnI X.prog X.w X.K X.mg X.base k C f F) (hr : Room (k + 1) X.A) (hG : Gl X x) (hM : X.mg x = some (.ref C)) (tk : L2.Takes X W) (ha : DA X W (e :: es) U)
    (hD : (x == ("__debug__" : Str)) = false := by decide) (hS : starEach (e :: es) X.env = (false, eval e X.env) :: starEach es X.env := by rfl) (hP : (backTo pos (starEach es X.env)).any (·.1) = true := by rfl) : DE X W (.Call (.Name x p0) (e :: es) [] pos) (TMake C F U) :=
  de_mk (t := tMk3 X.K W C F U) ⟨fun pins s σ H Q I h => wpAny_Call_Name_kw (ld_glob I hG hM (PySem.W.callWith_S2 (h₀ := X.base) I.ok.mod.kin M.kp (thn (ha.run pos pins s σ H _ I h)
    fun us s1 ⟨vs, H1, I1, r, q⟩ => ⟨I1.kIn, make_at M G hr tk I1 r q⟩) hS hP) hD)⟩ fun S R H σ env φ lk ok h => tmake_ask lk ok h
end
end L3
/-! != where a class has its own __eq__ and object's __ne__ -/
namespace L3
open PySem PySem.W PySem.Calls PyProof.Rows
section
variable {prog : Program} {w : World} {A : Around} {E : Value → Shared → Prop} {s : Shared} {K : Frag} {x C L f : Addr} {h₀ : Heap} {m : Str → Option Value} {ox : Obj} {od : Option Obj} {b tb : Value}
theorem objne_run (hu : A.units < cLine) (X : K.In s.heap) (I : InstAt s.heap x ox C od) (hs : findIn K (.ref C) "__eq__" = some (some (.ref f))) (hf : isFn K (.ref f) = true) {Q : PySem.Fin → Shared → Prop}
    (h : wpAny (model prog w) A (call (.ref f) [.ref x, b]) (fun v s' => ∃ k, v = .bool k ∧ Q (.done (.ret (.bool (!k)))) s') E s) : wpAny (model prog w) A (Builtin.«object.__ne__» ⟨[.ref x, b], []⟩) Q E s := by
  unfold Builtin.«object.__ne__»
  repeat (first
    | with_reducible refine wpAny_cRoomFor hu ?_
    | (refine wpAny_bind (m := callSpecialIfBound? (.ref x) (Str.ofString "__eq__") [b]) (ifBound_K X I hs hf (wpAny_mono h (fun r s' hr => by
          obtain ⟨k, rfl, hq⟩ := hr
          repeat (first | exact hq | exact wpAny_pure hq | exact wpAny_truthy_bool hq | (refine wpAny_bind (m := truthy (.bool _)) (wpAny_truthy_bool ?_)) | wp_step)) fun _ _ e => e)))
    | wp_step)
theorem ne_here {op : CmpOp} (hop : op = .NotEq) {Q : Value → Shared → Prop} (hu : A.units + 1 < cLine) (X : K.In s.heap) (I : InstAt s.heap x ox C od) (hb : Looks (model prog w) s.heap (typeOf b) tb) (hn : notFirst K C tb = true)
    (hN : findIn K (.ref C) "__ne__" = some (some (.builtin "object.__ne__"))) (hob : mroIn K C (.type "object") = some true) (hs : findIn K (.ref C) "__eq__" = some (some (.ref f))) (hf : isFn K (.ref f) = true)
    (h : wpAny (model prog w) A.in1 (call (.ref f) [.ref x, b]) (fun v s' => ∃ k, v = .bool k ∧ Q (.bool (!k)) s') E s) : wpAny (model prog w) A (richCompare op (.ref x) b) Q E s := by
  subst hop
  have called : wpAny (model prog w) A (call (.builtin "object.__ne__") [.ref x, b]) (fun v s' => ∃ k, v = .bool k ∧ Q (.bool k) s') E s := by
    refine wpAny_call (codeAny_call_builtin PySem.F.cmp_object.ne.plain PySem.F.cmpEntry_ne (check_slot (owner := "object") (n := "__ne__") PySem.F.cmpKind_ne PySem.F.cmpSplit_ne (I.type.andThen (looks_mroIn X hob)) (PySem.F.cmpArgs_ne _ _) ?_))
    refine objne_run (A := A.in1) hu X I hs hf (wpAny_mono h (fun v s' hv => ?_) fun _ _ e => e)
    obtain ⟨k, rfl, q⟩ := hv
    exact ⟨k, rfl, _, rfl, q⟩
  have one : wpAny (model prog w) A (tryCompare (.ref x) "__ne__" b) (fun r s' => ∃ v, r = some v ∧ Q v s') E s := by
    unfold tryCompare
    simp only [callSpecialIfBound?, bindSpecialIfBound?]
    refine wpAny_bind (wpAny_holding (wpAny_bind (wpAny_bind (wpAny_bind (I.type.here ((looks_findIn X hN).here ?_))))))
    refine wpAny_bind (wpAny_askSetting (wpAny_ite ?_))
    have fin : wpAny (model prog w) A (call (.builtin "object.__ne__") ([.ref x] ++ [b]) >>= fun v => pure (some v)) (fun a s => wpAny (model prog w) A (match a with
        | some Value.notImplemented => pure none
        | none => pure none
        | some v => pure (some v)) (fun r s' => ∃ v, r = some v ∧ Q v s') E s) E s := wpAny_bind (wpAny_mono called (fun v s' hv => by
      obtain ⟨k, rfl, q⟩ := hv
      exact wpAny_pure (wpAny_pure ⟨_, rfl, q⟩)) fun _ _ e => e)
    have bnd := PySem.F.cmp_object.ne.bind (.ref x)
    split
    · exact wpAny_bind (wpAny_of_eq bnd (wpAny_pure (by exact fin)))
    · exact wpAny_tryCatch (wpAny_bind (wpAny_of_eq bnd (wpAny_pure (by exact fin))))
  unfold richCompare
  simp only [oneThing_ref]
  refine wpAny_holding (wpAny_bind (wpAny_cRoomFor (Nat.lt_of_succ_lt hu) ?_))
  refine wpAny_bind (I.type.here (wpAny_bind (hb.here ?_)))
  split
  · rename_i q
    have e : subIn K tb (.ref C) = some false := by
      rcases Bool.or_eq_true_iff.mp hn with e | e
      · rw [beq_iff_eq.mp e] at q
        simp at q
      · exact beq_iff_eq.mp e
    refine wpAny_bind ((looks_subIn X e).here ?_)
    simp only [Bool.false_eq_true, if_false]
    refine wpAny_bind (wpAny_mono one (fun r s' z => ?_) fun _ _ e => e)
    obtain ⟨v, rfl, hq⟩ := z
    exact wpAny_pure hq
  · refine wpAny_bind (wpAny_pure ?_)
    simp only [Bool.false_eq_true, if_false]
    refine wpAny_bind (wpAny_mono one (fun r s' z => ?_) fun _ _ e => e)
    obtain ⟨v, rfl, hq⟩ := z
    exact wpAny_pure hq
end
end L3
namespace L3
open PySem PySem.Spec PyProof.Rows L2
section
variable {X : Cx} {W : WX} {pos apos : Pos} {o e : Expr} {es : List Expr} {Ta : TD} {U : TL} {F : TF} {k : Nat} {f C : Addr} {m : Str}
/-! ### methods -/
def TMeth (C : Addr) (m : Str) (F : TF) (Ta : TD) (U : TL) : TD := fun c env φ => Ta c env fun x => ∃ fs, x = .ins C fs ∧ fs.lookup m = none ∧ U c env fun ds => F c.wd (x :: ds) φ fun ex => c.er ex env
theorem de_meth {pl : Sem Bool} (he : DE X W o Ta) (hc : Cls X.K C) (hm : Meth X.K C m f) (G : Fn3 X.prog X.w X.K X.mg X.base k f F) (hr : Room k X.A) (tk : L2.Takes X W) (ha : DA X W (e :: es) U)
    (hS : starEach (e :: es) X.env = (false, eval e X.env) :: starEach es X.env := by rfl) (hP : (backTo pos (starEach es X.env)).any (·.1) = false := by rfl)
    (ht : eval (.Call (.Attribute o m apos) (e :: es) [] pos) X.env = (do let ov ← eval o X.env; standAt apos.atName; let (g, first) ← holding [ov] (getMethod ov m pl); callWith pos g first (backTo pos (starEach (e :: es) X.env)) (backToKw pos (keywordEach [] X.env))) := by rfl) :
    DE X W (.Call (.Attribute o m apos) (e :: es) [] pos) (TMeth C m F Ta U) :=
  de_mk (t := fun σ H Q => tD X.K W Ta σ H fun x H1 => ∃ a dx fs, x = .ref a ∧ H1 a = some (.ins C dx fs) ∧ fs.lookup m = none ∧ tL3 X.K W U σ H1 fun vs H2 => spW X.K F (x :: vs) H2 Q (WE W σ))
    ⟨fun pins s σ H Q I h => PySem.W.methodCall_KW (pl := pl) (thn (he.run pins s σ H _ I h) fun u s1 ⟨x, H1, I1, rx, a, dx, fs, ex, ea, l, q⟩ => by
      subst ex
      obtain rfl : u = Value.ref a := rx
      exact getmeth_ok I1 ea hc hm l (PySem.W.callWith_K (first := [.ref a]) (h₀ := X.base) I.ok.mod.kin hm.kp (thn (ha.run pos pins s1 σ H1 _ I1 q) fun us s2 ⟨vs, H2, I2, r, q2⟩ => ⟨I2.kIn, call_at (us := .ref a :: us) (vs := .ref a :: vs) G hr tk I2 (.cons rfl r) q2⟩) hS hP)) ht⟩
    fun S R H σ env φ lk ok h => tD.ask lk ok h fun R1 H1 d v f1 ok1 r1 ⟨fs, ed, l, q⟩ => by
      subst ed
      obtain ⟨p, dx, fvs, e2, hh, rf⟩ := rep_ins r1
      subst e2
      refine ⟨p, dx, fvs, rfl, ok1.bas.sub _ _ hh, rf.none l, tL3.ask lk ok1 q fun R2 H2 ds vs f2 ok2 r2 q2 => ?_⟩
      exact spW_ask lk ok2 (.cons (r1.mono f2.up) r2) q2 fun v H' p => Pst.from (f1.trans f2) p
theorem de_meth0 {pl : Sem Bool} (he : DE X W o Ta) (hc : Cls X.K C) (hm : Meth X.K C m f) (G : Fn3 X.prog X.w X.K X.mg X.base k f F) (hr : Room k X.A) (tk : L2.Takes X W)
    (ht : eval (.Call (.Attribute o m apos) [] [] pos) X.env = (do let ov ← eval o X.env; standAt apos.atName; let (g, first) ← holding [ov] (getMethod ov m pl); callWith pos g first (backTo pos (starEach [] X.env)) (backToKw pos (keywordEach [] X.env))) := by rfl) :
    DE X W (.Call (.Attribute o m apos) [] [] pos) (TMeth C m F Ta TNil) :=
  de_mk (t := fun σ H Q => tD X.K W Ta σ H fun x H1 => ∃ a dx fs, x = .ref a ∧ H1 a = some (.ins C dx fs) ∧ fs.lookup m = none ∧ spW X.K F [x] H1 Q (WE W σ))
    ⟨fun pins s σ H Q I h => PySem.W.methodCall_KW (pl := pl) (thn (he.run pins s σ H _ I h) fun u s1 ⟨x, H1, I1, rx, a, dx, fs, ex, ea, l, q⟩ => by
      subst ex
      obtain rfl : u = Value.ref a := rx
      exact getmeth_ok I1 ea hc hm l (PySem.W.callWith_K0 (first := [.ref a]) I1.kIn hm.kp (call_at (us := [.ref a]) (vs := [.ref a]) G hr tk I1 (.cons rfl .nil) q))) ht⟩
    fun S R H σ env φ lk ok h => tD.ask lk ok h fun R1 H1 d v f1 ok1 r1 ⟨fs, ed, l, q⟩ => by
      subst ed
      obtain ⟨p, dx, fvs, e2, hh, rf⟩ := rep_ins r1
      subst e2
      exact ⟨p, dx, fvs, rfl, ok1.bas.sub _ _ hh, rf.none l, spW_ask lk ok1 (.one r1) q fun v H' p => Pst.from f1 p⟩
/-! ### a staticmethod of a class -/
structure SMet (K : PySem.W.Frag) (C : Addr) (m : Str) (p g : Addr) : Prop where
  cr : ClX.CRead K C (.type "type")
  at_ : PySem.W.findCls K (.ref C) (.type "type") m = some (.get (.builtin "staticmethod.__get__") (.ref p) .none (.ref C))
  rc : ∃ rest, PySem.W.recIn K p "staticmethod" = some (.ref g :: rest)
  kp : PySem.W.keepIn K (.ref g) = true
theorem de_smeth {pl : Sem Bool} {x : Str} {p0 : Pos} {p : Addr} (hm : SMet X.K C m p f) (G : Fn3 X.prog X.w X.K X.mg X.base k f F) (hr : Room k X.A) (hG : Gl X x) (hM : X.mg x = some (.ref C)) (tk : L2.Takes X W) (ha : DA X W (e :: es) U) (hD : (x == ("__debug__" : Str)) = false := by decide)
    (hS : starEach (e :: es) X.env = (false, eval e X.env) :: starEach es X.env := by rfl) (hP : (backTo pos (starEach es X.env)).any (·.1) = false := by rfl)
    (ht : eval (.Call (.Attribute (.Name x p0) m apos) (e :: es) [] pos) X.env = (do let ov ← eval (.Name x p0) X.env; standAt apos.atName; let (g, first) ← holding [ov] (getMethod ov m pl); callWith pos g first (backTo pos (starEach (e :: es) X.env)) (backToKw pos (keywordEach [] X.env))) := by rfl) :
    DE X W (.Call (.Attribute (.Name x p0) m apos) (e :: es) [] pos) (TCall F U) :=
  de_mk (t := fun σ H Q => tL3 X.K W U σ H fun vs H1 => spW X.K F vs H1 Q (WE W σ))
    ⟨fun pins s σ H Q I h => PySem.W.methodCall_KW (pl := pl) (ld_glob I hG hM (by
      obtain ⟨rest, hp⟩ := hm.rc
      refine PySem.W.method_cls I.kIn hm.cr.ga (PySem.W.cls_bind I.kIn hm.cr.rd hm.at_ (wpAny_call (PySem.W.sm_get (s := { s with toks := s.toks + 1 }) I.kIn hp (PySem.W.handed_on rfl ?_))))
      have I' : Inv X pins σ H { s with toks := s.toks + 1 } := I.tok _
      exact PySem.W.callWith_K (first := []) (h₀ := X.base) I.ok.mod.kin hm.kp (thn (ha.run pos pins _ σ H _ I' h) fun us s2 ⟨vs, H2, I2, r, q2⟩ => ⟨I2.kIn, call_at (us := us) (vs := vs) G hr tk I2 r q2⟩) hS hP) hD) ht⟩
    fun S R H σ env φ lk ok h => tcall_ask lk ok h

/-! ### == and != by an own __eq__ that raises nothing -/
theorem call_q {sp : Sp} {A : Around} {E' : Value → Shared → Prop} {pins : List (Addr × Obj)} {σ : L2.St} {H : Hp} {s : Shared} {Q : VK} {us : List Value} {vs : List V} (G : FnR X.prog X.w X.K X.mg X.base (L2.CX X.prog X.w) k f sp) (hr : Room k A) (e0 : Env0 X.prog X.w X.K X.mg X.base A X.stack s H)
    (I : Inv X pins σ H s) (r : Vals vs us) (h : sp vs H Q E0) : wpAny (model X.prog X.w) A (call (.ref f) us) (EP X pins σ Q) E' s :=
  wpAny_call (codeAny_mono (G A X.stack s H us vs Q _ hr e0 r h) fun res s' hres => match res, hres with
    | .error er, hres => by
      obtain ⟨_, _, _, _, _, _, _, _, _, _, _, _, z⟩ := hres
      exact z.elim
    | .ok (.ret u), hres => I.after hres)
theorem looks_ty {pins : List (Addr × Obj)} {σ : L2.St} {H R : Hp} {s : Shared} {M : Model} {d : D} {v : V} {u : Value} {w : Wd} (I : Inv X pins σ H s) (b : Bas w R H) (r : Rep X.K R d v) (ru : RelV v u) (t : tyOf d ≠ .none) : PySem.W.Looks M s.heap (typeOf u) (tyOf d) := by
  cases d
  case non =>
    rw [show v = .non from r] at ru
    obtain rfl : u = .none := ru
    exact .of_pure rfl
  case bl =>
    rw [show v = .bl _ from r] at ru
    obtain rfl : u = .bool _ := ru
    exact .of_pure rfl
  case int =>
    rw [show v = .int _ from r] at ru
    obtain ⟨t, rfl⟩ := ru
    exact .of_pure rfl
  case str =>
    rw [show v = .str _ from r] at ru
    obtain ⟨t, rfl⟩ := ru
    exact .of_pure rfl
  case ty => exact absurd rfl t
  case ref => exact absurd rfl t
  case exc => exact absurd rfl t
  case clo => exact absurd rfl t
  case lam => exact absurd rfl t
  case dic => exact absurd rfl t
  case tup ds =>
    obtain ⟨p, xs, e, hh, hr⟩ := rep_tup r
    subst e
    obtain rfl : u = Value.ref p := ru
    obtain ⟨_, its, _, ob, ho, hc, _⟩ := I.hok p _ (b.sub _ _ hh)
    intro A Q E s' kk q
    exact wpAny_typeOf_ref (kk _ _ ho) (by rw [hc]; exact q)
  case lst ds =>
    obtain ⟨p, xs, e, hh, hr⟩ := rep_lst r
    subst e
    obtain rfl : u = Value.ref p := ru
    obtain ⟨_, its, _, _, ho⟩ := I.hok p _ (b.sub _ _ hh)
    intro A Q E s' kk q
    exact wpAny_typeOf_ref (kk _ _ ho) q
  case ins C fs =>
    obtain ⟨p, dx, xs, e, hh, hr⟩ := rep_ins r
    subst e
    obtain rfl : u = Value.ref p := ru
    obtain ⟨mA, J, _⟩ := ins_get I.hok (b.sub _ _ hh)
    obtain ⟨od, J, _⟩ := J.look
    exact J.type
/-- what an own == must be -/
structure EqK (K : PySem.W.Frag) (C f : Addr) : Prop where
  eq : PySem.W.findIn K (.ref C) "__eq__" = some (some (.ref f))
  fn : PySem.W.isFn K (.ref f) = true
  ne : PySem.W.findIn K (.ref C) "__ne__" = some (some (.builtin "object.__ne__"))
  ob : PySem.W.mroIn K C (.type "object") = some true
def rOwnEq (K : PySem.W.Frag) (C : Addr) (F : TF) (neg : Bool) : R2 := fun x y H Q => ∃ wd R dx dy, Bas wd R H ∧ Rep K R dx x ∧ Rep K R dy y ∧ (∃ fs, dx = .ins C fs) ∧ tyOf dy ≠ .none ∧ PySem.W.notFirst K C (tyOf dy) = true ∧
  ∃ φ : D → Prop, F wd [dx, dy] (fun d => ∃ b, d = .bl b ∧ φ (.bl (if neg then !b else b))) (fun _ => False) ∧ ∀ v R' H' d, Fin wd R H R' H' → Rep K R' d v → φ d → Q v H'
def eqOwnF (K : PySem.W.Frag) (C : Addr) (F : TF) (neg : Bool) : Ct → F2 := fun c x y φ => (∃ fs, x = .ins C fs) ∧ tyOf y ≠ .none ∧ PySem.W.notFirst K C (tyOf y) = true ∧ F c.wd [x, y] (fun d => ∃ b, d = .bl b ∧ φ (.bl (if neg then !b else b))) (fun _ => False)
theorem op_ownEq (q : EqK X.K C f) (G : Fn3 X.prog X.w X.K X.mg X.base k f F) (hr : Room k X.A) : OpR X (compareOp .Eq) (rOwnEq X.K C F false) := by
  intro pins s σ H x y v u Q I rx ry ⟨wd, R, dx, dy, b, r1, r2, ⟨fs, e⟩, hty, hnf, φ, hF, hQ⟩
  have hl := looks_ty (M := model X.prog X.w) I b r2 ry hty
  subst e
  obtain ⟨p, d', fvs, e1, hh, rf⟩ := rep_ins r1
  subst e1
  obtain rfl : v = Value.ref p := rx
  obtain ⟨mA, J, _⟩ := ins_get I.hok (b.sub _ _ hh)
  obtain ⟨od, J, _⟩ := J.look
  obtain ⟨m, hF0⟩ := I.fr
  show wpAny (model X.prog X.w) X.A (richCompare .Eq (.ref p) u) (EP X pins σ Q) X.xe s
  refine PySem.W.cmp_K (op := .Eq) hr.units0 hF0 I.ok.mod.kin J hl hnf q.eq q.fn ?_
  refine thn (call_q (us := [.ref p, u]) (vs := [.ref p, y]) (Q := fun v H' => ∃ kk, v = .bl kk ∧ Q (.bl kk) H') G hr I.env0 I (.cons rfl (.cons ry .nil)) ⟨wd, R, [.ins C fs, dy], _, _, b, ⟨_, _, rfl, r1, _, _, rfl, r2, rfl⟩, hF, fun v R' H' d f r z => ?_, fun _ _ _ _ _ _ _ z => z.elim⟩) fun w s' ⟨z, H', I', rz, kk, ez, qq⟩ => ?_
  · obtain ⟨kk, ed, hφ⟩ := z
    subst ed
    exact ⟨kk, r, hQ _ R' H' (.bl kk) f rfl hφ⟩
  · subst ez
    obtain rfl : w = Value.bool kk := rz
    exact ⟨.bl kk, H', I', rfl, qq⟩
theorem op_ownNe (q : EqK X.K C f) (G : Fn3 X.prog X.w X.K X.mg X.base k f F) (hr : Room (k + 1) X.A) : OpR X (compareOp .NotEq) (rOwnEq X.K C F true) := by
  intro pins s σ H x y v u Q I rx ry ⟨wd, R, dx, dy, b, r1, r2, ⟨fs, e⟩, hty, hnf, φ, hF, hQ⟩
  have hl := looks_ty (M := model X.prog X.w) I b r2 ry hty
  subst e
  obtain ⟨p, d', fvs, e1, hh, rf⟩ := rep_ins r1
  subst e1
  obtain rfl : v = Value.ref p := rx
  obtain ⟨mA, J, _⟩ := ins_get I.hok (b.sub _ _ hh)
  obtain ⟨od, J, _⟩ := J.look
  show wpAny (model X.prog X.w) X.A (richCompare .NotEq (.ref p) u) (EP X pins σ Q) X.xe s
  refine ne_here rfl (hu_of hr) I.kIn J hl hnf q.ne q.ob q.eq q.fn ?_
  refine thn (call_q (us := [.ref p, u]) (vs := [.ref p, y]) (Q := fun v H' => ∃ kk, v = .bl kk ∧ Q (.bl (!kk)) H') G hr.in1 I.env0.in1 I (.cons rfl (.cons ry .nil)) ⟨wd, R, [.ins C fs, dy], _, _, b, ⟨_, _, rfl, r1, _, _, rfl, r2, rfl⟩, hF, fun v R' H' d f r z => ?_, fun _ _ _ _ _ _ _ z => z.elim⟩) fun w s' ⟨z, H', I', rz, kk, ez, qq⟩ => ?_
  · obtain ⟨kk, ed, hφ⟩ := z
    subst ed
    exact ⟨kk, r, hQ _ R' H' (.bl (!kk)) f rfl hφ⟩
  · subst ez
    obtain rfl : w = Value.bool kk := rz
    exact ⟨kk, rfl, .bl (!kk), H', I', rfl, qq⟩
end
end L3
namespace L3
open PySem PySem.Spec PyProof.Rows L2
section
variable {X : Cx} {W : WX} {pos : Pos} {a b : Expr} {Ta Tb : TD}
abbrev F2C := Ct → D → D → (D → Prop) → Prop
def OpDC (K : PySem.W.Frag) (r : R2) (f : F2C) : Prop := ∀ (c : Ct) (R H : Hp) (x y : V) (dx dy : D) (φ : D → Prop) (Q : VK), Bas c.wd R H → Rep K R dx x → Rep K R dy y → f c dx dy φ → (∀ v H', Pst K c R H φ v H' → Q v H') → r x y H Q
def TOpC (f : F2C) (Ta Tb : TD) : TD := fun c env φ => Ta c env fun x => Tb c env fun y => f c x y φ
theorem opc_ask {r : R2} {f : F2C} (k : OpDC X.K r f) {S : Sta} {R H : Hp} {σ : L2.St} {env : Ev} {φ : D → Prop} {Q : VK} (lk : Lk X.K S W) (ok : Ok3 X.K S R H σ env) (h : TOpC f Ta Tb S.c env φ) (kQ : ∀ v H', Pst X.K S.c R H φ v H' → Q v H') :
    tOp r (tD X.K W Ta) (tD X.K W Tb) σ H Q := by
  refine tD.ask lk ok h fun R1 H1 d1 v1 f1 ok1 r1 q1 => tD.ask lk ok1 q1 fun R2 H2 d2 v2 f2 ok2 r2 q2 => ?_
  exact k S.c R2 H2 v1 v2 d1 d2 φ _ ok2.bas (r1.mono f2.up) r2 q2 fun v H' p => kQ v H' (Pst.from (f1.trans f2) p)
theorem de_cmpC {op : CmpOp} {r : R2} {f : F2C} (ho : OpR X (compareOp op) r) (k : OpDC X.K r f) (ha : DE X W a Ta) (hb : DE X W b Tb) (hm : behindInMarks op b = false) : DE X W (.Compare a [op] [b] pos) (TOpC f Ta Tb) :=
  de_mk (pe_cmpR ho ha hb hm) fun S R H σ env φ lk ok h => opc_ask k lk ok h fun _ _ p => p
theorem dt_cmpC {op : CmpOp} {r : R2} {f : F2C} (ho : OpR X (compareOp op) r) (k : OpDC X.K r f) (ha : DE X W a Ta) (hb : DE X W b Tb) (hm : behindInMarks op b = false) : DT X W (.Compare a [op] [b] pos) (TTst (TOpC f Ta Tb)) :=
  dt_mk (pt_cmpR ho ha hb hm) fun S R H σ env φ lk ok h => by
    refine opc_ask (φ := fun d => ∃ k, d = .bl k ∧ φ k) k lk ok h fun v H' ⟨R1, d, f1, rr, k, e, q⟩ => ?_
    subst e
    exact ⟨k, rr, R1, f1, q⟩
theorem OpDC.or {K : PySem.W.Frag} {r r' : R2} {f f' : F2C} (h : OpDC K r f) (h' : OpDC K r' f') : OpDC K (fun x y H Q => r x y H Q ∨ r' x y H Q) (fun c x y φ => f c x y φ ∨ f' c x y φ) := fun c R H x y dx dy φ Q b r1 r2 q k => by
  rcases q with q | q
  · exact .inl (h c R H x y dx dy φ Q b r1 r2 q k)
  · exact .inr (h' c R H x y dx dy φ Q b r1 r2 q k)
theorem OpD.c {K : PySem.W.Frag} {r : R2} {f : F2} (h : OpD K r f) : OpDC K r (fun _ => f) := h
theorem opd_own {K : PySem.W.Frag} {C : Addr} {F : TF} {neg : Bool} : OpDC K (rOwnEq K C F neg) (eqOwnF K C F neg) := fun c R H x y dx dy φ Q b r1 r2 ⟨h1, h2, h3, h4⟩ k =>
  ⟨c.wd, R, dx, dy, b, r1, r2, h1, h2, h3, φ, h4, fun v R' H' d f r q => k v H' ⟨R', d, f, r, q⟩⟩
end

/-! ### the defs -/
def startD (N : List Str) (ds : List D) : Ev := ds.map .v ++ List.replicate (N.length - ds.length) .no
theorem start_ok {K : PySem.W.Frag} {R H : Hp} {N : List Str} : ∀ {ds : List D} {vs : List V}, Reps K R ds vs → Paired (SlOk K R H) (start N vs) (startD N ds) := by
  have key : ∀ {ds : List D} {vs : List V} (n : Nat), Reps K R ds vs → Paired (SlOk K R H) (vs.map some ++ List.replicate n none) (ds.map Sl.v ++ List.replicate n Sl.no) := by
    intro ds
    induction ds with
    | nil =>
      intro vs n h
      have e : vs = [] := h
      subst e
      show Paired (SlOk K R H) (List.replicate n none) (List.replicate n .no)
      induction n with
      | zero => exact .nil
      | succ n ih => exact .cons trivial ih
    | cons d ds ih =>
      intro vs n h
      obtain ⟨v, r, e, h1, h2⟩ := (show ∃ v r, vs = v :: r ∧ Rep K R d v ∧ Reps K R ds r from h)
      subst e
      exact .cons ⟨v, rfl, h1⟩ (ih n h2)
  intro ds vs h
  unfold L2.start startD
  rw [h.length]
  exact key _ h
theorem startD_ad {N : List Str} {ds : List D} {i : Nat} : adAt (startD N ds) i = none := by
  unfold adAt startD
  cases e : (ds.map Sl.v ++ List.replicate (N.length - ds.length) Sl.no)[i]? with
  | none => rfl
  | some s =>
    have hm := List.mem_of_getElem? e
    rcases List.mem_append.mp hm with h | h
    · obtain ⟨d, _, rfl⟩ := List.mem_map.mp h
      rfl
    · rw [(List.mem_replicate.mp h).2]
      rfl
section
variable {P : Program} {w : World} {K : PySem.W.Frag} {mg : Str → Option Value} {base : Heap} {x qual : Str} {params : Arguments} {body : List Stmt} {scope : Scope} {dvs : List V} {kws : List (Str × V)} {f : Addr} {fd : FuncData}
/-- the context of a def's body here -/
abbrev cx3 (P : Program) (w : World) (K : PySem.W.Frag) (mg : Str → Option Value) (base : Heap) (N : List Str) (qual : Str) (scope : Scope) (f : Addr) (cdv : Value) (A : Around) (outer : List Env) (s : Shared) (H : Hp) (E : XK) : Cx := cxOf (L2.CX P w) P w K mg base N qual scope f cdv A outer s H E
/-- its wish about errors -/
abbrev W3 (E : XK) : WX := fun cls d _ H => E cls d H
theorem tk3 {N : List Str} {cdv : Value} {A : Around} {outer : List Env} {s : Shared} {H : Hp} {E : XK} : L2.Takes (cx3 P w K mg base N qual scope f cdv A outer s H E) (W3 E) := L2.takes_of rfl rfl rfl rfl
theorem ps3 {N : List Str} {cdv : Value} {A : Around} {outer : List Env} {s : Shared} {H : Hp} {E : XK} : PassesOwn (model P w) (cx3 P w K mg base N qual scope f cdv A outer s H E).A (cx3 P w K mg base N qual scope f cdv A outer s H E).env (cx3 P w K mg base N qual scope f cdv A outer s H E).xe := passes_of rfl
abbrev retD (φ : D → Prop) : EndD := { nx := fun _ => φ .non, rt := fun d _ => φ d }
/-- the reading of a body, from a def's entry -/
theorem body_ok {S : Sta} {R H : Hp} {σ : L2.St} {env : Ev} {W : WX} {T : TSD} {φ : D → Prop} {Q : VK} (lk : Lk K S W) (ok : Ok3 K S R H σ env) (h : T S.c (retD φ) env) (kQ : ∀ v R' H' d, Fin S.c.wd S.R0 S.H0 R' H' → Rep K R' d v → φ d → Q v H') :
    tS3 K W T { nx := fun _ H' => Q .non H', rt := Q } σ H :=
  ⟨S, R, env, _, lk, ok, h, ⟨fun R H σ env ok q => kQ _ R H .non ok.fin rfl q, fun R H σ env d v ok r q => kQ v R H d ok.fin r q, fun _ _ _ _ _ q => q.elim, fun _ _ _ _ _ q => q.elim⟩⟩
theorem start_ok3 {R H : Hp} {N : List Str} {ds : List D} {vs : List V} {c : Ct} (b : Bas c.wd R H) (r : Reps K R ds vs) : Ok3 K ⟨c, R, H, R⟩ R H (start N vs) (startD N ds) :=
  ⟨Fin.refl b, fun _ _ h => h, start_ok r, fun i p h => (by rw [startD_ad] at h; cases h), fun i j p h _ => (by rw [startD_ad] at h; cases h)⟩
/-- a def with plain parameters: n of them -/
theorem fn3 {N ps : List Str} {k : Nat} {F : TF} {T : TSD} (FD : FunD K x qual params body scope [] [] f fd) (Sc : FnScope N ps scope) (hb : Binds K fd ps []) (hn : ∀ wd ds φ ε, F wd ds φ ε → ds.length = ps.length)
    (hbody : ∀ (cdv : Value) (A : Around) (outer : List Env) (s : Shared) (H : Hp) (E : XK), Room k (A.deeper (envOfC qual scope s.heap.objs.size f cdv)) → DSs (cx3 P w K mg base N qual scope f cdv A outer s H E) (W3 E) body T)
    (hT : ∀ wd ds φ ε, F wd ds φ ε → T ⟨wd, fun ex _ => ε ex⟩ (retD φ) (startD N ds)) : Fn3 P w K mg base (k + 1) f F := by
  have G : FnOk P w K mg base (L2.CX P w) (k + 1) f fd ps (spW K F) := by
    refine FD.ok Sc (fun vs H Q E h => ?_) fun cdv A outer s H vs Q E hr h => ?_
    · obtain ⟨wd, R, ds, φ, ε, b, r, hf, _⟩ := h
      rw [r.length]
      exact hn _ _ _ _ hf
    · obtain ⟨wd, R, ds, φ, ε, b, r, hf, hQ, hE⟩ := h
      exact ⟨_, hbody cdv A outer s H E hr, body_ok (S := ⟨⟨wd, fun ex _ => ε ex⟩, R, H, R⟩) (fun R' H' σ env cls od ex ok xr q => hE cls od R' H' ex ok.fin xr q) (start_ok3 (c := ⟨wd, fun ex _ => ε ex⟩) b r) (hT wd ds φ ε hf) hQ⟩
  have z := G.raw (ds := []) (dvs := []) hb .nil
  intro A outer s H us vs Q E hr e0 r hs
  exact z A outer s H us vs Q E hr e0 r (by show spW K F (vs ++ []) H Q E; rw [List.append_nil]; exact hs)
/-- a def with plain parameters and *rest -/
theorem fn3star {N ps : List Str} {pv : Str} {k : Nat} {F : TF} {T : TSD} (FD : FunD K x qual params body scope [] [] f fd) (Sc : FnScope N (ps ++ [pv]) scope)
    (hb : ∀ (kV doc pm : Value) (an : Option Addr) (cdv ct : Value) (us rest : List Value), us.length = ps.length → bindArgs (PySem.W.fnOf x qual params body scope .none kV doc pm an cdv ct) ⟨us ++ rest, []⟩ = (newTuple rest >>= fun t => pure (ps.zip us ++ [(pv, t)])))
    (hn : ∀ wd ds φ ε, F wd ds φ ε → ps.length ≤ ds.length ∧ ds.length ≤ sizeLine)
    (hbody : ∀ (cdv : Value) (A : Around) (outer : List Env) (s : Shared) (H : Hp) (E : XK), Room k (A.deeper (envOfC qual scope s.heap.objs.size f cdv)) → DSs (cx3 P w K mg base N qual scope f cdv A outer s H E) (W3 E) body T)
    (hT : ∀ wd ds φ ε, F wd ds φ ε → T ⟨wd, fun ex _ => ε ex⟩ (retD φ) (startD N (ds.take ps.length ++ [.tup (ds.drop ps.length)]))) : Fn3 P w K mg base (k + 1) f F := by
  obtain ⟨oc, od, dV, kV, doc, pm, an, cdv, ct, osl, rfl, lk, hcd, hD, _⟩ := FD.ex
  have eD : dV = .none := by
    rcases hD with ⟨_, e⟩ | ⟨e, _⟩
    · exact e
    · exact absurd rfl e
  subst eD
  have G := StX.fn_star (P := P) (w := w) (mg := mg) (base := base) (k := k) (sp := fun vs H Q E => ∃ (wd : Wd) (R : Hp) (ds : List D) (φ : D → Prop) (ε : Er → Prop), Bas wd R H ∧ Reps K R (ds.take ps.length ++ [.tup (ds.drop ps.length)]) vs ∧ F wd ds φ ε ∧
    (∀ v R' H' d, Fin wd R H R' H' → Rep K R' d v → φ d → Q v H') ∧ ∀ cls od R' H' ex, Fin wd R H R' H' → XRep K R' ex cls od → ε ex → E cls od H') lk hcd Sc cxUpN (hb kV doc pm an cdv ct) fun A outer s H vs Q E hr h => by
      obtain ⟨wd, R, ds, φ, ε, b, r, hf, hQ, hE⟩ := h
      exact ⟨_, hbody cdv A outer s H E hr, body_ok (S := ⟨⟨wd, fun ex _ => ε ex⟩, R, H, R⟩) (fun R' H' σ env cls od ex ok xr q => hE cls od R' H' ex ok.fin xr q) (start_ok3 (c := ⟨wd, fun ex _ => ε ex⟩) b r) (hT wd ds φ ε hf) hQ⟩
  refine FnR.imp G fun vs H Q E ⟨wd, R, ds, φ, ε, b, r, hf, hQ, hE⟩ => ?_
  obtain ⟨h1, h2⟩ := hn _ _ _ _ hf
  refine ⟨vs.take ps.length, vs.drop ps.length, (List.take_append_drop _ _).symm, by rw [List.length_take, r.length]; omega, by rw [List.length_drop, r.length]; omega, fun p hp => ?_⟩
  have fa := Fin.alloc (o := .tup (vs.drop ps.length)) b hp
  exact ⟨wd, _, ds, φ, ε, fa.bas, ((r.take _).mono fa.up).append (.one ⟨p, _, rfl, upd_same, (r.drop _).mono fa.up⟩), hf, fun v R' H' d f q => hQ v R' H' d (fa.trans f) q, fun cls od R' H' ex f q => hE cls od R' H' ex (fa.trans f) q⟩
/-! ### an __init__ -/
abbrev retI (C a : Addr) (φ : List (Str × D) → Prop) : EndD := { nx := fun env => ∃ fs, env[0]? = some (.oi a C fs) ∧ φ fs, rt := fun d env => d = .non ∧ ∃ fs, env[0]? = some (.oi a C fs) ∧ φ fs }
def startI (N : List Str) (C a : Addr) (ds : List D) : Ev := .oi a C [] :: startD (N.drop 1) ds
theorem startI_ok {C a dx : Addr} {N : List Str} {ds : List D} {ws : List V} {R H1 : Hp} {c : Ct} (hN : N ≠ []) (b : Bas c.wd R H1) (r : Reps K R ds ws) (ha : H1 a = none) (hd : H1 dx = none) (hne : dx ≠ a) :
    Ok3 K ⟨c, R, H1, R⟩ R (upd (upd H1 dx (.own a)) a (.ins C dx [])) (start N (.ref a :: ws)) (startI N C a ds) := by
  have f1 := Fin.fresh (o := .own a) b hd
  have ha2 : upd H1 dx (.own a) a = none := by rw [upd_ne hne.symm]; exact ha
  have f2 := f1.trans (Fin.fresh (o := .ins C dx []) f1.bas ha2)
  have e1 : start N (.ref a :: ws) = some (.ref a) :: start (N.drop 1) ws := by
    unfold L2.start
    rw [List.map_cons, List.cons_append, List.length_drop, List.length_cons]
    have : N.length - (ws.length + 1) = N.length - 1 - ws.length := by omega
    rw [this]
  rw [e1]
  refine ⟨f2, fun _ _ h => h, .cons ⟨rfl, dx, [], upd_same, rfl⟩ (start_ok r), fun i p h => ?_, fun i j p h1 h2 => ?_⟩
  · have hp : p = a := by
      cases i with
      | zero => exact (Option.some.inj h).symm
      | succ i =>
        have h' : adAt (startD (N.drop 1) ds) i = some p := h
        rw [startD_ad] at h'
        cases h'
    subst hp
    exact ⟨not_R b ha, ha, not_foot b ha⟩
  · cases i with
    | zero =>
      cases j with
      | zero => rfl
      | succ j =>
        have h' : adAt (startD (N.drop 1) ds) j = some p := h2
        rw [startD_ad] at h'
        cases h'
    | succ i =>
      have h' : adAt (startD (N.drop 1) ds) i = some p := h1
      rw [startD_ad] at h'
      cases h'
theorem bodyI_ok {C a : Addr} {S : Sta} {R H : Hp} {σ : L2.St} {env : Ev} {W : WX} {T : TSD} {φ : List (Str × D) → Prop} {Q : VK} (lk : Lk K S W) (ok : Ok3 K S R H σ env) (h : T S.c (retI C a φ) env)
    (kQ : ∀ R' H' fs fvs dx', Fin S.c.wd S.R0 S.H0 R' H' → R' a = none → H' a = some (.ins C dx' fvs) → RepF K R' fs fvs → φ fs → Q .non H') : tS3 K W T { nx := fun _ H' => Q .non H', rt := Q } σ H := by
  have go : ∀ R' H' σ' env', Ok3 K S R' H' σ' env' → (∃ fs, env'[0]? = some (.oi a C fs) ∧ φ fs) → Q .non H' := fun R' H' σ' env' ok' ⟨fs, e, q⟩ => by
    obtain ⟨_, dx, fvs, h1, h2⟩ := oi_at ok' e
    exact kQ R' H' fs fvs dx ok'.fin (ok'.own 0 a (ad_of e rfl)).1 h1 h2 q
  exact ⟨S, R, env, _, lk, ok, h, ⟨fun R H σ env ok q => go R H σ env ok q, fun R H σ env d v ok r ⟨ed, q⟩ => (by
    subst ed
    obtain rfl : v = .non := r
    exact go R H σ env ok q), fun _ _ _ _ _ q => q.elim, fun _ _ _ _ _ q => q.elim⟩⟩
/-- .. with plain parameters -/
theorem fnI3 {N ps : List Str} {k : Nat} {C : Addr} {F : TFI} {T : TSD} (FD : FunD K x qual params body scope [] [] f fd) (Sc : FnScope N ps scope) (hN : N ≠ []) (hb : Binds K fd ps []) (hn : ∀ wd ds φ ε, F wd ds φ ε → ds.length + 1 = ps.length)
    (hbody : ∀ (cdv : Value) (A : Around) (outer : List Env) (s : Shared) (H : Hp) (E : XK), Room k (A.deeper (envOfC qual scope s.heap.objs.size f cdv)) → DSs (cx3 P w K mg base N qual scope f cdv A outer s H E) (W3 E) body T)
    (hT : ∀ a wd ds φ ε, F wd ds φ ε → T ⟨wd, fun ex _ => ε ex⟩ (retI C a φ) (startI N C a ds)) : FnI P w K mg base (k + 1) C f F := by
  have G : FnOk P w K mg base (L2.CX P w) (k + 1) f fd ps (spI K C F) := by
    refine FD.ok Sc (fun vs H Q E h => ?_) fun cdv A outer s H vs Q E hr h => ?_
    · obtain ⟨a, dx, ws, wd, R, H1, ds, φ, ε, e, _, _, _, _, b, r, hf, _⟩ := h
      subst e
      rw [List.length_cons, r.length]
      exact hn _ _ _ _ hf
    · obtain ⟨a, dx, ws, wd, R, H1, ds, φ, ε, e, ha, hd, hne, eH, b, r, hf, hQ, hE⟩ := h
      subst e eH
      exact ⟨_, hbody cdv A outer s _ E hr, bodyI_ok (S := ⟨⟨wd, fun ex _ => ε ex⟩, R, H1, R⟩) (fun R' H' σ env cls od ex ok xr q => hE cls od R' H' ex ok.fin xr q) (startI_ok (c := ⟨wd, fun ex _ => ε ex⟩) hN b r ha hd hne) (hT a wd ds φ ε hf) hQ⟩
  have z := G.raw (ds := []) (dvs := []) hb .nil
  intro A outer s H us vs Q E hr e0 r hs
  exact z A outer s H us vs Q E hr e0 r (by show spI K C F (vs ++ []) H Q E; rw [List.append_nil]; exact hs)
/-- .. with plain parameters and *rest -/
theorem fnI3star {N ps : List Str} {pv : Str} {k : Nat} {C : Addr} {F : TFI} {T : TSD} (FD : FunD K x qual params body scope [] [] f fd) (Sc : FnScope N (ps ++ [pv]) scope) (hN : N ≠ [])
    (hb : ∀ (kV doc pm : Value) (an : Option Addr) (cdv ct : Value) (us rest : List Value), us.length = ps.length → bindArgs (PySem.W.fnOf x qual params body scope .none kV doc pm an cdv ct) ⟨us ++ rest, []⟩ = (newTuple rest >>= fun t => pure (ps.zip us ++ [(pv, t)])))
    (hn : ∀ wd ds φ ε, F wd ds φ ε → ps.length ≤ ds.length + 1 ∧ ds.length ≤ sizeLine) (h1 : 1 ≤ ps.length)
    (hbody : ∀ (cdv : Value) (A : Around) (outer : List Env) (s : Shared) (H : Hp) (E : XK), Room k (A.deeper (envOfC qual scope s.heap.objs.size f cdv)) → DSs (cx3 P w K mg base N qual scope f cdv A outer s H E) (W3 E) body T)
    (hT : ∀ a wd ds φ ε, F wd ds φ ε → T ⟨wd, fun ex _ => ε ex⟩ (retI C a φ) (startI N C a (ds.take (ps.length - 1) ++ [.tup (ds.drop (ps.length - 1))]))) : FnI P w K mg base (k + 1) C f F := by
  obtain ⟨oc, od, dV, kV, doc, pm, an, cdv, ct, osl, rfl, lk, hcd, hD, _⟩ := FD.ex
  have eD : dV = .none := by
    rcases hD with ⟨_, e⟩ | ⟨e, _⟩
    · exact e
    · exact absurd rfl e
  subst eD
  have G := StX.fn_star (P := P) (w := w) (mg := mg) (base := base) (k := k) (sp := fun vs H Q E => ∃ (a dx p : Addr) (ws rest : List V) (wd : Wd) (R H1 : Hp) (ds : List D) (φ : List (Str × D) → Prop) (ε : Er → Prop), vs = .ref a :: (ws ++ [.ref p]) ∧ H1 a = none ∧ H1 dx = none ∧ dx ≠ a ∧
      (upd (upd H1 dx (.own a)) a (.ins C dx [])) p = none ∧ H = upd (upd (upd H1 dx (.own a)) a (.ins C dx [])) p (.tup rest) ∧ Bas wd R H1 ∧ Reps K R (ds.take (ps.length - 1)) ws ∧ Reps K R (ds.drop (ps.length - 1)) rest ∧ F wd ds φ ε ∧
      (∀ R' H' fs fvs dx', Fin wd R H1 R' H' → R' a = none → H' a = some (.ins C dx' fvs) → RepF K R' fs fvs → φ fs → Q .non H') ∧ ∀ cls od R' H' ex, Fin wd R H1 R' H' → XRep K R' ex cls od → ε ex → E cls od H') lk hcd Sc cxUpN (hb kV doc pm an cdv ct) fun A outer s H vs Q E hr h => by
      obtain ⟨a, dx, p, ws, rest, wd, R, H1, ds, φ, ε, e, ha, hd, hne, hp, eH, b, r1, r2, hf, hQ, hE⟩ := h
      subst e eH
      have o0 := startI_ok (K := K) (C := C) (c := ⟨wd, fun ex _ => ε ex⟩) (ds := ds.take (ps.length - 1)) (N := N) hN b r1 ha hd hne
      have fa := Fin.alloc (o := .tup rest) o0.bas hp
      have o1 := o0.through fa
      refine ⟨_, hbody cdv A outer s _ E hr, bodyI_ok (S := ⟨⟨wd, fun ex _ => ε ex⟩, R, H1, R⟩) (fun R' H' σ env cls od ex ok xr q => hE cls od R' H' ex ok.fin xr q) (R := upd R p (.tup rest)) ?_ (hT a wd ds φ ε hf) hQ⟩
      have f1 := Fin.fresh (o := .own a) b hd
      have ha2 : upd H1 dx (.own a) a = none := by rw [upd_ne hne.symm]; exact ha
      have f2 := (f1.trans (Fin.fresh (o := .ins C dx []) f1.bas ha2)).trans fa
      have hpa : p ≠ a := fun e => by
        rw [e, upd_same] at hp
        cases hp
      have rr : Reps K (upd R p (.tup rest)) (ds.take (ps.length - 1) ++ [.tup (ds.drop (ps.length - 1))]) (ws ++ [.ref p]) := (r1.mono fa.up).append (.one ⟨p, rest, rfl, upd_same, r2.mono fa.up⟩)
      have e1 : L2.start N (.ref a :: (ws ++ [.ref p])) = some (.ref a) :: L2.start (N.drop 1) (ws ++ [.ref p]) := by
        unfold L2.start
        rw [List.map_cons, List.cons_append, List.length_drop, List.length_cons]
        have : N.length - ((ws ++ [V.ref p]).length + 1) = N.length - 1 - (ws ++ [V.ref p]).length := by omega
        rw [this]
      rw [e1]
      refine ⟨f2, fa.up, .cons ⟨rfl, dx, [], by rw [upd_ne hpa.symm, upd_same], rfl⟩ (start_ok rr), fun i q h => ?_, fun i j q h1 h2 => ?_⟩
      · have hq : q = a := by
          cases i with
          | zero => exact (Option.some.inj h).symm
          | succ i =>
            have h' : adAt (startD (N.drop 1) (ds.take (ps.length - 1) ++ [.tup (ds.drop (ps.length - 1))])) i = some q := h
            rw [startD_ad] at h'
            cases h'
        subst hq
        exact ⟨by rw [upd_ne hpa.symm]; exact not_R b ha, ha, not_foot b ha⟩
      · cases i with
        | zero =>
          cases j with
          | zero => rfl
          | succ j =>
            have h' : adAt (startD (N.drop 1) (ds.take (ps.length - 1) ++ [.tup (ds.drop (ps.length - 1))])) j = some q := h2
            rw [startD_ad] at h'
            cases h'
        | succ i =>
          have h' : adAt (startD (N.drop 1) (ds.take (ps.length - 1) ++ [.tup (ds.drop (ps.length - 1))])) i = some q := h1
          rw [startD_ad] at h'
          cases h'
  refine FnR.imp G fun vs H Q E ⟨a, dx, ws, wd, R, H1, ds, φ, ε, e, ha, hd, hne, eH, b, r, hf, hQ, hE⟩ => ?_
  subst e eH
  obtain ⟨l1, l2⟩ := hn _ _ _ _ hf
  have hl := r.length
  refine ⟨.ref a :: ws.take (ps.length - 1), ws.drop (ps.length - 1), by rw [List.cons_append, List.take_append_drop], by rw [List.length_cons, List.length_take]; omega, by rw [List.length_drop]; omega, fun p hp => ?_⟩
  exact ⟨a, dx, p, ws.take (ps.length - 1), ws.drop (ps.length - 1), wd, R, H1, ds, φ, ε, rfl, ha, hd, hne, hp, rfl, b, r.take _, r.drop _, hf, hQ, hE⟩
end
end L3
namespace L3
open PySem PySem.Spec PyProof.Rows L2
section
variable {K : PySem.W.Frag} {S : Sta} {R H R1 H1 : Hp} {σ : L2.St} {env : Ev}
/-- a list made ahead, now for a name -/
theorem Ok3.lateOwn (o : Ok3 K S R H σ env) {i : Nat} {p : Addr} {ds : List L3.D} {xs : List V} (hp : H p = some (.lst xs)) (r : Reps K R ds xs) (hR : R p = none) (hS : S.H0 p = none) (hF : ¬ S.c.wd.foot p) (nope : ∀ j, adAt env j ≠ some p) :
    Ok3 K S R H (σ.set i (some (.ref p))) (env.set i (.ol p ds)) := by
  refine ⟨o.fin, o.rb, pair_set (F := SlOk K R H) (show SlOk K R H (some (.ref p)) (.ol p ds) from ⟨rfl, xs, hp, r⟩) i o.sl, fun j q h => ?_, fun j k q h1 h2 => ?_⟩
  · rcases adAt_set h with ⟨_, z⟩ | ⟨_, z⟩
    · have : p = q := Option.some.inj z
      subst this
      exact ⟨hR, hS, hF⟩
    · exact o.own j q z
  · rcases adAt_set h1 with ⟨e1, z⟩ | ⟨e1, z⟩
    · have : p = q := Option.some.inj z
      subst this
      rcases adAt_set h2 with ⟨e2, z'⟩ | ⟨_, z'⟩
      · rw [e1, e2]
      · exact absurd z' (nope k)
    · rcases adAt_set h2 with ⟨_, z'⟩ | ⟨_, z'⟩
      · have : p = q := Option.some.inj z'
        subst this
        exact absurd z (nope j)
      · exact o.dis j k q z z'
theorem Ok3.fresh_not (o : Ok3 K S R H σ env) {p : Addr} (hp : H p = none) : R p = none ∧ S.H0 p = none ∧ ¬ S.c.wd.foot p ∧ ∀ j, adAt env j ≠ some p := by
  refine ⟨not_R o.bas hp, ?_, not_foot o.bas hp, fun j z => ?_⟩
  · cases q : S.H0 p with
    | none => rfl
    | some u =>
      obtain ⟨z, hz⟩ := o.fin.there q
      rw [hp] at hz
      cases hz
  · have h := o.newOwn (i := env.length) (p := p) (ds := []) (xs := []) hp rfl
    unfold adAt at z
    cases e : env[j]? with
    | none =>
      rw [e] at z
      cases z
    | some s =>
      rw [e] at z
      obtain ⟨x, _, q⟩ := pair_get o.sl e
      have hs : s.ad = some p := z
      cases s with
      | no => cases hs
      | v d => cases hs
      | ol p' ds =>
        have : p' = p := Option.some.inj hs
        subst this
        obtain ⟨_, xs, hh, _⟩ := q
        rw [hp] at hh
        cases hh
      | oi p' C fs =>
        have : p' = p := Option.some.inj hs
        subst this
        obtain ⟨_, dx, xs, hh, _⟩ := q
        rw [hp] at hh
        cases hh
end
section
variable {X : Cx} {W : WX} {pos : Pos} {a b : Expr} {Ta Tb : TD} {A B : TB}
/-- a built-in class's name -/
theorem de_bty {x : Str} {n : String} (hg : Gl X x) (hm : X.mg x = none) (hv : bootBuiltins x = some (.type n) := by rfl) (hn : x ≠ "__name__" := by decide) (hd : (x == ("__debug__" : Str)) = false := by decide) : DE X W (.Name x pos) (TC (.ty n)) :=
  de_c (pe_bltn (v := .ty n) hg hm hv rfl hn hd)
def TChainB (f g : F2) (Ta Tb Tc : TD) : TB := fun c env φ => TChain f g Ta Tb Tc c env fun d => ∃ k, d = .bl k ∧ φ k
theorem dt_chain {op op' : CmpOp} {r r' : R2} {f g : F2} {cc : Expr} {Tc : TD} (ho : OpR X (compareOp op) r) (k : OpD X.K r f) (ho' : OpR X (compareOp op') r') (k' : OpD X.K r' g) (ha : DE X W a Ta) (hb : DE X W b Tb) (hc : DE X W cc Tc)
    (hm : lastMarks [op, op'] [b, cc] = false := by rfl) : DT X W (.Compare a [op, op'] [b, cc] pos) (TChainB f g Ta Tb Tc) :=
  dt_mk (pt_chain ho ho' ha hb hc hm) fun S R H σ env φ lk ok h => tChain_ask k k' lk ok h fun v H' ⟨R1, d, f1, r, kk, e, q⟩ => by
    subst e
    exact ⟨kk, r, R1, f1, q⟩
/-- a, b = e1, e2 -/
theorem ds_par {i j : Nat} {x y : Str} {px py pt : Pos} {kt k2 pt2} {U : TL} (hc : X.calm = true) (hN : X.N.Nodup) (hi : X.N[i]? = some x) (hj : X.N[j]? = some y) (hij : i ≠ j)
    (hx : X.env.scope.names.lookup x = some .local) (hy : X.env.scope.names.lookup y = some .local) (ha : DA X W [a, b] U)
    (hw : swappedStores [.Tuple [.Name x px, .Name y py] kt pt] (.Tuple [a, b] k2 pt2) X.env = pure (some [x, y]) := by rfl)
    (hs : swapsWithSole [.Tuple [.Name x px, .Name y py] kt pt] (.Tuple [a, b] k2 pt2) pos.line X.env = pure false := by rfl) :
    DS X W (.Assign [.Tuple [.Name x px, .Name y py] kt pt] (.Tuple [a, b] k2 pt2) pos) (TPar i j U) :=
  ds_mk (ps_par hc hN hi hj hij hx hy ha hw hs) fun S R H σ env D3 lk ok q => tL3.ask lk ok q fun R1 H1 ds vs f1 ok1 r1 ⟨d, e, ed, q1⟩ => by
    subst ed
    obtain ⟨v, w, ev, r2, r3⟩ := reps2 r1
    subst ev
    exact ⟨v, w, rfl, R1, _, (ok1.put r2).put r3, q1⟩
/-- a, b = e, [] -/
def TParO1 (i j : Nat) (T : TD) : TSD := fun c D env => T c env fun d => ∀ p, D.nx ((env.set i (.v d)).set j (.ol p []))
def TParO0 (i j : Nat) (T : TD) : TSD := fun c D env => T c env fun d => ∀ p, D.nx ((env.set i (.ol p [])).set j (.v d))
theorem ds_parOwn1 {i j : Nat} {x y : Str} {px py pt pl : Pos} {kt k2 pt2} (hc : X.calm = true) (hN : X.N.Nodup) (hi : X.N[i]? = some x) (hj : X.N[j]? = some y) (hij : i ≠ j)
    (hx : X.env.scope.names.lookup x = some .local) (hy : X.env.scope.names.lookup y = some .local) (ha : DE X W a Ta)
    (hw : swappedStores [.Tuple [.Name x px, .Name y py] kt pt] (.Tuple [a, .List [] pl] k2 pt2) X.env = pure (some [x, y]) := by rfl)
    (hs : swapsWithSole [.Tuple [.Name x px, .Name y py] kt pt] (.Tuple [a, .List [] pl] k2 pt2) pos.line X.env = pure false := by rfl) (hst : starEach [a, .List [] pl] X.env = (false, eval a X.env) :: starEach [.List [] pl] X.env := by rfl) :
    DS X W (.Assign [.Tuple [.Name x px, .Name y py] kt pt] (.Tuple [a, .List [] pl] k2 pt2) pos) (TParO1 i j Ta) :=
  ds_mk (ps_par hc hN hi hj hij hx hy (pa_cons ha (pa_cons (pe_lst pa_nil) pa_nil) hst) hw hs) fun S R H σ env D3 lk ok q => tD.ask lk ok q fun R1 H1 d v f1 ok1 r1 q1 =>
    ⟨by decide, fun p hp => ⟨v, .ref p, rfl, R1, _, by
      have o2 := (ok1.put (i := i) r1).newOwn (i := j) (p := p) (ds := []) (xs := []) hp rfl
      exact o2, q1 p⟩⟩
theorem ds_parOwn0 {i j : Nat} {x y : Str} {px py pt pl : Pos} {kt k2 pt2} (hc : X.calm = true) (hN : X.N.Nodup) (hi : X.N[i]? = some x) (hj : X.N[j]? = some y) (hij : i ≠ j)
    (hx : X.env.scope.names.lookup x = some .local) (hy : X.env.scope.names.lookup y = some .local) (ha : DE X W a Ta)
    (hw : swappedStores [.Tuple [.Name x px, .Name y py] kt pt] (.Tuple [.List [] pl, a] k2 pt2) X.env = pure (some [x, y]) := by rfl)
    (hs : swapsWithSole [.Tuple [.Name x px, .Name y py] kt pt] (.Tuple [.List [] pl, a] k2 pt2) pos.line X.env = pure false := by rfl) (hst : starEach [a] X.env = (false, eval a X.env) :: starEach [] X.env := by rfl) :
    DS X W (.Assign [.Tuple [.Name x px, .Name y py] kt pt] (.Tuple [.List [] pl, a] k2 pt2) pos) (TParO0 i j Ta) :=
  ds_mk (ps_par hc hN hi hj hij hx hy (pa_cons (pe_lst pa_nil) (pa_cons ha pa_nil hst)) hw hs) fun S R H σ env D3 lk ok q => by
    refine ⟨by decide, fun p hp => ?_⟩
    obtain ⟨n1, n2, n3, n4⟩ := ok.fresh_not hp
    have ok0 := ok.through (Fin.fresh (o := .lst []) ok.bas hp)
    refine tD.ask lk ok0 q fun R1 H1 d v f1 ok1 r1 q1 => ⟨.ref p, v, rfl, R1, _, ?_, q1 p⟩
    have hk : H1 p = some (.lst []) := f1.keep p _ upd_same n3
    have hr : R1 p = none := f1.new p _ n1 upd_same
    exact (ok1.lateOwn (i := i) (ds := []) (xs := []) hk rfl hr n2 n3 n4).put r1
/-! ### enumerate(list) -/
def enumD : Nat → List D → List D
  | _, [] => []
  | n, d :: ds => .tup [.int (n : Nat), d] :: enumD (n + 1) ds
theorem enumD_len : ∀ {ds : List D} {n : Nat}, (enumD n ds).length = ds.length
  | [], _ => rfl
  | _ :: ds, n => congrArg Nat.succ (enumD_len (ds := ds) (n := n + 1))
theorem enumD_get : ∀ {ds : List D} {n i : Nat} {d : D}, (enumD n ds)[i]? = some d → ∃ x, ds[i]? = some x ∧ d = .tup [.int ((n + i : Nat) : Int), x]
  | [], n, i, d, h => by simp [enumD] at h
  | x :: ds, n, 0, d, h => by
    have h2 : some (D.tup [.int (n : Nat), x]) = some d := by simpa [enumD] using h
    cases h2
    exact ⟨x, rfl, rfl⟩
  | x :: ds, n, i + 1, d, h => by
    obtain ⟨u, h1, h2⟩ := enumD_get (ds := ds) (n := n + 1) (i := i) (d := d) (by simpa [enumD] using h)
    refine ⟨u, by simpa using h1, ?_⟩
    rw [h2]
    have e : n + 1 + i = n + (i + 1) := by omega
    rw [e]
theorem itok_enum {K : PySem.W.Frag} {w : Wd} {R : Hp} {p : Addr} {xs : List V} {ds : List D} (h : R p = some (.lst xs)) (r : Reps K R ds xs) : ItOk K w (Ite K p) R (enumD 0 ds) where
  go := fun i R1 H d s b e => by
    obtain ⟨x, e1, _⟩ := enumD_get e
    obtain ⟨v, hv, _⟩ := r.get e1
    exact ⟨xs, v, SqL.of (b.sub _ _ (s _ _ h)), hv⟩
  stop := fun i R1 H s b e => ⟨xs, SqL.of (b.sub _ _ (s _ _ h)), by rw [r.length]; rw [enumD_len] at e; exact e⟩
  yld := fun i R1 H x H' d s b e y => by
    obtain ⟨T, x1, ex, hT, eH, k1⟩ := y
    subst ex eH
    obtain ⟨dx, e1, e3⟩ := enumD_get e
    subst e3
    obtain ⟨v, hv, rv⟩ := r.get e1
    have a1 := k1 xs (SqL.of (b.sub _ _ (s _ _ h)))
    rw [hv] at a1
    have z1 := Option.some.inj a1
    subst z1
    have f := Fin.alloc (o := .tup [.int (i : Nat), v]) b hT
    have e0 : ((0 + i : Nat) : Int) = (i : Nat) := by omega
    exact ⟨_, f, T, [.int (i : Nat), v], rfl, upd_same, ⟨_, [v], rfl, by rw [e0]; rfl, v, [], rfl, (rv.mono s).mono f.up, rfl⟩⟩
def TIen (U : TL) : TL := fun c env φ => U c env fun ds => ∃ es, ds = [.lst es] ∧ φ (enumD 0 es)
theorem di_enum {e : Expr} {p tpos : Pos} {elts : List Expr} {kk : Nat} {U : TL} (hg : Gl X "enumerate") (hm : X.mg "enumerate" = none) (ha : DA X W [e] U) (hs : starEach [e] X.env = [(false, eval e X.env)] := by rfl) :
    DI X W (.Tuple elts kk tpos) (.Call (.Name "enumerate" p) [e] [] pos) (TIen U) :=
  pi_imp (pi_enum hg hm ha hs) fun σ H Q ⟨S, R, env, φ, lk, ok, q, hQ⟩ => tL3.ask lk ok q fun R1 H1 ds vs f1 ok1 r1 ⟨es, e, q1⟩ => by
    subst e
    obtain ⟨v, e, h1⟩ := reps1 r1
    subst e
    obtain ⟨p1, xs, e, hh, hr⟩ := rep_lst h1
    subst e
    exact ⟨p1, xs, rfl, SqL.of (ok1.bas.sub _ _ hh), hQ _ _ R1 _ f1 (itok_enum hh hr) q1⟩
/-! ### x[k] = e of an own list -/
def TPutJ (i : Nat) (Tk T : TD) : TSD := fun c D env => ∃ p ds, env[i]? = some (.ol p ds) ∧ T c env fun d => Tk c env fun k => ∃ n j, k = .int n ∧ ixN ds.length n = some j ∧ D.nx (env.set i (.ol p (ds.set j d)))
theorem ds_putI (i : Nat) {x : Str} {k e : Expr} {p0 pos' : Pos} {Tk T : TD} (he : DE X W e T) (hk : DE X W k Tk) (hN : X.N[i]? = some x := by rfl) (hv : Vis X.env.scope x := by first | exact Or.inl rfl | exact Or.inr (Or.inl rfl) | exact Or.inr (Or.inr rfl))
    (hd : (x == ("__debug__" : Str)) = false := by decide) (hcd : (x == ("__classdict__" : Str)) = false := by decide)
    (ha : ∀ v, assign (.Subscript (.Name x p0) k pos') X.env v = (do
      let ov ← holding [v] (eval (.Name x p0) X.env)
      let iv ← holding [v, ov] (eval k X.env)
      standAt pos'
      holding [v, ov, iv] (setItem ov iv v)
      release [v, ov, iv] []) := by intro _; rfl)
    (hs : swapsWithSole [.Subscript (.Name x p0) k pos'] e pos.line X.env = pure false := by rfl) (hw : swappedStores [.Subscript (.Name x p0) k pos'] e X.env = pure none := by rfl)
    (h1 : (assignEach [.Subscript (.Name x p0) k pos'] X.env).map (·.2) = [assign (.Subscript (.Name x p0) k pos') X.env] := by rfl) :
    DS X W (.Assign [.Subscript (.Name x p0) k pos'] e pos) (TPutJ i Tk T) :=
  ds_mk (ps_asg he (pg_sub (pe_var hN hv hd hcd) hk set_list ha) hs hw h1) fun S R H σ env D3 lk ok ⟨p, ds, e0, q⟩ => tD.ask lk ok q fun R1 H1 d v f1 ok1 r1 q1 => by
    obtain ⟨h1, xs, h2, h3⟩ := ol_at ok1 e0
    refine ⟨_, h1, tD.ask lk ok1 q1 fun R2 H2 dk vk f2 ok2 rk ⟨n, j, ek, hj, q2⟩ => ?_⟩
    subst ek
    obtain ⟨_, ys, h4, h5⟩ := ol_at ok2 e0
    exact ⟨p, ys, n, j, rfl, rk, h4, by rw [h5.length]; exact hj, R2, _, ol_mut ok2 e0 (h5.set j (r1.mono f2.up)), q2⟩
/-! ### max(ints, default = d) -/
def mxV (d : V) : List Int → V
  | [] => d
  | n :: r => .int (r.foldl max n)
def mxD (d : D) : List Int → D
  | [] => d
  | n :: r => .int (r.foldl max n)
theorem ints_max {X : Cx} {pins : List (Addr × Obj)} {σ : L2.St} {H : Hp} {s : Shared} {Q : VK} {p : Addr} {ns : List Int} {d : V} {u : Value} (hc : X.calm = true) (hu : X.A.units + 64 < cLine) (I : Inv X pins σ H s) (h : SqL X.K H p (ns.map V.int)) (rd : RelV d u)
    (q : Q (mxV d ns) H) : wpAny (model X.prog X.w) X.A (call (.builtin "max") [.ref p] [(Str.ofString "default", u)]) (EP X pins σ Q) X.xe s := by
  obtain ⟨its, rv, hl, _⟩ := I.list h
  have dp : ∀ ns : List Int, DpAll X.K H (ns.map V.int) (ns.map PyData.int) := by
    intro ns
    induction ns with
    | nil => exact .nil
    | cons n r ih => exact .cons (.int n) ih
  obtain ⟨as, ra⟩ := Dp.readsAll I _ _ _ (dp ns) rv
  have hd0 : ∀ ns : List Int, PyData.depthAll (ns.map PyData.int) ≤ 1 := by
    intro ns
    induction ns with
    | nil => exact Nat.zero_le _
    | cons n r ih => exact Nat.max_le.mpr ⟨Nat.zero_le _, ih⟩
  have hal : PySem.W.AlikeAll (ns.map PyData.int) := by
    refine ⟨fun x hx y hy => ?_, fun x hx e => ?_⟩
    · obtain ⟨i, _, rfl⟩ := List.mem_map.mp hx
      obtain ⟨j, _, rfl⟩ := List.mem_map.mp hy
      rfl
    · obtain ⟨i, _, rfl⟩ := List.mem_map.mp hx
      cases e
  refine PySem.W.max_list_default (I.ok.hd hc) hl.isList (by simpa using ra) hal (by have := hd0 ns; omega) (fun e h' tk k => ?_) fun y ys i v h' tk bs e hv hr k => ?_
  · cases ns with
    | nil => exact ⟨_, H, I.kept k, rd, q⟩
    | cons n r => cases e
  · cases ns with
    | nil => cases e
    | cons n r =>
      injection e with e1 e2
      subst e1 e2
      rw [PySem.W.maxD_ints] at hr
      cases hr
      exact ⟨.int (r.foldl max n), H, I.kept k, ⟨_, rfl⟩, q⟩
theorem boot_max' : bootBuiltins "max" = some (.builtin "max") := by rfl
def TMaxd (Ta Tb : TD) : TD := fun c env φ => Ta c env fun x => Tb c env fun y => ∃ ns : List Int, x = .lst (ns.map D.int) ∧ φ (mxD y ns)
theorem de_maxd {e e2 : Expr} {p kp : Pos} {Ta Tb : TD} (hc : X.calm = true) (hu : X.A.units + 64 < cLine) (hg : Gl X "max") (hm : X.mg "max" = none) (ha : DE X W e Ta) (hb : DE X W e2 Tb)
    (he : starEach [e] X.env = (false, eval e X.env) :: starEach [] X.env := by rfl) (he2 : backTo pos (starEach [e] X.env) = (false, eval e X.env) :: backTo pos (starEach [] X.env) := by rfl) (hpl : (backTo pos (starEach [e] X.env)).any (·.1) = false := by rfl) : DE X W (.Call (.Name "max" p) [e] [⟨some "default", e2, kp⟩] pos) (TMaxd Ta Tb) :=
  de_mk (t := fun σ H Q => tCons (tD X.K W Ta) tNil σ H fun vs H1 => tCons (tD X.K W Tb) tNil σ H1 fun zs H2 => ∃ (q : Addr) (ns : List Int) (y : V), vs = [.ref q] ∧ zs = [y] ∧ SqL X.K H2 q (ns.map V.int) ∧ Q (mxV y ns) H2)
    ⟨fun pins s σ H Q I h => wpAny_Call_Name_kw (ld_blt I hg hm boot_max' (callWith_kw (thn ((pa_cons ha pa_nil he).run pos pins s σ H _ I h) fun us s1 ⟨vs, H1, I1, r, q1⟩ => by
      refine thn ((pk_cons (nm := some "default") (kpos := kp) hb pk_nil).run pos pins s1 σ H1 _ I1 q1) fun ws s2 ⟨zs, H2, I2, rz, q, ns, y, e1, e2, hq, q2⟩ => ?_
      subst e1 e2
      obtain ⟨u, rfl, r1⟩ := vals1 r
      obtain ⟨w, rfl, r2⟩ := vals1 rz
      cases r1
      exact ints_max hc hu I2 hq r2 q2) he2 hpl))⟩ fun S R H σ env φ lk ok h => tD.ask lk ok h fun R1 H1 d v f1 ok1 r1 q1 => tD.ask lk ok1 q1 fun R2 H2 d2 v2 f2 ok2 r2 ⟨ns, e, q2⟩ => by
    subst e
    obtain ⟨q, xs, e, hh, hr⟩ := rep_lst (r1.mono f2.up)
    subst e
    rw [hr.ints] at hh
    refine ⟨q, ns, v2, rfl, rfl, SqL.of (ok2.bas.sub _ _ hh), R2, _, f1.trans f2, ?_, q2⟩
    cases ns with
    | nil => exact r2
    | cons n r => rfl
/-! ### calls with keywords -/
def permL {α : Type} (ix : List Nat) (xs : List α) : List α := ix.filterMap (xs[·]?)
theorem vals_perm {vs : List V} {us : List Value} (r : Vals vs us) : ∀ ix : List Nat, Vals (permL ix vs) (permL ix us)
  | [] => .nil
  | i :: ix => by
    have ih := vals_perm r ix
    unfold permL at ih ⊢
    rw [List.filterMap_cons, List.filterMap_cons]
    cases e : vs[i]? with
    | none =>
      have hl := r.length
      have : us[i]? = none := by
        rw [List.getElem?_eq_none_iff] at e ⊢
        omega
      rw [this]
      exact ih
    | some x =>
      obtain ⟨u, hu, ru⟩ := r.get e
      rw [hu]
      exact .cons ru ih
theorem Reps.perm {K : PySem.W.Frag} {R : Hp} {ds : List D} {vs : List V} (r : Reps K R ds vs) : ∀ ix : List Nat, Reps K R (permL ix ds) (permL ix vs)
  | [] => rfl
  | i :: ix => by
    have ih := Reps.perm r ix
    unfold permL at ih ⊢
    rw [List.filterMap_cons, List.filterMap_cons]
    cases e : ds[i]? with
    | none =>
      have hl := r.length
      have : vs[i]? = none := by
        rw [List.getElem?_eq_none_iff] at e ⊢
        omega
      rw [this]
      exact ih
    | some x =>
      obtain ⟨u, hu, ru⟩ := r.get e
      rw [hu]
      exact .cons ru ih
abbrev DK (X : Cx) (W : WX) (kws : List Keyword) (T : TL) : Prop := PK X kws (tL3 X.K W T)
theorem dk_nil : DK X W [] TNil := ⟨fun pos pins s σ H Q I ⟨S, R, env, φ, lk, ok, hT, hQ⟩ => thn (pk_nil.run pos pins s σ H _ I (show tNil σ H _ from hQ [] H ⟨R, [], Fin.refl ok.bas, rfl, hT⟩)) fun us s' p => p⟩
theorem dk_cons {e : Expr} {T : TD} {U : TL} {kws : List Keyword} {nm : Option Str} {kpos : Pos} (ha : DE X W e T) (hr : DK X W kws U) : DK X W (⟨nm, e, kpos⟩ :: kws) (TCons T U) :=
  ⟨fun pos pins s σ H Q I ⟨S, R, env, φ, lk, ok, hT, hQ⟩ => thn ((pk_cons (nm := nm) (kpos := kpos) ha hr).run pos pins s σ H (PstL X.K S.c R H φ) I (tD.ask lk ok hT fun R1 H1 d v f1 ok1 r1 q1 => tL3.ask lk ok1 q1 fun R2 H2 ds vs f2 ok2 r2 q2 =>
    ⟨R2, d :: ds, f1.trans f2, .cons (r1.mono f2.up) r2, q2⟩)) fun us s' ⟨vs, H', I', r, p⟩ => ⟨vs, H', I', r, hQ vs H' p⟩⟩
/-- a def that keeps it, called in any way -/
abbrev Fn3O (P : Program) (w : World) (K : PySem.W.Frag) (mg : Str → Option Value) (base : Heap) (k : Nat) (f : Addr) (fd : FuncData) (ps : List Str) (F : TF) : Prop := FnOk P w K mg base (L2.CX P w) k f fd ps (spW K F)
/-- how keywords ks behind n values bind -/
def KwB (K : PySem.W.Frag) (fd : FuncData) (ps : List Str) (n : Nat) (ks : List Str) (ix : List Nat) : Prop := ∀ (s : Shared) (us ws : List Value), K.In s.heap → us.length = n → ws.length = ks.length → BindsTo s fd ⟨us, ks.zip ws⟩ (ps.zip (permL ix (us ++ ws)))
section
variable {F : TF} {U Uk : TL} {k n : Nat} {f C : Addr} {fd : FuncData} {ps ks : List Str} {ix : List Nat} {x m : Str} {p0 apos : Pos} {e : Expr} {es : List Expr} {kws : List Keyword}
theorem call_kw {sp : Sp} {pins : List (Addr × Obj)} {σ : L2.St} {H : Hp} {s : Shared} {Q : VK} {args : Args} {us : List Value} {vs : List V} (G : FnOk X.prog X.w X.K X.mg X.base (L2.CX X.prog X.w) k f fd ps sp) (hr : Room k X.A) (tk : L2.Takes X W)
    (I : L2.Inv X pins σ H s) (hb : BindsTo s fd args (ps.zip us)) (r : Vals vs us) (h : sp vs H Q (WE W σ)) : wpAny (model X.prog X.w) X.A (call (.ref f) args.pos args.kw) (EP X pins σ Q) X.xe s :=
  wpAny_call (codeAny_mono (G.run X.A X.stack s H args us vs Q _ hr I.env0 hb r h) fun res s' hres => match res, hres with
    | .error er, hres => L2.passAt tk σ pins H s er s' I hres
    | .ok (.ret u), hres => I.after hres)
/-- f(.., k = v, ..) -/
def TCallK (F : TF) (n m : Nat) (ix : List Nat) (U Uk : TL) : TD := fun c env φ => U c env fun ds => Uk c env fun zs => ds.length = n ∧ zs.length = m ∧ F c.wd (permL ix (ds ++ zs)) φ fun ex => c.er ex env
theorem tcallk_ask {S : Sta} {R H : Hp} {σ : L2.St} {env : Ev} {φ : D → Prop} (lk : Lk X.K S W) (ok : Ok3 X.K S R H σ env) (h : TCallK F n ks.length ix U Uk S.c env φ) :
    tL3 X.K W U σ H fun vs H1 => tL3 X.K W Uk σ H1 fun zs H2 => vs.length = n ∧ zs.length = ks.length ∧ spW X.K F (permL ix (vs ++ zs)) H2 (Pst X.K S.c R H φ) (WE W σ) :=
  tL3.ask lk ok h fun R1 H1 ds vs f1 ok1 r1 q1 => tL3.ask lk ok1 q1 fun R2 H2 zs ws f2 ok2 r2 ⟨l1, l2, q2⟩ =>
    ⟨by rw [r1.length]; exact l1, by rw [r2.length]; exact l2, spW_ask lk ok2 (((r1.mono f2.up).append r2).perm ix) q2 fun v H' p => Pst.from (f1.trans f2) p⟩
theorem de_callK (G : Fn3O X.prog X.w X.K X.mg X.base k f fd ps F) (hb : KwB X.K fd ps n ks ix) (hr : Room k X.A) (hG : Gl X x) (hM : X.mg x = some (.ref f)) (hK : PySem.W.keepIn X.K (.ref f) = true) (tk : L2.Takes X W) (ha : DA X W (e :: es) U) (hkw : DK X W kws Uk)
    (hall : (backToKw pos (keywordEach kws X.env)).all (·.1.isSome) = true := by rfl) (hks : (backToKw pos (keywordEach kws X.env)).filterMap (·.1) = ks := by rfl)
    (hD : (x == ("__debug__" : Str)) = false := by decide) (he : starEach (e :: es) X.env = (false, eval e X.env) :: starEach es X.env := by rfl)
    (hpl : ((backTo pos (starEach (e :: es) X.env)).any (·.1) || (backToKw pos (keywordEach kws X.env)).any (·.1.isNone)) = false := by rfl) : DE X W (.Call (.Name x p0) (e :: es) kws pos) (TCallK F n ks.length ix U Uk) :=
  de_mk (t := fun σ H Q => tL3 X.K W U σ H fun vs H1 => tL3 X.K W Uk σ H1 fun zs H2 => vs.length = n ∧ zs.length = ks.length ∧ spW X.K F (permL ix (vs ++ zs)) H2 Q (WE W σ))
    ⟨fun pins s σ H Q I h => wpAny_Call_Name_kw (ld_glob I hG hM (PySem.W.callWith_KW (h₀ := X.base) I.ok.mod.kin hK hall (thn (ha.run pos pins s σ H _ I h) fun us s1 ⟨vs, H1, I1, r, q⟩ => by
      refine thn (hkw.run pos pins s1 σ H1 _ I1 q) fun ws s2 ⟨zs, H2, I2, rz, l1, l2, q2⟩ => ⟨I2.kIn, ?_⟩
      rw [hks]
      exact call_kw (args := ⟨us, ks.zip ws⟩) G hr tk I2 (hb s2 us ws I2.kIn (r.length.symm.trans l1) (rz.length.symm.trans l2)) (vals_perm (r.append rz) ix) q2) hpl he) hD)⟩ fun S R H σ env φ lk ok h => tcallk_ask lk ok h
theorem de_callK0 (G : Fn3O X.prog X.w X.K X.mg X.base k f fd ps F) (hb : KwB X.K fd ps 0 ks ix) (hr : Room k X.A) (hG : Gl X x) (hM : X.mg x = some (.ref f)) (hK : PySem.W.keepIn X.K (.ref f) = true) (tk : L2.Takes X W) (hkw : DK X W kws Uk)
    (hall : (backToKw pos (keywordEach kws X.env)).all (·.1.isSome) = true := by rfl) (hks : (backToKw pos (keywordEach kws X.env)).filterMap (·.1) = ks := by rfl)
    (hD : (x == ("__debug__" : Str)) = false := by decide)
    (hpl : ((backTo pos (starEach [] X.env)).any (·.1) || (backToKw pos (keywordEach kws X.env)).any (·.1.isNone)) = false := by rfl) : DE X W (.Call (.Name x p0) [] kws pos) (TCallK F 0 ks.length ix TNil Uk) :=
  de_mk (t := fun σ H Q => tL3 X.K W TNil σ H fun vs H1 => tL3 X.K W Uk σ H1 fun zs H2 => vs.length = 0 ∧ zs.length = ks.length ∧ spW X.K F (permL ix (vs ++ zs)) H2 Q (WE W σ))
    ⟨fun pins s σ H Q I h => wpAny_Call_Name_kw (ld_glob I hG hM (PySem.W.callWith_KW0 I.kIn hK hall (by
      obtain ⟨vs, H1, I1, r, q⟩ : AP X pins σ (fun vs H1 => tL3 X.K W Uk σ H1 fun zs H2 => vs.length = 0 ∧ zs.length = ks.length ∧ spW X.K F (permL ix (vs ++ zs)) H2 Q (WE W σ)) [] s := by
        obtain ⟨S, R, env, φ, lk, ok, hT, hQ⟩ := h
        exact ⟨[], H, I, .nil, hQ [] H ⟨R, [], Fin.refl ok.bas, rfl, hT⟩⟩
      refine thn (hkw.run pos pins s σ H1 _ I1 q) fun ws s2 ⟨zs, H2, I2, rz, l1, l2, q2⟩ => ⟨I2.kIn, ?_⟩
      rw [hks]
      exact call_kw (args := ⟨[], ks.zip ws⟩) G hr tk I2 (hb s2 [] ws I2.kIn rfl (rz.length.symm.trans l2)) (vals_perm (r.append rz) ix) q2) hpl) hD)⟩ fun S R H σ env φ lk ok h => tcallk_ask lk ok h
/-- C.m(k = v, ..), m a staticmethod -/
theorem de_smethK0 {pl : Sem Bool} {p : Addr} (hm : SMet X.K C m p f) (G : Fn3O X.prog X.w X.K X.mg X.base k f fd ps F) (hb : KwB X.K fd ps 0 ks ix) (hr : Room k X.A) (hG : Gl X x) (hM : X.mg x = some (.ref C)) (tk : L2.Takes X W) (hkw : DK X W kws Uk)
    (hD : (x == ("__debug__" : Str)) = false := by decide) (hall : (backToKw pos (keywordEach kws X.env)).all (·.1.isSome) = true := by rfl) (hks : (backToKw pos (keywordEach kws X.env)).filterMap (·.1) = ks := by rfl)
    (hpl : ((backTo pos (starEach [] X.env)).any (·.1) || (backToKw pos (keywordEach kws X.env)).any (·.1.isNone)) = false := by rfl)
    (ht : eval (.Call (.Attribute (.Name x p0) m apos) [] kws pos) X.env = (do let ov ← eval (.Name x p0) X.env; standAt apos.atName; let (g, first) ← holding [ov] (getMethod ov m pl); callWith pos g first (backTo pos (starEach [] X.env)) (backToKw pos (keywordEach kws X.env))) := by rfl) :
    DE X W (.Call (.Attribute (.Name x p0) m apos) [] kws pos) (TCallK F 0 ks.length ix TNil Uk) :=
  de_mk (t := fun σ H Q => tL3 X.K W TNil σ H fun vs H1 => tL3 X.K W Uk σ H1 fun zs H2 => vs.length = 0 ∧ zs.length = ks.length ∧ spW X.K F (permL ix (vs ++ zs)) H2 Q (WE W σ))
    ⟨fun pins s σ H Q I h => PySem.W.methodCall_KW (pl := pl) (ld_glob I hG hM (by
      obtain ⟨rest, hp⟩ := hm.rc
      refine PySem.W.method_cls I.kIn hm.cr.ga (PySem.W.cls_bind I.kIn hm.cr.rd hm.at_ (wpAny_call (PySem.W.sm_get (s := { s with toks := s.toks + 1 }) I.kIn hp (PySem.W.handed_on rfl ?_))))
      have I' : L2.Inv X pins σ H { s with toks := s.toks + 1 } := I.tok _
      refine PySem.W.callWith_KW0 (first := []) I'.kIn hm.kp hall ?_ hpl
      obtain ⟨vs, H1, I1, r, q⟩ : AP X pins σ (fun vs H1 => tL3 X.K W Uk σ H1 fun zs H2 => vs.length = 0 ∧ zs.length = ks.length ∧ spW X.K F (permL ix (vs ++ zs)) H2 Q (WE W σ)) [] { s with toks := s.toks + 1 } := by
        obtain ⟨S, R, env, φ, lk, ok, hT, hQ⟩ := h
        exact ⟨[], H, I', .nil, hQ [] H ⟨R, [], Fin.refl ok.bas, rfl, hT⟩⟩
      refine thn (hkw.run pos pins _ σ H1 _ I1 q) fun ws s2 ⟨zs, H2, I2, rz, l1, l2, q2⟩ => ⟨I2.kIn, ?_⟩
      rw [hks]
      exact call_kw (args := ⟨[], ks.zip ws⟩) G hr tk I2 (hb s2 [] ws I2.kIn rfl (rz.length.symm.trans l2)) (vals_perm (r.append rz) ix) q2) hD) ht⟩
    fun S R H σ env φ lk ok h => tcallk_ask lk ok h
end
/-! ### the same rules, their readings free of the body's own names -/
theorem de_fldK {K : PySem.W.Frag} {f : Str} {T : TD} (ha : DE X W a T) (hK : X.K = K := by rfl) (hb : attributeBase a f X.env (eval a X.env) = eval a X.env := by rfl) : DE X W (.Attribute a f pos) (TFld K T f) := by
  subst hK
  exact de_fld ha hb
theorem de_conK {K : PySem.W.Frag} {f : Str} {T : TD} (ha : DE X W a T) (hK : X.K = K := by rfl) (hb : attributeBase a f X.env (eval a X.env) = eval a X.env := by rfl) : DE X W (.Attribute a f pos) (TCon K T f) := by
  subst hK
  exact de_con ha hb
theorem de_fldOK {K : PySem.W.Frag} (i : Nat) {x : Str} {p0 : Pos} {f : Str} (hK : X.K = K := by rfl) (hN : X.N[i]? = some x := by rfl) (hv : Vis X.env.scope x := by first | exact Or.inl rfl | exact Or.inr (Or.inl rfl) | exact Or.inr (Or.inr rfl)) (hd : (x == ("__debug__" : Str)) = false := by decide)
    (hcd : (x == ("__classdict__" : Str)) = false := by decide) (hb : attributeBase (.Name x p0) f X.env (eval (.Name x p0) X.env) = eval (.Name x p0) X.env := by rfl) : DE X W (.Attribute (.Name x p0) f pos) (TFldO K i f) := by
  subst hK
  exact de_fldO i hN hv hd hcd hb
theorem ds_putFK {K : PySem.W.Frag} (i : Nat) {x f : Str} {p0 pos' : Pos} {e : Expr} {T : TD} (he : DE X W e T) (hK : X.K = K := by rfl) (hN : X.N[i]? = some x := by rfl) (hv : Vis X.env.scope x := by first | exact Or.inl rfl | exact Or.inr (Or.inl rfl) | exact Or.inr (Or.inr rfl))
    (hd : (x == ("__debug__" : Str)) = false := by decide) (hcd : (x == ("__classdict__" : Str)) = false := by decide) (hs : swapsWith e (some (.Attribute (.Name x p0) f pos')) pos.line X.env = pure false := by rfl) :
    DS X W (.Assign [.Attribute (.Name x p0) f pos'] e pos) (TPutF K i f T) := by
  subst hK
  exact ds_putF i he hN hv hd hcd hs
end
/-! ### xs != [] -/
section
variable {X : Cx}
def rNeNil (K : PySem.W.Frag) : R2 := fun x y H Q => ∃ a b xs, x = .ref a ∧ y = .ref b ∧ SqL K H a xs ∧ SqL K H b [] ∧ Q (.bl (!xs.isEmpty)) H
theorem op_neNil (hu : X.A.units + 64 < cLine) : OpR X (compareOp .NotEq) (rNeNil X.K) := by
  intro pins s σ H x y v u Q I rx ry ⟨a, b, xs, e1, e2, h1, h2, q⟩
  subst e1 e2
  cases xs with
  | nil => exact op_neD hu pins s σ H _ _ v u Q I rx ry ⟨.list [], .list [], .lst h1 .nil, .lst h2 .nil, rfl, rfl, q⟩
  | cons z zs =>
    obtain rfl : v = Value.ref a := rx
    obtain rfl : u = Value.ref b := ry
    obtain ⟨its, r1, l1, _⟩ := I.list h1
    obtain ⟨its2, r2, l2, _⟩ := I.list h2
    cases r2
    have hl := r1.length
    refine SeqAt.RcNeAt.lists_lengths l1.isList l2.isList (by
      rw [List.size_toArray, ← hl]
      rfl) (by omega) X.prog X.w X.xe _ ⟨.bl true, H, I, rfl, q⟩
def neNilF : F2
  | .lst ds, .lst [], φ => φ (.bl (!ds.isEmpty))
  | _, _, _ => False
theorem opd_neNil {K : PySem.W.Frag} : OpD K (rNeNil K) neNilF := fun c R H x y dx dy φ Q b r1 r2 q k => by
  unfold neNilF at q
  split at q
  · obtain ⟨p, xs, e, hh, hr⟩ := rep_lst r1
    obtain ⟨p2, ys, e2, hh2, hr2⟩ := rep_lst r2
    subst e e2
    have e3 : ys = [] := hr2
    subst e3
    refine ⟨p, p2, xs, rfl, rfl, SqL.of (b.sub _ _ hh), SqL.of (b.sub _ _ hh2), k _ _ (Pst.now b (d := .bl _) ?_ q)⟩
    have hE : ∀ (xs : List V) (es : List D), xs.length = es.length → xs.isEmpty = es.isEmpty := by
      intro xs es
      cases xs <;> cases es <;> simp
    rw [← hE _ _ hr.length]
    rfl
  · exact q.elim
end
end L3
/-! L3o: order of plain data, enumerate over a tuple, a list lent for an answer that holds no list, an own list by a comprehension -/
namespace L3
open PySem PySem.Spec PyProof.Rows L2
section
variable {X : Cx} {W : WX} {pos : Pos} {a b e elt tg iter : Expr} {T Ta Tb : TD} {A : TB}
theorem takesN : L2.Takes X (fun _ _ _ _ => False) := fun _ _ ⟨_, _, _, _, _, _, _, _, _, _, _, _, _, _, _, _, h⟩ => h.elim
/-! ### order -/
def rLtD (K : PySem.W.Frag) : R2 := fun x y H Q => ∃ d e, Dp K H x d ∧ Dp K H y e ∧ PySem.W.alike d e = true ∧ d ≠ .none ∧ d.depth ≤ 63 ∧ Q (.bl (PySem.W.dataLt d e)) H
def rGtD (K : PySem.W.Frag) : R2 := fun x y H Q => ∃ d e, Dp K H x d ∧ Dp K H y e ∧ PySem.W.alike d e = true ∧ d ≠ .none ∧ d.depth ≤ 63 ∧ Q (.bl (PySem.W.dataLt e d)) H
theorem op_ltD (hu : X.A.units + 64 < cLine) : OpR X (compareOp .Lt) (rLtD X.K) := by
  intro pins s σ H x y v u Q I rx ry h
  obtain ⟨d, e, hd, he, ha, hn, hz, q⟩ := h
  obtain ⟨as, r1⟩ := Dp.reads I d x v hd rx
  obtain ⟨bs, r2⟩ := Dp.reads I e y u he ry
  exact PySem.W.lt_data r1 r2 ha hn (by omega) ⟨.bl _, H, I, rfl, q⟩
theorem op_gtD (hu : X.A.units + 64 < cLine) : OpR X (compareOp .Gt) (rGtD X.K) := by
  intro pins s σ H x y v u Q I rx ry h
  obtain ⟨d, e, hd, he, ha, hn, hz, q⟩ := h
  obtain ⟨as, r1⟩ := Dp.reads I d x v hd rx
  obtain ⟨bs, r2⟩ := Dp.reads I e y u he ry
  exact PySem.W.gt_data r1 r2 ha hn (by omega) ⟨.bl _, H, I, rfl, q⟩
def ltDF : F2 := fun x y φ => isP x = true ∧ isP y = true ∧ PySem.W.alike (toP x) (toP y) = true ∧ toP x ≠ .none ∧ (toP x).depth ≤ 63 ∧ φ (.bl (PySem.W.dataLt (toP x) (toP y)))
def gtDF : F2 := fun x y φ => isP x = true ∧ isP y = true ∧ PySem.W.alike (toP x) (toP y) = true ∧ toP x ≠ .none ∧ (toP x).depth ≤ 63 ∧ φ (.bl (PySem.W.dataLt (toP y) (toP x)))
theorem opd_ltD {K : PySem.W.Frag} : OpD K (rLtD K) ltDF := fun c R H x y dx dy φ Q b r1 r2 ⟨p1, p2, s1, s2, s3, q⟩ k =>
  ⟨_, _, dp_of p1 (r1.mono b.sub), dp_of p2 (r2.mono b.sub), s1, s2, s3, k _ _ (Pst.now b (show Rep K R (.bl _) _ from rfl) q)⟩
theorem opd_gtD {K : PySem.W.Frag} : OpD K (rGtD K) gtDF := fun c R H x y dx dy φ Q b r1 r2 ⟨p1, p2, s1, s2, s3, q⟩ k =>
  ⟨_, _, dp_of p1 (r1.mono b.sub), dp_of p2 (r2.mono b.sub), s1, s2, s3, k _ _ (Pst.now b (show Rep K R (.bl _) _ from rfl) q)⟩
/-! ### enumerate(tuple) -/
def IteT (K : PySem.W.Frag) (a : Addr) : It :=
  ⟨fun i H => ∃ (xs : List V) (x : V), SqT K H a xs ∧ xs[i]? = some x, fun i H v H' => ∃ T x, v = .ref T ∧ H T = none ∧ H' = upd H T (.tup [.int (i : Nat), x]) ∧ ∀ xs, SqT K H a xs → xs[i]? = some x, fun i H => ∃ xs : List V, SqT K H a xs ∧ xs.length ≤ i⟩
theorem turn_enumT {P : Program} {w : World} {K : PySem.W.Frag} {elts : List Expr} {kk : Nat} {tpos : Pos} (a e it : Addr) :
    Turn P w K (.Tuple elts kk tpos) (IteT K a) [e, it] e (fun i h => (∃ old, IsEnum h e it ((i : Nat) : Int) old) ∧ h.IsTupleIter it a i ∧ e ≠ it ∧ a ≠ it ∧ a ≠ e) where
  mem := by simp
  obj := fun i h st b hb => by
    obtain ⟨⟨old, he⟩, ⟨o, ho, hc, hd⟩, _⟩ := st
    have e' : b = e ∨ b = it := by simpa using hb
    rcases e' with z | z
    · rw [z]; exact ⟨_, he, fun v q => nomatch q⟩
    · rw [z]; exact ⟨o, ho, fun v q => by rw [hd] at q; cases q⟩
  keep := fun i h h' st k => let ⟨⟨old, he⟩, hi, hne⟩ := st; ⟨⟨old, k e (by simp) _ he⟩, hi.at fun o q => k it (by simp) o q, hne⟩
  item := by
    intro X hP hw hK hc i pins s σ H E I hf st hg
    subst hP hw hK
    obtain ⟨⟨old, he⟩, hit, hne, hn1, hn2⟩ := st
    obtain ⟨xs, x, hq, hx⟩ := hg
    obtain ⟨its, rv, p, hz⟩ := I.tuple hq
    obtain ⟨u, hu, ru⟩ := rv.get hx
    have hel : e < s.heap.objs.size := Heap.lt_size he
    have hil : it < s.heap.objs.size := by obtain ⟨_, q, _⟩ := hit; exact Heap.lt_size q
    have hlt : i < its.toArray.size := by
      have := (List.getElem?_eq_some_iff.mp hu).1
      simpa using this
    refine wpAny_pyNext_enum_itemC (Draws.tuple (A := X.A.in1) (show X.A.in1.handled = none from I.ok.hd hc) it a hn1 its.toArray) he ⟨hit, p⟩ hlt hne (by simp [hne, Ne.symm hn2]) fun u' h' tk hP' ho ⟨hit', _⟩ hT hsz hk => ?_
    have eu : u' = u := by
      have h1 : its.toArray[i]? = some u := by simpa using hu
      rw [h1] at hP'
      exact (Option.some.inj hP').symm
    subst eu
    refine ⟨_, rfl, wpAny_letOwnedTupleGo_enum (s := { s with heap := h', toks := tk + 1 }) ho fun h'' he' sb => ?_⟩
    have hT2 : h''.get? s.heap.objs.size = some { cls := .type "tuple", data := .seq #[.int i tk, u'] } := (sb.2 _ (Nat.ne_of_gt hel)).trans hT
    have new : ObjOk X.prog X.w (upd H s.heap.objs.size (.tup [.int (i : Nat), x])) h'' s.heap.objs.size (.tup [.int (i : Nat), x]) :=
      ⟨by show 2 ≤ sizeLine; decide, [.int i tk, u'], .cons ⟨_, rfl⟩ (.cons ru .nil), ⟨_, hT2, rfl, _, rfl⟩⟩
    have I1 : Inv X pins σ (upd H s.heap.objs.size (.tup [.int (i : Nat), x])) { s with heap := h'', toks := tk + 1 } :=
      I.turnedNew (ch := [e, it]) (fun b ob hb q => (sb.2 b (fun z => hb (by simp [z]))).trans (hk b ob (fun z => hb (by simp [z])) (fun z => hb (by simp [z])) q)) hf (Nat.le_refl _) new
    refine ⟨.ref s.heap.objs.size, _, I1, rfl, ⟨_, x, rfl, I.hok.fresh (Nat.le_refl _), rfl, fun ys hy => by rw [I.tuple_inj hy hq]; exact hx⟩, ⟨⟨u', ?_⟩, hit'.at fun o q => (sb.2 it (Ne.symm hne)).trans q, hne, hn1, hn2⟩, fun b hb => ?_⟩
    · have e1 : ((i + 1 : Nat) : Int) = (i : Int) + 1 := by omega
      rw [e1]; exact he'
    · have hb' : b < s.heap.objs.size := by
        have e' : b = e ∨ b = it := by simpa using hb
        rcases e' with z | z
        · rw [z]; exact hel
        · rw [z]; exact hil
      rw [upd_ne (Nat.ne_of_lt hb')]
      exact (hf b hb).1
  done := by
    intro X hP hw hK hc i pins s σ H E I hf st hg
    subst hP hw hK
    obtain ⟨⟨old, he⟩, hit, hne, hn1, hn2⟩ := st
    obtain ⟨xs, hq, hx⟩ := hg
    obtain ⟨its, rv, p, hz⟩ := I.tuple hq
    obtain ⟨f0, f1, f2, f3, f4, f5⟩ := hf it (by simp)
    have hl := rv.length
    have hT : s.TypeIs (.ref e) "enumerate" := ⟨_, he, rfl⟩
    unfold pyNext
    refine wpAny_bind (wpAny_attempt (wpAny_callSpecial?_slot (name := Str.ofString "__next__") hT F.slot_enumerate_next (wpAny_call_entry F.slot_enumerate_next hT F.entry_enumerate_next ?_ (F.args_enumerate_next_1 _))))
    show wpAny _ _ (field (.ref e) 2 >>= _) _ _ _
    refine wpAny_bind (wpAny_field he rfl (x := .ref it) rfl ?_)
    refine wpAny_bind (wpAny_nextOf_tuple_end (I.ok.hd hc) hit p (by simp; omega) fun h' x eb hx' => ?_)
    obtain ⟨o, ho, hc'⟩ := hx'
    refine wpAny_bind (wpAny_isInstance (T := "StopIteration") (b := true) ⟨o, ho, hc'⟩ isSubtype_stop ?_)
    exact wpAny_pure ⟨rfl, I.turned (t' := s.toks) (fun b o hb q => eb b o hb q) f0 f1 f3 f4 f5⟩
  self := fun A i s Q E st h => let ⟨⟨_, he⟩, _⟩ := st; wpAny_pyIter_enum he h
theorem meets_enumT {v : Value} {o : Obj} {H : Heap → Prop} (B : Begins v o H) :
    Meets (Builtin.«enumerate.__new__» ⟨[.type "enumerate", v], []⟩) (fun _ R s => H s.heap ∧
      R (.ok (.ret (.ref (s.heap.push o).objs.size))) { s with heap := (s.heap.push o).push { cls := .type "enumerate", data := .fields #[.none, .bool false, .ref s.heap.objs.size, rawInt 0, .none, .none] } }) :=
  .of_wp fun prog w A R s h => by
    obtain ⟨hp, g, d, tk, os⟩ := s; obtain ⟨h1, h⟩ := h
    have hsub := sub_enumerate
    have q1 : ∀ {A' : Around} {E : Value → Shared → Prop} {Q : Value → Shared → Prop}, Q (.ref hp.objs.size) ⟨hp.push o, g, d, tk, os⟩ → wpAny (model prog w) A' (pyIter v) Q E ⟨hp, g, d, tk, os⟩ :=
      fun q => B.iter prog w _ _ ⟨hp, g, d, tk, os⟩ _ h1 q
    wp_walk using q1
    refine wpAny_stack_any fun st => wpAny_pure ?_
    split
    · rename_i c _ _ _ _ _
      cases (c == Value.type "enumerate")
      · wp_walk using q1
        exact ⟨_, rfl, h⟩
      · wp_walk using q1
        exact ⟨_, rfl, h⟩
    · wp_walk using q1
      exact ⟨_, rfl, h⟩
theorem call_enumT {prog : Program} {w : World} {A : Around} {E : Value → Shared → Prop} {s : Shared} {l : Addr} {items : Array Value} {Q : Value → Shared → Prop} (hL : s.heap.IsTuple l items)
    (h : ∀ h', IsEnum h' (s.heap.objs.size + 1) s.heap.objs.size 0 .none → h'.IsTupleIter s.heap.objs.size l 0 → h'.objs.size = s.heap.objs.size + 2 →
      (∀ b o, s.heap.get? b = some o → h'.get? b = some o) → Q (.ref (s.heap.objs.size + 1)) { s with heap := h' }) :
    wpAny (model prog w) A (call (.type "enumerate") [.ref l]) Q E s := by
  refine callType_new F.called_enumerate (by decide) (F.typeCall_enumerate_1 _) (F.newCall_enumerate_1 _) (fun obj => F.args_object_init_2 obj _) F.entry_enumerate_new
    (meets_enumT (begins_tuple l items)) ⟨hL, ?_⟩
  have hz : (s.heap.push { cls := .type "tuple_iterator", data := .fields #[.ref l, .int 0 0] }).objs.size = s.heap.objs.size + 1 := Heap.size_push ..
  show _ ∧ _
  rw [hz]
  have he : IsEnum ((s.heap.push { cls := .type "tuple_iterator", data := .fields #[.ref l, .int 0 0] }).push
      { cls := .type "enumerate", data := .fields #[.none, .bool false, .ref s.heap.objs.size, rawInt 0, .none, .none] }) (s.heap.objs.size + 1) s.heap.objs.size 0 .none := by
    have := Heap.get?_push_size (s.heap.push { cls := .type "tuple_iterator", data := .fields #[.ref l, .int 0 0] })
      (o := { cls := .type "enumerate", data := .fields #[.none, .bool false, .ref s.heap.objs.size, rawInt 0, .none, .none] }) rfl
    rw [hz] at this; exact this
  refine ⟨⟨_, he, rfl⟩, h _ he ⟨_, Heap.get?_push_of_some _ (Heap.get?_push_size _ rfl), rfl, rfl⟩ (by rw [Heap.size_push, hz]) fun b o x => Heap.get?_push_of_some _ (Heap.get?_push_of_some _ x)⟩
def iEnumT (K : PySem.W.Frag) (ta : TA) : TI := fun σ H R => ta σ H fun vs H1 => ∃ a xs, vs = [.ref a] ∧ SqT K H1 a xs ∧ R (IteT K a) H1
theorem pi_enumT {X : Cx} {e : Expr} {ta : TA} {p pos tpos : Pos} {elts : List Expr} {kk : Nat} (hg : Gl X "enumerate") (hm : X.mg "enumerate" = none) (ha : PA X [e] ta) (hs : starEach [e] X.env = [(false, eval e X.env)] := by rfl) :
    PI X (.Tuple elts kk tpos) (.Call (.Name "enumerate" p) [e] [] pos) (iEnumT X.K ta) := by
  refine ⟨fun pins s σ H R I h => ?_⟩
  refine Call_ (ld_blt I hg hm boot_enumerate (PyProof.Rows.callWith_type1 (thn (ha.run pos pins s σ H _ I h) fun us s1 ⟨vs, H1, I1, r1, q1⟩ => ?_) hs rfl))
  obtain ⟨a, xs, ex, hq, q⟩ := q1
  subst ex
  cases r1 with
  | cons r rr =>
    cases rr
    cases r
    obtain ⟨its, rv, p', hz⟩ := I1.tuple hq
    have hal : a < s1.heap.objs.size := by obtain ⟨_, q, _⟩ := p'; exact Heap.lt_size q
    refine call_enumT p' fun h' he hit hsz hk => wpAny_pyIter_enum he ?_
    have I2 : Inv X pins σ H1 { s1 with heap := h' } := I1.kept (t' := s1.toks) hk
    refine ⟨s1.heap.objs.size + 1, [s1.heap.objs.size + 1, s1.heap.objs.size], _, _, H1, rfl, I2, turn_enumT a (s1.heap.objs.size + 1) s1.heap.objs.size, ⟨⟨.none, he⟩, hit, Nat.succ_ne_self _, Nat.ne_of_lt hal, Nat.ne_of_lt (Nat.lt_succ_of_lt hal)⟩, fun b hb => ?_, q⟩
    have e' : b = s1.heap.objs.size + 1 ∨ b = s1.heap.objs.size := by simpa using hb
    have hle : s1.heap.objs.size ≤ b := by
      rcases e' with z | z
      · rw [z]; exact Nat.le_add_right _ _
      · rw [z]; exact Nat.le_refl _
    exact I1.fpOk hle (I1.hok.fresh hle)
theorem itok_enumT {K : PySem.W.Frag} {w : Wd} {R : Hp} {p : Addr} {xs : List V} {ds : List D} (h : R p = some (.tup xs)) (r : Reps K R ds xs) : ItOk K w (IteT K p) R (enumD 0 ds) where
  go := fun i R1 H d s b e => by
    obtain ⟨x, e1, _⟩ := enumD_get e
    obtain ⟨v, hv, _⟩ := r.get e1
    exact ⟨xs, v, SqT.of (b.sub _ _ (s _ _ h)), hv⟩
  stop := fun i R1 H s b e => ⟨xs, SqT.of (b.sub _ _ (s _ _ h)), by rw [r.length]; rw [enumD_len] at e; exact e⟩
  yld := fun i R1 H x H' d s b e y => by
    obtain ⟨T, x1, ex, hT, eH, k1⟩ := y
    subst ex eH
    obtain ⟨dx, e1, e3⟩ := enumD_get e
    subst e3
    obtain ⟨v, hv, rv⟩ := r.get e1
    have a1 := k1 xs (SqT.of (b.sub _ _ (s _ _ h)))
    rw [hv] at a1
    have z1 := Option.some.inj a1
    subst z1
    have f := Fin.alloc (o := .tup [.int (i : Nat), v]) b hT
    have e0 : ((0 + i : Nat) : Int) = (i : Nat) := by omega
    exact ⟨_, f, T, [.int (i : Nat), v], rfl, upd_same, ⟨_, [v], rfl, by rw [e0]; rfl, v, [], rfl, (rv.mono s).mono f.up, rfl⟩⟩
def TIenT (U : TL) : TL := fun c env φ => U c env fun ds => ∃ es, ds = [.tup es] ∧ φ (enumD 0 es)
theorem di_enumT {e : Expr} {p tpos : Pos} {elts : List Expr} {kk : Nat} {U : TL} (hg : Gl X "enumerate") (hm : X.mg "enumerate" = none) (ha : DA X W [e] U) (hs : starEach [e] X.env = [(false, eval e X.env)] := by rfl) :
    DI X W (.Tuple elts kk tpos) (.Call (.Name "enumerate" p) [e] [] pos) (TIenT U) :=
  pi_imp (pi_enumT hg hm ha hs) fun σ H Q ⟨S, R, env, φ, lk, ok, q, hQ⟩ => tL3.ask lk ok q fun R1 H1 ds vs f1 ok1 r1 ⟨es, e, q1⟩ => by
    subst e
    obtain ⟨v, e, h1⟩ := reps1 r1
    subst e
    obtain ⟨p1, xs, e, hh, hr⟩ := rep_tup h1
    subst e
    exact ⟨p1, xs, rfl, SqT.of (ok1.bas.sub _ _ hh), hQ _ _ R1 _ f1 (itok_enumT hh hr) q1⟩
/-! ### lent, the answer holds no list -/
mutual
def noL : D → Bool
  | .non => true
  | .bl _ => true
  | .int _ => true
  | .str _ => true
  | .ty _ => true
  | .ref _ => true
  | .tup ds => noLs ds
  | .ins _ fs => noLf fs
  | _ => false
def noLs : List D → Bool
  | [] => true
  | d :: r => noL d && noLs r
def noLf : List (Str × D) → Bool
  | [] => true
  | (_, d) :: r => noL d && noLf r
end
theorem noLs_map {α : Type} {f : α → D} : ∀ {xs : List α}, (∀ x ∈ xs, noL (f x) = true) → noLs (xs.map f) = true
  | [], _ => rfl
  | x :: xs, h => by
    show (noL (f x) && noLs (xs.map f)) = true
    rw [h x List.mem_cons_self, noLs_map fun y hy => h y (List.mem_cons_of_mem _ hy)]
    rfl
def offL (p : Addr) (R : Hp) : Hp := fun b => if b = p then none else R b
theorem offL_ne {p b : Addr} {R : Hp} (h : b ≠ p) : offL p R b = R b := if_neg h
theorem offL_at {p : Addr} {R : Hp} : offL p R p = none := if_pos rfl
mutual
theorem rep_off {K : PySem.W.Frag} {R : Hp} {p : Addr} {xs : List V} (hp : R p = some (.lst xs)) : ∀ {d : D} {v : V}, noL d = true → Rep K R d v → Rep K (offL p R) d v
  | .non, _, _, r => r
  | .bl _, _, _, r => r
  | .int _, _, _, r => r
  | .str _, _, _, r => r
  | .ty _, _, _, r => r
  | .ref _, _, _, r => r
  | .tup ds, v, n, r => by
    obtain ⟨q, ys, e, hh, hr⟩ := rep_tup r
    have hq : q ≠ p := fun z => by rw [z, hp] at hh; cases hh
    exact ⟨q, ys, e, by rw [offL_ne hq]; exact hh, reps_off hp n hr⟩
  | .ins C fs, v, n, r => by
    obtain ⟨q, dx, ys, e, hh, hr⟩ := (show ∃ p dx fvs, v = .ref p ∧ R p = some (.ins C dx fvs) ∧ RepF K R fs fvs from r)
    have hq : q ≠ p := fun z => by rw [z, hp] at hh; cases hh
    exact ⟨q, dx, ys, e, by rw [offL_ne hq]; exact hh, repf_off hp n hr⟩
  | .lst _, _, n, _ => Bool.noConfusion n
  | .exc _ _, _, n, _ => Bool.noConfusion n
  | .clo _ _, _, n, _ => Bool.noConfusion n
  | .lam _ _, _, n, _ => Bool.noConfusion n
  | .dic _, _, n, _ => Bool.noConfusion n
theorem reps_off {K : PySem.W.Frag} {R : Hp} {p : Addr} {xs : List V} (hp : R p = some (.lst xs)) : ∀ {ds : List D} {vs : List V}, noLs ds = true → Reps K R ds vs → Reps K (offL p R) ds vs
  | [], _, _, r => r
  | d :: ds, vs, n, r => by
    obtain ⟨v, t, e, h1, h2⟩ := (show ∃ v r, vs = v :: r ∧ Rep K R d v ∧ Reps K R ds r from r)
    obtain ⟨n1, n2⟩ := Bool.and_eq_true_iff.mp (show (noL d && noLs ds) = true from n)
    exact ⟨v, t, e, rep_off hp n1 h1, reps_off hp n2 h2⟩
theorem repf_off {K : PySem.W.Frag} {R : Hp} {p : Addr} {xs : List V} (hp : R p = some (.lst xs)) : ∀ {ds : List (Str × D)} {vs : List (Str × V)}, noLf ds = true → RepF K R ds vs → RepF K (offL p R) ds vs
  | [], _, _, r => r
  | (f, d) :: ds, vs, n, r => by
    obtain ⟨v, t, e, h1, h2⟩ := (show ∃ v r, vs = (f, v) :: r ∧ Rep K R d v ∧ RepF K R ds r from r)
    obtain ⟨n1, n2⟩ := Bool.and_eq_true_iff.mp (show (noL d && noLf ds) = true from n)
    exact ⟨v, t, e, rep_off hp n1 h1, repf_off hp n2 h2⟩
end
def TBorN (i : Nat) (T : TD) : TD := fun c env φ => ∃ p ds, env[i]? = some (.ol p ds) ∧ T c (env.set i (.v (.lst ds))) fun d => noL d = true ∧ φ d
theorem de_borN (i : Nat) (he : DE X W e T) : DE X W e (TBorN i T) :=
  ⟨fun pins s σ H Q I ⟨S, R, env, φ, lk, ok, ⟨p, ds, e0, q⟩, hQ⟩ => by
    obtain ⟨xs, hn, o'⟩ := (ok.rebase).freezeP e0
    have sm : Same R (upd R p (.lst xs)) := o'.rb
    have ok' := o'.back ok.rb
    refine he.run pins s σ H Q I ⟨S, upd R p (.lst xs), _, _, lk, ok', q, fun v H' ⟨R2, d, f, r, hf, q2⟩ => hQ v H' ⟨offL p R2, d, ⟨fun b o h => ?_, fun b o h => ?_, f.keep, fun b o h1 h2 h3 => ?_, f.inv, fun b hb => ?_⟩, rep_off (f.up _ _ upd_same) hf r, q2⟩⟩
    · have hb : b ≠ p := fun z => by rw [z, hn] at h; cases h
      rw [offL_ne hb]
      exact f.up b o (sm b o h)
    · have hb : b ≠ p := fun z => by rw [z, offL_at] at h; cases h
      rw [offL_ne hb] at h
      exact f.sub b o h
    · by_cases hb : b = p
      · rw [hb]; exact offL_at
      · rw [offL_ne hb]
        exact f.newX b o (by rw [upd_ne hb]; exact h1) h2 h3
    · by_cases hb : b = p
      · subst hb; exact offL_at
      · rw [offL_ne hb]; exact f.ft b ‹_›⟩
/-! ### x = [.. for ..], an own list -/
def TOwnLc (i : Nat) (U : TL) (g : TGD) (A : TB) (T : TD) (vs : List Nat) : TSD := fun c D env => U c env fun ds => CompD g A T c.in (wipeD env vs) ds [] fun out => ∀ p, D.nx (env.set i (.ol p out))
theorem lcO_ask {S : Sta} {R H : Hp} {σ : L2.St} {env : Ev} {U : TL} {g : TGD} {vs : List Nat} {φ : List L3.D → Prop} (lk : Lk X.K S W) (ok : Ok3 X.K S R H σ env) {Q : VK} (q : U S.c env fun ds => CompD g A T S.c.in (wipeD env vs) ds [] φ)
    (kQ : ∀ p accV acc R2 Hh, Fin S.c.wd R H R2 Hh → R2 p = none → Hh p = some (.lst accV) → Reps X.K R2 acc accV → S.H0 p = none → ¬ S.c.wd.foot p → (∀ j, adAt env j ≠ some p) → φ acc → Q (.ref p) Hh) :
    tLc (tI3 X.K W U) (gD3 X.K vs g) (tB3 X.K WF A) (tD X.K WF T) vs σ H Q := by
  refine ⟨S, R, env, _, lk, ok, q, fun J H1 R1 ds f1 io q1 D hD => ?_⟩
  have nf := not_foot f1.bas hD
  have nR := not_R f1.bas hD
  obtain ⟨_, m2, m3, m4⟩ := (ok.through f1).fresh_not hD
  refine ⟨fun i m Hh => m = ds.length - i ∧ ∃ R2 acc accV, Fin S.c.wd R1 H1 R2 Hh ∧ R2 D = none ∧ Hh D = some (.lst accV) ∧ Reps X.K R2 acc accV ∧ CompD g A T S.c.in (wipeD env vs) (ds.drop i) acc φ,
    ⟨ds.length, by simp, R1, [], [], Fin.fresh f1.bas hD, nR, upd_same, rfl, by rw [List.drop_zero]; exact q1⟩, ?_⟩
  rintro i m Hh ⟨rfl, R2, acc, accV, f2, n2, h2, r2, q2⟩
  by_cases hi : i < ds.length
  · have hd := List.getElem?_eq_getElem hi
    refine .inr ⟨io.go i R2 Hh _ f2.up f2.bas hd, fun H' => ∃ R3 acc accV, Fin S.c.wd R1 H1 R3 H' ∧ R3 D = none ∧ H' D = some (.lst accV) ∧ Reps X.K R3 acc accV ∧ CompD g A T S.c.in (wipeD env vs) (ds.drop (i + 1)) acc φ,
      fun H' ⟨R3, ac, av, h1, h2, h3, h4, h5⟩ => ⟨ds.length - (i + 1), by omega, rfl, R3, ac, av, h1, h2, h3, h4, h5⟩, fun x H' y => ?_⟩
    obtain ⟨R3, f3, r3⟩ := io.yld i R2 Hh x H' _ f2.up f2.bas hd y
    have f03 := (f1.trans f2).trans f3
    have ok3 := ok.block f03 vs
    rw [List.drop_eq_getElem_cons hi] at q2
    have n3 := f3.new D _ n2 h2
    have h3 := f3.kept h2 nf
    refine ⟨⟨S.c.in, R3, H', R3⟩, R3, wipeD env vs, _, _, ok3, r3, q2, fun env' σ' hw ok' q' => ⟨hw.trans wipe_wipe, ?_⟩⟩
    refine tB3.ask lk_in ok' q' fun R4 H4 k f4 ok4 q4 => ?_
    have f34 := ok4.fin
    cases k with
    | true =>
      rw [if_pos rfl] at q4
      refine iteT (tD.ask lk_in ok4 q4 fun R5 H5 dy y f5 ok5 ry q5 => ?_)
      have f35 := ok5.fin
      have h5 := f35.kept h3 nf
      have n5 := f35.new D _ n3 h3
      refine ⟨accV, h5, by rw [r2.length]; exact q5.1, R5, acc ++ [dy], accV ++ [y], ((f2.trans f3).trans f35).mut hD n5 nf (fun φ z => by rw [h5] at z; cases z), n5, upd_same, ((r2.mono f3.up).mono f35.up).snoc ry, q5.2⟩
    | false =>
      rw [if_neg Bool.false_ne_true] at q4
      refine iteF ⟨R4, acc, accV, (f2.trans f3).trans f34, f34.new D _ n3 h3, f34.kept h3 nf, (r2.mono f3.up).mono f34.up, q4⟩
  · have e : ds.drop i = [] := List.drop_eq_nil_of_le (by omega)
    rw [e] at q2
    exact .inl ⟨io.stop i R2 Hh f2.up f2.bas (by omega), kQ D accV acc R2 Hh (f1.trans f2) n2 h2 r2 m2 nf m4 q2⟩
theorem ds_ownLc {i : Nat} {y : Str} {py spos : Pos} {ifs : List Expr} {scope : Scope} {own : List (Str × Nat)} {U : TL} {g : TGD} (hc : X.calm = true) (hN : X.N.Nodup) (hy : X.N[i]? = some y) (hyl : X.env.scope.names.lookup y = some .local)
    (hsw : swapsWith (.ListComp elt [⟨tg, iter, ifs, 0⟩] scope pos) (some (.Name y py)) spos.line X.env = pure true) (hi : DI X W tg iter U) (ok : BlkOk X.N X.env.scope scope own)
    (hg : ∀ (s : Shared) (H : Hp) (C : Addr) (cl : List (Str × Addr)) (fp : List Addr), DG (X.blk s H scope (compEnvC scope cl C X.env) fp) (own.map (·.2)) tg g)
    (ht : ∀ (s : Shared) (H : Hp) (C : Addr) (cl : List (Str × Addr)) (fp : List Addr), PTs (X.blk s H scope (compEnvC scope cl C X.env) fp) ifs (tB3 X.K WF A))
    (he : ∀ (s : Shared) (H : Hp) (C : Addr) (cl : List (Str × Addr)) (fp : List Addr), DE (X.blk s H scope (compEnvC scope cl C X.env) fp) WF elt T)
    (hs : ∀ x, foldedSetIterable iter X.env x = pure x := by intro _; rfl) :
    DS X W (.Assign [.Name y py] (.ListComp elt [⟨tg, iter, ifs, 0⟩] scope pos) spos) (TOwnLc i U g A T (own.map (·.2))) :=
  ds_mk (ps_setLc hc hN hy hyl hsw hi ok hg ht he hs) fun S R H σ env D3 lk ok q => lcO_ask lk ok q fun p accV acc R2 Hh f n h r m2 m3 m4 q' => ⟨R2, _, (ok.through f).lateOwn h r n m2 m3 m4, q' p⟩
end
end L3
/-! L3: the plain side: comprehensions, loops, lists of values -/
namespace L3
open PySem PySem.Spec PyProof.Rows L2
/-- a comprehension that keeps every item -/
theorem compD_map {α : Type} {g : TGD} {A : TB} {T : TD} {c : Ct} {env : Ev} {enc f : α → D} {φ : List D → Prop} : ∀ (xs : List α) (acc : List D),
    (∀ x ∈ xs, ∀ (acc : List D) (ψ : List D → Prop), acc.length < sizeLine → ψ (acc ++ [f x]) → g (enc x) env fun env' => A c env' fun k => if k = true then T c env' fun y => acc.length < sizeLine ∧ ψ (acc ++ [y]) else ψ acc) →
    acc.length + xs.length ≤ sizeLine → φ (acc ++ xs.map f) → CompD g A T c env (xs.map enc) acc φ
  | [], acc, _, _, q => show φ acc by simpa using q
  | x :: xs, acc, h, hl, q => by
    refine h x List.mem_cons_self acc (fun out => CompD g A T c env (xs.map enc) out φ) (by rw [List.length_cons] at hl; omega) ?_
    refine compD_map xs (acc ++ [f x]) (fun y hy => h y (List.mem_cons_of_mem _ hy)) (by rw [List.length_append, List.length_singleton]; rw [List.length_cons] at hl; omega) ?_
    simpa using q
/-- one that keeps some -/
theorem compD_fil {α : Type} {g : TGD} {A : TB} {T : TD} {c : Ct} {env : Ev} {enc : α → D} {f : α → Option D} {φ : List D → Prop} : ∀ (xs : List α) (acc : List D),
    (∀ x ∈ xs, ∀ (acc : List D) (ψ : List D → Prop), acc.length < sizeLine → ψ (acc ++ (f x).toList) → g (enc x) env fun env' => A c env' fun k => if k = true then T c env' fun y => acc.length < sizeLine ∧ ψ (acc ++ [y]) else ψ acc) →
    acc.length + xs.length ≤ sizeLine → φ (acc ++ xs.filterMap f) → CompD g A T c env (xs.map enc) acc φ
  | [], acc, _, _, q => show φ acc by simpa using q
  | x :: xs, acc, h, hl, q => by
    refine h x List.mem_cons_self acc (fun out => CompD g A T c env (xs.map enc) out φ) (by rw [List.length_cons] at hl; omega) ?_
    refine compD_fil xs (acc ++ (f x).toList) (fun y hy => h y (List.mem_cons_of_mem _ hy)) ?_ ?_
    · rw [List.length_append]
      rw [List.length_cons] at hl
      cases f x <;> simp <;> omega
    · rw [List.filterMap_cons] at q
      cases e : f x with
      | none =>
        rw [e] at q
        simpa using q
      | some y =>
        rw [e] at q
        simpa using q
theorem compD1_map {α : Type} {g : TGD} {A : TB} {T : TD} {c : Ct} {env : Ev} {enc f : α → D} {φ : List D → Prop} : ∀ (xs : List α) (acc : List D),
    (∀ x ∈ xs, ∀ (acc : List D) (ψ : List D → Prop), acc.length < sizeLine → ψ (acc ++ [f x]) → g (enc x) env fun env' => A c env' fun k => if k = true then T c env' fun y => acc.length < sizeLine ∧ ψ (acc ++ [y]) else ψ acc) →
    acc.length + xs.length ≤ sizeLine → φ (acc ++ xs.map f) → CompD1 g A T c env (xs.map enc) acc φ
  | [], acc, _, _, q => show φ acc by simpa using q
  | x :: xs, acc, h, hl, q => by
    refine h x List.mem_cons_self acc (fun out => CompD1 g A T c env (xs.map enc) out φ) (by rw [List.length_cons] at hl; omega) ?_
    refine compD1_map xs (acc ++ [f x]) (fun y hy => h y (List.mem_cons_of_mem _ hy)) (by rw [List.length_append, List.length_singleton]; rw [List.length_cons] at hl; omega) ?_
    simpa using q
theorem compD2_map {α : Type} {g : TGD} {A : TB} {U1 : TL} {g1 : TGD} {A1 : TB} {T : TD} {vs1 : List Nat} {c : Ct} {env : Ev} {enc : α → D} {f : α → List D} {φ : List D → Prop} : ∀ (xs : List α) (acc : List D),
    (∀ x ∈ xs, ∀ (acc : List D) (ψ : List D → Prop), acc.length + (f x).length ≤ sizeLine → ψ (acc ++ f x) → g (enc x) env fun env' => A c env' fun k => if k = true then U1 c env' fun es => CompD1 g1 A1 T c (wipeD env' vs1) es acc ψ else ψ acc) →
    acc.length + (xs.flatMap f).length ≤ sizeLine → φ (acc ++ xs.flatMap f) → CompD2 g A U1 g1 A1 T vs1 c env (xs.map enc) acc φ
  | [], acc, _, _, q => show φ acc by simpa using q
  | x :: xs, acc, h, hl, q => by
    rw [List.flatMap_cons, List.length_append] at hl
    refine h x List.mem_cons_self acc (fun out => CompD2 g A U1 g1 A1 T vs1 c env (xs.map enc) out φ) (by omega) ?_
    refine compD2_map xs (acc ++ f x) (fun y hy => h y (List.mem_cons_of_mem _ hy)) (by rw [List.length_append]; omega) ?_
    simpa using q
/-- a for over items -/
theorem forD_of {α : Type} {g : TGD} {B : TSD} {c : Ct} {D : EndD} {enc : α → L3.D} (I : List α → Ev → Prop) : ∀ (xs : List α) (env : Ev), I xs env →
    (∀ x rest env (D2 : EndD), D2.rt = D.rt → (∀ env', I rest env' → D2.nx env') → (∀ env', I rest env' → D2.ct env') → D2.bk = D.nx → I (x :: rest) env → g (enc x) env fun env' => B c D2 env') →
    (∀ env, I [] env → D.nx env) → ForD g B c D (xs.map enc) env
  | [], env, h, _, k => k env h
  | x :: xs, env, h, s, k => by
    show g (enc x) env fun env' => B c { D with nx := ForD g B c D (xs.map enc), ct := ForD g B c D (xs.map enc), bk := D.nx } env'
    exact s x xs env _ rfl (fun env' h' => forD_of I xs env' h' s k) (fun env' h' => forD_of I xs env' h' s k) rfl h
/-- a while -/
theorem whD_of {A : TB} {B : TSD} {c : Ct} {D : EndD} (I : Nat → Ev → Prop) (s : ∀ n env (D2 : EndD), D2.rt = D.rt → D2.bk = D.nx → (∀ m env', m < n → I m env' → D2.nx env') → (∀ m env', m < n → I m env' → D2.ct env') → I n env →
    A c env fun k => if k = true then B c D2 env else D.nx env) : ∀ (n : Nat) (env : Ev), I n env → TWh A B c D env := by
  have key : ∀ (N : Nat) (n : Nat) (env : Ev), n ≤ N → I n env → WhN A B c D (N + 1) env := by
    intro N
    induction N with
    | zero =>
      intro n env hn h
      have : n = 0 := by omega
      subst this
      exact s 0 env { D with nx := WhN A B c D 0, ct := WhN A B c D 0, bk := D.nx } rfl rfl (fun m _ hm _ => absurd hm (Nat.not_lt_zero _)) (fun m _ hm _ => absurd hm (Nat.not_lt_zero _)) h
    | succ N ih =>
      intro n env hn h
      exact s n env { D with nx := WhN A B c D (N + 1), ct := WhN A B c D (N + 1), bk := D.nx } rfl rfl (fun m env' hm h' => ih m env' (by omega) h') (fun m env' hm h' => ih m env' (by omega) h') h
  intro n env h
  exact ⟨n + 1, key n n env (Nat.le_refl _) h⟩
@[simp] theorem ko_NoneType_bool {K : PySem.W.Frag} : PySem.W.kitOne K (Value.type "NoneType") (Value.type "bool") = some false := rfl
@[simp] theorem ko_NoneType_int {K : PySem.W.Frag} : PySem.W.kitOne K (Value.type "NoneType") (Value.type "int") = some false := rfl
@[simp] theorem ko_NoneType_str {K : PySem.W.Frag} : PySem.W.kitOne K (Value.type "NoneType") (Value.type "str") = some false := rfl
@[simp] theorem ko_NoneType_tuple {K : PySem.W.Frag} : PySem.W.kitOne K (Value.type "NoneType") (Value.type "tuple") = some false := rfl
@[simp] theorem ko_NoneType_list {K : PySem.W.Frag} : PySem.W.kitOne K (Value.type "NoneType") (Value.type "list") = some false := rfl
@[simp] theorem ko_NoneType_dict {K : PySem.W.Frag} : PySem.W.kitOne K (Value.type "NoneType") (Value.type "dict") = some false := rfl
@[simp] theorem ko_bool_bool {K : PySem.W.Frag} : PySem.W.kitOne K (Value.type "bool") (Value.type "bool") = some true := rfl
@[simp] theorem ko_bool_int {K : PySem.W.Frag} : PySem.W.kitOne K (Value.type "bool") (Value.type "int") = some true := rfl
@[simp] theorem ko_bool_str {K : PySem.W.Frag} : PySem.W.kitOne K (Value.type "bool") (Value.type "str") = some false := rfl
@[simp] theorem ko_bool_tuple {K : PySem.W.Frag} : PySem.W.kitOne K (Value.type "bool") (Value.type "tuple") = some false := rfl
@[simp] theorem ko_bool_list {K : PySem.W.Frag} : PySem.W.kitOne K (Value.type "bool") (Value.type "list") = some false := rfl
@[simp] theorem ko_bool_dict {K : PySem.W.Frag} : PySem.W.kitOne K (Value.type "bool") (Value.type "dict") = some false := rfl
@[simp] theorem ko_int_bool {K : PySem.W.Frag} : PySem.W.kitOne K (Value.type "int") (Value.type "bool") = some false := rfl
@[simp] theorem ko_int_int {K : PySem.W.Frag} : PySem.W.kitOne K (Value.type "int") (Value.type "int") = some true := rfl
@[simp] theorem ko_int_str {K : PySem.W.Frag} : PySem.W.kitOne K (Value.type "int") (Value.type "str") = some false := rfl
@[simp] theorem ko_int_tuple {K : PySem.W.Frag} : PySem.W.kitOne K (Value.type "int") (Value.type "tuple") = some false := rfl
@[simp] theorem ko_int_list {K : PySem.W.Frag} : PySem.W.kitOne K (Value.type "int") (Value.type "list") = some false := rfl
@[simp] theorem ko_int_dict {K : PySem.W.Frag} : PySem.W.kitOne K (Value.type "int") (Value.type "dict") = some false := rfl
@[simp] theorem ko_str_bool {K : PySem.W.Frag} : PySem.W.kitOne K (Value.type "str") (Value.type "bool") = some false := rfl
@[simp] theorem ko_str_int {K : PySem.W.Frag} : PySem.W.kitOne K (Value.type "str") (Value.type "int") = some false := rfl
@[simp] theorem ko_str_str {K : PySem.W.Frag} : PySem.W.kitOne K (Value.type "str") (Value.type "str") = some true := rfl
@[simp] theorem ko_str_tuple {K : PySem.W.Frag} : PySem.W.kitOne K (Value.type "str") (Value.type "tuple") = some false := rfl
@[simp] theorem ko_str_list {K : PySem.W.Frag} : PySem.W.kitOne K (Value.type "str") (Value.type "list") = some false := rfl
@[simp] theorem ko_str_dict {K : PySem.W.Frag} : PySem.W.kitOne K (Value.type "str") (Value.type "dict") = some false := rfl
@[simp] theorem ko_tuple_bool {K : PySem.W.Frag} : PySem.W.kitOne K (Value.type "tuple") (Value.type "bool") = some false := rfl
@[simp] theorem ko_tuple_int {K : PySem.W.Frag} : PySem.W.kitOne K (Value.type "tuple") (Value.type "int") = some false := rfl
@[simp] theorem ko_tuple_str {K : PySem.W.Frag} : PySem.W.kitOne K (Value.type "tuple") (Value.type "str") = some false := rfl
@[simp] theorem ko_tuple_tuple {K : PySem.W.Frag} : PySem.W.kitOne K (Value.type "tuple") (Value.type "tuple") = some true := rfl
@[simp] theorem ko_tuple_list {K : PySem.W.Frag} : PySem.W.kitOne K (Value.type "tuple") (Value.type "list") = some false := rfl
@[simp] theorem ko_tuple_dict {K : PySem.W.Frag} : PySem.W.kitOne K (Value.type "tuple") (Value.type "dict") = some false := rfl
@[simp] theorem ko_list_bool {K : PySem.W.Frag} : PySem.W.kitOne K (Value.type "list") (Value.type "bool") = some false := rfl
@[simp] theorem ko_list_int {K : PySem.W.Frag} : PySem.W.kitOne K (Value.type "list") (Value.type "int") = some false := rfl
@[simp] theorem ko_list_str {K : PySem.W.Frag} : PySem.W.kitOne K (Value.type "list") (Value.type "str") = some false := rfl
@[simp] theorem ko_list_tuple {K : PySem.W.Frag} : PySem.W.kitOne K (Value.type "list") (Value.type "tuple") = some false := rfl
@[simp] theorem ko_list_list {K : PySem.W.Frag} : PySem.W.kitOne K (Value.type "list") (Value.type "list") = some true := rfl
@[simp] theorem ko_list_dict {K : PySem.W.Frag} : PySem.W.kitOne K (Value.type "list") (Value.type "dict") = some false := rfl
/-! == and != of flat values -/
@[simp] theorem eqF_int {i j : Int} {φ : D → Prop} : eqF (.int i) (.int j) φ ↔ φ (.bl (decide (i = j))) := by
  have e : eqF (.int i) (.int j) φ ↔ (true = true ∧ true = true ∧ true = true ∧ true = true ∧ φ (.bl ((i == j)))) := Iff.rfl
  have e2 : (i == j) = decide (i = j) := by
    by_cases h : i = j
    · rw [decide_eq_true h]; exact beq_iff_eq.mpr h
    · rw [decide_eq_false h]; exact beq_eq_false_iff_ne.mpr h
  rw [e, e2]
  simp
@[simp] theorem eqF_str {i j : Str} {φ : D → Prop} : eqF (.str i) (.str j) φ ↔ (SeqAt.shaped (.str i) = true ∧ SeqAt.shaped (.str j) = true ∧ φ (.bl (decide (i = j)))) := by
  have e : eqF (.str i) (.str j) φ ↔ (true = true ∧ true = true ∧ SeqAt.shaped (.str i) = true ∧ SeqAt.shaped (.str j) = true ∧ φ (.bl ((i == j)))) := Iff.rfl
  have e2 : (i == j) = decide (i = j) := by
    by_cases h : i = j
    · rw [decide_eq_true h]; exact beq_iff_eq.mpr h
    · rw [decide_eq_false h]; exact beq_eq_false_iff_ne.mpr h
  rw [e, e2]
  simp
@[simp] theorem eqF_bl {i j : Bool} {φ : D → Prop} : eqF (.bl i) (.bl j) φ ↔ φ (.bl (decide (i = j))) := by
  have e : eqF (.bl i) (.bl j) φ ↔ (true = true ∧ true = true ∧ true = true ∧ true = true ∧ φ (.bl ((i == j)))) := Iff.rfl
  have e2 : (i == j) = decide (i = j) := by
    by_cases h : i = j
    · rw [decide_eq_true h]; exact beq_iff_eq.mpr h
    · rw [decide_eq_false h]; exact beq_eq_false_iff_ne.mpr h
  rw [e, e2]
  simp
@[simp] theorem neF_int {i j : Int} {φ : D → Prop} : neF (.int i) (.int j) φ ↔ φ (.bl (!decide (i = j))) := by
  have e : neF (.int i) (.int j) φ ↔ (true = true ∧ true = true ∧ true = true ∧ true = true ∧ φ (.bl (!(i == j)))) := Iff.rfl
  have e2 : (i == j) = decide (i = j) := by
    by_cases h : i = j
    · rw [decide_eq_true h]; exact beq_iff_eq.mpr h
    · rw [decide_eq_false h]; exact beq_eq_false_iff_ne.mpr h
  rw [e, e2]
  simp
@[simp] theorem neF_str {i j : Str} {φ : D → Prop} : neF (.str i) (.str j) φ ↔ (SeqAt.shaped (.str i) = true ∧ SeqAt.shaped (.str j) = true ∧ φ (.bl (!decide (i = j)))) := by
  have e : neF (.str i) (.str j) φ ↔ (true = true ∧ true = true ∧ SeqAt.shaped (.str i) = true ∧ SeqAt.shaped (.str j) = true ∧ φ (.bl (!(i == j)))) := Iff.rfl
  have e2 : (i == j) = decide (i = j) := by
    by_cases h : i = j
    · rw [decide_eq_true h]; exact beq_iff_eq.mpr h
    · rw [decide_eq_false h]; exact beq_eq_false_iff_ne.mpr h
  rw [e, e2]
  simp
@[simp] theorem neF_bl {i j : Bool} {φ : D → Prop} : neF (.bl i) (.bl j) φ ↔ φ (.bl (!decide (i = j))) := by
  have e : neF (.bl i) (.bl j) φ ↔ (true = true ∧ true = true ∧ true = true ∧ true = true ∧ φ (.bl (!(i == j)))) := Iff.rfl
  have e2 : (i == j) = decide (i = j) := by
    by_cases h : i = j
    · rw [decide_eq_true h]; exact beq_iff_eq.mpr h
    · rw [decide_eq_false h]; exact beq_eq_false_iff_ne.mpr h
  rw [e, e2]
  simp
/-! ### texts as lists -/
abbrev lc (z : Str) : List Nat := z.cps.toList
def mks (l : List Nat) : Str := ⟨l.toArray⟩
theorem lc_mks (l : List Nat) : lc (mks l) = l := by unfold mks lc; simp
theorem mks_lc (z : Str) : mks (lc z) = z := by unfold mks lc; simp
theorem lc_app (a b : Str) : lc (a ++ b) = lc a ++ lc b := by
  show (a.cps ++ b.cps).toList = _
  rw [Array.toList_append]
theorem mks_app (a b : List Nat) : mks a ++ mks b = mks (a ++ b) := by
  rw [← mks_lc (mks a ++ mks b), lc_app, lc_mks, lc_mks]
theorem len_mks (l : List Nat) : (mks l).length = l.length := by
  show l.toArray.size = _
  simp
theorem lc_inj {a b : Str} (h : lc a = lc b) : a = b := by rw [← mks_lc a, h, mks_lc]
theorem mks_inj {a b : List Nat} (h : mks a = mks b) : a = b := by rw [← lc_mks a, h, lc_mks]
theorem len_lc (z : Str) : z.length = (lc z).length := by
  show z.cps.size = _
  simp
theorem atI_nat {α : Type} {xs : List α} {n : Nat} (h : n < xs.length) : atI xs (n : Int) = xs[n]? := by
  unfold atI ixN
  rw [if_pos (by omega), if_pos (by omega)]
  rfl
theorem at_pos {z : Str} {P R : List Nat} {c : Nat} (h : lc z = P ++ c :: R) : atI z.cps.toList (P.length : Int) = some c := by
  have h2 : z.cps.toList = P ++ c :: R := h
  rw [h2, atI_nat (by simp)]
  simp
theorem cut_mid {z : Str} {P S R : List Nat} (h : lc z = P ++ (S ++ R)) : cutS z (some (P.length : Int)) (some ((P.length + S.length : Nat) : Int)) = mks S := by
  have h2 : z.cps.toList = P ++ (S ++ R) := h
  have hl : z.length = P.length + (S.length + R.length) := by rw [len_lc, h]; simp
  unfold cutS mks
  rw [HT.sIx_nat, HT.sIx_nat, h2, hl]
  have e1 : min P.length (P.length + (S.length + R.length)) = P.length := by omega
  have e2 : min (P.length + S.length) (P.length + (S.length + R.length)) = P.length + S.length := by omega
  rw [e1, e2]
  have e3 : P.length + S.length - P.length = S.length := by omega
  rw [e3]
  simp
theorem cut_one {z : Str} {P R : List Nat} (h : lc z = P ++ R) : cutS z (some (P.length : Int)) (some ((P.length : Int) + 1)) = mks (R.take 1) := by
  have h2 : z.cps.toList = P ++ R := h
  have hl : z.length = P.length + R.length := by rw [len_lc, h]; simp
  unfold cutS mks
  have e0 : ((P.length : Int) + 1) = ((P.length + 1 : Nat) : Int) := by omega
  rw [e0, HT.sIx_nat, HT.sIx_nat, h2, hl]
  have e1 : min P.length (P.length + R.length) = P.length := by omega
  rw [e1]
  cases R with
  | nil => simp
  | cons c R =>
    have e2 : min (P.length + 1) (P.length + (c :: R).length) - P.length = 1 := by rw [List.length_cons]; omega
    rw [e2]
    simp
@[simp] theorem atI_0 {α : Type} {x : α} {xs : List α} : atI (x :: xs) 0 = some x := by
  have := atI_nat (xs := x :: xs) (n := 0) (by simp)
  simpa using this
@[simp] theorem atI_1 {α : Type} {x y : α} {xs : List α} : atI (x :: y :: xs) 1 = some y := by
  have := atI_nat (xs := x :: y :: xs) (n := 1) (by simp)
  simpa using this
@[simp] theorem atI_2 {α : Type} {x y z : α} {xs : List α} : atI (x :: y :: z :: xs) 2 = some z := by
  have := atI_nat (xs := x :: y :: z :: xs) (n := 2) (by simp)
  simpa using this
@[simp] theorem atI_3 {α : Type} {x y z u : α} {xs : List α} : atI (x :: y :: z :: u :: xs) 3 = some u := by
  have := atI_nat (xs := x :: y :: z :: u :: xs) (n := 3) (by simp)
  simpa using this
theorem go_else {A : TB} {c : Ct} {env : Ev} {X Y : Prop} (hA : ∀ ψ : Bool → Prop, ψ false → A c env ψ) (hY : Y) : A c env fun k => if k = true then X else Y := hA _ (by simpa using hY)
theorem go_then {A : TB} {c : Ct} {env : Ev} {X Y : Prop} (hA : ∀ ψ : Bool → Prop, ψ true → A c env ψ) (hX : X) : A c env fun k => if k = true then X else Y := hA _ (by simpa using hX)
@[simp] theorem sz_1 : (1 ≤ sizeLine) := by rw [sizeLine_eq]; decide
@[simp] theorem sz_2 : (2 ≤ sizeLine) := by rw [sizeLine_eq]; decide
@[simp] theorem sz_3 : (3 ≤ sizeLine) := by rw [sizeLine_eq]; decide
@[simp] theorem sz_4 : (4 ≤ sizeLine) := by rw [sizeLine_eq]; decide
@[simp] theorem sz_5 : (5 ≤ sizeLine) := by rw [sizeLine_eq]; decide
@[simp] theorem sz_6 : (6 ≤ sizeLine) := by rw [sizeLine_eq]; decide
@[simp] theorem sz_7 : (7 ≤ sizeLine) := by rw [sizeLine_eq]; decide
@[simp] theorem sz_8 : (8 ≤ sizeLine) := by rw [sizeLine_eq]; decide
@[simp] theorem sz_9 : (9 ≤ sizeLine) := by rw [sizeLine_eq]; decide
@[simp] theorem sz_10 : (10 ≤ sizeLine) := by rw [sizeLine_eq]; decide
@[simp] theorem sz_11 : (11 ≤ sizeLine) := by rw [sizeLine_eq]; decide
@[simp] theorem sz_12 : (12 ≤ sizeLine) := by rw [sizeLine_eq]; decide
end L3
/-! L3u: more of the plain side -/
namespace L3
open PySem PySem.Spec PyProof.Rows L2
theorem foldl_rep (l : List Nat) : ∀ (k : Nat) (acc : Array Nat), ((List.replicate k l.toArray).foldl (· ++ ·) acc).toList = acc.toList ++ (List.replicate k l).flatten
  | 0, acc => by simp
  | k + 1, acc => by
    rw [List.replicate_succ, List.foldl_cons, foldl_rep l k]
    simp [List.replicate_succ]
theorem mul_mks (l : List Nat) (n : Nat) : Txt.mul (mks l) (n : Int) = mks (List.replicate n l).flatten := by
  apply lc_inj
  rw [lc_mks]
  unfold Txt.mul
  by_cases h1 : (n : Int) < 1
  · rw [if_pos h1]
    have e : n = 0 := by omega
    subst e; rfl
  · rw [if_neg h1]
    by_cases h2 : (n : Int) = 1
    · have e : n = 1 := by omega
      subst e
      rw [if_pos (by simp)]
      simp [lc_mks]
    · by_cases h3 : l = []
      · subst h3
        have e : ((n : Int) == 1 || (mks []).length == 0) = true := by
          rw [len_mks]; simp
        rw [if_pos e]
        have : (List.replicate n ([] : List Nat)).flatten = [] := by simp
        rw [this]; rfl
      · have e : ((n : Int) == 1 || (mks l).length == 0) = false := by
          rw [len_mks]
          have a1 : ((n : Int) == 1) = false := by simpa using h2
          have a2 : (l.length == 0) = false := by
            cases l with
            | nil => exact absurd rfl h3
            | cons a b => rfl
          rw [a1, a2]; rfl
        rw [e, if_neg Bool.false_ne_true]
        show ((List.replicate (n : Int).toNat l.toArray).foldl (· ++ ·) #[]).toList = _
        rw [foldl_rep]; simp
theorem mulOk_mks {l : List Nat} {n : Nat} (h : l.length * n ≤ 16777216) (hn : n < 1000000) : MulOk (mks l) (n : Int) := by
  unfold MulOk
  rw [len_mks]
  refine ⟨?_, fun h1 h2 => ?_, fun h1 h2 => ?_⟩
  · simp
    omega
  · have hl : l.length ≤ 16777216 := by
      have : l.length * 1 ≤ l.length * n := Nat.mul_le_mul_left _ (by omega)
      omega
    intro hc
    have : (9223372036854775807 : Int) / n ≥ 16777216 := by
      apply Int.le_ediv_of_mul_le (by omega)
      omega
    have e : ((2 : Int) ^ 63 - 1) = 9223372036854775807 := by decide
    rw [e] at hc
    omega
  · unfold PySem.Builtin.Str.tooLong
    rw [sizeLine_eq]
    simp
    exact h
end L3
/-! L3: trees of the program, plainly -/
namespace L3
open PySem PySem.Spec PyProof.Rows L2
/-! ### signs -/
def letters : Str := "abcdefghijklmnopqrstuvwxyz"
def isLet (c : Nat) : Bool := occ ⟨#[c]⟩ letters
def isSg (s : List Nat) : Bool := decide (1 ≤ s.length) && (decide (s.length ≤ 6) && s.all isLet)
theorem letters_list : lc letters = List.range' 97 26 := by decide +kernel
theorem isLet_iff {c : Nat} : isLet c = true ↔ 97 ≤ c ∧ c ≤ 122 := by
  have e : isLet c = decide (c ∈ lc letters) := StrLaws.found_one letters c
  rw [e, letters_list, decide_eq_true_iff, List.mem_range'_1]
  omega
theorem let_open : isLet 40 = false := by decide +kernel
theorem let_close : isLet 41 = false := by decide +kernel
theorem let_comma : isLet 44 = false := by decide +kernel
/-! ### trees -/
inductive Tr where
  | nd (s : List Nat) (ks : List Tr)
/-- texts with commas between -/
def joinL : List (List Nat) → List Nat
  | [] => []
  | [x] => x
  | x :: y :: r => x ++ 44 :: joinL (y :: r)
def wrapL (s : List Nat) : List (List Nat) → List Nat
  | [] => s
  | x :: r => s ++ 40 :: (joinL (x :: r) ++ [41])
mutual
def Tr.txt : Tr → List Nat
  | .nd s ks => wrapL s (txts ks)
def txts : List Tr → List (List Nat)
  | [] => []
  | t :: r => t.txt :: txts r
end
mutual
def Tr.siz : Tr → Nat
  | .nd _ ks => 1 + sizs ks
def sizs : List Tr → Nat
  | [] => 0
  | t :: r => t.siz + sizs r
end
mutual
def Tr.dep : Tr → Nat
  | .nd _ ks => 1 + deps ks
def deps : List Tr → Nat
  | [] => 0
  | t :: r => max t.dep (deps r)
end
mutual
def Tr.ins : Tr → List (List Nat)
  | .nd s ks => inss ks ++ [(Tr.nd s ks).txt]
def inss : List Tr → List (List Nat)
  | [] => []
  | t :: r => t.ins ++ inss r
end
mutual
def Tr.key : Tr → D
  | .nd s ks => .tup [.int ((1 + sizs ks : Nat) : Int), .str (mks s), .int (ks.length : Nat), .tup (keys ks)]
def keys : List Tr → List D
  | [] => []
  | t :: r => t.key :: keys r
end
mutual
def Tr.ok : Tr → Prop
  | .nd s ks => isSg s = true ∧ ks.length ≤ 3 ∧ oks ks
def oks : List Tr → Prop
  | [] => True
  | t :: r => t.ok ∧ oks r
end
theorem txts_eq : ∀ ks : List Tr, txts ks = ks.map Tr.txt
  | [] => rfl
  | t :: r => congrArg (t.txt :: ·) (txts_eq r)
theorem sizs_eq : ∀ ks : List Tr, sizs ks = (ks.map Tr.siz).sum
  | [] => rfl
  | t :: r => by
    show t.siz + sizs r = _
    rw [sizs_eq r, List.map_cons, List.sum_cons]
theorem inss_eq : ∀ ks : List Tr, inss ks = ks.flatMap Tr.ins
  | [] => rfl
  | t :: r => by
    show t.ins ++ inss r = _
    rw [inss_eq r, List.flatMap_cons]
theorem keys_eq : ∀ ks : List Tr, keys ks = ks.map Tr.key
  | [] => rfl
  | t :: r => congrArg (t.key :: ·) (keys_eq r)
theorem oks_iff : ∀ {ks : List Tr}, oks ks ↔ ∀ t ∈ ks, t.ok
  | [] => by simp [oks]
  | t :: r => by
    show t.ok ∧ oks r ↔ _
    rw [oks_iff (ks := r)]
    simp
theorem deps_le : ∀ {ks : List Tr} {t : Tr}, t ∈ ks → t.dep ≤ deps ks
  | u :: r, t, h => by
    show _ ≤ max u.dep (deps r)
    rcases List.mem_cons.mp h with e | e
    · subst e; exact Nat.le_max_left _ _
    · exact Nat.le_trans (deps_le e) (Nat.le_max_right _ _)
theorem sizs_le : ∀ {ks : List Tr} {t : Tr}, t ∈ ks → t.siz ≤ sizs ks
  | u :: r, t, h => by
    show _ ≤ u.siz + sizs r
    rcases List.mem_cons.mp h with e | e
    · subst e; omega
    · have := sizs_le e; omega
theorem deps_fold : ∀ (ks : List Tr) (a : Nat), (ks.map fun t => ((t.dep : Nat) : Int)).foldl max (a : Int) = ((max a (deps ks) : Nat) : Int)
  | [], a => by
    show (a : Int) = ((max a 0 : Nat) : Int)
    omega
  | t :: r, a => by
    rw [List.map_cons, List.foldl_cons]
    have e : max (a : Int) (t.dep : Nat) = ((max a t.dep : Nat) : Int) := by omega
    rw [e, deps_fold r]
    show ((max (max a t.dep) (deps r) : Nat) : Int) = ((max a (max t.dep (deps r)) : Nat) : Int)
    omega
/-! the fields of a tree -/
mutual
def trD (C : Addr) : Tr → D
  | .nd s ks => .ins C [("sign", .str (mks s)), ("branches", .tup (trDs C ks)), ("size", .int ((1 + sizs ks : Nat) : Int)), ("depth", .int ((1 + deps ks : Nat) : Int)), ("text", .str (mks (wrapL s (txts ks)))),
      ("inside", .tup ((inss ks ++ [wrapL s (txts ks)]).map fun l => .str (mks l))), ("key", Tr.key (.nd s ks))]
def trDs (C : Addr) : List Tr → List D
  | [] => []
  | t :: r => trD C t :: trDs C r
end
theorem trDs_eq {C : Addr} : ∀ ks : List Tr, trDs C ks = ks.map (trD C)
  | [] => rfl
  | t :: r => congrArg (trD C t :: ·) (trDs_eq r)
/-- a tree's field -/
def Tr.fld (C : Addr) (t : Tr) : List (Str × D) := match trD C t with
  | .ins _ fs => fs
  | _ => []
theorem trD_ins {C : Addr} (t : Tr) : trD C t = .ins C (t.fld C) := by
  cases t with
  | nd s ks => rfl
section
variable {C : Addr} (t : Tr)
theorem fld_sign : (t.fld C).lookup ("sign" : Str) = some (.str (mks (match t with | .nd s _ => s))) := by cases t; rfl
theorem fld_branches : (t.fld C).lookup ("branches" : Str) = some (.tup (match t with | .nd _ ks => ks.map (trD C))) := by
  cases t with
  | nd s ks =>
    show some (D.tup (trDs C ks)) = _
    rw [trDs_eq]
theorem fld_size : (t.fld C).lookup ("size" : Str) = some (.int (t.siz : Nat)) := by cases t; rfl
theorem fld_depth : (t.fld C).lookup ("depth" : Str) = some (.int (t.dep : Nat)) := by cases t; rfl
theorem fld_text : (t.fld C).lookup ("text" : Str) = some (.str (mks t.txt)) := by cases t; rfl
theorem fld_inside : (t.fld C).lookup ("inside" : Str) = some (.tup (t.ins.map fun l => .str (mks l))) := by cases t; rfl
theorem fld_key : (t.fld C).lookup ("key" : Str) = some t.key := by cases t; rfl
end
/-! lengths -/
theorem ok_sg_len {s : List Nat} (h : isSg s = true) : 1 ≤ s.length ∧ s.length ≤ 6 ∧ ∀ c ∈ s, isLet c = true := by
  unfold isSg at h
  simp only [Bool.and_eq_true, decide_eq_true_eq, List.all_eq_true] at h
  exact h
theorem joinL_len : ∀ ls : List (List Nat), (ls.map List.length).sum ≤ (joinL ls).length
  | [] => Nat.le_refl _
  | [x] => by simp [joinL]
  | x :: y :: r => by
    have := joinL_len (y :: r)
    rw [List.map_cons, List.sum_cons]
    show _ ≤ (x ++ 44 :: joinL (y :: r)).length
    rw [List.length_append, List.length_cons]
    omega
theorem joinL_le : ∀ ls : List (List Nat), (joinL ls).length ≤ (ls.map List.length).sum + ls.length
  | [] => Nat.le_refl _
  | [x] => by simp [joinL]
  | x :: y :: r => by
    have := joinL_le (y :: r)
    rw [List.map_cons, List.sum_cons, List.length_cons]
    show (x ++ 44 :: joinL (y :: r)).length ≤ _
    rw [List.length_append, List.length_cons]
    omega
theorem wrapL_len (s : List Nat) (ls : List (List Nat)) : s.length + (ls.map List.length).sum ≤ (wrapL s ls).length := by
  cases ls with
  | nil => simp [wrapL]
  | cons x r =>
    have := joinL_len (x :: r)
    show _ ≤ (s ++ 40 :: (joinL (x :: r) ++ [41])).length
    rw [List.length_append, List.length_cons, List.length_append]
    omega
mutual
theorem siz_txt : ∀ {t : Tr}, t.ok → t.siz ≤ t.txt.length
  | .nd s ks, h => by
    have h1 := (ok_sg_len h.1).1
    have h2 := sizs_txts h.2.2
    have h3 := wrapL_len s (txts ks)
    show 1 + sizs ks ≤ (wrapL s (txts ks)).length
    omega
theorem sizs_txts : ∀ {ks : List Tr}, oks ks → sizs ks ≤ ((txts ks).map List.length).sum
  | [], _ => Nat.le_refl _
  | t :: r, h => by
    have h1 := siz_txt h.1
    have h2 := sizs_txts h.2
    show t.siz + sizs r ≤ ((t.txt :: txts r).map List.length).sum
    rw [List.map_cons, List.sum_cons]
    omega
end
mutual
theorem ins_len : ∀ t : Tr, t.ins.length = t.siz
  | .nd s ks => by
    show (inss ks ++ [_]).length = 1 + sizs ks
    rw [List.length_append, inss_len ks, List.length_singleton]
    omega
theorem inss_len : ∀ ks : List Tr, (inss ks).length = sizs ks
  | [] => rfl
  | t :: r => by
    show (t.ins ++ inss r).length = t.siz + sizs r
    rw [List.length_append, ins_len t, inss_len r]
end
theorem txt_ne {t : Tr} (h : t.ok) : t.txt ≠ [] := by
  cases t with
  | nd s ks =>
    have h1 := (ok_sg_len h.1).1
    have h2 := wrapL_len s (txts ks)
    intro e
    have e2 : wrapL s (txts ks) = [] := e
    have e3 : (wrapL s (txts ks)).length = 0 := by rw [e2]; rfl
    omega
theorem join_mks (ls : List (List Nat)) : Txt.join (mks [44]) (ls.map mks) = mks (joinL ls) := by
  have key : ∀ ls : List (List Nat), Str.join (mks [44]) (ls.map mks) = mks (joinL ls) := by
    intro ls
    induction ls with
    | nil => rfl
    | cons x r ih =>
      cases r with
      | nil => rfl
      | cons y r =>
        show mks x ++ mks [44] ++ Str.join (mks [44]) ((y :: r).map mks) = _
        rw [ih, mks_app, mks_app]
        show _ = mks (x ++ 44 :: joinL (y :: r))
        rw [List.append_assoc]
        rfl
  rw [← key ls]
  exact StrLaws.glued_eq_join _ _
/-! the signs of a text -/
theorem joinL_mem {P : Nat → Prop} (hc : P 44) : ∀ {ls : List (List Nat)}, (∀ l ∈ ls, ∀ c ∈ l, P c) → ∀ c ∈ joinL ls, P c
  | [], _, c, h => by cases h
  | [x], hx, c, h => hx x List.mem_cons_self c h
  | x :: y :: r, hx, c, h => by
    rcases List.mem_append.mp (show c ∈ x ++ 44 :: joinL (y :: r) from h) with h | h
    · exact hx x List.mem_cons_self c h
    · rcases List.mem_cons.mp h with h | h
      · subst h; exact hc
      · exact joinL_mem hc (fun l hl => hx l (List.mem_cons_of_mem _ hl)) c h
mutual
theorem txt_mem {P : Nat → Prop} (h1 : P 40) (h2 : P 41) (h3 : P 44) (hl : ∀ c, isLet c = true → P c) : ∀ {t : Tr}, t.ok → ∀ c ∈ t.txt, P c
  | .nd s ks, h, c, hc => by
    have hs := (ok_sg_len h.1).2.2
    have hk := txts_mem h1 h2 h3 hl h.2.2
    have hc2 : c ∈ wrapL s (txts ks) := hc
    cases e : txts ks with
    | nil =>
      rw [e] at hc2
      exact hl c (hs c hc2)
    | cons x r =>
      rw [e] at hc2 hk
      rcases List.mem_append.mp (show c ∈ s ++ 40 :: (joinL (x :: r) ++ [41]) from hc2) with h | h
      · exact hl c (hs c h)
      · rcases List.mem_cons.mp h with h | h
        · subst h; exact h1
        · rcases List.mem_append.mp h with h | h
          · exact joinL_mem h3 hk c h
          · rw [List.mem_singleton.mp h]; exact h2
theorem txts_mem {P : Nat → Prop} (h1 : P 40) (h2 : P 41) (h3 : P 44) (hl : ∀ c, isLet c = true → P c) : ∀ {ks : List Tr}, oks ks → ∀ l ∈ txts ks, ∀ c ∈ l, P c
  | [], _, l, hl2 => by cases hl2
  | t :: r, h, l, hl2 => by
    rcases List.mem_cons.mp (show l ∈ t.txt :: txts r from hl2) with e | e
    · subst e; exact txt_mem h1 h2 h3 hl h.1
    · exact txts_mem h1 h2 h3 hl h.2 l e
end
theorem shaped_mks {l : List Nat} (h : ∀ c ∈ l, c < 128) : SeqAt.shaped (.str (mks l)) = true := by
  have e : PyData.strOk (mks l) = true := by
    show l.toArray.all (· < 0x110000) = true
    rw [Array.all_eq_true']
    intro c hc
    have := h c (by simpa using hc)
    exact decide_eq_true (by omega)
  show (PyData.strOk (mks l) && decide (0 ≤ 64)) = true
  rw [e]
  rfl
theorem shaped_txt {t : Tr} (h : t.ok) : SeqAt.shaped (.str (mks t.txt)) = true :=
  shaped_mks (txt_mem (P := fun c => c < 128) (by decide) (by decide) (by decide) (fun c hc => by have := isLet_iff.mp hc; omega) h)
theorem sizs_int (ks : List Tr) : ((1 + sizs ks : Nat) : Int) = 1 + (ks.map fun t => ((t.siz : Nat) : Int)).sum := by
  have key : ∀ ks : List Tr, ((sizs ks : Nat) : Int) = (ks.map fun t => ((t.siz : Nat) : Int)).sum := by
    intro ks
    induction ks with
    | nil => rfl
    | cons t r ih =>
      rw [List.map_cons, List.sum_cons, ← ih]
      show ((t.siz + sizs r : Nat) : Int) = _
      omega
  rw [← key]
  omega
theorem fld_nd {C : Addr} {s : List Nat} {ks : List Tr} : (Tr.nd s ks).fld C = ([("sign", .str (mks s)), ("branches", .tup (ks.map (trD C))), ("size", .int (1 + (ks.map fun t => ((t.siz : Nat) : Int)).sum)), ("depth", .int (1 + (deps ks : Nat))), ("text", .str (mks (wrapL s (txts ks)))),
    ("inside", .tup ((ks.flatMap fun t => t.ins.map fun l => D.str (mks l)) ++ [.str (mks (wrapL s (txts ks)))])), ("key", .tup [.int (1 + (ks.map fun t => ((t.siz : Nat) : Int)).sum), .str (mks s), .int (ks.length : Nat), .tup (ks.map Tr.key)])] : List (Str × D)) := by
  show ([("sign", D.str (mks s)), ("branches", .tup (trDs C ks)), ("size", .int ((1 + sizs ks : Nat) : Int)), ("depth", .int ((1 + deps ks : Nat) : Int)), ("text", .str (mks (wrapL s (txts ks)))),
      ("inside", .tup ((inss ks ++ [wrapL s (txts ks)]).map fun l => .str (mks l))), ("key", .tup [.int ((1 + sizs ks : Nat) : Int), .str (mks s), .int (ks.length : Nat), .tup (keys ks)])] : List (Str × D)) = _
  have ed : ((1 + deps ks : Nat) : Int) = 1 + (deps ks : Nat) := by omega
  rw [trDs_eq, sizs_int, ed, keys_eq, List.map_append, inss_eq, List.map_flatMap]
  rfl
theorem mxD_deps (ks : List Tr) : mxD (.int 0) (ks.map fun t => ((t.dep : Nat) : Int)) = .int (deps ks : Nat) := by
  cases ks with
  | nil => rfl
  | cons t r =>
    show D.int ((r.map fun t => ((t.dep : Nat) : Int)).foldl max ((t.dep : Nat) : Int)) = _
    rw [deps_fold r]
    rfl
theorem inss_map_len (ks : List Tr) : (ks.flatMap fun t => t.ins.map fun l => D.str (mks l)).length = sizs ks := by
  rw [← List.map_flatMap, List.length_map, ← inss_eq, inss_len]
/-! what follows the sign of a tree -/
def sepR : Bool → List Tr → List Nat → List Nat
  | _, [], post => 41 :: post
  | first, t :: r, post => (if first then 40 else 44) :: (t.txt ++ sepR false r post)
theorem join_sep : ∀ (t : Tr) (r : List Tr) (post : List Nat), joinL (txts (t :: r)) ++ 41 :: post = t.txt ++ sepR false r post
  | t, [], post => rfl
  | t, u :: r, post => by
    show (t.txt ++ 44 :: joinL (txts (u :: r))) ++ 41 :: post = t.txt ++ 44 :: (u.txt ++ sepR false r post)
    rw [← join_sep u r post]
    simp
theorem txt_sep (s : List Nat) (t : Tr) (r : List Tr) (post : List Nat) : (Tr.nd s (t :: r)).txt ++ post = s ++ sepR true (t :: r) post := by
  show (s ++ 40 :: (joinL (txts (t :: r)) ++ [41])) ++ post = s ++ 40 :: (t.txt ++ sepR false r post)
  rw [← join_sep t r post]
  simp
def sepOk : List Nat → Prop
  | [] => True
  | c :: _ => c = 44 ∨ c = 41
theorem sepR_ok : ∀ (r : List Tr) (post : List Nat), sepOk (sepR false r post)
  | [], _ => .inr rfl
  | _ :: _, _ => .inl rfl
end L3
/-! L3to: the order of trees: keys, texts tell trees apart; an exchanged piece -/
namespace L3
open PySem PySem.Spec PyProof.Rows L2
theorem dep_pos (t : Tr) : 1 ≤ t.dep := by
  cases t with
  | nd s ks =>
    show 1 ≤ 1 + deps ks
    omega
mutual
theorem dep_siz : ∀ t : Tr, t.dep ≤ t.siz
  | .nd s ks => by
    have := deps_sizs ks
    show 1 + deps ks ≤ 1 + sizs ks
    omega
theorem deps_sizs : ∀ ks : List Tr, deps ks ≤ sizs ks
  | [] => Nat.le_refl _
  | t :: r => by
    have h1 := dep_siz t
    have h2 := deps_sizs r
    show max t.dep (deps r) ≤ t.siz + sizs r
    omega
end
theorem siz_pos (t : Tr) : 1 ≤ t.siz := Nat.le_trans (dep_pos t) (dep_siz t)
theorem sizs_snoc : ∀ (ks : List Tr) (t : Tr), sizs (ks ++ [t]) = sizs ks + t.siz
  | [], t => by show t.siz + 0 = 0 + t.siz; omega
  | u :: r, t => by
    show u.siz + sizs (r ++ [t]) = u.siz + sizs r + t.siz
    rw [sizs_snoc r t]
    omega
mutual
theorem txt9 : ∀ {t : Tr}, t.ok → t.txt.length + 1 ≤ 9 * t.siz
  | .nd s [], h => by
    have := (ok_sg_len h.1).2.1
    show s.length + 1 ≤ 9 * (1 + 0)
    omega
  | .nd s (t :: r), h => by
    have h1 := (ok_sg_len h.1).2.1
    have h2 := txts9 h.2.2
    have h3 := joinL_le (txts (t :: r))
    have h4 : (txts (t :: r)).length = (t :: r).length := by rw [txts_eq, List.length_map]
    show (s ++ 40 :: (joinL (txts (t :: r)) ++ [41])).length + 1 ≤ 9 * (1 + sizs (t :: r))
    rw [List.length_append, List.length_cons, List.length_append, List.length_singleton]
    omega
theorem txts9 : ∀ {ks : List Tr}, oks ks → ((txts ks).map List.length).sum + ks.length ≤ 9 * sizs ks
  | [], _ => Nat.le_refl _
  | t :: r, h => by
    have h1 := txt9 h.1
    have h2 := txts9 h.2
    show ((t.txt :: txts r).map List.length).sum + (r.length + 1) ≤ 9 * (t.siz + sizs r)
    rw [List.map_cons, List.sum_cons]
    omega
end
/-! ### texts tell trees apart -/
theorem let_split : ∀ {s s' R R' : List Nat}, (∀ c ∈ s, isLet c = true) → (∀ c ∈ s', isLet c = true) → (∀ c r, R = c :: r → isLet c = false) → (∀ c r, R' = c :: r → isLet c = false) → s ++ R = s' ++ R' → s = s' ∧ R = R'
  | [], [], _, _, _, _, _, _, h => ⟨rfl, h⟩
  | [], c :: s', R, R', _, h2, h3, _, h => by
    have := h3 c (s' ++ R') h
    rw [h2 c List.mem_cons_self] at this
    cases this
  | c :: s, [], R, R', h1, _, _, h4, h => by
    have := h4 c (s ++ R) h.symm
    rw [h1 c List.mem_cons_self] at this
    cases this
  | c :: s, d :: s', R, R', h1, h2, h3, h4, h => by
    injection h with e1 e2
    obtain ⟨a, b⟩ := let_split (fun c hc => h1 c (List.mem_cons_of_mem _ hc)) (fun c hc => h2 c (List.mem_cons_of_mem _ hc)) h3 h4 e2
    exact ⟨by rw [e1, a], b⟩
theorem sepOk_let {l : List Nat} (h : sepOk l) : ∀ c r, l = c :: r → isLet c = false := fun c r e => by
  subst e
  rcases h with e | e
  · subst e; exact let_comma
  · subst e; exact let_close
theorem sepR_let {t : Tr} {r : List Tr} {l : List Nat} : ∀ c q, sepR true (t :: r) l = c :: q → isLet c = false := fun c q e => by
  have : 40 = c := by injection e
  subst this
  exact let_open
mutual
theorem txt_app_inj : ∀ {a b : Tr} {l m : List Nat}, a.ok → b.ok → sepOk l → sepOk m → a.txt ++ l = b.txt ++ m → a = b ∧ l = m
  | .nd s [], .nd s' [], l, m, ha, hb, hl, hm, h => by
    obtain ⟨e1, e2⟩ := let_split (ok_sg_len ha.1).2.2 (ok_sg_len hb.1).2.2 (sepOk_let hl) (sepOk_let hm) (show s ++ l = s' ++ m from h)
    rw [e1]
    exact ⟨rfl, e2⟩
  | .nd s [], .nd s' (u :: q), l, m, ha, hb, hl, hm, h => by
    rw [txt_sep] at h
    obtain ⟨e1, e2⟩ := let_split (ok_sg_len ha.1).2.2 (ok_sg_len hb.1).2.2 (sepOk_let hl) sepR_let (show s ++ l = _ from h)
    rw [e2] at hl
    rcases hl with e | e <;> cases e
  | .nd s (t :: r), .nd s' [], l, m, ha, hb, hl, hm, h => by
    rw [txt_sep] at h
    obtain ⟨e1, e2⟩ := let_split (ok_sg_len ha.1).2.2 (ok_sg_len hb.1).2.2 sepR_let (sepOk_let hm) (show _ = s' ++ m from h)
    rw [← e2] at hm
    rcases hm with e | e <;> cases e
  | .nd s (t :: r), .nd s' (u :: q), l, m, ha, hb, hl, hm, h => by
    rw [txt_sep, txt_sep] at h
    obtain ⟨e1, e2⟩ := let_split (ok_sg_len ha.1).2.2 (ok_sg_len hb.1).2.2 sepR_let sepR_let h
    have e3 : t.txt ++ sepR false r l = u.txt ++ sepR false q m := by
      have e4 : 40 :: (t.txt ++ sepR false r l) = 40 :: (u.txt ++ sepR false q m) := e2
      injection e4
    obtain ⟨e5, e6⟩ := txt_app_inj ha.2.2.1 hb.2.2.1 (sepR_ok _ _) (sepR_ok _ _) e3
    obtain ⟨e7, e8⟩ := seps_inj ha.2.2.2 hb.2.2.2 hl hm e6
    rw [e1, e5, e7]
    exact ⟨rfl, e8⟩
theorem seps_inj : ∀ {r q : List Tr} {l m : List Nat}, oks r → oks q → sepOk l → sepOk m → sepR false r l = sepR false q m → r = q ∧ l = m
  | [], [], l, m, _, _, _, _, h => by
    have h2 : 41 :: l = 41 :: m := h
    injection h2 with _ e
    exact ⟨rfl, e⟩
  | [], u :: q, l, m, _, _, _, _, h => by
    have h2 : 41 :: l = 44 :: (u.txt ++ sepR false q m) := h
    injection h2 with e
    cases e
  | t :: r, [], l, m, _, _, _, _, h => by
    have h2 : 44 :: (t.txt ++ sepR false r l) = 41 :: m := h
    injection h2 with e
    cases e
  | t :: r, u :: q, l, m, hr, hq, hl, hm, h => by
    have h2 : 44 :: (t.txt ++ sepR false r l) = 44 :: (u.txt ++ sepR false q m) := h
    injection h2 with _ e3
    obtain ⟨e5, e6⟩ := txt_app_inj hr.1 hq.1 (sepR_ok _ _) (sepR_ok _ _) e3
    obtain ⟨e7, e8⟩ := seps_inj hr.2 hq.2 hl hm e6
    rw [e5, e7]
    exact ⟨rfl, e8⟩
end
theorem txt_inj {a b : Tr} (ha : a.ok) (hb : b.ok) (h : a.txt = b.txt) : a = b :=
  (txt_app_inj ha hb (l := []) (m := []) trivial trivial (by rw [h])).1
/-! ### keys -/
mutual
theorem key_alike : ∀ a b : Tr, PySem.W.alike (toP a.key) (toP b.key) = true
  | .nd s ks, .nd s' ks' => by
    show (true && (true && (true && (PySem.W.alikeAll (toPs (keys ks)) (toPs (keys ks')) && true)))) = true
    rw [keys_alike ks ks']; rfl
theorem keys_alike : ∀ a b : List Tr, PySem.W.alikeAll (toPs (keys a)) (toPs (keys b)) = true
  | [], b => by cases b <;> rfl
  | a :: r, [] => rfl
  | a :: r, b :: q => by
    show (PySem.W.alike (toP a.key) (toP b.key) && PySem.W.alikeAll (toPs (keys r)) (toPs (keys q))) = true
    rw [key_alike a b, keys_alike r q]; rfl
end
mutual
theorem key_p : ∀ t : Tr, isP t.key = true ∧ (toP t.key).depth ≤ 2 * t.dep
  | .nd s ks => by
    obtain ⟨h1, h3⟩ := keys_p ks
    refine ⟨?_, ?_⟩
    · show (true && (true && (true && (isPs (keys ks) && true)))) = true
      rw [h1]; rfl
    · show max 0 (max 0 (max 0 (max (PyData.depthAll (toPs (keys ks)) + 1) 0))) + 1 ≤ 2 * (1 + deps ks)
      omega
theorem keys_p : ∀ ks : List Tr, isPs (keys ks) = true ∧ PyData.depthAll (toPs (keys ks)) ≤ 2 * deps ks
  | [] => ⟨rfl, Nat.zero_le _⟩
  | t :: r => by
    obtain ⟨a1, a3⟩ := key_p t
    obtain ⟨b1, b3⟩ := keys_p r
    refine ⟨?_, ?_⟩
    · show (isP t.key && isPs (keys r)) = true
      rw [a1, b1]; rfl
    · show max (PyData.depth (toP t.key)) (PyData.depthAll (toPs (keys r))) ≤ 2 * max t.dep (deps r)
      omega
end
abbrev Tok2 := Int ⊕ List Nat
def tks (t : Tr) : List Tok2 := PySem.W.keyToks (toP t.key)
def tkss (ks : List Tr) : List Tok2 := PySem.W.keyToksAll (toPs (keys ks))
theorem tks_nd (s : List Nat) (ks : List Tr) : tks (.nd s ks) = .inl 1 :: .inl ((1 + sizs ks : Nat) : Int) :: .inl 1 :: .inr s :: .inl 1 :: .inl (ks.length : Nat) :: .inl 1 :: (tkss ks ++ [.inl 0]) := by
  show PySem.W.keyToksAll _ = _
  have e : (mks s).cps.toList = s := lc_mks s
  show Sum.inl 1 :: ([Sum.inl ((1 + sizs ks : Nat) : Int)] ++ Sum.inl 1 :: ([Sum.inr (mks s).cps.toList] ++ Sum.inl 1 :: ([Sum.inl ((ks.length : Nat) : Int)] ++ Sum.inl 1 :: (tkss ks ++ [Sum.inl 0])))) = _
  rw [e]; rfl
theorem tkss_cons (t : Tr) (r : List Tr) : tkss (t :: r) = .inl 1 :: (tks t ++ tkss r) := PySem.W.toks_all_cons _ _
theorem tkss_nil : tkss [] = [.inl 0] := rfl
mutual
theorem tks_inj : ∀ {a b : Tr} {l m : List Tok2}, tks a ++ l = tks b ++ m → a = b ∧ l = m
  | .nd s ks, .nd s' ks', l, m, h => by
    rw [tks_nd, tks_nd] at h
    simp only [List.cons_append, List.append_assoc] at h
    injection h with _ h
    injection h with _ h
    injection h with _ h
    injection h with e1 h
    injection h with _ h
    injection h with _ h
    injection h with _ h
    obtain ⟨e2, e3⟩ := tkss_inj h
    injection e1 with e1
    injection e3 with _ e3
    rw [e1, e2]
    exact ⟨rfl, e3⟩
theorem tkss_inj : ∀ {a b : List Tr} {l m : List Tok2}, tkss a ++ l = tkss b ++ m → a = b ∧ l = m
  | [], [], l, m, h => by
    injection h with _ h
    exact ⟨rfl, h⟩
  | [], b :: q, l, m, h => by
    rw [tkss_cons] at h
    injection h with e _
    injection e with e
    cases e
  | a :: r, [], l, m, h => by
    rw [tkss_cons] at h
    injection h with e _
    injection e with e
    cases e
  | a :: r, b :: q, l, m, h => by
    rw [tkss_cons, tkss_cons] at h
    simp only [List.cons_append, List.append_assoc] at h
    injection h with _ h
    obtain ⟨e1, e2⟩ := tks_inj h
    obtain ⟨e3, e4⟩ := tkss_inj e2
    rw [e1, e3]
    exact ⟨rfl, e4⟩
end
/-- the order of the keys -/
def ltT (a b : Tr) : Bool := PySem.W.dataLt (toP a.key) (toP b.key)
theorem ltT_eq (a b : Tr) : ltT a b = PyProof.Rows.lexLt itemOrd (tks a) (tks b) := rfl
theorem ltT_self (a : Tr) : ltT a a = false := lex_irrefl (O := itemOrd) _
theorem ltT_total {a b : Tr} (h1 : ltT a b = false) (h2 : ltT b a = false) : a = b := by
  have e : tks a = tks b := lex_total (O := itemOrd) _ _ h1 h2
  exact (tks_inj (l := []) (m := []) (by rw [e])).1
theorem ltT_asymm {a b : Tr} (h : ltT a b = true) : ltT b a = false := by
  cases z : ltT b a with
  | false => rfl
  | true =>
    have := lex_trans (O := itemOrd) _ _ _ h z
    rw [lex_irrefl] at this
    cases this
/-- compare_trees -/
def cmpT (a b : Tr) : Int := (if ltT b a = true then 1 else 0) - (if ltT a b = true then 1 else 0)
theorem cmpT_swap (a b : Tr) : cmpT b a = 0 - cmpT a b := by unfold cmpT; omega
theorem cmpT_zero {a b : Tr} : cmpT a b = 0 ↔ a = b := by
  constructor
  · intro h
    unfold cmpT at h
    cases h1 : ltT a b with
    | true =>
      have h2 := ltT_asymm h1
      rw [h1, h2] at h
      cases h
    | false =>
      cases h2 : ltT b a with
      | true =>
        rw [h1, h2] at h
        cases h
      | false => exact ltT_total h1 h2
  · intro e
    subst e
    unfold cmpT
    omega
theorem ltT_app {a b : Tr} (h : a ≠ b) (l m : List Tok2) : PyProof.Rows.lexLt itemOrd (tks a ++ l) (tks b ++ m) = ltT a b := by
  obtain ⟨h1, h2⟩ := PySem.W.toks_eqv _ _ (key_alike a b)
  cases z : PyData.eqv (toP a.key) (toP b.key) with
  | true =>
    have e : tks a = tks b := h1 z
    exact absurd (tks_inj (l := []) (m := []) (by rw [e])).1 h
  | false => exact h2 z l m
/-! ### an exchanged piece -/
def isAt : List Nat → Tr → Tr → Prop
  | [], t, v => v = t
  | i :: p, .nd _ ks, v => ∃ k, ks[i]? = some k ∧ isAt p k v
def putT : List Nat → Tr → Tr → Tr
  | [], _, u => u
  | i :: p, .nd s ks, u => .nd s (ks.set i (putT p (ks.getD i (.nd [] [])) u))
theorem getD_some {ks : List Tr} {i : Nat} {k d : Tr} (h : ks[i]? = some k) : ks.getD i d = k := by
  rw [List.getD_eq_getElem?_getD, h]; rfl
theorem putT_step {i : Nat} {p : List Nat} {s : List Nat} {ks : List Tr} {k u : Tr} (h : ks[i]? = some k) : putT (i :: p) (.nd s ks) u = .nd s (ks.set i (putT p k u)) := by
  show Tr.nd s (ks.set i (putT p (ks.getD i (.nd [] [])) u)) = _
  rw [getD_some h]
theorem sizs_set : ∀ {ks : List Tr} {i : Nat} {k u : Tr}, ks[i]? = some k → sizs (ks.set i u) + k.siz = sizs ks + u.siz
  | x :: r, 0, k, u, h => by
    have e : x = k := by simpa using h
    subst e
    show u.siz + sizs r + x.siz = x.siz + sizs r + u.siz
    omega
  | x :: r, i + 1, k, u, h => by
    have := sizs_set (ks := r) (i := i) (k := k) (u := u) (by simpa using h)
    show x.siz + sizs (r.set i u) + k.siz = x.siz + sizs r + u.siz
    omega
  | [], i, k, u, h => by simp at h
theorem siz_put : ∀ {p : List Nat} {t v u : Tr}, isAt p t v → (putT p t u).siz + v.siz = t.siz + u.siz
  | [], t, v, u, h => by
    have e : v = t := h
    subst e
    show u.siz + v.siz = v.siz + u.siz
    omega
  | i :: p, .nd s ks, v, u, ⟨k, h1, h2⟩ => by
    rw [putT_step h1]
    have a1 := siz_put (u := u) h2
    have a2 := sizs_set (u := putT p k u) h1
    show 1 + sizs (ks.set i (putT p k u)) + v.siz = 1 + sizs ks + u.siz
    omega
theorem oks_get {ks : List Tr} {i : Nat} {k : Tr} (h : oks ks) (e : ks[i]? = some k) : k.ok := oks_iff.mp h k (List.mem_of_getElem? e)
theorem oks_set {ks : List Tr} {i : Nat} {u : Tr} (h : oks ks) (hu : u.ok) : oks (ks.set i u) := oks_iff.mpr fun t ht => by
  rcases List.mem_or_eq_of_mem_set ht with z | z
  · exact oks_iff.mp h t z
  · rw [z]; exact hu
theorem ok_put : ∀ {p : List Nat} {t v u : Tr}, isAt p t v → t.ok → u.ok → (putT p t u).ok
  | [], t, v, u, _, _, hu => hu
  | i :: p, .nd s ks, v, u, ⟨k, h1, h2⟩, ht, hu => by
    rw [putT_step h1]
    exact ⟨ht.1, by rw [List.length_set]; exact ht.2.1, oks_set ht.2.2 (ok_put h2 (oks_get ht.2.2 h1) hu)⟩
theorem ok_at : ∀ {p : List Nat} {t v : Tr}, isAt p t v → t.ok → v.ok
  | [], t, v, h, ht => by
    have e : v = t := h
    rw [e]; exact ht
  | i :: p, .nd s ks, v, ⟨k, h1, h2⟩, ht => ok_at h2 (oks_get ht.2.2 h1)
theorem siz_at {p : List Nat} {t v : Tr} (h : isAt p t v) : v.siz ≤ t.siz := by
  have h1 := siz_put (u := .nd [] []) h
  have h2 := siz_pos (putT p t (.nd [] []))
  have h3 : (Tr.nd [] []).siz = 1 := rfl
  omega
theorem tkss_app : ∀ (A : List Tr) (k : Tr) (B : List Tr), ∃ P Q : List Tok2, ∀ u, tkss (A ++ u :: B) = P ++ (tks u ++ Q)
  | [], k, B => ⟨[.inl 1], tkss B, fun u => by rw [List.nil_append, tkss_cons]; rfl⟩
  | a :: A, k, B => by
    obtain ⟨P, Q, h⟩ := tkss_app A k B
    exact ⟨.inl 1 :: (tks a ++ P), Q, fun u => by rw [List.cons_append, tkss_cons, h u]; simp⟩
theorem set_split {ks : List Tr} {i : Nat} {k : Tr} (h : ks[i]? = some k) : ∃ A B, ks = A ++ k :: B ∧ ∀ u, ks.set i u = A ++ u :: B := by
  have hi := (List.getElem?_eq_some_iff.mp h)
  obtain ⟨hl, e⟩ := hi
  refine ⟨ks.take i, ks.drop (i + 1), ?_, fun u => ?_⟩
  · rw [← e, List.getElem_cons_drop, List.take_append_drop]
  · rw [List.set_eq_take_append_cons_drop, if_pos hl]
theorem ltT_nd {s : List Nat} {A B : List Tr} {a b : Tr} : ltT (.nd s (A ++ a :: B)) (.nd s (A ++ b :: B)) = ltT a b := by
  by_cases hab : a = b
  · subst hab
    rw [ltT_self, ltT_self]
  have hs : ∀ u, sizs (A ++ u :: B) = sizs A + (u.siz + sizs B) := fun u => by
    have z : ∀ A : List Tr, sizs (A ++ u :: B) = sizs A + (u.siz + sizs B) := fun A => by
      induction A with
      | nil => show u.siz + sizs B = 0 + (u.siz + sizs B); omega
      | cons x A ih =>
        show x.siz + sizs (A ++ u :: B) = x.siz + sizs A + (u.siz + sizs B)
        rw [ih]; omega
    exact z A
  rw [ltT_eq, tks_nd, tks_nd, hs, hs, lex_self]
  by_cases hz : a.siz = b.siz
  · rw [hz, lex_self, lex_self, lex_self, lex_self]
    have hl : (A ++ a :: B).length = (A ++ b :: B).length := by simp
    rw [hl, lex_self, lex_self]
    obtain ⟨P, Q, h⟩ := tkss_app A a B
    rw [h a, h b]
    simp only [List.append_assoc]
    rw [PySem.W.lex_pre]
    exact ltT_app hab _ _
  · have hne : (Sum.inl ((1 + (sizs A + (a.siz + sizs B)) : Nat) : Int) : Tok2) ≠ .inl ((1 + (sizs A + (b.siz + sizs B)) : Nat) : Int) := fun e => by
      injection e with e
      omega
    rw [lex_diff (O := itemOrd) hne]
    cases a with
    | nd sa ka =>
      cases b with
      | nd sb kb =>
        rw [ltT_eq, tks_nd, tks_nd, lex_self]
        have hz' : ¬ (1 + sizs ka = 1 + sizs kb) := hz
        have hne2 : (Sum.inl ((1 + sizs ka : Nat) : Int) : Tok2) ≠ .inl ((1 + sizs kb : Nat) : Int) := fun e => by
          injection e with e
          omega
        rw [lex_diff (O := itemOrd) hne2]
        show decide _ = decide _
        rw [decide_eq_decide]
        show ((1 + (sizs A + ((1 + sizs ka) + sizs B)) : Nat) : Int) < ((1 + (sizs A + ((1 + sizs kb) + sizs B)) : Nat) : Int) ↔ ((1 + sizs ka : Nat) : Int) < ((1 + sizs kb : Nat) : Int)
        omega
theorem ltT_put : ∀ {p : List Nat} {t v a b : Tr}, isAt p t v → ltT (putT p t a) (putT p t b) = ltT a b
  | [], t, v, a, b, _ => rfl
  | i :: p, .nd s ks, v, a, b, ⟨k, h1, h2⟩ => by
    rw [putT_step h1, putT_step h1]
    obtain ⟨A, B, _, h⟩ := set_split h1
    rw [h, h, ltT_nd, ltT_put h2]
theorem cmpT_put {p : List Nat} {t v a b : Tr} (h : isAt p t v) : cmpT (putT p t a) (putT p t b) = cmpT a b := by
  unfold cmpT
  rw [ltT_put h, ltT_put h]
/-! ### all places -/
mutual
def plc : Tr → List (List Nat × Tr)
  | .nd s ks => ([], .nd s ks) :: plcs 0 ks
def plcs : Nat → List Tr → List (List Nat × Tr)
  | _, [] => []
  | i, t :: r => (plc t).map (fun x => (i :: x.1, x.2)) ++ plcs (i + 1) r
end
mutual
theorem plc_at : ∀ {t : Tr} {x : List Nat × Tr}, x ∈ plc t → isAt x.1 t x.2
  | .nd s ks, x, h => by
    rcases List.mem_cons.mp (show x ∈ ([], Tr.nd s ks) :: plcs 0 ks from h) with e | e
    · subst e; rfl
    · obtain ⟨i, p, k, e1, e2, e3⟩ := plcs_at e
      rw [e1]
      exact ⟨k, by simpa using e2, e3⟩
theorem plcs_at : ∀ {ks : List Tr} {n : Nat} {x : List Nat × Tr}, x ∈ plcs n ks → ∃ i p k, x.1 = (n + i) :: p ∧ ks[i]? = some k ∧ isAt p k x.2
  | [], n, x, h => by cases h
  | t :: r, n, x, h => by
    rcases List.mem_append.mp (show x ∈ (plc t).map (fun x => (n :: x.1, x.2)) ++ plcs (n + 1) r from h) with e | e
    · obtain ⟨y, hy, e⟩ := List.mem_map.mp e
      subst e
      exact ⟨0, y.1, t, rfl, rfl, plc_at hy⟩
    · obtain ⟨i, p, k, e1, e2, e3⟩ := plcs_at e
      refine ⟨i + 1, p, k, ?_, by simpa using e2, e3⟩
      rw [e1]
      congr 1
      omega
end
mutual
theorem plc_len : ∀ t : Tr, (plc t).length = t.siz
  | .nd s ks => by
    show (plcs 0 ks).length + 1 = 1 + sizs ks
    rw [plcs_len]; omega
theorem plcs_len : ∀ {ks : List Tr} {n : Nat}, (plcs n ks).length = sizs ks
  | [], n => rfl
  | t :: r, n => by
    show ((plc t).map _ ++ plcs (n + 1) r).length = t.siz + sizs r
    rw [List.length_append, List.length_map, plc_len t, plcs_len]
end
mutual
theorem plc_pl : ∀ {t : Tr} {x : List Nat × Tr}, x ∈ plc t → x.1.length + 1 ≤ t.dep
  | .nd s ks, x, h => by
    rcases List.mem_cons.mp (show x ∈ ([], Tr.nd s ks) :: plcs 0 ks from h) with e | e
    · subst e
      show 0 + 1 ≤ 1 + deps ks
      omega
    · have := plcs_pl e
      show x.1.length + 1 ≤ 1 + deps ks
      omega
theorem plcs_pl : ∀ {ks : List Tr} {n : Nat} {x : List Nat × Tr}, x ∈ plcs n ks → x.1.length ≤ deps ks
  | [], n, x, h => by cases h
  | t :: r, n, x, h => by
    rcases List.mem_append.mp (show x ∈ (plc t).map (fun x => (n :: x.1, x.2)) ++ plcs (n + 1) r from h) with e | e
    · obtain ⟨y, hy, e⟩ := List.mem_map.mp e
      have := plc_pl hy
      subst e
      show y.1.length + 1 ≤ max t.dep (deps r)
      omega
    · have := plcs_pl e
      show x.1.length ≤ max t.dep (deps r)
      omega
end
end L3
/-! L3w: the hand that the laws draw from: a list that changes -/
namespace L3
open PySem PySem.Spec PyProof.Rows L2
/-! lists as they stand, by H itself -/
def rHx : R2 := fun x y H Q => ∃ p xs i v, x = .ref p ∧ y = .int i ∧ H p = some (.lst xs) ∧ atI xs i = some v ∧ Q v H
def rHlen : List V → Hp → VK → Prop := fun vs H Q => ∃ p xs, vs = [.ref p] ∧ H p = some (.lst xs) ∧ Q (.int (xs.length : Nat)) H
section
variable {X : Cx}
theorem ix_h : IxR X rHx := by
  intro value slice pins s σ H x y v u Q I rx ry ⟨p, xs, i, z, e1, e2, h, ha, q⟩ hs
  exact ix_list value slice pins s σ H x y v u Q I rx ry ⟨p, xs, i, z, e1, e2, SqL.of h, ha, q⟩ hs
theorem call_hlen : CallR X (.builtin "len") rHlen := by
  intro pins s σ H xs us Q I r ⟨p, ys, e, h, q⟩
  exact call_len pins s σ H xs us Q I r ⟨.ref p, ys.length, e, .inl ⟨ys, SqL.of h, rfl⟩, q⟩
end
/-- the hand at h, its cells at c -/
def hw (h c : Addr) (cells : List Int) : Wd where
  foot := fun b => b = h ∨ b = c
  inv := fun H => ∃ i j m : Int, 0 ≤ i ∧ h ≠ c ∧ H h = some (.lst [.ref c, .int i, .int j, .int m]) ∧ H c = some (.lst (cells.map V.int))
  there := fun H b ⟨i, j, m, _, _, h1, h2⟩ hb => by
    rcases hb with e | e
    · exact ⟨_, by rw [e]; exact h1⟩
    · exact ⟨_, by rw [e]; exact h2⟩
  ext := fun H H' ⟨i, j, m, h0, hn, h1, h2⟩ hk _ => ⟨i, j, m, h0, hn, hk _ _ (.inl rfl) h1, hk _ _ (.inr rfl) h2⟩
def sp_pick : Sp := fun vs H Q _ => ∃ (h c : Addr) (cells : List Int) (i j m many : Int), vs = [.ref h, .int many] ∧ 0 ≤ i ∧ h ≠ c ∧ H h = some (.lst [.ref c, .int i, .int j, .int m]) ∧ H c = some (.lst (cells.map V.int)) ∧ 0 < many ∧ many < 1000000 ∧
  ∀ i' j' r : Int, 0 ≤ i' → 0 ≤ r → r < many → Q (.int r) (upd H h (.lst [.ref c, .int i', .int j', .int m]))
def F_pick : TF := fun wd ds φ _ => ∃ (h c : Addr) (cells : List Int) (many : Int), wd = hw h c cells ∧ ds = [.ref h, .int many] ∧ 0 < many ∧ many < 1000000 ∧ ∀ r : Int, 0 ≤ r → r < many → φ (.int r)
theorem pick_of {P : Program} {w : World} {K : PySem.W.Frag} {mg : Str → Option Value} {base : Heap} {k : Nat} {f : Addr} (G : FnR P w K mg base (L2.CX P w) k f sp_pick) : Fn3 P w K mg base k f F_pick := by
  refine FnR.imp G fun vs H Q E ⟨wd, R, ds, φ, ε, b, r, ⟨h, c, cells, many, e1, e2, h1, h2, hq⟩, hQ, _⟩ => ?_
  subst e1 e2
  obtain ⟨v, u, ev, r1, r2⟩ := reps2 r
  subst ev
  obtain rfl : v = .ref h := r1
  obtain rfl : u = .int many := r2
  obtain ⟨i, j, m, h0, hn, g1, g2⟩ := b.inv
  refine ⟨h, c, cells, i, j, m, many, rfl, h0, hn, g1, g2, h1, h2, fun i' j' r hi hr1 hr2 => hQ _ R _ (.int r) ⟨fun _ _ h => h, fun a o q => ?_, fun a o q hf => ?_, fun _ _ q _ _ => q, ⟨i', j', m, hi, hn, upd_same, by rw [upd_ne hn.symm]; exact g2⟩, b.ft⟩ rfl (hq r hr1 hr2)⟩
  · have : a ≠ h := fun e => by
      have := b.ft a (.inl e)
      rw [this] at q
      cases q
    rw [upd_ne this]
    exact b.sub a o q
  · rw [upd_ne fun e => hf (.inl e)]
    exact q
/-- a drawn item -/
def F_of : TF := fun wd ds φ _ => ∃ (h c : Addr) (cells : List Int) (es : List D), wd = hw h c cells ∧ ds = [.ref h, .lst es] ∧ es ≠ [] ∧ es.length < 1000000 ∧ ∀ d ∈ es, φ d
/-- the hand, made -/
def F_hand : TF := fun _ ds φ _ => ∃ ns : List Int, ds = [.lst (ns.map D.int)] ∧ ns.length ≤ 63 ∧ ∀ m : Int, φ (.lst [.lst (ns.map D.int), .int 0, .int 0, .int m])
/-! ### the script: read only, in the memory or in the program's own part -/
def TSlS (K : PySem.W.Frag) (T : TD) (Tl Th : TPD) : TD := fun c env φ => T c env fun x => Tl c env fun lo => Th c env fun hi => ∃ (a : Addr) (ns : List Int), x = .ref a ∧ (∀ H, c.wd.inv H → SqL K H a (ns.map V.int)) ∧ φ (.lst (L3.cutD (ns.map D.int) lo hi))
theorem reps_ints {K : PySem.W.Frag} {R : Hp} : ∀ ns : List Int, Reps K R (ns.map D.int) (ns.map V.int)
  | [] => rfl
  | n :: r => ⟨_, _, rfl, rfl, reps_ints r⟩
theorem de_sliceS {X : Cx} {W : WX} {K : PySem.W.Frag} {a : Expr} {pos : Pos} {Ta : TD} {lo hi : Option Expr} {p2 : Pos} {Tl Th : TPD} (ha : DE X W a Ta) (hl : DO X W lo Tl) (hu : DO X W hi Th) (hK : X.K = K := by rfl) : DE X W (.Subscript a (.Slice lo hi none p2) pos) (TSlS K Ta Tl Th) := by
  subst hK
  exact de_mk (pe_slice sl_all ha hl hu) fun S R H σ env φ lk ok h => by
    refine tD.ask lk ok h fun R1 H1 d v f1 ok1 r1 q1 => tO3.ask lk ok1 q1 fun R2 H2 l f2 ok2 q2 => tO3.ask lk ok2 q2 fun R3 H3 u f3 ok3 ⟨b, ns, e, hS, q3⟩ => ?_
    subst e
    obtain rfl : v = .ref b := r1
    have ff := (f1.trans f2).trans f3
    exact .inr (.inl ⟨b, _, rfl, hS _ ok3.bas.inv, fun n hn => Pst.from ff (Pst.lst ok3.bas hn (cut_rep (reps_ints ns)) q3)⟩)
def F_hand2 (K : PySem.W.Frag) : TF := fun wd ds φ _ => ∃ (a : Addr) (ns : List Int), ds = [.ref a] ∧ (∀ H, wd.inv H → SqL K H a (ns.map V.int)) ∧ ns.length ≤ 63 ∧ ∀ m : Int, φ (.lst [.lst (ns.map D.int), .int 0, .int 0, .int m])
/-- the world of the script -/
theorem script_world {K : PySem.W.Frag} {H : Hp} {a : Addr} {xs : List V} (hO : Only H) (h : SqL K H a xs) : ∃ wd : Wd, Bas wd (fun _ => none) H ∧ ∀ H', wd.inv H' → SqL K H' a xs := by
  rcases h with h | h
  · rcases hO a with z | ⟨o, ys, z⟩
    · rcases h with h | ⟨o, h⟩
      · rw [z] at h; cases h
      · rw [z] at h; cases h
    · have e : ∃ o', H a = some (.frz o' (.lst xs)) := by
        rcases h with h | ⟨o', h⟩
        · rw [z] at h; cases h
        · exact ⟨o', h⟩
      obtain ⟨o', e⟩ := e
      refine ⟨⟨fun b => b = a, fun H => H a = some (.frz o' (.lst xs)), fun H b h e => ⟨.frz o' (.lst xs), by rw [e]; exact h⟩, fun H H' h k _ => k _ _ rfl h⟩, ⟨fun _ _ q => by (cases q), e, fun _ _ => rfl⟩, fun H' h' => .inl (.inr ⟨o', h'⟩)⟩
  · exact ⟨⟨fun _ => False, fun _ => True, fun _ _ _ h => h.elim, fun _ _ _ _ _ => trivial⟩, ⟨fun _ _ q => by (cases q), trivial, fun _ h => h.elim⟩, fun H' _ => .inr h⟩
def sp_law (K : PySem.W.Frag) : Sp := fun vs H Q _ => ∃ (a : Addr) (ns : List Int), vs = [.ref a] ∧ Only H ∧ SqL K H a (ns.map V.int) ∧ ns.length ≤ 63 ∧ ∀ H', Q (.bl true) H'
/-- the law's def: its hand is made, then the rest runs in the hand's world -/
theorem law_top {K : PySem.W.Frag} {W : WX} {N : List Str} {H : Hp} {Q : VK} {vs : List V} {T : TD} {Trest : TSD} (hN : 2 ≤ N.length) (h : ∃ E, sp_law K vs H Q E)
    (hT : ∀ (wd : Wd) (a : Addr) (ns : List Int) (φ : D → Prop), (∀ H, wd.inv H → SqL K H a (ns.map V.int)) → ns.length ≤ 63 → (∀ m : Int, φ (.lst [.lst (ns.map D.int), .int 0, .int 0, .int m])) → T ⟨wd, fun _ _ => False⟩ (.v (.ref a) :: List.replicate (N.length - 1) .no) φ)
    (hrest : ∀ (p c : Addr) (ns : List Int), Trest ⟨hw p c ns, fun _ _ => False⟩ { nx := fun _ => False, rt := fun d _ => d = .bl true } (.no :: .v (.ref p) :: List.replicate (N.length - 2) .no)) :
    tSeq (tAsg (tD K W T) (gName 1)) (tS3 K W Trest) { nx := fun _ H' => Q .non H', rt := Q } (L2.start N vs) H := by
  obtain ⟨E, a, ns, rfl, hO, hS, hl, hQ⟩ := h
  obtain ⟨wd, b, hw'⟩ := script_world hO hS
  obtain ⟨n, hn⟩ : ∃ n, N.length = n + 2 := ⟨N.length - 2, by omega⟩
  have e1 : L2.start N [.ref a] = some (.ref a) :: none :: List.replicate n none := by
    unfold L2.start
    rw [hn]
    rfl
  rw [e1]
  have no : ∀ (n : Nat) (R H : Hp), Paired (SlOk K R H) (List.replicate n none) (List.replicate n .no) := by
    intro n R H
    induction n with
    | zero => exact .nil
    | succ n ih => exact .cons trivial ih
  have nad : ∀ (n i : Nat) (p : Addr), adAt (List.replicate n .no) i ≠ some p := by
    intro n i p h
    unfold adAt at h
    rw [List.getElem?_replicate] at h
    split at h <;> cases h
  have nad2 : ∀ (n i : Nat) (s : Sl) (p : Addr), s.ad = none → adAt (s :: List.replicate n .no) i ≠ some p := by
    intro n i s p hs h
    cases i with
    | zero =>
      have : s.ad = some p := h
      rw [hs] at this
      cases this
    | succ i => exact nad n i p h
  refine ⟨⟨⟨wd, fun _ _ => False⟩, fun _ => none, H, fun _ => none⟩, fun _ => none, .v (.ref a) :: List.replicate (n + 1) .no, fun d => ∃ m : Int, d = .lst [.lst (ns.map D.int), .int 0, .int 0, .int m], fun _ _ _ _ _ _ _ _ _ z => z.elim, ⟨Fin.refl b, fun _ _ h => h, .cons ⟨_, rfl, rfl⟩ (no (n + 1) _ _), fun i p h => absurd h (nad2 _ _ _ _ rfl), fun i j p h _ => absurd h (nad2 _ _ _ _ rfl)⟩, ?_, fun v H' ⟨R', d, f, r, m, e⟩ => ?_⟩
  · have := hT wd a ns (fun d => ∃ m : Int, d = .lst [.lst (ns.map D.int), .int 0, .int 0, .int m]) hw' hl (fun m => ⟨m, rfl⟩)
    rw [hn] at this
    exact this
  · subst e
    obtain ⟨p, xs, rfl, hp, hr⟩ := rep_lst r
    obtain ⟨v1, r1, rfl, q1, hr⟩ := hr
    obtain ⟨v2, r2, rfl, q2, hr⟩ := hr
    obtain ⟨v3, r3, rfl, q3, hr⟩ := hr
    obtain ⟨v4, r4, rfl, q4, hr⟩ := hr
    obtain rfl : r4 = [] := hr
    obtain ⟨c, ys, rfl, hc, hy⟩ := rep_lst q1
    obtain rfl : ys = ns.map V.int := hy.ints
    obtain rfl : v2 = .int 0 := q2
    obtain rfl : v3 = .int 0 := q3
    obtain rfl : v4 = .int m := q4
    have hpc : p ≠ c := fun e => by
      subst e
      rw [hp] at hc
      have z := HO.lst.inj (Option.some.inj hc)
      cases ns with
      | nil => cases z
      | cons n r => cases z
    refine ⟨⟨⟨hw p c ns, fun _ _ => False⟩, fun _ => none, H', fun _ => none⟩, fun _ => none, .no :: .v (.ref p) :: List.replicate n .no, { nx := fun _ => False, rt := fun d _ => d = .bl true }, fun _ _ _ _ _ _ _ _ _ z => z.elim,
      ⟨Fin.refl ⟨fun _ _ q => by (cases q), ⟨0, 0, m, Int.le_refl _, hpc, f.sub _ _ hp, f.sub _ _ hc⟩, fun _ _ => rfl⟩, fun _ _ h => h, .cons trivial (.cons ⟨_, rfl, rfl⟩ (no n _ _)), fun i q h => ?_, fun i j q h _ => ?_⟩, ?_, ⟨fun _ _ _ _ _ z => z.elim, fun R H σ env d v ok r e => ?_, fun _ _ _ _ _ z => z.elim, fun _ _ _ _ _ z => z.elim⟩⟩
    · cases i with
      | zero => cases h
      | succ i => exact absurd h (nad2 n i _ q rfl)
    · cases i with
      | zero => cases h
      | succ i => exact absurd h (nad2 n i _ q rfl)
    · have := hrest p c ns
      rw [hn] at this
      exact this
    · subst e
      obtain rfl : v = .bl true := r
      exact hQ H
/-! ### a def, called in any way -/
theorem fn3O {P : Program} {w : World} {K : PySem.W.Frag} {mg : Str → Option Value} {base : Heap} {x qual : Str} {params : Arguments} {body : List Stmt} {scope : Scope} {f : Addr} {fd : FuncData} {N ps : List Str} {k : Nat} {F : TF} {T : TSD} (FD : FunD K x qual params body scope [] [] f fd) (Sc : FnScope N ps scope) (hn : ∀ wd ds φ ε, F wd ds φ ε → ds.length = ps.length)
    (hbody : ∀ (cdv : Value) (A : Around) (outer : List Env) (s : Shared) (H : Hp) (E : XK), Room k (A.deeper (envOfC qual scope s.heap.objs.size f cdv)) → DSs (cx3 P w K mg base N qual scope f cdv A outer s H E) (W3 E) body T)
    (hT : ∀ wd ds φ ε, F wd ds φ ε → T ⟨wd, fun ex _ => ε ex⟩ (retD φ) (startD N ds)) : Fn3O P w K mg base (k + 1) f fd ps F := by
  refine FD.ok Sc (fun vs H Q E h => ?_) fun cdv A outer s H vs Q E hr h => ?_
  · obtain ⟨wd, R, ds, φ, ε, b, r, hf, _⟩ := h
    rw [r.length]
    exact hn _ _ _ _ hf
  · obtain ⟨wd, R, ds, φ, ε, b, r, hf, hQ, hE⟩ := h
    exact ⟨_, hbody cdv A outer s H E hr, body_ok (S := ⟨⟨wd, fun ex _ => ε ex⟩, R, H, R⟩) (fun R' H' σ env cls od ex ok xr q => hE cls od R' H' ex ok.fin xr q) (start_ok3 (c := ⟨wd, fun ex _ => ε ex⟩) b r) (hT wd ds φ ε hf) hQ⟩
theorem Fn3O.fn {P : Program} {w : World} {K : PySem.W.Frag} {mg : Str → Option Value} {base : Heap} {k : Nat} {f : Addr} {fd : FuncData} {ps : List Str} {F : TF} (G : Fn3O P w K mg base k f fd ps F) (hb : Binds K fd ps []) : Fn3 P w K mg base k f F := by
  have z := FnOk.raw G (ds := []) (dvs := []) hb .nil
  intro A outer s H us vs Q E hr e0 r hs
  exact z A outer s H us vs Q E hr e0 r (by show spW K F (vs ++ []) H Q E; rw [List.append_nil]; exact hs)
theorem kwB_of {K : PySem.W.Frag} {x qual : Str} {params : Arguments} {body : List Stmt} {scope : Scope} {f : Addr} {fd : FuncData} {ps ks : List Str} {n : Nat} {ix : List Nat} (F : FunD K x qual params body scope [] [] f fd)
    (h : ∀ (kV doc pm : Value) (an : Option Addr) (cdv ct : Value) (us ws : List Value), us.length = n → ws.length = ks.length → bindArgs (PySem.W.fnOf x qual params body scope .none kV doc pm an cdv ct) ⟨us, ks.zip ws⟩ = pure (ps.zip (permL ix (us ++ ws)))) : KwB K fd ps n ks ix := by
  obtain ⟨oc, od, dV, kV, doc, pm, an, cdv, ct, osl, rfl, lk, hcd, hD, hK⟩ := F.ex
  rcases hD with ⟨_, rfl⟩ | ⟨e, _⟩
  · exact fun s us ws _ h1 h2 => .of_eq (h kV doc pm an cdv ct us ws h1 h2)
  · exact absurd rfl e
end L3
/-! L3x: the head: facts by names and by Bools of one's own -/
namespace L3
open PySem PySem.Spec PyProof.Rows L2
abbrev ExB := PySem.W.Frag → Bool
def obsX (fa : List He.Fa) (fn : List He5.DefA) (ex : List ExB) (K : PySem.W.Frag) : He.AlD := (((fa.all fun f => f.ok K) && fn.all fun d => d.ok K) && ex.all fun e => e K, fn.map fun d => He5.fnA K (d.at_ K))
def SaysX (fa : List He.Fa) (fn : List He5.DefA) (ex : List ExB) (K : PySem.W.Frag) : Prop := obsX fa fn ex K = He5.valA fn
def obsXG (n : Nat) (fa : List He.Fa) (fn : List He5.DefA) (ex : List ExB) (g : Addr → Option Obj) : He.AlD := obsX fa fn ex (He.frG g (He5.asA g n))
def hookX (n : Nat) (fa : List He.Fa) (fn : List He5.DefA) (ex : List ExB) : PySem.W.Hook where
  α := He.AlD
  obs := fun s => obsXG n fa fn ex s.heap.get?
  val := fun _ => He5.valA fn
  says := fun _ h => ∃ K : PySem.W.Frag, K.In h ∧ SaysX fa fn ex K
  of := fun _ _ e => ⟨_, He.frG_in, e⟩
  keeps := fun _ _ _ ⟨K, hK, c⟩ k => ⟨K, PySem.W.Frag.In.keeps hK k, c⟩
theorem obsXG_eq {n : Nat} {fa : List He.Fa} {fn : List He5.DefA} {ex : List ExB} {g : Addr → Option Obj} {s : Shared} (h : ∀ a, g a = s.heap.get? a) : obsXG n fa fn ex g = (hookX n fa fn ex).obs s := by
  have e : g = s.heap.get? := funext h
  rw [e] <;> rfl
section
variable {fa : List He.Fa} {fn : List He5.DefA} {ex : List ExB} {K : PySem.W.Frag}
theorem SaysX.fst (c : SaysX fa fn ex K) : ((((fa.all fun f => f.ok K) && fn.all fun d => d.ok K) && ex.all fun e => e K) = true) := congrArg (fun z : He.AlD => z.1) c
theorem SaysX.fact (c : SaysX fa fn ex K) (i : Nat) {f : He.Fa} (h : fa[i]? = some f := by rfl) : f.ok K = true :=
  List.all_eq_true.mp (He.ba (He.ba c.fst).1).1 f (List.mem_of_getElem? h)
theorem SaysX.ex_ (c : SaysX fa fn ex K) (i : Nat) {f : ExB} (h : ex[i]? = some f := by rfl) : f K = true :=
  List.all_eq_true.mp (He.ba c.fst).2 f (List.mem_of_getElem? h)
theorem SaysX.def_ (c : SaysX fa fn ex K) (i : Nat) {d : He5.DefA} (h : fn[i]? = some d := by rfl) : ∃ fd, L2.FunD K d.name d.qual d.params d.body d.scope (d.dvs K) (d.kws K) (d.at_ K) fd := by
  have c2 := (He.ba (He.ba c.fst).1).2
  have e : fn.map (fun d => He5.fnA K (d.at_ K)) = fn.map He5.DefA.val := congrArg (fun z : He.AlD => z.2) c
  have e2 : (fn.map fun d => He5.fnA K (d.at_ K))[i]? = (fn.map He5.DefA.val)[i]? := by rw [e]
  rw [List.getElem?_map, List.getElem?_map, h] at e2
  exact He5.DefA.funD (Option.some.inj e2) (List.all_eq_true.mp c2 d (List.mem_of_getElem? h))
end
/-! ### the Bools -/
def insB (C : Str) : ExB := fun K => He.eqO (PySem.W.findIn K (Value.ref (He.ga K C)) (Str.ofString "__class__")) (some (some (Value.builtin "object.__class__"))) &&
  (He.eqO (PySem.W.specialIn K (Value.builtin "object.__class__") (Str.ofString "__get__")) (some (some (Value.builtin "getset_descriptor.__get__"))) &&
  (decide (PySem.W.takesIn K (Value.builtin "object.__class__") = some true) && decide (PySem.W.mroIn K (He.ga K C) (Value.type "object") = some true)))
theorem insB_ok {C : Str} {K : PySem.W.Frag} (h : insB C K = true) (hc : Cls K (He.ga K C)) : InsK K (He.ga K C) := by
  obtain ⟨h1, h⟩ := He.ba h
  obtain ⟨h2, h⟩ := He.ba h
  obtain ⟨h3, h4⟩ := He.ba h
  exact ⟨hc, He.eqO_ok h1, He.eqO_ok h2, of_decide_eq_true h3, of_decide_eq_true h4⟩
def eqB (C : Str) : ExB := fun K => He.eqO (PySem.W.findIn K (.ref (He.ga K C)) "__eq__") (some (some (.ref (He.ma K (He.ga K C) "__eq__")))) && (PySem.W.isFn K (.ref (He.ma K (He.ga K C) "__eq__")) &&
  (He.eqO (PySem.W.findIn K (.ref (He.ga K C)) "__ne__") (some (some (.builtin "object.__ne__"))) && decide (PySem.W.mroIn K (He.ga K C) (.type "object") = some true)))
theorem eqB_ok {C : Str} {K : PySem.W.Frag} (h : eqB C K = true) : EqK K (He.ga K C) (He.ma K (He.ga K C) "__eq__") := by
  obtain ⟨h1, h⟩ := He.ba h
  obtain ⟨h2, h⟩ := He.ba h
  obtain ⟨h3, h4⟩ := He.ba h
  exact ⟨He.eqO_ok h1, h2, He.eqO_ok h3, of_decide_eq_true h4⟩
def nfB (C : Str) (t : PySem.W.Frag → Value) : ExB := fun K => PySem.W.notFirst K (He.ga K C) (t K)
def kitB (t u : PySem.W.Frag → Value) (b : Bool) : ExB := fun K => decide (PySem.W.kitOne K (t K) (u K) = some b)
theorem kitB_ok {t u : PySem.W.Frag → Value} {b : Bool} {K : PySem.W.Frag} (h : kitB t u b K = true) : PySem.W.kitOne K (t K) (u K) = some b := of_decide_eq_true h
abbrev rC (C : Str) : PySem.W.Frag → Value := fun K => .ref (He.ga K C)
/-- a class is read from -/
def crB (C : Str) : ExB := fun K => PySem.W.readsIn K (He.ga K C) (.type "type") && He.eqO (PySem.W.specialIn K (.ref (He.ga K C)) "__getattribute__") (some (some (.builtin "type.__getattribute__")))
theorem crB_ok {C : Str} {K : PySem.W.Frag} (h : crB C K = true) : ClX.CRead K (He.ga K C) (.type "type") := by
  obtain ⟨h1, h2⟩ := He.ba h
  exact ⟨h1, He.eqO_ok h2⟩
/-- a staticmethod -/
def smB (C m : Str) : ExB := fun K => He5.wrapB K (He.ga K C) "staticmethod" "staticmethod.__get__" m && PySem.W.keepIn K (.ref (He5.wf K (He.ga K C) "staticmethod" m))
theorem smB_ok {C m : Str} {K : PySem.W.Frag} (hc : ClX.CRead K (He.ga K C) (.type "type")) (h : smB C m K = true) : SMet K (He.ga K C) m (He.ma K (He.ga K C) m) (He5.wf K (He.ga K C) "staticmethod" m) := by
  obtain ⟨h1, h2⟩ := He.ba h
  obtain ⟨h3, h4⟩ := He5.wrapB_ok h1
  exact ⟨hc, h3, h4, h2⟩
/-! ### the end -/
theorem walk_ofEW {l : PySem.W.OpenLaw} {n k : Nat} {q : Program} {loose : List Str} {XP : (Str → Option Value) → Heap → Prop} {YP : World → Heap → Prop} {d : DefRec} {CX' : World → CXT} {x : Str}
    (hn : l.most = some n) (hn2 : n ≤ sizeLine) (hdf : d.params.defaults = []) (hr : Room k callerA)
    (F : ∀ (w : World) (mg : Str → Option Value) (fa : Addr) (h : Heap), YP w h → h.Ns mainGlobals mg → mg d.name = some (.ref fa) →
      ∃ (K : PySem.W.Frag) (fd : FuncData) (sp : Sp), K.In h ∧ (∀ (s : Shared) (u : Value), BindsTo s fd ⟨[u], []⟩ [(x, u)]) ∧
        (∀ (H : Hp) (a : Addr) (ns : List Int), ns.length ≤ n → Only H → SqL K H a (ns.map V.int) → sp [.ref a] H (fun v _ => v = .bl true) fun _ _ _ => False) ∧
        ∀ base : Heap, K.In base → base.Ns mainGlobals mg → FnOk l.prog w K mg base (CX' w) k fa fd [x] sp)
    (hCX : ∀ (w : World) (H : Hp) (s : Shared) (e : Value) (s' : Shared), CX' w [] H s (fun _ _ _ => False) e s' → False) :
    PySem.W.WalkO q loose XP YP l.row.toRowW d [] (fun f vs => PySem.call f vs) := by
  refine Att.attach_call hn hdf fun w s₀ s₁ mg mb fa o pm cd doc a vs ns G Y ho hd hcd hmg hobj hints hlen hg => ?_
  obtain ⟨K, fd, sp, KX, hb, hsp, hF⟩ := F w mg fa _ Y G.T.g hmg
  exact law_call KX G.T.g G.T.b G.T.builtins G.T.nolimit hg hobj hints (Nat.le_trans hlen hn2) hr hF hb (fun H hO hS => hsp H a ns hlen hO hS) fun H e s' => hCX w H s₁ e s'
theorem cx_no {P : Program} {w : World} {o : List Env} {H : Hp} {s : Shared} {e : Value} {s' : Shared} (h : L2.CX P w o H s (fun _ _ _ => False) e s') : False := by
  obtain ⟨_, _, _, _, _, _, _, _, _, _, _, _, z⟩ := h
  exact z
end L3
/-! L3p: own exceptions: made, their fields stored -/
namespace L3
open PySem PySem.Spec PyProof.Rows L2
/-- what is asked of a built-in base -/
structure BsX (B newId initId : String) (bmB : List Value) : Prop where
  FB : ExcBaseFacts B newId initId bmB
  KF : PySem.W.KxsFacts B initId
  pass : ∀ self : Value, PySem.refuseLoop self "__setattr__" bmB = pure ()
  ob : bmB.contains (.type "object") = true
abbrev bmVE : List Value := [.type "ValueError", .type "Exception", .type "BaseException", .type "object"]
abbrev bmLE : List Value := [.type "LookupError", .type "Exception", .type "BaseException", .type "object"]
abbrev bmIE : List Value := [.type "IndexError", .type "LookupError", .type "Exception", .type "BaseException", .type "object"]
theorem bsVE : BsX "ValueError" "ValueError.__new__" "ValueError.__init__" bmVE := ⟨F.excBase_ValueError, PySem.W.kxs_ValueError, F.store_ValueError.passes, by decide +kernel⟩
theorem bsLE : BsX "LookupError" "LookupError.__new__" "LookupError.__init__" bmLE := ⟨F.excBase_LookupError, PySem.W.kxs_LookupError, F.store_LookupError.passes, by decide +kernel⟩
theorem bsIE : BsX "IndexError" "IndexError.__new__" "IndexError.__init__" bmIE := ⟨F.excBase_IndexError, PySem.W.kxs_IndexError, F.store_IndexError.passes, by decide +kernel⟩
/-- what the written part says of an own exception class -/
structure ExC (K : PySem.W.Frag) (B newId initId : String) (bmB : List Value) (C : Addr) : Prop where
  bs : BsX B newId initId bmB
  cls : ∃ nm q N bs bm sn sub ab col dd k0 k1 k2 k3 k5, K.lookup C = some (excClassObj nm q C N bs bm true sn sub ab col dd k0 k1 k2 k3 k5 newId) ∧ PySem.W.excTail bmB bm = true
  sa : PySem.W.findIn K (.ref C) "__setattr__" = some (some (.builtin "object.__setattr__"))
  exC : PySem.W.subIn K (.ref C) (.type "BaseException") = some true
  tyC : PySem.W.typeIn K (.ref C) = some (.type "type")
  kC : PySem.W.keepIn K (.ref C) = true
def excB (C : Str) (newId : String) (bmB : List Value) (K : PySem.W.Frag) : Bool := PySem.W.excInitIn K (He.ga K C) bmB newId && (PySem.W.hasDictIn K (He.ga K C) && (He.eqO (PySem.W.findIn K (.ref (He.ga K C)) "__setattr__") (some (some (.builtin "object.__setattr__"))) &&
  (decide (PySem.W.subIn K (.ref (He.ga K C)) (.type "BaseException") = some true) && (decide (PySem.W.typeIn K (.ref (He.ga K C)) = some (.type "type")) && PySem.W.keepIn K (.ref (He.ga K C))))))
theorem exc_lookup {K : PySem.W.Frag} {C : Addr} {bmB : List Value} {newId : String} (q : PySem.W.excInitIn K C bmB newId = true) (hd : PySem.W.hasDictIn K C = true) :
    ∃ nm qn N bs bm sn sub ab col dd k0 k1 k2 k3 k5, K.lookup C = some (excClassObj nm qn C N bs bm true sn sub ab col dd k0 k1 k2 k3 k5 newId) ∧ PySem.W.excTail bmB bm = true := by
  unfold PySem.W.excInitIn at q
  split at q
  · rename_i dd cd sl ho
    split at q
    · rename_i C' bm k0 k1 k2 k3 n k5 hm hs
      simp only [Bool.and_eq_true, beq_iff_eq, Bool.not_eq_true'] at q
      obtain ⟨⟨⟨rfl, rfl⟩, hdel⟩, ht⟩ := q
      obtain ⟨nm, bs, mro, ns, qn, hdc, sn, sub, ab, col, del⟩ := cd
      dsimp only at hm hdel
      subst hm hdel
      have hsl : sl = #[k0, k1, k2, k3, some (.builtin n), k5] := by
        obtain ⟨l⟩ := sl
        simp only at hs
        rw [hs]
      subst hsl
      have e : hdc = true := by
        unfold PySem.W.hasDictIn PySem.W.clsIn at hd
        rw [ho] at hd
        simpa using hd
      subst e
      exact ⟨nm, qn, ns, bs, bm, sn, sub, ab, col, dd, k0, k1, k2, k3, k5, ho, ht⟩
    · cases q
  · cases q
theorem excB_ok {C : Str} {B newId initId : String} {bmB : List Value} {K : PySem.W.Frag} (b : BsX B newId initId bmB) (h : excB C newId bmB K = true) : ExC K B newId initId bmB (He.ga K C) := by
  obtain ⟨h1, h⟩ := He.ba h
  obtain ⟨h2, h⟩ := He.ba h
  obtain ⟨h3, h⟩ := He.ba h
  obtain ⟨h4, h⟩ := He.ba h
  obtain ⟨h5, h6⟩ := He.ba h
  exact ⟨b, exc_lookup h1 h2, He.eqO_ok h3, of_decide_eq_true h4, of_decide_eq_true h5, h6⟩
/-! ### self.f = v -/
section
open Builtin Builtin.ObjectAttr
variable {prog : Program} {w : World} {A : Around} {E : Value → Shared → Prop} {R : Result → Shared → Prop} {hp : Heap} {g : Array GenState} {d : Drawn} {t : Nat} {os : OsState} {K : PySem.W.Frag} {name : Str} {tk : Tok} {v : Value} {x C dx : Addr} {fv : Array Value} {cd : ClassData} {bmB : List Value}
/-- up to the own dict -/
theorem osaX {ox : Obj} {od : Option Obj} (X : K.In hp) (I : PySem.W.InstAt hp x ox C od) (hcd : PySem.W.clsIn K C = some cd) (hm : PySem.W.excTail bmB cd.mro = true) (hpass : ∀ self : Value, refuseLoop self "__setattr__" bmB = pure ()) (hob : bmB.contains (.type "object") = true)
    (ha : PySem.W.findIn K (.ref C) name = some none)
    (hq : wpAny (model prog w) A.in1 (storeInOwnDict (.ref x) (.ref C) (.str name tk) name v false)
      (fun fin s' => match fin with | .done f => R (.ok f) s' | .again c' => c'.quiet = true ∧ codeAny (model prog w) A c' R s') (fun e s' => R (.error e) s') ⟨hp, g, d, t, os⟩) :
    codeAny (model prog w) A (.call (.builtin "object.__setattr__") ⟨[.ref x, .str name tk, v], []⟩) R ⟨hp, g, d, t, os⟩ := by
  have SF := F.store_object
  have hob' : cd.mro.contains (.type "object") = true := (PySem.W.excTail_contains "object" _ hm).trans hob
  have ne : cd.mro.isEmpty = false := by
    cases e : cd.mro with
    | nil =>
      rw [e] at hob'
      cases hob'
    | cons _ _ => rfl
  have sub : PySem.W.Looks (model prog w) hp (isInstance (.ref x) (.type "object")) true := I.type.andThen (PySem.W.looks_mroIn X (by unfold PySem.W.mroIn; rw [hcd, Option.bind_some, if_neg (by rw [ne]; decide), hob']))
  refine codeAny_call_builtin SF.slot.plain SF.entry (@PySem.W.check_slot (model prog w) _ _ ⟨hp, g, d, t, os⟩ "object.__setattr__" "object" "__setattr__" (.ref x) [.str name tk, v] [] _ SF.kind SF.split sub (SF.args (.ref x) (.str name tk) v) ?_)
  have hmr : PySem.W.Looks (model prog w) hp (mroOf (.ref C)) cd.mro := (PySem.W.looks_clsIn X hcd).andThen .now
  have L3 : PySem.W.Looks (model prog w) hp (storeTaker? none) none := .now
  rw [PySem.W.osa_eq, refuse_eq]
  refine wpAny_bind (wpAny_bind (I.type.at (wpAny_bind (hmr.at ?_))))
  rw [PySem.W.excTail_pass _ (hpass _) _ hm]
  exact wpAny_pure (wpAny_bind (I.type.at (wpAny_bind ((PySem.W.looks_findIn X ha).at (wpAny_bind (L3.at hq))))))
theorem osaX_new (X : K.In hp) (hx : hp.get? x = some { cls := .ref C, data := .fields fv }) (hcd : PySem.W.clsIn K C = some cd) (hm : PySem.W.excTail bmB cd.mro = true) (hpass : ∀ self : Value, refuseLoop self "__setattr__" bmB = pure ()) (hob : bmB.contains (.type "object") = true) (hh : cd.hasDict = true)
    (ha : PySem.W.findIn K (.ref C) name = some none)
    (hq : ∀ h' tk' dx, (∀ b o, b ≠ x → hp.get? b = some o → h'.get? b = some o) → hp.objs.size ≤ dx → dx ≠ x → h'.get? x = some { cls := .ref C, dict := some dx, data := .fields fv } →
      h'.Ns1 dx (fun y => if y = name then some v else none) → R (.ok (.ret .none)) ⟨h', g, d, tk', os⟩) :
    codeAny (model prog w) A (.call (.builtin "object.__setattr__") ⟨[.ref x, .str name tk, v], []⟩) R ⟨hp, g, d, t, os⟩ := by
  have I : PySem.W.InstAt hp x { cls := .ref C, data := .fields fv } C none := ⟨hx, rfl, rfl, trivial⟩
  have hxs : x ≠ hp.objs.size := Nat.ne_of_lt (Heap.lt_size hx)
  refine osaX X I hcd hm hpass hob ha ?_
  have hcls : PySem.W.Looks (model prog w) hp (classData C) cd := PySem.W.looks_clsIn X hcd
  obtain ⟨nm, bs, mro, ns, qn, hd, sn, sb, ab, col, del⟩ := cd
  dsimp only at hh
  subst hh
  unfold storeInOwnDict ownDictForStores
  repeat (first | with_reducible refine HandSPX.store_in_new ?_ ?_ | with_reducible refine wpAny_loadPart_at hx ?_ | with_reducible refine hcls.at ?_ | wp_step)
  · exact ⟨_, #[], _, (Heap.get?_update_ne _ _ _ _ hxs.symm).trans (Heap.get?_push_at rfl rfl), rfl, fun e he => absurd he (by simp), fun _ => rfl⟩
  · intro h' tk' hn' hs
    have hx₁ : (hp.push { cls := .type "dict", data := .dict #[] }).get? x = some { cls := .ref C, data := .fields fv } := Heap.get?_push_of_some _ hx
    refine hq h' tk' hp.objs.size (fun b o hb ho => ?_) (Nat.le_refl _) hxs.symm ?_ hn'
    · exact (hs.2 b (Nat.ne_of_lt (Heap.lt_size ho))).trans ((Heap.get?_update_ne _ _ _ _ hb).trans (Heap.get?_push_of_some _ ho))
    · exact (hs.2 x hxs).trans (Heap.get?_update_self _ hx₁ rfl)
theorem osaX_old {m0 : Str → Option Value} {nl : List Str} (X : K.In hp) (hx : hp.get? x = some { cls := .ref C, dict := some dx, data := .fields fv }) (hns : hp.Ns1 dx m0) (hw : Within m0 nl) (hz : nl.length ≤ 1000) (hcd : PySem.W.clsIn K C = some cd) (hm : PySem.W.excTail bmB cd.mro = true)
    (hpass : ∀ self : Value, refuseLoop self "__setattr__" bmB = pure ()) (hob : bmB.contains (.type "object") = true) (hh : cd.hasDict = true) (ha : PySem.W.findIn K (.ref C) name = some none)
    (hq : ∀ h' tk', (∀ b o, b ≠ dx → hp.get? b = some o → h'.get? b = some o) → h'.Ns1 dx (fun y => if y = name then some v else m0 y) → R (.ok (.ret .none)) ⟨h', g, d, tk', os⟩) :
    codeAny (model prog w) A (.call (.builtin "object.__setattr__") ⟨[.ref x, .str name tk, v], []⟩) R ⟨hp, g, d, t, os⟩ := by
  obtain ⟨oD, esD, epD, hoD, hdD, _⟩ := hns.count hw
  have I : PySem.W.InstAt hp x { cls := .ref C, dict := some dx, data := .fields fv } C (some oD) := ⟨hx, rfl, rfl, hoD⟩
  refine osaX X I hcd hm hpass hob ha ?_
  have hcls : PySem.W.Looks (model prog w) hp (classData C) cd := PySem.W.looks_clsIn X hcd
  obtain ⟨nm, bs, mro, ns, qn, hd, sn, sb, ab, col, del⟩ := cd
  dsimp only at hh
  subst hh
  unfold storeInOwnDict ownDictForStores
  repeat (first | with_reducible refine OEX.store_in_old hns hw hz ?_ | with_reducible refine wpAny_loadPart_at hx ?_ | with_reducible refine hcls.at ?_ | wp_step)
  intro h' tk' hn' hs
  exact hq h' tk' (fun b o hb ho => (hs.2 b hb).trans ho) hn'
end
section
variable {X : Cx} {pins : List (Addr × Obj)} {σ : L2.St} {H : Hp} {s : Shared} {a C dx : Addr} {f : Str} {y : V} {u : Value} {fs : List (Str × V)} {Q : Unit → Shared → Prop} {E : Value → Shared → Prop} {A : Around} {B newId initId : String} {bmB : List Value}
theorem ostX_new (T : ExC X.K B newId initId bmB C) (I : L2.Inv X pins σ H s) (e : H a = some (exo a C none)) (hno : PySem.W.findIn X.K (.ref C) f = some none) (ry : RelV y u)
    (h : ∀ dx s', H dx = none → dx ≠ a → L2.Inv X pins σ (upd (upd H dx (exd dx [(f, y)])) a (exo a C (some dx))) s' → Q () s') : wpAny (model X.prog X.w) A (setAttr (.ref a) f u) Q E s := by
  obtain ⟨nm, q, N, bs, bm, sn, sub, ab, col, dd, k0, k1, k2, k3, k5, hC, hbm⟩ := T.cls
  have hcl : PySem.W.clsIn X.K C = some { name := nm, bases := bs, mro := .ref C :: bm, ns := N, qualname := q, hasDict := true, slotNames := sn, subclasses := sub, abstract := ab, collection := col, hasDel := false } := by unfold PySem.W.clsIn; rw [hC] <;> rfl
  obtain ⟨t1, ho⟩ := exo_at I.hok e
  obtain ⟨hp, g, d, t, os⟩ := s
  refine PySem.W.set_plain I.kIn (ox := { cls := .ref C, dict := none, data := .fields #[.ref t1, .none, .none, .none, .bool false, .none] }) (od := none) ⟨ho, rfl, rfl, trivial⟩ T.sa ?_
  refine osaX_new I.kIn ho hcl (show PySem.W.excTail bmB (.ref C :: bm) = true from hbm) T.bs.pass T.bs.ob rfl hno (fun h' tk' dx k dn dne hx hn => ?_)
  have hnd : H dx = none := I.hok.fresh dn
  have nd : ∀ {b : Addr} {o : Obj}, hp.get? b = some o → b ≠ dx := fun {b o} q => Nat.ne_of_lt (Nat.lt_of_lt_of_le (Heap.lt_size q) dn)
  have na : ∀ {b : Addr}, H b = none → b ≠ a := fun {b} n z => by
    rw [z, e] at n
    cases n
  have Un1 : Un X.fs [] H (upd (upd H dx (exd dx [(f, y)])) a (exo a C (some dx))) hp h' := {
    keep := fun b o q n _ _ => k b o (na n) q
    slot := fun b o q n _ _ => ⟨o.slots, k b o (na n) q⟩
    free := fun b o q n _ => by rw [upd_ne (na n), upd_ne (nd q)]; exact n
    there := fun b o q _ => by
      by_cases hb : b = a
      · exact ⟨_, by rw [hb]; exact hx⟩
      · exact ⟨o, k b o hb q⟩
    tups := fun b xs q => by rw [upd_ne (at_ne e q exo_tup), upd_ne (ne_of_none q hnd)]; exact q
    frzs := fun b o v q => by rw [upd_ne (at_ne e q exo_frz), upd_ne (ne_of_none q hnd)]; exact q
    tbls := fun b ps q => ⟨#[], by rw [upd_ne (at_ne e q exo_tbl), upd_ne (ne_of_none q hnd), q]; simp⟩ }
  refine h dx _ hnd dne (I.un (t' := tk') Un1 fun b o q => ?_)
  by_cases hb : b = a
  · subst hb
    rw [upd_same] at q
    cases q
    exact exo_ok hx
  · rw [upd_ne hb] at q
    by_cases hd : b = dx
    · subst hd
      rw [upd_same] at q
      cases q
      exact exd_ok hn (relO_put (fs := []) ry fun g => True.intro)
    · rw [upd_ne hd] at q
      exact (I.hok b o q).stay (fun c v hc z => k c v (by
          rcases hc with hc | hc
          · rw [hc]
            exact hb
          · exact at_ne e hc exo_own) z)
        (fun c hc => by rw [upd_ne (at_ne e hc exo_own), upd_ne (ne_of_none hc hnd)]; exact hc) (fun c xs hc => by rw [upd_ne (at_ne e hc exo_tup), upd_ne (ne_of_none hc hnd)]; exact hc)
theorem ostX_old (T : ExC X.K B newId initId bmB C) (I : L2.Inv X pins σ H s) (e : H a = some (exo a C (some dx))) (ed : H dx = some (exd dx fs)) (hl : fs.length ≤ 900) (hno : PySem.W.findIn X.K (.ref C) f = some none) (ry : RelV y u)
    (h : ∀ s', L2.Inv X pins σ (upd H dx (exd dx ((f, y) :: fs))) s' → Q () s') : wpAny (model X.prog X.w) A (setAttr (.ref a) f u) Q E s := by
  obtain ⟨nm, q, N, bs, bm, sn, sub, ab, col, dd, k0, k1, k2, k3, k5, hC, hbm⟩ := T.cls
  have hcl : PySem.W.clsIn X.K C = some { name := nm, bases := bs, mro := .ref C :: bm, ns := N, qualname := q, hasDict := true, slotNames := sn, subclasses := sub, abstract := ab, collection := col, hasDel := false } := by unfold PySem.W.clsIn; rw [hC] <;> rfl
  obtain ⟨t1, ho⟩ := exo_at I.hok e
  obtain ⟨mA, hns, rel⟩ := exd_at I.hok ed
  have hw := within_of rel
  obtain ⟨hp, g, d, t, os⟩ := s
  obtain ⟨oD, _, _, hoD, _, _⟩ := hns.count hw
  refine PySem.W.set_plain I.kIn (ox := { cls := .ref C, dict := some dx, data := .fields #[.ref t1, .none, .none, .none, .bool false, .none] }) (od := some oD) ⟨ho, rfl, rfl, hoD⟩ T.sa ?_
  refine osaX_old I.kIn ho hns hw (by rw [List.length_map]; omega) hcl (show PySem.W.excTail bmB (.ref C :: bm) = true from hbm) T.bs.pass T.bs.ob rfl hno (fun h' tk' k hn => ?_)
  have hd : ∃ o, h'.get? dx = some o := by
    obtain ⟨o, _, _, e', _⟩ := hn
    exact ⟨o, e'⟩
  exact h _ (I.write (t' := tk') (x := dx) (e := dx) (o := exd dx ((f, y) :: fs)) (by rw [ed]; exact True.intro) (.inl rfl) k hd (exd_ok hn (relO_put ry rel)))
/-- the built-in __init__, bound to the object, called: the args are laid anew -/
theorem bound_init {u : Addr} {us : List Value} {Q : Value → Shared → Prop} (T : ExC X.K B newId initId bmB C) (I : L2.Inv X pins σ H s) (e : H a = some (exo a C none)) (hu : s.heap.get? u = some (PySem.W.kxs_mw initId a)) (hl : us.length ≤ sizeLine) (h : ∀ s', L2.Inv X pins σ H s' → Q .none s') :
    wpAny (model X.prog X.w) A (call (.ref u) us) Q E s := by
  obtain ⟨nm, q, N, bs, bm, sn, sub, ab, col, dd, k0, k1, k2, k3, k5, hC, hbm⟩ := T.cls
  obtain ⟨t1, ho⟩ := exo_at I.hok e
  have hC' := I.kIn _ _ hC
  obtain ⟨hp, g, d, t, os⟩ := s
  refine wpAny_call (codeAny_of_tree ?_)
  show wpAny _ A.in1 (callAny (.ref u) ⟨us, []⟩) _ _ _
  simp only [callAny]
  refine wpAny_bind (wpAny_load hu ?_)
  simp only [PySem.W.kxs_mw, show (Value.type "method-wrapper" == Value.type "method" || Value.type "method-wrapper" == Value.type "builtin_function_or_method" || Value.type "method-wrapper" == Value.type "method-wrapper") = true by decide, if_true]
  refine PySem.W.KFB.if_so (by decide) ?_
  refine wpAny_bind (PySem.W.check_bound_init T.bs.FB.toExcCallFacts hC' ho rfl ?_)
  refine wpAny_bind (wpAny_pure (wpAny_pure ?_))
  refine ⟨plainId_quiet T.bs.FB.init.plain _, codeAny_builtin T.bs.FB.initEntry ?_⟩
  refine PySem.W.exc_init_tree (cls := .ref C) (t0 := t1) (dv := none) (c2 := .none) (c3 := .none) (b4 := .bool false) ho hl fun h' k hx ht => ?_
  have J := I.write (t' := t) (x := a) (e := a) (o := exo a C none) (by rw [e]; exact True.intro) (.inl rfl) k ⟨_, hx⟩ (exo_ok hx)
  have eu : upd H a (exo a C none) = H := by
    funext b
    by_cases hb : b = a
    · rw [hb, upd_same, e]
    · rw [upd_ne hb]
  rw [eu] at J
  exact h _ J
end
end L3
/-! L3q: super().__init__(..) in an own exception's __init__, through any number of own classes -/
namespace L3
open PySem PySem.Spec PyProof.Rows L2
def plO (o : Expr) (env : Env) : Sem Bool := do return (← importBound o env).getD true
/-- what super() asks of the def's context -/
structure SupX (X : Cx) (D f : Addr) (sn : Str) : Prop where
  kd : X.env.scope.kind = .function
  ks : X.env.kindOf "super" = some .globalImplicit
  kc : X.env.kindOf "__class__" = some .free
  fu : X.env.func = some f
  ar : ∃ oc od fd osl ar, X.K.lookup f = some ⟨oc, od, .func fd, osl⟩ ∧ (fd.params.posonlyargs ++ fd.params.args).head? = some ar ∧ ar.arg = sn
  n0 : X.N[0]? = some sn
  ka : X.env.kindOf sn = some .local
  co : ∃ cda ccl cdd vs ccs file tf, X.env.code = .ref cda ∧ X.K.lookup cda = some ⟨ccl, cdd, .fields vs, ccs⟩ ∧ vs[2]? = some (.str file tf) ∧ ((X.prog.main.file : Str) == file) = true
  top : (X.prog.main.scope.names.lookup ("super" : Str)).isSome = false
  ce : ∃ cc cl cld csl, X.env.cells.lookup ("__class__" : Str) = some cc ∧ X.K.lookup cc = some ⟨cl, cld, .cell (some (.ref D)), csl⟩
  cd : ∃ cdD, PySem.W.clsIn X.K D = some cdD
  mg : X.mg "super" = none
section
variable {X : Cx} {pins : List (Addr × Obj)} {σ : L2.St} {H : Hp} {s : Shared} {a C D f : Addr} {sn : Str} {d : Option Addr} {Q : Value → Shared → Prop} {E : Value → Shared → Prop} {body : List Stmt} {p0 p1 : Pos} {attr : Str} {whole : Sem Value}
theorem super_obj (U : SupX X D f sn) (I : L2.Inv X pins σ H s) (h0 : σ[0]? = some (some (.ref a))) (e : H a = some (exo a C d)) (hsub : PySem.W.mroIn X.K C (.ref D) = some true) (hat : (attr == ("__class__" : Str)) = false)
    (h : ∀ h', (∀ b o, s.heap.get? b = some o → h'.get? b = some o) → h'.get? s.heap.objs.size = some (PySem.W.ks_superObj D a C) → Q (.ref s.heap.objs.size) { s with heap := h' }) :
    _root_.PySem.wpAt (model X.prog X.w) X.A (.func body X.env) (attributeBase (.Call (.Name "super" p0) [] [] p1) attr X.env whole) Q E s := by
  obtain ⟨oc, od, fd, osl, ar, hf, hp, har⟩ := U.ar
  obtain ⟨cda, ccl, cdd, vs, ccs, file, tf, hco, hcode, hvs, hfile⟩ := U.co
  obtain ⟨cc, cl, cld, csl, hce, hcell⟩ := U.ce
  obtain ⟨cdD, hD⟩ := U.cd
  have KX := I.kIn
  obtain ⟨m, hn, hl⟩ := I.loc
  obtain ⟨u, ru, lk⟩ := hl 0 sn (.ref a) U.n0 h0 (.inl (by have := U.ka; exact this))
  obtain rfl : u = Value.ref a := ru
  have hv : m sn = some (.ref a) := by
    rcases lk with ⟨_, z⟩ | ⟨k, _⟩
    · exact z
    · have := U.ka
      rcases k with k | k <;> (rw [this] at k; cases k)
  obtain ⟨t1, ho⟩ := exo_at I.hok e
  obtain ⟨mb, hb1, hb2⟩ := I.mod.blt
  obtain ⟨oD, hD1, hD2⟩ : ∃ oD, s.heap.get? D = some oD ∧ oD.data = .cls cdD := by
    unfold PySem.W.clsIn at hD
    split at hD
    · rename_i c d cd' sl ho
      cases hD
      exact ⟨_, KX _ _ ho, rfl⟩
    · cases hD
  refine ks_wpAt_super_base (env := X.env) U.ks U.kc hat U.fu (KX _ _ hf) rfl hp hco (KX _ _ hcode) rfl hvs hfile U.top ?_
  refine PySem.W.ks_loadName_global U.kd U.ks (Calls.loadGlobal_builtin (by rw [I.ok.glob]; exact I.mod.glob.keeps I.bk) U.mg (by rw [I.ok.blt]; exact hb1.keeps I.bk) ((hb2 _ (by decide)).trans (show bootBuiltins "super" = some (.type "super") by rfl)) ⟨rfl, ?_⟩)
  refine wpAny_loadName_free U.kd U.kc hce ⟨_, KX _ _ hcell, rfl⟩ ?_
  rw [har]
  refine wpAny_loadName_local U.kd U.ka hn hv ?_
  obtain ⟨hh, g, dr, t, os⟩ := s
  refine ks_wpAny_isType_cls hD1 hD2 ⟨rfl, ?_⟩
  exact ks_wpAny_call_super hD1 hD2 ho rfl (fun c e => by cases e) (PySem.W.looks_mroIn KX hsub) (fun h' e k => h h' k e)
end
/-- the next __init__ along the mro -/
structure NxtI (K : PySem.W.Frag) (C D : Addr) (v : Value) : Prop where
  mro : PySem.W.mroIn K C (.ref D) = some true
  nx : PySem.W.ks_superIn K C D "__init__" = some (some v)
  no : PySem.W.nsIn K cStatics "thirdparty.any" = some none
section
variable {X : Cx} {pins : List (Addr × Obj)} {σ : L2.St} {H : Hp} {s : Shared} {a C D f f2 : Addr} {sn : Str} {body : List Stmt} {p0 p1 p2 p3 p4 : Pos} {e : Expr} {es : List Expr} {ta : TA} {k : Nat} {sp2 : Sp} {K2 : Hp → Prop}
theorem pins_new (I : L2.Inv X pins σ H s) {h' : Heap} {t' : Nat} {q : Addr} {o : Obj} (k : ∀ b o, s.heap.get? b = some o → h'.get? b = some o) (hq : s.heap.objs.size ≤ q) (ho : h'.get? q = some o) (hc : ∀ v, o.data ≠ .cell v) : L2.Inv X ((q, o) :: pins) σ H { s with heap := h', toks := t' } := by
  have I1 := I.kept (t' := t') k
  refine I1.pins_of fun p hp => ?_
  rcases List.mem_cons.mp hp with hp | hp
  · subst hp
    exact ⟨ho, I.hok.fresh hq, fun z => by
      have := I.lt
      have z' : q = X.env.locals := z
      rw [z'] at hq
      exact absurd this (Nat.not_lt.mpr hq), I.nofs hq, hc⟩
  · exact I1.pin p (List.mem_append_right _ hp)
theorem sup_own (U : SupX X D f sn) (N : NxtI X.K C D (.ref f2)) (ht : PySem.W.typeIn X.K (.ref f2) = some (.type "function")) (hfn : PySem.W.fnIn X.K f2 = true) (G : FnR X.prog X.w X.K X.mg X.base (L2.CX X.prog X.w) k f2 sp2) (hr : Room k X.A) (ha : PA X (e :: es) ta)
    (I : L2.Inv X pins σ H s) (h0 : σ[0]? = some (some (.ref a))) (he : H a = some (exo a C none))
    (hcall : eval (.Call (.Attribute (.Call (.Name "super" p0) [] [] p1) "__init__" p2) (e :: es) [] p3) X.env = (do
      let ov ← attributeBase (.Call (.Name "super" p0) [] [] p1) "__init__" X.env (eval (.Call (.Name "super" p0) [] [] p1) X.env)
      standAt p2.atName
      let (f, first) ← holding [ov] (getMethod ov "__init__" (plO (.Call (.Name "super" p0) [] [] p1) X.env))
      callWith p3 f first (backTo p3 (starEach (e :: es) X.env)) []))
    (hS : starEach (e :: es) X.env = (false, eval e X.env) :: starEach es X.env) (hP : (backTo p3 (starEach es X.env)).any (·.1) = false) (hsw : swapsWith (.Call (.Attribute (.Call (.Name "super" p0) [] [] p1) "__init__" p2) (e :: es) [] p3) none p4.line X.env = pure false)
    (h : ta σ H fun vs H1 => sp2 (.ref a :: vs) H1 (fun _ H2 => K2 H2) (fun _ _ _ => False)) :
    _root_.PySem.wpAt (model X.prog X.w) X.A (.func body X.env) (exec (.Expr (.Call (.Attribute (.Call (.Name "super" p0) [] [] p1) "__init__" p2) (e :: es) [] p3) p4) X.env) (fun fl s' => fl = .next ∧ ∃ H2, L2.Inv X pins σ H2 s' ∧ K2 H2) X.xe s := by
  refine ks_wpAt_Expr_any ?_ (by simp [interactive, I.ok.kind]) hsw
  refine ks_wpAt_MethodCall (pl := plO (.Call (.Name "super" p0) [] [] p1) X.env) ?_ hcall
  refine super_obj U I h0 he N.mro (by decide) fun h1 k1 e1 => ?_
  have I1 := I.kept (t' := s.toks) k1
  have KX := I1.kIn
  obtain ⟨t1, ho⟩ := exo_at I1.hok he
  have J : PySem.W.InstAt h1 a { cls := .ref C, dict := none, data := .fields #[.ref t1, .none, .none, .none, .bool false, .none] } C none := ⟨ho, rfl, rfl, trivial⟩
  obtain ⟨cd, hcd, hal⟩ : ∃ cd, PySem.W.clsIn X.K C = some cd ∧ PySem.W.alongIn X.K "__init__" ((cd.mro.dropWhile (· != .ref D)).drop 1) = some (some (.ref f2)) := by
    have := N.nx
    unfold PySem.W.ks_superIn at this
    cases hc : PySem.W.clsIn X.K C with
    | none => rw [hc] at this; cases this
    | some cd => rw [hc] at this; exact ⟨cd, rfl, this⟩
  obtain ⟨of, hof, hofc⟩ : ∃ of, h1.get? f2 = some of ∧ of.cls = .type "function" := by
    have ht' : (X.K.lookup f2).map (·.cls) = some (.type "function") := ht
    cases z : X.K.lookup f2 with
    | none => rw [z] at ht'; cases ht'
    | some of => rw [z] at ht'; exact ⟨of, KX _ _ z, Option.some.inj ht'⟩
  have KX' : X.K.In h1 := KX
  have nofs := fun {b : Addr} (hb : s.heap.objs.size ≤ b) => I.nofs hb
  have hsz1 : s.heap.objs.size ≤ h1.objs.size := Nat.le_of_lt (Heap.lt_size e1)
  obtain ⟨hh, g, dr, t, os⟩ := s
  refine ks_wpAny_getMethod_super e1 (PySem.W.looks_opaque KX' N.no) (l₀ := cd.mro) (fun A Q E s k q => wpAny_bind ((PySem.W.looks_clsIn KX' hcd) A _ E s k (wpAny_pure q))) rfl KX' hal hof hofc (PySem.W.ks_ne KX' J hcd) (by decide) ?_
  have I2 : L2.Inv X ((h1.objs.size, PySem.W.methodObj (.ref f2) (.ref a)) :: pins) σ H ⟨h1.push { cls := .type "method", data := .fields #[.ref f2, .ref a] }, g, dr, t + 1, os⟩ :=
    pins_new (t' := t + 1) I (fun b o z => Heap.get?_push_of_some _ (k1 b o z)) hsz1 (Heap.get?_push_size _ rfl) (fun v z => by cases z)
  show wpAny _ _ (callWith p3 (.ref h1.objs.size) [] (backTo p3 (starEach (e :: es) X.env)) []) _ _ _
  have hrun : wpAny (model X.prog X.w) X.A (spliced (backTo p3 (starEach (e :: es) X.env))) (fun us s2 => PySem.W.MethP X.K h1.objs.size f2 (.ref a) s2.heap ∧ wpAny (model X.prog X.w) X.A (call (.ref h1.objs.size) ([] ++ us)) (fun _ s' => Flow.next = .next ∧ ∃ H2, L2.Inv X pins σ H2 s' ∧ K2 H2) X.xe s2) X.xe ⟨h1.push { cls := .type "method", data := .fields #[.ref f2, .ref a] }, g, dr, t + 1, os⟩ := by
    refine thn (ha.run p3 _ _ σ H _ I2 h) fun us s2 ⟨vs, H2, I3, rv, q⟩ => ?_
    obtain ⟨pq, _⟩ := I3.pin _ (List.mem_append_right _ List.mem_cons_self)
    refine ⟨⟨pq, I3.kIn⟩, ?_⟩
    refine wpAny_call (ks_codeAny_call_bound pq ?_)
    refine codeAny_mono (G X.A X.stack s2 H2 (.ref a :: us) (.ref a :: vs) _ _ hr I3.env0 (.cons rfl rv) q) fun res s' hres => ?_
    match res, hres with
    | .error er, hres =>
      obtain ⟨_, _, _, _, _, _, _, _, _, _, _, _, z⟩ := hres
      exact z.elim
    | .ok (.ret u), hres =>
      obtain ⟨v, H3, I4, _, q3⟩ := I3.after hres
      exact ⟨rfl, H3, I4.pins_of fun p hp => I4.pin p (List.mem_append_right _ (List.mem_cons_of_mem _ hp)), q3⟩
  rw [hS] at hrun ⊢
  exact PySem.W.callWith_of (P := PySem.W.MethP X.K h1.objs.size f2 (.ref a)) (by show ((false || (backTo p3 (starEach es X.env)).any (·.1)) || false) = false; rw [hP]; rfl) (PySem.W.keeps_M hfn) (Calls.evalArgs_plain hrun)
theorem sup_bas {B newId initId : String} {bmB : List Value} (U : SupX X D f sn) (T : ExC X.K B newId initId bmB C) (N : NxtI X.K C D (.builtin initId)) (hB : PySem.W.subIn X.K (.ref C) (.type B) = some true) (ha : PA X (e :: es) ta)
    (I : L2.Inv X pins σ H s) (h0 : σ[0]? = some (some (.ref a))) (he : H a = some (exo a C none))
    (hcall : eval (.Call (.Attribute (.Call (.Name "super" p0) [] [] p1) "__init__" p2) (e :: es) [] p3) X.env = (do
      let ov ← attributeBase (.Call (.Name "super" p0) [] [] p1) "__init__" X.env (eval (.Call (.Name "super" p0) [] [] p1) X.env)
      standAt p2.atName
      let (f, first) ← holding [ov] (getMethod ov "__init__" (plO (.Call (.Name "super" p0) [] [] p1) X.env))
      callWith p3 f first (backTo p3 (starEach (e :: es) X.env)) []))
    (hS : starEach (e :: es) X.env = (false, eval e X.env) :: starEach es X.env) (hP : (backTo p3 (starEach es X.env)).any (·.1) = false) (hsw : swapsWith (.Call (.Attribute (.Call (.Name "super" p0) [] [] p1) "__init__" p2) (e :: es) [] p3) none p4.line X.env = pure false)
    (h : ta σ H fun vs H1 => vs.length ≤ 1000 ∧ H1 a = some (exo a C none) ∧ K2 H1) :
    _root_.PySem.wpAt (model X.prog X.w) X.A (.func body X.env) (exec (.Expr (.Call (.Attribute (.Call (.Name "super" p0) [] [] p1) "__init__" p2) (e :: es) [] p3) p4) X.env) (fun fl s' => fl = .next ∧ ∃ H2, L2.Inv X pins σ H2 s' ∧ K2 H2) X.xe s := by
  refine ks_wpAt_Expr_any ?_ (by simp [interactive, I.ok.kind]) hsw
  refine ks_wpAt_MethodCall (pl := plO (.Call (.Name "super" p0) [] [] p1) X.env) ?_ hcall
  refine super_obj U I h0 he N.mro (by decide) fun h1 k1 e1 => ?_
  have I1 := I.kept (t' := s.toks) k1
  have KX := I1.kIn
  obtain ⟨t1, ho⟩ := exo_at I1.hok he
  have J : PySem.W.InstAt h1 a { cls := .ref C, dict := none, data := .fields #[.ref t1, .none, .none, .none, .bool false, .none] } C none := ⟨ho, rfl, rfl, trivial⟩
  obtain ⟨cd, hcd, hal⟩ : ∃ cd, PySem.W.clsIn X.K C = some cd ∧ PySem.W.alongIn X.K "__init__" ((cd.mro.dropWhile (· != .ref D)).drop 1) = some (some (.builtin initId)) := by
    have := N.nx
    unfold PySem.W.ks_superIn at this
    cases hc : PySem.W.clsIn X.K C with
    | none => rw [hc] at this; cases this
    | some cd => rw [hc] at this; exact ⟨cd, rfl, this⟩
  have KX' : X.K.In h1 := KX
  have hsz1 : s.heap.objs.size ≤ h1.objs.size := Nat.le_of_lt (Heap.lt_size e1)
  obtain ⟨hh, g, dr, t, os⟩ := s
  refine PySem.W.kxs_getMethod T.bs.KF e1 (PySem.W.looks_opaque KX' N.no) (l₀ := cd.mro) (fun A Q E s k q => wpAny_bind ((PySem.W.looks_clsIn KX' hcd) A _ E s k (wpAny_pure q))) rfl KX' hal (J.type.andThen (PySem.W.looks_subIn KX' hB)) (PySem.W.ks_ne KX' J hcd) (by decide) ?_
  have I2 : L2.Inv X ((h1.objs.size, PySem.W.kxs_mw initId a) :: pins) σ H ⟨h1.push (PySem.W.kxs_mw initId a), g, dr, t + 1, os⟩ :=
    pins_new (t' := t + 1) I (fun b o z => Heap.get?_push_of_some _ (k1 b o z)) hsz1 (Heap.get?_push_size _ rfl) (fun v z => by cases z)
  show wpAny _ _ (callWith p3 (.ref h1.objs.size) [] (backTo p3 (starEach (e :: es) X.env)) []) _ _ _
  have hrun : wpAny (model X.prog X.w) X.A (spliced (backTo p3 (starEach (e :: es) X.env))) (fun us s2 => PySem.W.KxsAt initId h1.objs.size a s2.heap ∧ wpAny (model X.prog X.w) X.A (call (.ref h1.objs.size) ([] ++ us)) (fun _ s' => Flow.next = .next ∧ ∃ H2, L2.Inv X pins σ H2 s' ∧ K2 H2) X.xe s2) X.xe ⟨h1.push (PySem.W.kxs_mw initId a), g, dr, t + 1, os⟩ := by
    refine thn (ha.run p3 _ _ σ H _ I2 h) fun us s2 ⟨vs, H2, I3, rv, hl, he2, q⟩ => ?_
    obtain ⟨pq, _⟩ := I3.pin _ (List.mem_append_right _ List.mem_cons_self)
    refine ⟨pq, ?_⟩
    exact bound_init (us := us) T I3 he2 pq (by rw [← rv.length, sizeLine_eq]; omega) fun s' I4 => ⟨rfl, H2, I4.pins_of fun p hp => I4.pin p (List.mem_append_right _ (List.mem_cons_of_mem _ hp)), q⟩
  rw [hS] at hrun ⊢
  exact PySem.W.kxs_callWith (i := initId) (x := a) (by show (false || (backTo p3 (starEach es X.env)).any (·.1)) = false; rw [hP]; rfl) (Calls.evalArgs_plain hrun)
end
end L3
/-! L3r: the __init__ of an own exception as a def; the exception made and raised -/
namespace L3
open PySem PySem.Spec PyProof.Rows L2
/-- a method that closes over __class__ -/
structure FunS (K : PySem.W.Frag) (x qual : Str) (params : Arguments) (body : List Stmt) (scope : Scope) (file : Str) (D f : Addr) (fd : FuncData) : Prop where
  ex : ∃ (oc : Value) (od : Option Addr) (kV doc pm : Value) (an : Option Addr) (cda cc : Addr) (ct : Value) (osl : Array (Option Value)),
    fd = PySem.W.fnX x qual params body scope [("__class__", cc)] .none kV doc pm an (.ref cda) ct ∧ K.lookup f = some ⟨oc, od, .func fd, osl⟩ ∧ PySem.W.codeIn K (.ref cda) qual = true ∧
    (∃ ccl cdd vs ccs tf, K.lookup cda = some ⟨ccl, cdd, .fields vs, ccs⟩ ∧ vs[2]? = some (.str file tf)) ∧ ∃ cl cld csl, K.lookup cc = some ⟨cl, cld, .cell (some (.ref D)), csl⟩
  cd : ∃ cdD, PySem.W.clsIn K D = some cdD
  kp : PySem.W.keepIn K (.ref f) = true
structure FnScopeS (N P : List Str) (sc : Scope) : Prop where
  kind : sc.kind = .function
  co : sc.isCoroutine = false
  gen : sc.isGenerator = false
  nd : N.Nodup
  pre : N.take P.length = P
  par : ∀ x ∈ P, sc.names.lookup x = some .local
  nocell : ∀ y ∈ sc.names, y.2 ≠ .cell
  free : ∀ y ∈ sc.names, y.2 = .free → y.1 = "__class__"
  cls : sc.names.lookup ("__class__" : Str) = some .free
  sup : sc.names.lookup ("super" : Str) = some .globalImplicit
/-- the program's file, super not its own name -/
structure PrgF (P : Program) (file : Str) : Prop where
  file : ((P.main.file : Str) == file) = true
  sup : (P.main.scope.names.lookup ("super" : Str)).isSome = false
abbrev envS (qual : Str) (scope : Scope) (L f : Addr) (cd : Value) (cc : Addr) : Env := PySem.W.envX qual scope L f cd [("__class__", cc)]
def cxS (CX : CXT) (P : Program) (w : World) (K : PySem.W.Frag) (mg : Str → Option Value) (base : Heap) (N : List Str) (qual : Str) (scope : Scope) (f : Addr) (cd : Value) (cc : Addr) (A : Around) (outer : List Env) (s : Shared) (H : Hp) (E : XK) : Cx where
  prog := P
  w := w
  K := K
  mg := mg
  base := base
  A := A.deeper (envS qual scope s.heap.objs.size f cd cc)
  N := N
  s_0 := s
  H_0 := H
  env := envS qual scope s.heap.objs.size f cd cc
  outer := outer
  stack := envS qual scope s.heap.objs.size f cd cc :: outer
  ex := []
  calm := true
  fn := fun x => !(x == ("__class__" : Str))
  pn := []
  xe := fun e s' => wpAny (model P w) (A.deeper (envS qual scope s.heap.objs.size f cd cc)) (leaving (envS qual scope s.heap.objs.size f cd cc) e) (fun _ s'' => CX outer H s E e s'') (fun e' s'' => CX outer H s E e' s'') s'
theorem zip_sub : ∀ {ps : List Str} {us : List Value}, List.Sublist ((ps.zip us).map (·.1)) ps
  | [], _ => by simp
  | p :: ps, [] => by simp
  | p :: ps, u :: us => by
    show List.Sublist (p :: (ps.zip us).map (·.1)) (p :: ps)
    exact (zip_sub (ps := ps) (us := us)).cons₂ p
theorem look_rev {ps : List Str} {us : List Value} (nd : ps.Nodup) : ∀ {i : Nat} {x : Str} {u : Value}, ps[i]? = some x → us[i]? = some u → (ps.zip us).reverse.lookup x = some u := by
  intro i x u hx hu
  have hm : (x, u) ∈ (ps.zip us).reverse := by
    rw [List.mem_reverse]
    refine List.mem_of_getElem? (i := i) ?_
    rw [List.getElem?_zip_eq_some]
    exact ⟨hx, hu⟩
  have key : ∀ {l : List (Str × Value)}, (l.map (·.1)).Nodup → (x, u) ∈ l → l.lookup x = some u := by
    intro l
    induction l with
    | nil => intro _ h; cases h
    | cons p r ih =>
      intro hn h
      rw [List.map_cons, List.nodup_cons] at hn
      rcases List.mem_cons.mp h with e | e
      · subst e
        simp [List.lookup]
      · have hne : (x == p.1) = false := by
          have : x ≠ p.1 := fun z => hn.1 (by rw [← z]; exact List.mem_map.mpr ⟨_, e, rfl⟩)
          simpa using this
        show (match x == p.1 with | true => some p.2 | false => r.lookup x) = some u
        rw [hne]
        exact ih hn.2 e
  refine key ?_ hm
  have hs : ((ps.zip us).map (·.1)).Nodup := nd.sublist zip_sub
  rw [List.map_reverse]
  exact List.pairwise_reverse.mpr (hs.imp Ne.symm)
theorem fn_ofS {CX : CXT} {P : Program} {w : World} {K : PySem.W.Frag} {mg : Str → Option Value} {base : Heap} {k : Nat} {x qual : Str} {params : Arguments} {body : List Stmt} {scope : Scope} {file : Str} {D f : Addr} {fd : FuncData} {N ps : List Str} {sn : Str} {ar : Arg} {sp : Sp}
    (F : FunS K x qual params body scope file D f fd) (S : FnScopeS N ps scope) (pf : PrgF P file) (hsup : mg "super" = none) (hps : ps[0]? = some sn) (har : (params.posonlyargs ++ params.args).head? = some ar) (hsn : ar.arg = sn) (len : ∀ vs H Q E, sp vs H Q E → vs.length = ps.length)
    (hbody : ∀ (cd : Value) (cc : Addr) (A : Around) (outer : List Env) (s s1 : Shared) (H : Hp) (vs : List V) (Q : VK) (E : XK), Room k (A.deeper (envS qual scope s.heap.objs.size f cd cc)) → SupX (cxS CX P w K mg base N qual scope f cd cc A outer s H E) D f sn → sp vs H Q E →
      L2.Inv (cxS CX P w K mg base N qual scope f cd cc A outer s H E) [] (L2.start N vs) H s1 →
      _root_.PySem.wpAt (model P w) (cxS CX P w K mg base N qual scope f cd cc A outer s H E).A (.func body (cxS CX P w K mg base N qual scope f cd cc A outer s H E).env) (execs body (cxS CX P w K mg base N qual scope f cd cc A outer s H E).env)
        (SP (cxS CX P w K mg base N qual scope f cd cc A outer s H E) [] { nx := fun _ H' => Q .non H', rt := Q }) (cxS CX P w K mg base N qual scope f cd cc A outer s H E).xe s1) :
    FnOk P w K mg base CX (k + 1) f fd ps sp := by
  obtain ⟨oc, od, kV, doc, pm, an, cda, cc, ct, osl, rfl, lk, hcd, hcode, hcell⟩ := F.ex
  refine ⟨len, fun A outer s H args us vs Q E hr e0 hb r hsp => ?_⟩
  have hl := len _ _ _ _ hsp
  have KX : K.In s.heap := e0.mod.kin.keeps fun b o e => (e0.bs b o e).1
  have lim : s.heap.NoLimit := e0.mod.nolimit.keeps fun b o e => (e0.bs b o e).1
  have ndP : ps.Nodup := by rw [← S.pre]; exact S.nd.sublist (List.take_sublist _ _)
  have hpl : ps.length ≤ N.length := by have := congrArg List.length S.pre; rw [List.length_take] at this; omega
  have hul : us.length = ps.length := r.length.symm.trans hl
  refine ks_codeAny_call_defAt (fd := PySem.W.fnX x qual params body scope [("__class__", cc)] .none kV doc pm an (.ref cda) ct) (body := body) (binds := ps.zip us) hr.depth (KX _ _ lk) rfl lim (PySem.W.codeRec_of KX hcd) rfl hb S.nocell (fun y hy => S.par _ (List.of_mem_zip hy).1) (fun h₀ hns hk => ?_) S.co S.gen S.kind
  obtain ⟨cl, cld, csl, hcc⟩ := hcell
  obtain ⟨ccl, cdd, vs', ccs, tf, hcda, hfile⟩ := hcode
  have hccb : base.get? cc = some ⟨cl, cld, .cell (some (.ref D)), csl⟩ := e0.mod.kin _ _ hcc
  have noA : ∀ b : Addr, b ∉ (cxS CX P w K mg base N qual scope f (.ref cda) cc A outer s H E).ex := fun b z => absurd (show b ∈ ([] : List Addr) from z) (by simp)
  have cel : ∀ y c, (cxS CX P w K mg base N qual scope f (.ref cda) cc A outer s H E).env.cells.lookup y = some c → y = ("__class__" : Str) ∧ c = cc := fun y c h => by
    have h2 : (match y == ("__class__" : Str) with | true => some cc | false => none) = some c := h
    cases q : y == ("__class__" : Str) with
    | true =>
      rw [q] at h2
      exact ⟨eq_of_beq q, (Option.some.inj h2).symm⟩
    | false =>
      rw [q] at h2
      cases h2
  have I : L2.Inv (cxS CX P w K mg base N qual scope f (.ref cda) cc A outer s H E) [] (L2.start N vs) H { s with heap := h₀, toks := s.toks + (ps.zip us).length } := by
    refine ⟨⟨e0.mod, S.kind, rfl, rfl, Nat.le_refl _, fun y z c h1 h2 => (cel y c h1).1.trans (cel z c h2).1.symm, fun y hy => ?_, fun y c hf h => ?_, fun _ => hr.hd, Around.frames_deeper e0.frames, .inr ⟨rfl, rfl⟩, fun b z => absurd z (noA b), e0.bs, e0.bsz, fun b _ _ => noA b, fun b z => absurd z (noA b), e0.funs, e0.frf⟩,
      rfl, e0.bare, Un.kept hk, ⟨_, hns, fun i y v h1 h2 h3 => ?_⟩, fun y c h => ?_, e0.hok.fresh (Nat.le_refl _), fun y c h => ?_, fun p hp => absurd (show p ∈ ([] : List (Addr × Obj)) from hp) (by simp), e0.hok.kept hk, ?_⟩
    · have hy : scope.names.lookup y = some .cell ∨ scope.names.lookup y = some .free := hy
      rcases hy with hy | hy
      · exact absurd rfl (S.nocell _ (PySem.mem_of_lookup hy))
      · have := S.free _ (PySem.mem_of_lookup hy) rfl
        exact ⟨cc, by rw [show y = ("__class__" : Str) from this]; rfl⟩
    · obtain ⟨e1, _⟩ := cel y c h
      subst e1
      have : (!(("__class__" : Str) == ("__class__" : Str))) = true := hf
      simp at this
    · have hi : i < vs.length := by
        unfold L2.start at h2
        by_cases hi : i < vs.length
        · exact hi
        · rw [List.getElem?_append_right (by simpa using hi)] at h2
          rw [List.getElem?_replicate] at h2
          split at h2 <;> cases h2
      have ha : vs[i]? = some v := by
        unfold L2.start at h2
        rw [List.getElem?_append_left (by simpa using hi), List.getElem?_map] at h2
        cases e : vs[i]? with
        | none => rw [e] at h2; cases h2
        | some a => rw [e] at h2; cases h2; rfl
      obtain ⟨u, hu, rv⟩ := r.get ha
      have hp : ps[i]? = some y := by
        rw [← S.pre, List.getElem?_take_of_lt (by omega)]; exact h1
      exact ⟨u, rv, .inl ⟨S.par y (List.mem_of_getElem? hp), look_rev ndP hp hu⟩⟩
    · obtain ⟨_, e2⟩ := cel y c h
      subst e2
      exact ⟨_, _, hk _ _ (KX _ _ hcc), rfl⟩
    · obtain ⟨_, e2⟩ := cel y c h
      subst e2
      exact (e0.bs _ _ hccb).2
    · unfold L2.start
      show _ = N.length
      rw [List.length_append, List.length_map, List.length_replicate]
      omega
  have U : SupX (cxS CX P w K mg base N qual scope f (.ref cda) cc A outer s H E) D f sn := by
    refine ⟨S.kind, S.sup, S.cls, rfl, ⟨oc, od, _, osl, ar, lk, har, hsn⟩, ?_, S.par _ (List.mem_of_getElem? hps), ⟨cda, ccl, cdd, vs', ccs, file, tf, rfl, hcda, hfile, pf.file⟩, pf.sup, ⟨cc, cl, cld, csl, rfl, hcc⟩, F.cd, hsup⟩
    show N[0]? = some sn
    have : ps[0]? = N[0]? := by
      rw [← S.pre, List.getElem?_take_of_lt]
      have := (List.getElem?_eq_some_iff.mp hps).1
      omega
    rw [← this]
    exact hps
  have z := hbody (.ref cda) cc A outer s _ H vs Q E (hr.deeper _) U hsp I
  have fin : ∀ {σ' : L2.St} {H' : Hp} {v : V} {u : Value} {s' : Shared}, L2.Inv (cxS CX P w K mg base N qual scope f (.ref cda) cc A outer s H E) [] σ' H' s' → RelV v u → Q v H' → CE outer P w H s Q u s' :=
    fun {σ' H' v u s'} J rv q => ⟨v, H', J.os, J.bare, J.base, J.hok, rv, q⟩
  refine ks_wpAt_mono z (fun fl s' hs => ?_) fun e s' hs => hs
  cases fl with
  | ret u =>
    obtain ⟨v, σ', H', J, rv, q⟩ := hs
    exact fin J rv q
  | next =>
    obtain ⟨σ', H', J, q⟩ := hs
    exact fin (v := V.non) (u := Value.none) J rfl q
  | brk =>
    obtain ⟨_, _, _, q⟩ := hs
    exact False.elim q
  | cont =>
    obtain ⟨_, _, _, q⟩ := hs
    exact False.elim q
/-! ### self.f = e -/
def tOstX (K : PySem.W.Frag) (f : Str) (to te : TE) : TS := fun D σ H => te σ H fun y H1 => to σ H1 fun x H2 => ∃ (a C : Addr) (B n i : String) (bm : List Value), x = .ref a ∧ ExC K B n i bm C ∧ PySem.W.findIn K (.ref C) f = some none ∧
  ((H2 a = some (exo a C none) ∧ ∀ dx, H2 dx = none → dx ≠ a → D.nx σ (upd (upd H2 dx (exd dx [(f, y)])) a (exo a C (some dx)))) ∨
    ∃ (dx : Addr) (fs : List (Str × V)), H2 a = some (exo a C (some dx)) ∧ H2 dx = some (exd dx fs) ∧ fs.length ≤ 900 ∧ D.nx σ (upd H2 dx (exd dx ((f, y) :: fs))))
section
variable {X : Cx} {o e : Expr} {es : List Expr} {to te : TE} {ta : TA} {f : Str} {p p' p1 p2 pos : Pos}
theorem ps_ostX (ho : PE X o to) (he : PE X e te) (hs : swapsWith e (some (.Attribute o f p')) pos.line X.env = pure false := by rfl) : PS X (.Assign [.Attribute o f p'] e pos) (tOstX X.K f to te) := by
  refine ⟨fun pins s σ H D I h => ?_⟩
  refine plainObj_wpAny_Assign_Attribute (thn (he.run pins s σ H _ I h) fun v s1 ⟨y, H1, I1, r1, q1⟩ => thn (ho.run pins s1 σ H1 _ I1 q1) fun u s2 ⟨x, H2, I2, r2, a, C, B, n, i, bm, ex, T, hno, q⟩ => ?_) hs
  subst ex
  obtain rfl : u = Value.ref a := r2
  rcases q with ⟨ea, q⟩ | ⟨dx, fs, ea, ed, hl, q⟩
  · exact ostX_new T I2 ea hno r1 fun dx s' n ne J => ⟨σ, _, J, q dx n ne⟩
  · exact ostX_old T I2 ea ed hl hno r1 fun s' J => ⟨σ, _, J, q⟩
end
/-- what such an __init__ leaves: ok: for objects of these classes; mk: the fields, the last stored first -/
def spX (ok : Addr → Prop) (mk : List V → Option (List (Str × V))) : Sp := fun vs H Q E => ∃ (a C : Addr) (ws : List V) (fs : List (Str × V)), vs = .ref a :: ws ∧ ok C ∧ H a = some (exo a C none) ∧ mk ws = some fs ∧ ∀ dx, H dx = none → dx ≠ a → Q .non (upd (upd H dx (exd dx fs)) a (exo a C (some dx)))
end L3
/-! L3v: own exceptions raised -/
namespace L3
open PySem PySem.Spec PyProof.Rows L2
abbrev MkV := List V → Option (List (Str × V))
abbrev MkD := List D → Option (List (Str × D))
/-- an own exception class: what its making leaves -/
structure ExcK (P : Program) (w : World) (K : PySem.W.Frag) (mg : Str → Option Value) (base : Heap) (k : Nat) (C fI : Addr) (mk : MkV) (mkD : MkD) : Prop where
  T : ∃ B n i bm, ExC K B n i bm C
  iC : PySem.W.findIn K (.ref C) "__init__" = some (some (.ref fI))
  tI : PySem.W.typeIn K (.ref fI) = some (.type "function")
  G : FnR P w K mg base (L2.CX P w) k fI (spX (fun c => c = C) mk)
  rel : ∀ (R : Hp) (ds : List D) (vs : List V) (fs : List (Str × D)), Reps K R ds vs → mkD ds = some fs → ∃ fvs, mk vs = some fvs ∧ RepF K R fs fvs
theorem ExcK.mono {P : Program} {w : World} {K : PySem.W.Frag} {mg : Str → Option Value} {base : Heap} {j k : Nat} {C fI : Addr} {mk : MkV} {mkD : MkD} (h : ExcK P w K mg base j C fI mk mkD) (q : j ≤ k) : ExcK P w K mg base k C fI mk mkD :=
  ⟨h.T, h.iC, h.tI, FnR.mono h.G q, h.rel⟩
section
variable {X : Cx} {W : WX} {pos p pos' : Pos} {e : Expr} {es : List Expr} {U : TL} {k : Nat} {C fI : Addr} {x : Str} {mk : MkV} {mkD : MkD} {ta : TA}
theorem del_back {H1 : Hp} {a dx C : Addr} {fs : List (Str × V)} (ha : H1 a = none) (hne : dx ≠ a) : upd (del (upd (upd (upd H1 a (exo a C none)) dx (exd dx fs)) a (exo a C (some dx))) a) dx (.xd fs) = upd H1 dx (.xd fs) := by
  funext b
  by_cases h1 : b = dx
  · rw [h1, upd_same, upd_same]
  · rw [upd_ne h1, upd_ne h1]
    by_cases h2 : b = a
    · rw [h2, del_same, ha]
    · rw [del_ne h2, upd_ne h2, upd_ne h1, upd_ne h2]
/-- what is made, to be raised -/
theorem pmkX (M : ExcK X.prog X.w X.K X.mg X.base k C fI mk mkD) (hr : Room (k + 1) X.A) (hg : Gl X x) (hm : X.mg x = some (.ref C)) (ha : PA X (e :: es) ta)
    (hdb : (x == ("__debug__" : Str)) = false := by decide) (he : starEach (e :: es) X.env = (false, eval e X.env) :: starEach es X.env := by rfl) (hpl : (backTo pos (starEach es X.env)).any (·.1) = false := by rfl) :
    L2.PMk X (.Call (.Name x p) (e :: es) [] pos) (fun σ H Q => ta σ H fun vs H1 => vs.length ≤ 1000 ∧ ∃ fs, mk vs = some fs ∧ ∀ d, H1 d = none → Q (.ref C) (some d) (upd H1 d (.xd fs))) := by
  intro pins s σ H Q I h
  obtain ⟨B, n, i, bmB, T⟩ := M.T
  obtain ⟨nm, q, N, bs, bm, sn, sub, ab, col, dd, k0, k1, k2, k3, k5, hC, hbm⟩ := T.cls
  refine wpAny_Call_Name_kw (ld_glob I hg hm ?_ hdb)
  refine PySem.W.callWith_K (h₀ := X.base) I.ok.mod.kin T.kC (thn (ha.run pos pins s σ H _ I h) fun us s1 ⟨vs, H1, I1, r1, hz, fs, hfs, q1⟩ => ⟨I1.kIn, ?_⟩) he hpl
  show wpAny _ _ (call (.ref C) us) _ _ _
  obtain ⟨hp, g, dr, tk, os⟩ := s1
  have hsz : hp.objs.size ≤ hp.objs.size + 1 := Nat.le_succ _
  have hn : H1 (hp.objs.size + 1) = none := I1.hok.fresh hsz
  have kk : ∀ b o, hp.get? b = some o → ((hp.push (PySem.W.kdv_tup us)).push (PySem.HandSPX.excO C hp.objs.size)).get? b = some o := fun b o e => Heap.get?_push_of_some _ (Heap.get?_push_of_some _ e)
  have hget : ((hp.push (PySem.W.kdv_tup us)).push (PySem.HandSPX.excO C hp.objs.size)).get? (hp.objs.size + 1) = some (PySem.HandSPX.excO C hp.objs.size) := by heap_get
  have I2 : L2.Inv X pins σ (upd H1 (hp.objs.size + 1) (exo (hp.objs.size + 1) C none)) ⟨(hp.push (PySem.W.kdv_tup us)).push (PySem.HandSPX.excO C hp.objs.size), g, dr, tk, os⟩ :=
    I1.laid (t' := tk) (a := hp.objs.size + 1) (o := exo (hp.objs.size + 1) C none) (h' := (hp.push (PySem.W.kdv_tup us)).push (PySem.HandSPX.excO C hp.objs.size)) kk hsz (exo_ok hget)
  have r2 : Vals (V.ref (hp.objs.size + 1) :: vs) (Value.ref (hp.objs.size + 1) :: us) := .cons rfl r1
  have hus : us.length ≤ sizeLine := by
    rw [← Paired.length r1, sizeLine_eq]
    omega
  have hsp : spX (fun c => c = C) mk (.ref (hp.objs.size + 1) :: vs) (upd H1 (hp.objs.size + 1) (exo (hp.objs.size + 1) C none)) (fun v H2 => v = .non ∧ ∃ d, H1 d = none ∧ d ≠ hp.objs.size + 1 ∧ H2 = upd (upd (upd H1 (hp.objs.size + 1) (exo (hp.objs.size + 1) C none)) d (exd d fs)) (hp.objs.size + 1) (exo (hp.objs.size + 1) C (some d))) (fun _ _ _ => False) :=
    ⟨_, C, vs, fs, rfl, rfl, upd_same, hfs, fun dx h1 h2 => ⟨rfl, dx, by rw [upd_ne h2] at h1; exact h1, h2, rfl⟩⟩
  refine wpAny_call (PySem.HandSPX.call_own T.bs.FB (fun Y => PySem.W.excTail_contains Y bm hbm) (I1.kIn _ _ hC) (PySem.W.looks_findIn I1.kIn M.iC) (fun self => PySem.W.bind_fn I1.kIn self M.tI) hus
    (codeAny_mono (M.G _ X.stack _ _ (Value.ref (hp.objs.size + 1) :: us) (V.ref (hp.objs.size + 1) :: vs) _ _ (hr.make C us []) (I2.env0.make C us []) r2 hsp) fun r s' hq' => ?_))
  cases r with
  | error er =>
    obtain ⟨_, _, _, _, _, _, _, _, _, _, _, _, z⟩ := hq'
    exact z.elim
  | ok fl =>
    cases fl with
    | ret u =>
      obtain ⟨v, H2, os2, bare2, un2, hok2, rv, ev, d, hd1, hda, eH⟩ := hq'
      subst ev
      obtain ⟨h2, g2, d2, t2, os'⟩ := s'
      have ea : H2 (hp.objs.size + 1) = some (exo (hp.objs.size + 1) C (some d)) := by rw [eH, upd_same]
      have ed : H2 d = some (exd d fs) := by rw [eH, upd_ne hda, upd_same]
      obtain ⟨t0, G, J, kG, ge, hoe, na⟩ := mk_end0 (d2 := d2) (t2 := t2) I1 hsz kk un2 hok2 os2 bare2 ea ed hd1
      have eF : upd (del H2 (hp.objs.size + 1)) d (.xd fs) = upd H1 d (.xd fs) := by rw [eH]; exact del_back hn hda
      rw [eF] at J na
      exact ⟨rv, hp.objs.size + 1, _, _, ⟨G, g2, d2, t2, os'⟩, _, .ref C, some d, rfl, J, kG, ge, hoe, ⟨rfl, rfl⟩, rfl, rfl, na, rfl, bare2, raises_own T.exC T.tyC, q1 d hd1⟩
    | next => exact False.elim hq'
    | brk => exact False.elim hq'
    | cont => exact False.elim hq'
/-- raise C(e, ..) -/
def TRaise (C : Addr) (mkD : MkD) (U : TL) : TSD := fun c D env => U c env fun ds => ds.length ≤ 1000 ∧ ∃ fs, mkD ds = some fs ∧ c.er ⟨C, fs⟩ env
theorem ds_raise (M : ExcK X.prog X.w X.K X.mg X.base k C fI mk mkD) (hr : Room (k + 1) X.A) (hg : Gl X x) (hm : X.mg x = some (.ref C)) (tk : L2.Takes X W) (ha : DA X W (e :: es) U) (hc : X.calm = true := by rfl)
    (hdb : (x == ("__debug__" : Str)) = false := by decide) (he : starEach (e :: es) X.env = (false, eval e X.env) :: starEach es X.env := by rfl) (hpl : (backTo pos (starEach es X.env)).any (·.1) = false := by rfl) :
    DS X W (.Raise (some (.Call (.Name x p) (e :: es) [] pos)) none pos') (TRaise C mkD U) :=
  ds_mk (L2.ps_raise hc tk (pmkX M hr hg hm ha hdb he hpl)) fun S R H σ env D3 lk ok q => tL3.ask lk ok q fun R1 H1 ds vs f1 ok1 r1 ⟨hl, fs, e1, q1⟩ => by
    obtain ⟨fvs, e2, rf⟩ := M.rel R1 ds vs fs r1 e1
    refine ⟨by rw [r1.length]; exact hl, fvs, e2, fun d hd => ?_⟩
    have fa := Fin.alloc (o := .xd fvs) ok1.bas hd
    exact lk _ _ σ env _ _ ⟨C, fs⟩ (ok1.through fa) ⟨rfl, d, fvs, rfl, upd_same, rf.mono fa.up⟩ q1
end
end L3
/-! L3y: the bracket: a callee is run with some further objects tracked as they stand -/
namespace L3
open PySem PySem.Spec PyProof.Rows L2
def trk (l : List (Addr × Obj)) (H : Hp) : Hp := fun b => match l.lookup b with
  | some o => some (.frz o (.ext fun _ => True))
  | none => H b
def untrk (l : List (Addr × Obj)) (H : Hp) : Hp := fun b => match l.lookup b with
  | some _ => none
  | none => H b
theorem trk_in {l : List (Addr × Obj)} {H : Hp} {b : Addr} {o : Obj} (h : l.lookup b = some o) : trk l H b = some (.frz o (.ext fun _ => True)) := by unfold trk; rw [h]
theorem trk_out {l : List (Addr × Obj)} {H : Hp} {b : Addr} (h : l.lookup b = none) : trk l H b = H b := by unfold trk; rw [h]
theorem untrk_in {l : List (Addr × Obj)} {H : Hp} {b : Addr} {o : Obj} (h : l.lookup b = some o) : untrk l H b = none := by unfold untrk; rw [h]
theorem untrk_out {l : List (Addr × Obj)} {H : Hp} {b : Addr} (h : l.lookup b = none) : untrk l H b = H b := by unfold untrk; rw [h]
structure TrkOk (base : Heap) (outer : List Env) (H : Hp) (s : Shared) (l : List (Addr × Obj)) : Prop where
  at_ : ∀ b o, l.lookup b = some o → s.heap.get? b = some o ∧ H b = none ∧ base.get? b = none ∧ b ∉ frs outer
section
variable {P : Program} {w : World} {K : PySem.W.Frag} {mg : Str → Option Value} {base : Heap} {A : Around} {outer : List Env} {s s' : Shared} {H H' : Hp} {l : List (Addr × Obj)} {Q : VK} {u : Value}
theorem TrkOk.out (t : TrkOk base outer H s l) {b : Addr} {o : HO} (h : H b = some o) : l.lookup b = none := by
  cases e : l.lookup b with
  | none => rfl
  | some x =>
    have := (t.at_ b x e).2.1
    rw [h] at this
    cases this
theorem env0_trk (t : TrkOk base outer H s l) (e0 : Env0 P w K mg base A outer s H) : Env0 P w K mg base A outer s (trk l H) := by
  refine ⟨e0.frames, e0.mod, fun b o e => ⟨(e0.bs b o e).1, ?_⟩, e0.bsz, e0.funs, fun b hb => ?_, fun b o e => ?_, e0.bare⟩
  · cases q : l.lookup b with
    | none => rw [trk_out q]; exact (e0.bs b o e).2
    | some x =>
      have := (t.at_ b x q).2.2.1
      rw [e] at this
      cases this
  · cases q : l.lookup b with
    | none => rw [trk_out q]; exact e0.frf b hb
    | some x => exact absurd hb (t.at_ b x q).2.2.2
  · cases q : l.lookup b with
    | none =>
      rw [trk_out q] at e
      exact (e0.hok b o e).stay (fun c v _ z => z) (fun c z => by rw [trk_out (t.out z)]; exact z) fun c xs z => by rw [trk_out (t.out z)]; exact z
    | some x =>
      rw [trk_in q] at e
      cases e
      exact ⟨(t.at_ b x q).1, trivial, ⟨x, (t.at_ b x q).1⟩, fun _ _ _ _ => trivial⟩
theorem ce_untrk (t : TrkOk base outer H s l) (h : CE outer P w (trk l H) s (fun v H' => (∀ b o, l.lookup b = some o → H' b = some (.frz o (.ext fun _ => True))) ∧ Q v (untrk l H')) u s') : CE outer P w H s Q u s' := by
  obtain ⟨v, H', os, bare, un, hok, rv, still, q⟩ := h
  have at' : ∀ b o, l.lookup b = some o → s'.heap.get? b = some o := fun b o e => by
    have x : ObjOk P w H' s'.heap b (.frz o (.ext fun _ => True)) := hok b _ (still b o e)
    exact x.1
  have nx : ∀ {b : Addr} {o : HO}, H' b = some o → (∀ x φ, o ≠ .frz x φ) → l.lookup b = none := fun {b o} e n => by
    cases z : l.lookup b with
    | none => rfl
    | some x =>
      rw [still b x z] at e
      exact absurd (Option.some.inj e).symm (n _ _)
  refine ⟨v, untrk l H', os, bare, ⟨fun b o e n hf hx => ?_, fun b o e n hf hx => ?_, fun b o e n hx => ?_, un.there, fun b xs e => ?_, fun b o u e => ?_, fun b ps e => ?_⟩, fun b o e => ?_, rv, q⟩
  · cases z : l.lookup b with
    | none => exact un.keep b o e (by rw [trk_out z]; exact n) hf hx
    | some x =>
      have := (t.at_ b x z).1
      rw [e] at this
      cases this
      exact at' b o z
  · cases z : l.lookup b with
    | none => exact un.slot b o e (by rw [trk_out z]; exact n) hf hx
    | some x => exact absurd hf (t.at_ b x z).2.2.2
  · cases z : l.lookup b with
    | none => rw [untrk_out z]; exact un.free b o e (by rw [trk_out z]; exact n) hx
    | some x => exact untrk_in z
  · have z := t.out e
    rw [untrk_out z]
    exact un.tups b xs (by rw [trk_out z]; exact e)
  · have z := t.out e
    rw [untrk_out z]
    exact un.frzs b o u (by rw [trk_out z]; exact e)
  · have z := t.out e
    rw [untrk_out z]
    exact un.tbls b ps (by rw [trk_out z]; exact e)
  · cases z : l.lookup b with
    | none =>
      rw [untrk_out z] at e
      exact (hok b o e).stay (fun c v _ z => z) (fun c z => by rw [untrk_out (nx z (fun x φ y => by cases y))]; exact z) fun c xs z => by rw [untrk_out (nx z (fun x φ y => by cases y))]; exact z
    | some x =>
      rw [untrk_in z] at e
      cases e
end
section
variable {w : Wd} {R H R1 H1 : Hp} {l : List (Addr × Obj)}
theorem out_foot (b : Bas w R H) (t : ∀ b o, l.lookup b = some o → H b = none) {a : Addr} (h : w.foot a) : l.lookup a = none := by
  obtain ⟨u, hu⟩ := w.there _ _ b.inv h
  cases e : l.lookup a with
  | none => rfl
  | some x =>
    have := t a x e
    rw [hu] at this
    cases this
theorem out_some (t : ∀ b o, l.lookup b = some o → H b = none) {a : Addr} {o : HO} (h : H a = some o) : l.lookup a = none := by
  cases e : l.lookup a with
  | none => rfl
  | some x =>
    have := t a x e
    rw [h] at this
    cases this
theorem same_trk (b : Bas w R H) (t : ∀ b o, l.lookup b = some o → H b = none) : Same R (trk l R) := fun a o h => by
  rw [trk_out (out_some t (b.sub a o h))]
  exact h
theorem bas_trk (b : Bas w R H) (t : ∀ b o, l.lookup b = some o → H b = none) : Bas w (trk l R) (trk l H) := by
  refine ⟨fun a o h => ?_, w.ext _ _ b.inv (fun a o hf h => by rw [trk_out (out_foot b t hf)]; exact h) (fun a φ h => by rw [trk_out (out_some t h)]; exact h), fun a hf => by rw [trk_out (out_foot b t hf)]; exact b.ft a hf⟩
  cases e : l.lookup a with
  | none =>
    rw [trk_out e] at h ⊢
    exact b.sub a o h
  | some x =>
    rw [trk_in e] at h ⊢
    exact h
theorem fin_untrk (b : Bas w R H) (t : ∀ b o, l.lookup b = some o → H b = none) (f : Fin w (trk l R) (trk l H) R1 H1) : Fin w R H (untrk l R1) (untrk l H1) := by
  refine ⟨fun a o h => ?_, fun a o h => ?_, fun a o h hf => ?_, fun a o h1 h2 h3 => ?_, w.ext _ _ f.inv (fun a o hf h => by rw [untrk_out (out_foot b t hf)]; exact h) (fun a φ h => ?_), fun a hf => by rw [untrk_out (out_foot b t hf)]; exact f.ft a hf⟩
  · have z := out_some t (b.sub a o h)
    rw [untrk_out z]
    exact f.up a o (by rw [trk_out z]; exact h)
  · cases e : l.lookup a with
    | none =>
      rw [untrk_out e] at h ⊢
      exact f.sub a o h
    | some x =>
      rw [untrk_in e] at h
      cases h
  · have z := out_some t h
    rw [untrk_out z]
    exact f.keep a o (by rw [trk_out z]; exact h) hf
  · have z := out_some t h2
    rw [untrk_out z]
    exact f.newX a o (by rw [trk_out z]; exact h1) (by rw [trk_out z]; exact h2) h3
  · cases e : l.lookup a with
    | none => rw [untrk_out e]; exact h
    | some x =>
      have := f.sub a _ (f.up a _ (trk_in e))
      rw [h] at this
      cases this
end
/-! values without defs made on the way, without errors held -/
mutual
def plainD : D → Bool
  | .tup ds => plainDs ds
  | .lst ds => plainDs ds
  | .ins _ fs => plainF fs
  | .dic kvs => plainK kvs
  | .exc _ _ => false
  | .clo _ _ => false
  | .lam _ _ => false
  | _ => true
def plainDs : List D → Bool
  | [] => true
  | d :: ds => plainD d && plainDs ds
def plainF : List (Str × D) → Bool
  | [] => true
  | (_, d) :: ds => plainD d && plainF ds
def plainK : List (Key × D) → Bool
  | [] => true
  | (_, d) :: ds => plainD d && plainK ds
end
theorem plainDs_iff : ∀ {ds : List D}, plainDs ds = true ↔ ∀ d ∈ ds, plainD d = true
  | [] => by simp [plainDs]
  | d :: ds => by
    show (plainD d && plainDs ds) = true ↔ _
    rw [Bool.and_eq_true, plainDs_iff (ds := ds)]
    simp
section
variable {K : PySem.W.Frag} {R : Hp} {l : List (Addr × Obj)}
mutual
theorem rep_untrk (still : ∀ b o, l.lookup b = some o → ∃ x φ, R b = some (.frz x φ)) : ∀ {d : D} {v : V}, plainD d = true → Rep K R d v → Rep K (untrk l R) d v
  | .non, _, _, h => h
  | .bl _, _, _, h => h
  | .int _, _, _, h => h
  | .str _, _, _, h => h
  | .ty _, _, _, h => h
  | .ref _, _, _, h => h
  | .tup ds, v, p, h => by
    unfold Rep at h ⊢
    obtain ⟨q, xs, e, g, r⟩ := h
    exact ⟨q, xs, e, by rw [untrk_out (no_ext still g (by intro x φ z; cases z))]; exact g, reps_untrk still p r⟩
  | .lst ds, v, p, h => by
    unfold Rep at h ⊢
    obtain ⟨q, xs, e, g, r⟩ := h
    exact ⟨q, xs, e, by rw [untrk_out (no_ext still g (by intro x φ z; cases z))]; exact g, reps_untrk still p r⟩
  | .ins C fs, v, p, h => by
    unfold Rep at h ⊢
    obtain ⟨q, dx, xs, e, g, r⟩ := h
    exact ⟨q, dx, xs, e, by rw [untrk_out (no_ext still g (by intro x φ z; cases z))]; exact g, repf_untrk still p r⟩
  | .dic kvs, v, p, h => by
    unfold Rep at h ⊢
    obtain ⟨q, xs, e, g, r⟩ := h
    exact ⟨q, xs, e, by rw [untrk_out (no_ext still g (by intro x φ z; cases z))]; exact g, repk_untrk still p r⟩
  | .exc _ _, _, p, _ => by cases p
  | .clo _ _, _, p, _ => by cases p
  | .lam _ _, _, p, _ => by cases p
theorem reps_untrk (still : ∀ b o, l.lookup b = some o → ∃ x φ, R b = some (.frz x φ)) : ∀ {ds : List D} {vs : List V}, plainDs ds = true → Reps K R ds vs → Reps K (untrk l R) ds vs
  | [], _, _, h => h
  | d :: ds, vs, p, h => by
    unfold Reps at h ⊢
    obtain ⟨v, r, e, h1, h2⟩ := h
    obtain ⟨p1, p2⟩ := Bool.and_eq_true_iff.mp (show (plainD d && plainDs ds) = true from p)
    exact ⟨v, r, e, rep_untrk still p1 h1, reps_untrk still p2 h2⟩
theorem repf_untrk (still : ∀ b o, l.lookup b = some o → ∃ x φ, R b = some (.frz x φ)) : ∀ {ds : List (Str × D)} {vs : List (Str × V)}, plainF ds = true → RepF K R ds vs → RepF K (untrk l R) ds vs
  | [], _, _, h => h
  | (f, d) :: ds, vs, p, h => by
    unfold RepF at h ⊢
    obtain ⟨v, r, e, h1, h2⟩ := h
    obtain ⟨p1, p2⟩ := Bool.and_eq_true_iff.mp (show (plainD d && plainF ds) = true from p)
    exact ⟨v, r, e, rep_untrk still p1 h1, repf_untrk still p2 h2⟩
theorem repk_untrk (still : ∀ b o, l.lookup b = some o → ∃ x φ, R b = some (.frz x φ)) : ∀ {ds : List (Key × D)} {vs : List (Key × V)}, plainK ds = true → RepK K R ds vs → RepK K (untrk l R) ds vs
  | [], _, _, h => h
  | (f, d) :: ds, vs, p, h => by
    unfold RepK at h ⊢
    obtain ⟨v, r, e, h1, h2⟩ := h
    obtain ⟨p1, p2⟩ := Bool.and_eq_true_iff.mp (show (plainD d && plainK ds) = true from p)
    exact ⟨v, r, e, rep_untrk still p1 h1, repk_untrk still p2 h2⟩
theorem no_ext (still : ∀ b o, l.lookup b = some o → ∃ x φ, R b = some (.frz x φ)) {b : Addr} {o : HO} (h : R b = some o) (n : ∀ x φ, o ≠ .frz x φ) : l.lookup b = none := by
  cases e : l.lookup b with
  | none => rfl
  | some x =>
    obtain ⟨y, φ, z⟩ := still b x e
    rw [h] at z
    exact absurd (Option.some.inj z) (n y φ)
end
end
/-- what is asked where a callee is run so -/
theorem spW_askX {X : Cx} {W : WX} {F : TF} {S : Sta} {R H : Hp} {σ : L2.St} {env : Ev} {l : List (Addr × Obj)} {φ : D → Prop} {Q : VK} {vs : List V} {ds : List D} (ok : Ok3 X.K S R H σ env) (t : ∀ b o, l.lookup b = some o → H b = none) (r : Reps X.K (trk l R) ds vs)
    (h : F S.c.wd ds (fun d => plainD d = true ∧ φ d) fun _ => False) (kQ : ∀ v H', Pst X.K S.c R H φ v H' → Q v H') : spW X.K F vs (trk l H) (fun v H' => (∀ b o, l.lookup b = some o → H' b = some (.frz o (.ext fun _ => True))) ∧ Q v (untrk l H')) (fun _ _ _ => False) := by
  refine ⟨S.c.wd, trk l R, ds, _, fun _ => False, bas_trk ok.bas t, r, h, fun v R' H' d f rv q => ?_, fun _ _ _ _ _ _ _ z => z⟩
  have still : ∀ b o, l.lookup b = some o → R' b = some (.frz o (.ext fun _ => True)) := fun b o e => f.up b _ (trk_in e)
  exact ⟨fun b o e => f.sub b _ (still b o e), kQ v _ ⟨_, d, fin_untrk ok.bas t f, rep_untrk (fun b o e => ⟨_, _, still b o e⟩) q.1 rv, q.2⟩⟩
theorem call_atX {X : Cx} {F : TF} {k : Nat} {f : Addr} {pins : List (Addr × Obj)} {σ : L2.St} {H : Hp} {s : Shared} {l : List (Addr × Obj)} {Q : VK} {us : List Value} {vs : List V} (G : FnR X.prog X.w X.K X.mg X.base (L2.CX X.prog X.w) k f (spW X.K F)) (hr : Room k X.A)
    (I : L2.Inv X pins σ H s) (t : TrkOk X.base X.stack H s l) (r : Vals vs us) (h : spW X.K F vs (trk l H) (fun v H' => (∀ b o, l.lookup b = some o → H' b = some (.frz o (.ext fun _ => True))) ∧ Q v (untrk l H')) (fun _ _ _ => False)) :
    wpAny (model X.prog X.w) X.A (call (.ref f) us) (EP X pins σ Q) X.xe s :=
  wpAny_call (codeAny_mono (G X.A X.stack s (trk l H) us vs _ _ hr (env0_trk t I.env0) r h) fun res s' hres => match res, hres with
    | .error er, hres => by
      obtain ⟨_, _, _, _, _, _, _, _, _, _, _, _, z⟩ := hres
      exact z.elim
    | .ok (.ret u), hres => I.after (ce_untrk t hres))
/-! ### a def that may be called while an error is handled: it lets nothing out, walks nothing -/
abbrev FnC (P : Program) (w : World) (K : PySem.W.Frag) (mg : Str → Option Value) (base : Heap) (k : Nat) (f : Addr) (F : TF) : Prop := ∀ (A : Around) (outer : List Env) (s : Shared) (H : Hp) (us : List Value) (vs : List V) (Q : VK) (E : XK), L2H.RoomH k A → Env0 P w K mg base A outer s H → Vals vs us → spW K F vs H Q E →
  codeAny (model P w) A (.call (.ref f) ⟨us, []⟩) (CR (L2.CX P w) outer P w H s Q E) s
theorem call_atXC {X : Cx} {F : TF} {k : Nat} {f : Addr} {pins : List (Addr × Obj)} {σ : L2.St} {H : Hp} {s : Shared} {l : List (Addr × Obj)} {Q : VK} {us : List Value} {vs : List V} (G : FnC X.prog X.w X.K X.mg X.base k f F) (hr : L2H.RoomH k X.A)
    (I : L2.Inv X pins σ H s) (t : TrkOk X.base X.stack H s l) (r : Vals vs us) (h : spW X.K F vs (trk l H) (fun v H' => (∀ b o, l.lookup b = some o → H' b = some (.frz o (.ext fun _ => True))) ∧ Q v (untrk l H')) (fun _ _ _ => False)) :
    wpAny (model X.prog X.w) X.A (call (.ref f) us) (EP X pins σ Q) X.xe s :=
  wpAny_call (codeAny_mono (G X.A X.stack s (trk l H) us vs _ _ hr (env0_trk t I.env0) r h) fun res s' hres => match res, hres with
    | .error er, hres => by
      obtain ⟨_, _, _, _, _, _, _, _, _, _, _, _, z⟩ := hres
      exact z.elim
    | .ok (.ret u), hres => I.after (ce_untrk t hres))
end L3
/-! L3z: closures: what a lambda's body promises; a lambda called -/
namespace L3
open PySem PySem.Spec PyProof.Rows L2
/-! ### the cells set aside while the body runs -/
abbrev FrzL (H : Hp) (l : List (Addr × Obj)) : Prop := ∀ b o, l.lookup b = some o → H b = some (.frz o (.ext fun _ => True))
section
variable {P : Program} {w : World} {K : PySem.W.Frag} {mg : Str → Option Value} {base : Heap} {A : Around} {outer : List Env} {s s' : Shared} {H H' R R1 H1 : Hp} {l : List (Addr × Obj)} {Q : VK} {E : XK} {u : Value}
theorem FrzL.out (t : FrzL H l) {b : Addr} {o : HO} (h : H b = some o) (n : ∀ x φ, o ≠ .frz x φ) : l.lookup b = none := by
  cases e : l.lookup b with
  | none => rfl
  | some x =>
    rw [t b x e] at h
    exact absurd (Option.some.inj h).symm (n _ _)
theorem FrzL.outN (t : FrzL H l) {b : Addr} (h : H b = none) : l.lookup b = none := by
  cases e : l.lookup b with
  | none => rfl
  | some x =>
    rw [t b x e] at h
    cases h
theorem untrk_none (h : H' = untrk l H) {b : Addr} (e : H b = none) : untrk l H b = none := by
  cases z : l.lookup b with
  | none => rw [untrk_out z]; exact e
  | some x => exact untrk_in z
theorem hok_untrk (t : FrzL H l) {h : Heap} (hk : HOk P w H h) : HOk P w (untrk l H) h := fun b o e => by
  cases q : l.lookup b with
  | some x => rw [untrk_in q] at e; cases e
  | none =>
    rw [untrk_out q] at e
    exact (hk b o e).stay (fun c v _ z => z) (fun c z => by rw [untrk_out (t.out z (by intro x φ y; cases y))]; exact z) fun c xs z => by rw [untrk_out (t.out z (by intro x φ y; cases y))]; exact z
theorem env0_untrk (t : FrzL H l) (e0 : Env0 P w K mg base A outer s H) : Env0 P w K mg base A outer s (untrk l H) :=
  ⟨e0.frames, e0.mod, fun b o e => ⟨(e0.bs b o e).1, untrk_none rfl (e0.bs b o e).2⟩, e0.bsz, e0.funs, fun b hb => untrk_none rfl (e0.frf b hb), hok_untrk t e0.hok, e0.bare⟩
theorem hok_trk (hl : ∀ b o, l.lookup b = some o → s'.heap.get? b = some o) (hn : ∀ b o, l.lookup b = some o → H1 b = none) (hk : HOk P w H1 s'.heap) : HOk P w (trk l H1) s'.heap := fun b o e => by
  have out : ∀ {c : Addr} {x : HO}, H1 c = some x → l.lookup c = none := fun {c x} z => by
    cases q : l.lookup c with
    | none => rfl
    | some y => rw [hn c y q] at z; cases z
  cases q : l.lookup b with
  | none =>
    rw [trk_out q] at e
    exact (hk b o e).stay (fun c v _ z => z) (fun c z => by rw [trk_out (out z)]; exact z) fun c xs z => by rw [trk_out (out z)]; exact z
  | some x =>
    rw [trk_in q] at e
    cases e
    exact ⟨hl b x q, trivial, ⟨x, hl b x q⟩, fun _ _ _ _ => trivial⟩
theorem ce_trk (t : FrzL H l) (hs : ∀ b o, l.lookup b = some o → s.heap.get? b = some o) (hf : ∀ b ∈ frs outer, H b = none) (h : CE outer P w (untrk l H) s (fun v H1 => (∀ b o, l.lookup b = some o → H1 b = none) → Q v (trk l H1)) u s') : CE outer P w H s Q u s' := by
  obtain ⟨v, H1, os, bare, un, hok, rv, q⟩ := h
  have lf : ∀ b o, l.lookup b = some o → b ∉ frs outer := fun b o e z => by
    have := hf b z
    rw [t b o e] at this
    cases this
  have hn : ∀ b o, l.lookup b = some o → H1 b = none := fun b o e => un.free b o (hs b o e) (untrk_in e) (by simp)
  have hl : ∀ b o, l.lookup b = some o → s'.heap.get? b = some o := fun b o e => un.keep b o (hs b o e) (untrk_in e) (lf b o e) (by simp)
  refine ⟨v, trk l H1, os, bare, ⟨fun b o e n h1 h2 => un.keep b o e (untrk_none rfl n) h1 h2, fun b o e n h1 h2 => un.slot b o e (untrk_none rfl n) h1 h2, fun b o e n h2 => ?_, un.there, fun b xs e => ?_, fun b o u e => ?_, fun b ps e => ?_⟩, hok_trk hl hn hok, rv, q hn⟩
  · rw [trk_out (t.outN n)]
    exact un.free b o e (untrk_none rfl n) h2
  · have z := t.out e (by intro x φ y; cases y)
    rw [trk_out z]
    exact un.tups b xs (by rw [untrk_out z]; exact e)
  · cases z : l.lookup b with
    | some x =>
      rw [t b x z] at e
      rw [trk_in z]
      exact e
    | none =>
      rw [trk_out z]
      exact un.frzs b o u (by rw [untrk_out z]; exact e)
  · have z := t.out e (by intro x φ y; cases y)
    rw [trk_out z]
    exact un.tbls b ps (by rw [untrk_out z]; exact e)
theorem cx_trk (t : FrzL H l) (hs : ∀ b o, l.lookup b = some o → s.heap.get? b = some o) (hf : ∀ b ∈ frs outer, H b = none) (h : L2.CX P w outer (untrk l H) s (fun c d H1 => (∀ b o, l.lookup b = some o → H1 b = none) → E c d (trk l H1)) u s') : L2.CX P w outer H s E u s' := by
  obtain ⟨a, B, H1, cls, d, eu, fl, hok, un, ha, os, bare, q⟩ := h
  have lf : ∀ b o, l.lookup b = some o → b ∉ frs outer := fun b o e z => by
    have := hf b z
    rw [t b o e] at this
    cases this
  have hn : ∀ b o, l.lookup b = some o → H1 b = none := fun b o e => un.free b o (hs b o e) (untrk_in e)
  have hl : ∀ b o, l.lookup b = some o → B.get? b = some o := fun b o e => un.keep b o (hs b o e) (untrk_in e) (lf b o e)
  have na : l.lookup a = none := by
    cases z : l.lookup a with
    | none => rfl
    | some x =>
      have := hl a x z
      rw [fl.2.1] at this
      cases this
  refine ⟨a, B, trk l H1, cls, d, eu, fl, hok_trk (s' := { s' with heap := B }) hl hn hok, ⟨fun b o e n h1 => un.keep b o e (untrk_none rfl n) h1, un.slot, fun b o e n => ?_, un.there, fun b xs e => ?_, fun b o u e => ?_, fun b ps e => ?_⟩, by rw [trk_out na]; exact ha, os, bare, q hn⟩
  · rw [trk_out (t.outN n)]
    exact un.free b o e (untrk_none rfl n)
  · have z := t.out e (by intro x φ y; cases y)
    rw [trk_out z]
    exact un.tups b xs (by rw [untrk_out z]; exact e)
  · cases z : l.lookup b with
    | some x =>
      rw [t b x z] at e
      rw [trk_in z]
      exact e
    | none =>
      rw [trk_out z]
      exact un.frzs b o u (by rw [untrk_out z]; exact e)
  · have z := t.out e (by intro x φ y; cases y)
    rw [trk_out z]
    exact un.tbls b ps (by rw [untrk_out z]; exact e)
theorem bas_untrk {wd : Wd} (t : FrzL R l) (b : Bas wd R H) : Bas wd (untrk l R) (untrk l H) := by
  have tH : FrzL H l := fun a o e => b.sub a _ (t a o e)
  have fo : ∀ {a}, wd.foot a → l.lookup a = none := fun {a} hf => t.outN (b.ft a hf)
  refine ⟨fun a o h => ?_, wd.ext _ _ b.inv (fun a o hf h => by rw [untrk_out (fo hf)]; exact h) (fun a φ h => by rw [untrk_out (tH.out h (by intro x φ y; cases y))]; exact h), fun a hf => untrk_none rfl (b.ft a hf)⟩
  cases e : l.lookup a with
  | some x => rw [untrk_in e] at h; cases h
  | none =>
    rw [untrk_out e] at h ⊢
    exact b.sub a o h
theorem same_trk1 (hn : ∀ b o, l.lookup b = some o → R1 b = none) : Same R1 (trk l R1) := fun b o h => by
  cases e : l.lookup b with
  | none => rw [trk_out e]; exact h
  | some x => rw [hn b x e] at h; cases h
theorem fin_trk {wd : Wd} (t : FrzL R l) (b : Bas wd R H) (hn : ∀ b o, l.lookup b = some o → H1 b = none) (f : Fin wd (untrk l R) (untrk l H) R1 H1) : Fin wd R H (trk l R1) (trk l H1) := by
  have tH : FrzL H l := fun a o e => b.sub a _ (t a o e)
  have hn1 : ∀ {a : Addr} {o : HO}, H1 a = some o → l.lookup a = none := fun {a o} h => by
    cases e : l.lookup a with
    | none => rfl
    | some x => rw [hn a x e] at h; cases h
  refine ⟨fun a o h => ?_, fun a o h => ?_, fun a o h hf => ?_, fun a o h1 h2 h3 => ?_, wd.ext _ _ f.inv (fun a o hf h => by rw [trk_out (hn1 h)]; exact h) (fun a φ h => by rw [trk_out (hn1 h)]; exact h), fun a hf => by rw [trk_out (t.outN (b.ft a hf))]; exact f.ft a hf⟩
  · cases e : l.lookup a with
    | some x =>
      rw [t a x e] at h
      rw [trk_in e]; exact h
    | none => rw [trk_out e]; exact f.up a o (by rw [untrk_out e]; exact h)
  · cases e : l.lookup a with
    | some x => rw [trk_in e] at h ⊢; exact h
    | none => rw [trk_out e] at h ⊢; exact f.sub a o h
  · cases e : l.lookup a with
    | some x =>
      rw [tH a x e] at h
      rw [trk_in e]; exact h
    | none => rw [trk_out e]; exact f.keep a o (by rw [untrk_out e]; exact h) hf
  · have e := t.outN h1
    rw [trk_out e]
    exact f.newX a o (by rw [untrk_out e]; exact h1) (by rw [untrk_out e]; exact h2) h3
/-- the cells as a list -/
theorem cells_list : ∀ {cl : List (Str × Addr)} {us : List V}, CellsAt R cl us → ∃ l : List (Addr × Obj), FrzL R l ∧ (∀ p ∈ cl, ∃ o v, l.lookup p.2 = some o ∧ o.data = .cell (some v)) ∧ us.length = cl.length ∧
    ∀ (i : Nat) (v : V), us[i]? = some v → ∃ p o u, cl[i]? = some p ∧ l.lookup p.2 = some o ∧ o.data = .cell (some u) ∧ RelV v u
  | [], us, h => by
    have e : us = [] := h
    subst e
    refine ⟨[], ?_, ?_, rfl, ?_⟩
    · intro b o e
      cases e
    · intro p hp
      cases hp
    · intro i v e
      simp at e
  | (x, c) :: r, us, h => by
    obtain ⟨v, t, ob, u, e, h1, h2, h3, h4⟩ := h
    subst e
    obtain ⟨l, l1, l2, l3, l4⟩ := cells_list h4
    have lk : ∀ b, ((c, ob) :: l).lookup b = if b = c then some ob else l.lookup b := fun b => by
      rw [List.lookup_cons]
      by_cases hb : b = c
      · rw [if_pos hb, beq_iff_eq.mpr hb]
      · rw [if_neg hb, beq_eq_false_iff_ne.mpr hb]
    have same : ∀ {b o}, l.lookup b = some o → ((c, ob) :: l).lookup b = some o := fun {b o} e => by
      rw [lk]
      by_cases hb : b = c
      · rw [if_pos hb]
        have z := l1 b o e
        rw [hb, h1] at z
        injection z with z
        injection z with z
        rw [z]
      · rw [if_neg hb]; exact e
    refine ⟨(c, ob) :: l, fun b o e => ?_, fun p hp => ?_, congrArg Nat.succ l3, fun i v' e => ?_⟩
    · rw [lk] at e
      by_cases hb : b = c
      · rw [if_pos hb] at e
        cases e
        rw [hb]; exact h1
      · rw [if_neg hb] at e
        exact l1 b o e
    · rcases List.mem_cons.mp hp with z | z
      · subst z
        exact ⟨ob, u, by rw [lk, if_pos rfl], h2⟩
      · obtain ⟨o, v, e1, e2⟩ := l2 p z
        exact ⟨o, v, same e1, e2⟩
    · cases i with
      | zero =>
        have : v = v' := by simpa using e
        subst this
        exact ⟨(x, c), ob, u, rfl, by rw [lk, if_pos rfl], h2, h3⟩
      | succ i =>
        obtain ⟨p, o, u', a1, a2, a3, a4⟩ := l4 i v' (by simpa using e)
        exact ⟨p, o, u', by simpa using a1, same a2, a3, a4⟩
end
/-! ### a lambda's body -/
/-- no parameter, no name of its own -/
structure LamK (scope : Scope) : Prop where
  kind : scope.kind = .function
  co : scope.isCoroutine = false
  gen : scope.isGenerator = false
  own : ∀ y ∈ scope.names, y.2 ≠ .cell
  fr : ∀ y ∈ lamN scope, scope.names.lookup y = some .free
  nd : (lamN scope).Nodup
def lamKB (scope : Scope) : Bool := decide (scope.kind = .function) && !scope.isCoroutine && !scope.isGenerator && (scope.names.all fun y => !decide (y.2 = .cell)) && ((lamN scope).all fun y => decide (scope.names.lookup y = some .free)) && decide (lamN scope).Nodup
theorem lamK_by {scope : Scope} (h : lamKB scope = true) : LamK scope := by
  unfold lamKB at h
  simp only [Bool.and_eq_true, Bool.not_eq_true', decide_eq_true_eq, decide_eq_false_iff_not, List.all_eq_true] at h
  obtain ⟨⟨⟨⟨⟨h1, h2⟩, h3⟩, h4⟩, h6⟩, h5⟩ := h
  exact ⟨h1, h2, h3, h4, h6, h5⟩
/-- what a lambda's scope must be where it is made -/
structure LamS2 (sc scope : Scope) : Prop where
  kind : scope.kind = .function
  co : scope.isCoroutine = false
  gen : scope.isGenerator = false
  own : ∀ y ∈ scope.names, y.2 ≠ .cell
  free : ∀ y ∈ scope.names, y.2 = .free → sc.names.lookup y.1 = some .cell ∨ sc.names.lookup y.1 = some .free
def lamSB2 (sc scope : Scope) : Bool :=
  decide (scope.kind = .function) && !scope.isCoroutine && !scope.isGenerator && scope.names.all fun y => !decide (y.2 = .cell) && (!decide (y.2 = .free) || decide (sc.names.lookup y.1 = some .cell) || decide (sc.names.lookup y.1 = some .free))
theorem lamS2_by {sc scope : Scope} (h : lamSB2 sc scope = true) : LamS2 sc scope := by
  unfold lamSB2 at h
  simp only [Bool.and_eq_true, Bool.or_eq_true, Bool.not_eq_true', decide_eq_true_eq, decide_eq_false_iff_not, List.all_eq_true] at h
  obtain ⟨⟨⟨h1, h2⟩, h3⟩, h4⟩ := h
  refine ⟨h1, h2, h3, fun y hy => (h4 y hy).1, fun y hy e => ?_⟩
  rcases (h4 y hy).2 with (z | z) | z
  · exact absurd e z
  · exact .inl z
  · exact .inr z
theorem LamS2.has {X : Cx} {scope : Scope} (L : LamS2 X.env.scope scope) (ok : X.Ok) : ∀ y ∈ scope.names, y.2 = .free → ∃ c, X.env.cells.lookup y.1 = some c := fun y hy e => by
  rcases L.free y hy e with k | k
  · exact ok.has _ (.inl k)
  · exact ok.has _ (.inr k)
theorem lookup_nd : ∀ {cl : List (Str × Addr)} {i : Nat} {p : Str × Addr}, (cl.map (·.1)).Nodup → cl[i]? = some p → cl.lookup p.1 = some p.2
  | [], i, p, _, h => by simp at h
  | q :: r, 0, p, _, h => by
    have e : q = p := by simpa using h
    subst e
    rw [List.lookup_cons, beq_self_eq_true]
  | q :: r, i + 1, p, nd, h => by
    have h2 : r[i]? = some p := by simpa using h
    rw [List.map_cons, List.nodup_cons] at nd
    have hne : p.1 ≠ q.1 := fun e => nd.1 (by rw [← e]; exact List.mem_map.mpr ⟨p, List.mem_of_getElem? h2, rfl⟩)
    rw [List.lookup_cons, beq_eq_false_iff_ne.mpr hne]
    exact lookup_nd nd.2 h2
theorem lamN_mem {scope : Scope} {y : Str} (h : scope.names.lookup y = some .free) : y ∈ lamN scope := by
  unfold lamN
  rw [List.mem_reverse]
  exact List.mem_map.mpr ⟨(y, .free), List.mem_filter.mpr ⟨PySem.mem_of_lookup h, rfl⟩, rfl⟩
abbrev envL (L : LamC) (cl : List (Str × Addr)) (f c' n : Addr) : Env := PySem.W.envX L.qual L.scope n f (.ref c') cl
/-- the context of a lambda's body -/
def cxL (P : Program) (w : World) (K : PySem.W.Frag) (mg : Str → Option Value) (base : Heap) (L : LamC) (cl : List (Str × Addr)) (f c' : Addr) (A : Around) (outer : List Env) (s : Shared) (H : Hp) (E : XK) : Cx where
  prog := P
  w := w
  K := K
  mg := mg
  base := base
  A := A.deeper (envL L cl f c' s.heap.objs.size)
  N := lamN L.scope
  s_0 := s
  H_0 := H
  env := envL L cl f c' s.heap.objs.size
  outer := outer
  stack := envL L cl f c' s.heap.objs.size :: outer
  ex := []
  fn := fun _ => false
  calm := true
  pn := []
  xe := fun e s' => wpAny (model P w) (A.deeper (envL L cl f c' s.heap.objs.size)) (leaving (envL L cl f c' s.heap.objs.size) e) (fun _ s'' => L2.CX P w outer H s E e s'') (fun e' s'' => L2.CX P w outer H s E e' s'') s'
theorem tkL {P : Program} {w : World} {K : PySem.W.Frag} {mg : Str → Option Value} {base : Heap} {L : LamC} {cl : List (Str × Addr)} {f c' : Addr} {A : Around} {outer : List Env} {s : Shared} {H : Hp} {E : XK} : L2.Takes (cxL P w K mg base L cl f c' A outer s H E) (W3 E) := L2.takes_of rfl rfl rfl rfl
section
variable {P : Program} {w : World} {K : PySem.W.Frag} {mg : Str → Option Value} {base : Heap} {A : Around} {outer : List Env} {s : Shared} {H : Hp} {l : List (Addr × Obj)} {E : XK}
theorem lam_start3 {L : LamC} {cl : List (Str × Addr)} {f c' : Addr} {us : List V} {h₁ : Heap} {tk : Nat} {bd : List (Str × Value)} (LK : LamK L.scope) (hn : cl.map (·.1) = lamN L.scope) (inj : ∀ x y a, cl.lookup x = some a → cl.lookup y = some a → x = y)
    (e0 : Env0 P w K mg base A outer s H) (hd : A.handled = none) (hs : ∀ b o, l.lookup b = some o → s.heap.get? b = some o) (hH : ∀ b o, l.lookup b = some o → H b = none)
    (l2 : ∀ p ∈ cl, ∃ o v, l.lookup p.2 = some o ∧ o.data = .cell (some v)) (l3 : us.length = cl.length) (l4 : ∀ (i : Nat) (v : V), us[i]? = some v → ∃ p o u, cl[i]? = some p ∧ l.lookup p.2 = some o ∧ o.data = .cell (some u) ∧ RelV v u)
    (hns : h₁.Ns s.heap.objs.size fun y => bd.reverse.lookup y) (kp : ∀ b o, s.heap.get? b = some o → h₁.get? b = some o) :
    Inv (cxL P w K mg base L cl f c' A outer s H E) [] (us.map some) H { s with heap := h₁, toks := tk } := by
  have nd : (cl.map (·.1)).Nodup := by rw [hn]; exact LK.nd
  have look : ∀ {y}, L.scope.names.lookup y = some .free → ∃ c, cl.lookup y = some c := fun {y} hl => by
    have hy := lamN_mem hl
    rw [← hn] at hy
    obtain ⟨p, hp, e⟩ := List.mem_map.mp hy
    obtain ⟨i, hi⟩ := List.getElem?_of_mem hp
    exact ⟨p.2, by rw [← e]; exact lookup_nd nd hi⟩
  have noA : ∀ b : Addr, b ∉ (cxL P w K mg base L cl f c' A outer s H E).ex := fun b z => absurd (show b ∈ ([] : List Addr) from z) (by simp)
  have cell2 : ∀ {y c}, cl.lookup y = some c → ∃ o v, l.lookup c = some o ∧ o.data = .cell (some v) := fun {y c} e => l2 (y, c) (PySem.mem_of_lookup e)
  refine ⟨⟨e0.mod, LK.kind, rfl, rfl, Nat.le_refl _, fun y z c e1 e2 => inj y z c e1 e2, fun y hy => ?_, fun y c z _ => ?_, fun _ => hd, Around.frames_deeper e0.frames, .inr ⟨rfl, rfl⟩, fun b z => absurd z (noA b), e0.bs, e0.bsz, fun b _ _ => noA b,
      fun b z => absurd z (noA b), e0.funs, e0.frf⟩,
    rfl, e0.bare, Un.kept kp, ⟨_, hns, fun i y v e1 e2 e3 => ?_⟩, fun y c e => ?_, e0.hok.fresh (Nat.le_refl _), fun y c e => ?_, fun q hq => absurd (show q ∈ ([] : List (Addr × Obj)) ++ [] from hq) (by simp), e0.hok.kept kp, ?_⟩
  · have hy : L.scope.names.lookup y = some .cell ∨ L.scope.names.lookup y = some .free := hy
    rcases hy with hy | hy
    · exact absurd rfl (LK.own _ (PySem.mem_of_lookup hy))
    · exact look hy
  · have z : false = true := z
    cases z
  · have e3 : Vis L.scope y := e3
    rcases e3 with k | k | k
    · have q := LK.fr y (List.mem_of_getElem? (show (lamN L.scope)[i]? = some y from e1))
      rw [k] at q
      cases q
    · exact absurd rfl (LK.own _ (PySem.mem_of_lookup k))
    · have e4 : us[i]? = some v := by
        rw [List.getElem?_map] at e2
        cases z : us[i]? with
        | none => rw [z] at e2; cases e2
        | some a => rw [z] at e2; cases e2; rfl
      obtain ⟨p, o, u, a1, a2, a3, a4⟩ := l4 i v e4
      have e5 : p.1 = y := by
        have e6 : (lamN L.scope)[i]? = some y := e1
        rw [← hn, List.getElem?_map, a1] at e6
        exact Option.some.inj e6
      refine ⟨u, a4, .inr ⟨.inr k, p.2, ?_, ⟨o, kp _ _ (hs _ _ a2), a3⟩⟩⟩
      rw [← e5]
      exact lookup_nd nd a1
  · obtain ⟨o, v, a1, a2⟩ := cell2 e
    exact ⟨some v, o, kp _ _ (hs _ _ a1), a2⟩
  · obtain ⟨o, v, a1, a2⟩ := cell2 e
    exact hH _ _ a1
  · show (us.map some).length = (lamN L.scope).length
    rw [List.length_map, l3, ← hn, List.length_map]
end
/-- what a lambda promises to whoever calls it: ds are the values that it captured -/
def LamF (P : Program) (w : World) (K : PySem.W.Frag) (mg : Str → Option Value) (base : Heap) (k : Nat) (L : LamC) (F : TF) : Prop := ∀ (A : Around) (outer : List Env) (s : Shared) (H R : Hp) (f : Addr) (cl : List (Str × Addr)) (us : List V) (ds : List D) (wd : Wd) (φ : D → Prop) (ε : Er → Prop) (Q : VK) (E : XK),
  Room k A → Env0 P w K mg base A outer s H → Bas wd R H → LamAt R L cl f → CellsAt R cl us → Reps K R ds us → F wd ds φ ε → (∀ v R' H' d, Fin wd R H R' H' → Rep K R' d v → φ d → Q v H') → (∀ cls od R' H' ex, Fin wd R H R' H' → XRep K R' ex cls od → ε ex → E cls od H') →
  codeAny (model P w) A (.call (.ref f) ⟨[], []⟩) (CR (L2.CX P w) outer P w H s Q E) s
theorem slots_v {K : PySem.W.Frag} {R H : Hp} : ∀ {ds : List D} {us : List V}, Reps K R ds us → Paired (SlOk K R H) (us.map some) (ds.map Sl.v)
  | [], us, h => by
    have e : us = [] := h
    subst e
    exact .nil
  | d :: ds, us, h => by
    obtain ⟨v, r, e, h1, h2⟩ := (show ∃ v r, us = v :: r ∧ Rep K R d v ∧ Reps K R ds r from h)
    subst e
    exact .cons ⟨v, rfl, h1⟩ (slots_v h2)
theorem mapv_ad {ds : List D} {i : Nat} : adAt (ds.map Sl.v) i = none := by
  unfold adAt
  rw [List.getElem?_map]
  cases ds[i]? <;> rfl
def DvS (h : Heap) (ps : Arguments) (dV : Value) : Prop := (ps.defaults = [] ∧ dV = .none) ∨ (ps.defaults ≠ [] ∧ ∃ t v, dV = .ref t ∧ h.get? t = some (PySem.W.kdv_tup [v]))
theorem lamF0 {P : Program} {w : World} {K : PySem.W.Frag} {mg : Str → Option Value} {base : Heap} {k : Nat} {L : LamC} {F : TF} {T : TD} (LK : LamK L.scope)
    (hbind : ∀ (s : Shared) (q : Str) (cl : List (Str × Addr)) (dV doc pm cv ctv : Value), DvS s.heap L.params dV → ∃ bd, BindsTo s (PySem.W.kdv_fn "<lambda>" q L.params (.expr L.body) L.scope cl dV doc pm cv ctv) ⟨[], []⟩ bd ∧ ∀ y ∈ bd, L.scope.names.lookup y.1 = some .local)
    (hbody : ∀ (cl : List (Str × Addr)) (f c' : Addr) (A : Around) (outer : List Env) (s : Shared) (H : Hp) (E : XK), Room k (A.deeper (envL L cl f c' s.heap.objs.size)) → DE (cxL P w K mg base L cl f c' A outer s H E) (W3 E) L.body T)
    (hT : ∀ wd ds φ ε, F wd ds φ ε → plainDs ds = true ∧ T ⟨wd, fun ex _ => ε ex⟩ (ds.map .v) φ) : LamF P w K mg base (k + 1) L F := by
  intro A outer s H R f cl us ds wd φ ε Q E hr e0 b la ca rr hF hQ hE
  obtain ⟨c', pm, ctv, dV, doc, o, hf, hfo, hc, hn, inj, hdv⟩ := la
  obtain ⟨l, t, l2, l3, l4⟩ := cells_list ca
  have tH : FrzL H l := fun a o e => b.sub a _ (t a o e)
  have hs : ∀ b o, l.lookup b = some o → s.heap.get? b = some o := fun a o e => (e0.hok a _ (tH a o e)).1
  have of1 := hfo _ _ _ _ (e0.hok f o (b.sub _ _ hf))
  obtain ⟨⟨oc, vs, tt, hoc, hdc, hvc⟩, _, _⟩ := e0.hok c' _ (b.sub _ _ hc)
  have lim : s.heap.NoLimit := e0.mod.nolimit.keeps fun b o e => (e0.bs b o e).1
  obtain ⟨hp, hT⟩ := hT wd ds φ ε hF
  have e1 := env0_untrk tH e0
  refine PySem.W.kla_callFunE hr.depth of1 rfl LK.co LK.gen rfl ⟨c', oc, vs, tt, rfl, hoc, hdc, hvc⟩ ?_
  have hdS : DvS s.heap L.params dV := by
    rcases hdv with h | ⟨h1, t', v', h2, h3⟩
    · exact .inl h
    · exact .inr ⟨h1, t', v', h2, (e0.hok t' _ (b.sub _ _ h3)).1⟩
  obtain ⟨bd, hbd, hloc⟩ := hbind s L.qual cl dV doc pm (.ref c') ctv hdS
  refine hbd _ _ _ _ ?_
  refine wpAny_newFunctionEnv (fun y hy => LK.own y hy) hloc (fun h₁ hns hsb => ⟨lim.fresh _ hsb, ?_⟩) LK.kind
  show codeAny _ _ (.expr L.body (envL L cl f c' s.heap.objs.size)) _ _
  have kp : ∀ b o, s.heap.get? b = some o → h₁.get? b = some o := fun b o e => hsb.extBut b o (Nat.ne_of_lt (Heap.lt_size e)) (Heap.get?_push_of_some _ e)
  have J : Inv (cxL P w K mg base L cl f c' A outer s (untrk l H) (fun c d H1 => (∀ b o, l.lookup b = some o → H1 b = none) → E c d (trk l H1))) [] (us.map some) (untrk l H) { s with heap := h₁, toks := s.toks + bd.length } :=
    lam_start3 LK hn inj e1 hr.hd hs (fun b o e => untrk_in e) l2 l3 l4 hns kp
  have b1 := bas_untrk t b
  have r1 : Reps K (untrk l R) ds us := reps_untrk (fun b o e => ⟨_, _, t b o e⟩) hp rr
  have ok : Ok3 K ⟨⟨wd, fun ex _ => ε ex⟩, untrk l R, untrk l H, untrk l R⟩ (untrk l R) (untrk l H) (us.map some) (ds.map .v) :=
    ⟨Fin.refl b1, fun _ _ h => h, slots_v r1, fun i p h => (by rw [mapv_ad] at h; cases h), fun i j p h _ => (by rw [mapv_ad] at h; cases h)⟩
  have R1n : ∀ {R1 H1 : Hp}, Fin wd (untrk l R) (untrk l H) R1 H1 → (∀ b o, l.lookup b = some o → H1 b = none) → ∀ b o, l.lookup b = some o → R1 b = none := fun {R1 H1} f hn b o e => by
    cases z : R1 b with
    | none => rfl
    | some x =>
      have := f.sub b x z
      rw [hn b o e] at this
      cases this
  refine PySem.W.kla_codeExpr (wpAny_mono ((hbody cl f c' A outer s (untrk l H) _ (hr.deeper _)).run [] _ _ (untrk l H) (fun v H1 => (∀ b o, l.lookup b = some o → H1 b = none) → Q v (trk l H1)) J ?_) (fun v s' hq => ?_) fun e s' hq => ?_)
  · refine ⟨⟨⟨wd, fun ex _ => ε ex⟩, untrk l R, untrk l H, untrk l R⟩, untrk l R, ds.map .v, φ, ?_, ok, hT, ?_⟩
    · intro R' H' σ env cls od ex ok' xr q hn
      have f := ok'.fin
      obtain ⟨e1, dx, fvs, e2, e3, e4⟩ := xr
      have sm := same_trk1 (R1n f hn)
      exact hE cls od _ _ ex (fin_trk t b hn f) ⟨e1, dx, fvs, e2, sm _ _ e3, e4.mono sm⟩ q
    · rintro v H1 ⟨R1, d, f, rv, q⟩ hn
      exact hQ v _ _ d (fin_trk t b hn f) (rv.mono (same_trk1 (R1n f hn))) q
  · obtain ⟨w', H', J', rv, q⟩ := hq
    exact ce_trk tH hs e0.frf ⟨w', H', J'.os, J'.bare, J'.base, J'.hok, rv, q⟩
  · exact wpAny_mono hq (fun _ s'' z => cx_trk tH hs e0.frf z) fun e' s'' z => cx_trk tH hs e0.frf z
/-- a lambda without parameters -/
theorem lamF {P : Program} {w : World} {K : PySem.W.Frag} {mg : Str → Option Value} {base : Heap} {k : Nat} {L : LamC} {F : TF} {T : TD} (LK : LamK L.scope)
    (hbind : ∀ (q : Str) (cl : List (Str × Addr)) (pm cv ctv : Value), bindArgs (PySem.W.kla_fn "<lambda>" q L.params L.body L.scope cl pm cv ctv) ⟨[], []⟩ = pure [])
    (hbody : ∀ (cl : List (Str × Addr)) (f c' : Addr) (A : Around) (outer : List Env) (s : Shared) (H : Hp) (E : XK), Room k (A.deeper (envL L cl f c' s.heap.objs.size)) → DE (cxL P w K mg base L cl f c' A outer s H E) (W3 E) L.body T)
    (hT : ∀ wd ds φ ε, F wd ds φ ε → plainDs ds = true ∧ T ⟨wd, fun ex _ => ε ex⟩ (ds.map .v) φ) (hd : L.params.defaults = [] := by rfl) (hd2 : ∀ (q : Str) (cl : List (Str × Addr)) (doc pm cv ctv : Value), bindArgs (PySem.W.kdv_fn "<lambda>" q L.params (.expr L.body) L.scope cl .none doc pm cv ctv) ⟨[], []⟩ = pure [] := by intro _ _ _ _ _ _; rfl) : LamF P w K mg base (k + 1) L F :=
  lamF0 LK (fun s q cl dV doc pm cv ctv h => by
    rcases h with ⟨_, e⟩ | ⟨e, _⟩
    · subst e
      exact ⟨[], BindsTo.of_eq (hd2 q cl doc pm cv ctv), fun y hy => absurd hy (by simp)⟩
    · exact absurd hd e) hbody hT
/-- a lambda with one parameter that has a default, which its body does not name -/
theorem lamFD {P : Program} {w : World} {K : PySem.W.Frag} {mg : Str → Option Value} {base : Heap} {k : Nat} {L : LamC} {F : TF} {T : TD} (x : Str) (LK : LamK L.scope) (hx : L.scope.names.lookup x = some .local)
    (hbind : ∀ (q : Str) (cl : List (Str × Addr)) (dV doc pm cv ctv : Value), ∃ kk : Option (Array Value) → Sem (List (Str × Value)), bindArgs (PySem.W.kdv_fn "<lambda>" q L.params (.expr L.body) L.scope cl dV doc pm cv ctv) ⟨[], []⟩ = (seqItems? dV >>= kk) ∧ ∀ v, kk (some #[v]) = pure [(x, v)])
    (hbody : ∀ (cl : List (Str × Addr)) (f c' : Addr) (A : Around) (outer : List Env) (s : Shared) (H : Hp) (E : XK), Room k (A.deeper (envL L cl f c' s.heap.objs.size)) → DE (cxL P w K mg base L cl f c' A outer s H E) (W3 E) L.body T)
    (hT : ∀ wd ds φ ε, F wd ds φ ε → plainDs ds = true ∧ T ⟨wd, fun ex _ => ε ex⟩ (ds.map .v) φ) (hd : L.params.defaults ≠ []) : LamF P w K mg base (k + 1) L F :=
  lamF0 LK (fun s q cl dV doc pm cv ctv h => by
    rcases h with ⟨e, _⟩ | ⟨_, t, v, e, ht⟩
    · exact absurd e hd
    · obtain ⟨kk, k1, k2⟩ := hbind q cl dV doc pm cv ctv
      subst e
      exact ⟨[(x, v)], BindsTo.of_defaults rfl ht rfl k1 (k2 v), fun y hy => by rw [List.mem_singleton.mp hy]; exact hx⟩) hbody hT
/-! ### a lambda called by its name -/
section
variable {X : Cx} {W : WX} {pos : Pos}
def TClo (P : Program) (w : World) (K : PySem.W.Frag) (mg : Str → Option Value) (base : Heap) (k : Nat) (i : Nat) : TD := fun c env φ => ∃ L ds F, env[i]? = some (.v (.clo L ds)) ∧ LamF P w K mg base k L F ∧ F c.wd ds φ fun ex => c.er ex env
theorem de_clo (i : Nat) {x : Str} {p : Pos} {k : Nat} (hr : Room k X.A) (tk : L2.Takes X W) (hN : X.N[i]? = some x := by rfl) (hv : Vis X.env.scope x := by first | exact Or.inl rfl | exact Or.inr (Or.inl rfl) | exact Or.inr (Or.inr rfl))
    (hd : (x == ("__debug__" : Str)) = false := by decide) (hcd : (x == ("__classdict__" : Str)) = false := by decide) : DE X W (.Call (.Name x p) [] [] pos) (TClo X.prog X.w X.K X.mg X.base k i) := by
  refine ⟨fun pins s σ H Q I ⟨S, R, env, φ, lk, ok, ⟨L, ds, F, e0, LF, hF⟩, hQ⟩ => ?_⟩
  obtain ⟨v, hv1, f, cl, us, ev, la, ca, rr⟩ := ok.val e0
  subst ev
  have la0 := la
  obtain ⟨c', pm, ctv, dV, doc, o, hf, hfo, hc, hn, inj, hdv⟩ := la0
  refine wpAny_Call_Name_kw (thn ((pe_var (pos := p) (i := i) hN hv hd hcd).run pins s σ H (fun v H1 => v = .ref f ∧ H1 = H) I ⟨.ref f, hv1, rfl, rfl⟩) fun u s1 ⟨v, H1, I1, r1, q1⟩ => ?_)
  obtain ⟨ev, eH⟩ := q1
  subst ev
  rw [eH] at I1
  obtain rfl : u = Value.ref f := r1
  have of1 := hfo _ _ _ _ (I1.hok f o (ok.bas.sub _ _ hf))
  refine PySem.W.callWith_F0 ⟨_, _, _, _, of1⟩ ?_
  refine wpAny_call (codeAny_mono (LF X.A X.stack s1 H R f cl us ds S.c.wd φ (fun ex => S.c.er ex env) Q (WE W σ) hr I1.env0 ok.bas la ca rr hF (fun v R' H' d f' rv q => hQ v H' ⟨R', d, f', rv, q⟩) ?_) fun res s' hres => match res, hres with
    | .error er, hres => L2.passAt tk σ pins H s1 er s' I1 hres
    | .ok (.ret u), hres => I1.after hres)
  intro cls od R' H' ex f' xr q
  exact lk R' H' σ env cls od ex (ok.through f') xr q
end
end L3
/-! L3za: x(lambda: ..): the lambda made and handed to a def -/
namespace LamX
open PySem PySem.Spec PyProof.Rows L2
section
variable {X : Cx} {pins : List (Addr × Obj)} {σ : L2.St} {H : Hp} {s : Shared}
theorem lam_make3 {T : List (Addr × Str)} {c P : Addr} {params : Arguments} {body : Expr} {scope : Scope} {pos : Pos} {E : Value → Shared → Prop} {Q : Value → Shared → Prop} (I : Inv X pins σ H s) (TB : TabB X.base X.mg c P) (hcode : X.env.code = .ref c)
    (hm : (P, X.env.qual ++ "<lambda>") ∈ T) (hu : ∀ p ∈ T, p.1 = P → p.2 = X.env.qual ++ "<lambda>") (hT : Tabs T H) (hdef : defaultsOf params X.env = ([], [])) (hfree : ∀ y ∈ scope.names, y.2 = .free → ∃ c, X.env.cells.lookup y.1 = some c)
    (h : ∀ (f c' : Addr) (pm ctv : Value) (H1 : Hp) (s' : Shared), Inv X pins σ H1 s' → ExtN H H1 → Tabs T H1 →
      s'.heap.get? f = some (PySem.W.kla_obj "<lambda>" (X.env.qual ++ "<lambda>") params body scope (cloFrom X.env.cells scope.names []) pm c' ctv) → H1 f = none → f ∉ frs X.stack → H1 c' = some (CodeO c' (X.env.qual ++ "<lambda>")) → (∀ b o, b ≠ P → H b = some o → H1 b = some o) → X.base.get? f = none → Q (.ref f) s') :
    wpAny (model X.prog X.w) X.A (eval (.Lambda params body scope pos) X.env) Q E s := by
  obtain ⟨ps, hP, ht, ha⟩ := hT _ hm
  refine PySem.W.kla_eval hdef ?_
  have bP : s.heap.BuiltinsAt X.mg P := TB.bm.keeps I.bk
  have hP' : s.heap.get? P = some { cls := .none, data := .fields ps } := I.hok P _ hP
  have nofr : ∀ f, s.heap.objs.size ≤ f → f ∉ frs X.stack := fun f hf z => by
    rcases List.mem_cons.mp (I.stkSub _ z) with e | e
    · have h1 := I.lt
      rw [← e] at h1
      exact Nat.lt_irrefl _ (Nat.lt_of_lt_of_le h1 hf)
    · exact I.nofs hf e
  have nob : ∀ f, s.heap.objs.size ≤ f → X.base.get? f = none := fun f hf => by
    cases z : X.base.get? f with
    | none => rfl
    | some o => exact absurd (Nat.lt_of_lt_of_le (Heap.lt_size (I.bk f o z)) hf) (Nat.lt_irrefl _)
  cases hc : codeAmong pos ps.toList with
  | none =>
    refine PySem.W.kla_makeFunction (mg := X.mg) (c := c) (P := P) (ps := ps) (closure_ok hfree) I.ok.glob (I.mod.glob.keeps I.bk) hcode (TB.code.keeps I.bk) hP' ht hc TB.gP bP fun c' ctv h' tk hx hge hlt hrec htb => ?_
    obtain ⟨c2, oc, vs, t, e2, hoc, hd, hv⟩ := hrec
    cases e2
    have hsz : s.heap.objs.size ≤ h'.objs.size := Nat.le_trans hge (Nat.le_of_lt hlt)
    have nC : H c' = none := I.hok.fresh hge
    have I1 := inv_table (t' := tk) (more := #[rawInt pos.line, rawInt pos.col, .ref c']) (h' := h'.push (PySem.W.kla_obj "<lambda>" (X.env.qual ++ "<lambda>") params body scope (cloFrom X.env.cells scope.names []) ((X.mg "__name__").getD .none) c' ctv)) I hP
      (fun b o hb e => Heap.get?_push_of_some _ (hx b o hb e)) (Heap.get?_push_of_some _ htb) hge ⟨oc, vs, t, Heap.get?_push_of_some _ hoc, hd, hv⟩
    have hE : ExtN H (upd (upd H P (.tbl (ps ++ #[rawInt pos.line, rawInt pos.col, .ref c']))) c' (CodeO c' (X.env.qual ++ "<lambda>"))) := fun b o e n => by
      rw [upd_ne (ne_of_none e nC), upd_ne (fun z => n ps (Option.some.inj (e.symm.trans (by rw [z]; exact hP))))]
      exact e
    have eL : (ps ++ #[rawInt pos.line, rawInt pos.col, .ref c']).toList = ps.toList ++ [rawInt pos.line, rawInt pos.col, .ref c'] := by simp
    refine h h'.objs.size c' ((X.mg "__name__").getD .none) ctv _ _ I1 hE (fun p hp => ?_) (Heap.get?_push_size _ rfl) ?_ (nofr _ hsz) upd_same (fun b o hb e => by rw [upd_ne (ne_of_none e nC), upd_ne hb]; exact e) (nob _ hsz)
    · by_cases hb : p.1 = P
      · rw [hu p hp hb, hb]
        refine ⟨_, by rw [upd_ne (ne_of_none hP nC), upd_same], by rw [eL]; exact PySem.TriplesOk_snoc _ _ _ _ ht, fun p' cv hcv => ?_⟩
        rw [eL] at hcv
        rcases among_app _ ht hcv with z | z
        · obtain ⟨c0, e1, e2⟩ := ha p' cv z
          exact ⟨c0, e1, hE _ _ e2 codeO_ne⟩
        · exact ⟨c', z, upd_same⟩
      · obtain ⟨ps', a1, a2, a3⟩ := hT p hp
        refine ⟨ps', by rw [upd_ne (ne_of_none a1 nC), upd_ne hb]; exact a1, a2, fun p' cv hcv => ?_⟩
        obtain ⟨c0, e1, e2⟩ := a3 p' cv hcv
        exact ⟨c0, e1, hE _ _ e2 codeO_ne⟩
    · have n1 : h'.objs.size ≠ c' := Nat.ne_of_gt hlt
      have n2 : h'.objs.size ≠ P := Nat.ne_of_gt (Nat.lt_of_lt_of_le (Heap.lt_size hP') hsz)
      rw [upd_ne n1, upd_ne n2]
      exact I.hok.fresh hsz
  | some cv =>
    obtain ⟨c', e, hco⟩ := ha pos cv hc
    subst e
    refine PySem.W.kla_makeFunctionHit (mg := X.mg) (c := c) (P := P) (ps := ps) (closure_ok hfree) I.ok.glob (I.mod.glob.keeps I.bk) hcode (TB.code.keeps I.bk) hP' ht hc bP fun ctv h' tk hx hsz => ?_
    have I1 : Inv X pins σ H { s with heap := h'.push (PySem.W.kla_obj "<lambda>" (X.env.qual ++ "<lambda>") params body scope (cloFrom X.env.cells scope.names []) ((X.mg "__name__").getD .none) c' ctv), toks := tk } := I.kept fun b o e => Heap.get?_push_of_some _ (hx b o e)
    exact h h'.objs.size c' ((X.mg "__name__").getD .none) ctv H _ I1 (ExtN.refl H) hT (Heap.get?_push_size _ rfl) (I.hok.fresh hsz) (nofr _ hsz) hco (fun b o _ e => e) (nob _ hsz)
end
end LamX
namespace L3
open PySem PySem.Spec PyProof.Rows L2
/-- a world that holds the tables T -/
structure WdT (T : List (Addr × Str)) (wd : Wd) : Prop where
  tabs : ∀ H, wd.inv H → LamX.Tabs T H
  foot : ∀ p ∈ T, wd.foot p.1
  pres : ∀ H H1, wd.inv H → LamX.ExtN H H1 → LamX.Tabs T H1 → wd.inv H1
  noext : ∀ H b φ, wd.inv H → wd.foot b → H b ≠ some (.ext φ)
def slD (env : Ev) : List Nat → List D → Prop
  | [], ds => ds = []
  | i :: r, ds => ∃ d t, ds = d :: t ∧ env[i]? = some (.v d) ∧ slD env r t
def TCallLam (T : List (Addr × Str)) (F : TF) (L : LamC) (ix : List Nat) : TD := fun c env φ => WdT T c.wd ∧ ∃ vals, slD env ix vals ∧ plainDs vals = true ∧ F c.wd [.clo L vals] (fun d => plainD d = true ∧ φ d) fun _ => False
theorem cloFrom_names {cells : List (Str × Addr)} : ∀ (names : List (Str × NameKind)) (acc : List (Str × Addr)), (cloFrom cells names acc).map (·.1) = ((names.filter fun y => y.2 == .free).map (·.1)).reverse ++ acc.map (·.1)
  | [], acc => rfl
  | (n, k) :: r, acc => by
    unfold cloFrom
    by_cases hk : (k == .free) = true
    · rw [if_pos hk, cloFrom_names r, List.filter_cons, if_pos hk]
      simp
    · rw [if_neg hk, cloFrom_names r, List.filter_cons, if_neg hk]
section
variable {X : Cx} {W : WX} {pos : Pos} {k : Nat} {g : Addr} {F : TF} {T : List (Addr × Str)}
theorem cell_stack {pins : List (Addr × Obj)} {σ : L2.St} {H : Hp} {s : Shared} (I : L2.Inv X pins σ H s) {c : Addr} {o : Obj} {v : Option Value} (h : X.s_0.heap.objs.size ≤ c) (e : s.heap.get? c = some o) (hd : o.data = .cell v) : c ∉ frs X.stack ∧ X.base.get? c = none := by
  refine ⟨fun z => ?_, ?_⟩
  · rcases List.mem_cons.mp (I.stkSub _ z) with q | q
    · obtain ⟨m, ⟨ob, es, ep, h1, h2, _⟩, _⟩ := I.loc
      rw [← q, e] at h1
      cases h1
      rw [hd] at h2
      cases h2
    · obtain ⟨_, ob, h1, _⟩ := I.ok.funs.mem q
      exact absurd (Nat.lt_of_lt_of_le (Heap.lt_size h1) h) (Nat.lt_irrefl _)
  · cases z : X.base.get? c with
    | none => rfl
    | some ob => exact absurd (Nat.lt_of_lt_of_le (Heap.lt_size z) (Nat.le_trans I.ok.bsz h)) (Nat.lt_irrefl _)
/-- the captured cells, as they stand -/
theorem cells_take {pins : List (Addr × Obj)} {σ : L2.St} {H : Hp} {s : Shared} {S : Sta} {R : Hp} {env : Ev} (I : L2.Inv X pins σ H s) (ok : Ok3 X.K S R H σ env) :
    ∀ {cl : List (Str × Addr)} {ix : List Nat} {vals : List D}, (∀ p ∈ cl, X.env.cells.lookup p.1 = some p.2 ∧ (X.env.scope.names.lookup p.1 = some .cell ∨ X.env.scope.names.lookup p.1 = some .free) ∧ X.fn p.1 = true) → ix.map (X.N[·]?) = cl.map (fun p => some p.1) → slD env ix vals →
      ∃ (l : List (Addr × Obj)) (us : List V), (∀ b o, l.lookup b = some o → s.heap.get? b = some o ∧ H b = none ∧ X.base.get? b = none ∧ b ∉ frs X.stack) ∧ (∀ l' : List (Addr × Obj), (∀ b o, l.lookup b = some o → l'.lookup b = some o) → CellsAt (trk l' R) cl us) ∧ Reps X.K R vals us
  | [], ix, vals, _, hx, hs => by
    have e : ix = [] := by
      cases ix with
      | nil => rfl
      | cons i r => cases hx
    subst e
    have e2 : vals = [] := hs
    subst e2
    exact ⟨[], [], fun b o z => (by cases z), fun _ _ => rfl, rfl⟩
  | p :: r, ix, vals, hp, hx, hs => by
    cases ix with
    | nil => cases hx
    | cons i ix =>
      rw [List.map_cons, List.map_cons] at hx
      injection hx with hx1 hx2
      obtain ⟨d, t, e, hd, ht⟩ := hs
      subst e
      obtain ⟨l, us, h1, h2, h3⟩ := cells_take I ok (fun q hq => hp q (List.mem_cons_of_mem _ hq)) hx2 ht
      obtain ⟨hc, hk, hf⟩ := hp p List.mem_cons_self
      obtain ⟨v, hv, rv⟩ := ok.val hd
      obtain ⟨m, _, hl⟩ := I.loc
      have vis : Vis X.env.scope p.1 := hk.elim (fun z => .inr (.inl z)) fun z => .inr (.inr z)
      obtain ⟨u, ru, lk⟩ := hl i p.1 v hx1 hv vis
      rcases lk with ⟨z, _⟩ | ⟨_, c, e1, o, e2, e3⟩
      · have z : X.env.scope.names.lookup p.1 = some .local := z
        rcases hk with q | q <;> rw [q] at z <;> cases z
      · rw [hc] at e1
        cases e1
        obtain ⟨a1, a2⟩ := cell_stack I (I.ok.cab _ _ hf hc) e2 e3
        have lk : ∀ b, ((p.2, o) :: l).lookup b = if b = p.2 then some o else l.lookup b := fun b => by
          rw [List.lookup_cons]
          by_cases hb : b = p.2
          · rw [if_pos hb, beq_iff_eq.mpr hb]
          · rw [if_neg hb, beq_eq_false_iff_ne.mpr hb]
        refine ⟨(p.2, o) :: l, v :: us, fun b ob z => ?_, fun l' hl' => ?_, v, us, rfl, rv, h3⟩
        · rw [lk] at z
          by_cases hb : b = p.2
          · rw [if_pos hb] at z
            cases z
            rw [hb]
            exact ⟨e2, I.freeC _ _ hc, a2, a1⟩
          · rw [if_neg hb] at z
            exact h1 b ob z
        · refine ⟨v, us, o, u, rfl, trk_in (hl' _ _ (by rw [lk, if_pos rfl])), e3, ru, h2 l' fun b ob z => ?_⟩
          refine hl' b ob ?_
          rw [lk]
          by_cases hb : b = p.2
          · rw [if_pos hb]
            have y := (h1 b ob z).1
            rw [hb, e2] at y
            exact y
          · rw [if_neg hb]; exact z
theorem de_callLam {x : Str} {c P : Addr} {params : Arguments} {body : Expr} {scope : Scope} {ix : List Nat} {p lpos : Pos} (G : Fn3 X.prog X.w X.K X.mg X.base k g F) (hr : Room k X.A) (hG : Gl X x) (hM : X.mg x = some (.ref g)) (hK : PySem.W.keepIn X.K (.ref g) = true)
    (TB : LamX.TabB X.base X.mg c P) (hcode : X.env.code = .ref c) (hm : (P, X.env.qual ++ "<lambda>") ∈ T) (hu : ∀ p ∈ T, p.1 = P → p.2 = X.env.qual ++ "<lambda>") (LS : LamX.LamS X.env.scope scope) (hdef : defaultsOf params X.env = ([], []))
    (hix : ix.map (X.N[·]?) = (lamN scope).map some) (hfn : ∀ y ∈ lamN scope, X.fn y = true) (hdb : (x == ("__debug__" : Str)) = false := by decide) : DE X W (.Call (.Name x p) [.Lambda params body scope lpos] [] pos) (TCallLam T F ⟨X.env.qual ++ "<lambda>", params, body, scope⟩ ix) := by
  have hd0 : params.defaults = [] := defaults_nil hdef
  refine ⟨fun pins s σ H Q I ⟨S, R, env, φ, lk, ok, ⟨wt, vals, hs, hp, hF⟩, hQ⟩ => ?_⟩
  refine wpAny_Call_Name_kw (ld_glob I hG hM ?_ hdb)
  refine PySem.W.callWith_K (h₀ := X.base) I.ok.mod.kin hK ?_ (by rfl) (by rfl)
  show wpAny _ _ (spliced ((false, eval (.Lambda params body scope lpos) X.env) :: backTo pos (starEach [] X.env))) _ _ s
  refine Calls.spliced_cons (LamX.lam_make3 I TB hcode hm hu (wt.tabs H ok.bas.inv) hdef (LS.has I.ok) fun f c' pm' ctv H1 s' I1 eN T1 hf hfH hfr hco kept hfb => ?_)
  refine Calls.spliced_nil ⟨I1.kIn, ?_⟩
  -- the step of the memory
  have hfoot : ∀ {b : Addr}, S.c.wd.foot b → b ≠ c' := fun {b} hb e => by
    subst e
    exact wt.noext H1 _ _ (wt.pres H H1 ok.bas.inv eN T1) hb hco
  have kp : ∀ b o, H b = some o → ¬ S.c.wd.foot b → H1 b = some o := fun b o e n => kept b o (fun z => n (by rw [z]; exact wt.foot _ hm)) e
  have f1 : Fin S.c.wd R H (upd R c' (LamX.CodeO c' (X.env.qual ++ "<lambda>"))) H1 := by
    refine ⟨fun b o e => ?_, fun b o e => ?_, kp, fun b o h1 h2 h3 => ?_, wt.pres H H1 ok.bas.inv eN T1, fun b hb => ?_⟩
    · by_cases hb : b = c'
      · subst hb
        have h2 := kp b o (ok.bas.sub _ _ e) (fun z => hfoot z rfl)
        rw [hco] at h2
        rw [upd_same]
        exact h2
      · rw [upd_ne hb]; exact e
    · by_cases hb : b = c'
      · subst hb
        rw [upd_same] at e
        rw [hco]; exact e
      · rw [upd_ne hb] at e
        exact kp b o (ok.bas.sub _ _ e) fun z => by
          have := ok.bas.ft b z
          rw [e] at this
          cases this
    · by_cases hb : b = c'
      · subst hb
        have h4 := kp b o h2 (fun z => hfoot z rfl)
        rw [hco] at h4
        exact absurd (Option.some.inj h4).symm (h3 _)
      · rw [upd_ne hb]; exact h1
    · rw [upd_ne (hfoot hb)]
      exact ok.bas.ft b hb
  have ok1 := ok.through f1
  -- the cells
  have clm : ∀ q ∈ cloFrom X.env.cells scope.names [], X.env.cells.lookup q.1 = some q.2 ∧ (X.env.scope.names.lookup q.1 = some .cell ∨ X.env.scope.names.lookup q.1 = some .free) ∧ X.fn q.1 = true := fun q hq => by
    rcases cloFrom_mem hq with z | ⟨z1, z2⟩
    · cases z
    · obtain ⟨c1, hc⟩ := LS.has I.ok _ z1 rfl
      have hc : X.env.cells.lookup q.1 = some c1 := hc
      have z3 : q.2 = c1 := by rw [z2, hc] <;> rfl
      refine ⟨by rw [z3]; exact hc, LS.free _ z1 rfl, hfn _ ?_⟩
      unfold lamN
      rw [List.mem_reverse]
      exact List.mem_map.mpr ⟨(q.1, .free), List.mem_filter.mpr ⟨z1, rfl⟩, rfl⟩
  have names : (cloFrom X.env.cells scope.names []).map (·.1) = lamN scope := by
    rw [cloFrom_names]
    exact List.append_nil _
  obtain ⟨l, us, h1, h2, h3⟩ := cells_take I1 ok1 clm (by rw [hix, ← names, List.map_map]; rfl) hs
  obtain ⟨fo, efo⟩ : ∃ fo, fo = PySem.W.kla_obj "<lambda>" (X.env.qual ++ "<lambda>") params body scope (cloFrom X.env.cells scope.names []) pm' c' ctv := ⟨_, rfl⟩
  rw [← efo] at hf
  have lk' : ∀ b, ((f, fo) :: l).lookup b = if b = f then some fo else l.lookup b := fun b => by
    rw [List.lookup_cons]
    by_cases hb : b = f
    · rw [if_pos hb, beq_iff_eq.mpr hb]
    · rw [if_neg hb, beq_eq_false_iff_ne.mpr hb]
  have t : TrkOk X.base X.stack H1 s' ((f, fo) :: l) := ⟨fun b ob z => by
    rw [lk'] at z
    by_cases hb : b = f
    · rw [if_pos hb] at z
      cases z
      rw [hb]
      exact ⟨hf, hfH, hfb, hfr⟩
    · rw [if_neg hb] at z
      exact h1 b ob z⟩
  have tn : ∀ b o, ((f, fo) :: l).lookup b = some o → H1 b = none := fun b o z => (t.at_ b o z).2.1
  have sm := same_trk ok1.bas tn
  have rep : Reps X.K (trk ((f, fo) :: l) (upd R c' (LamX.CodeO c' (X.env.qual ++ "<lambda>")))) [.clo ⟨X.env.qual ++ "<lambda>", params, body, scope⟩ vals] [.ref f] := by
    refine ⟨.ref f, [], rfl, ⟨f, cloFrom X.env.cells scope.names [], us, rfl, ⟨c', pm', ctv, .none, .none, .frz fo (.ext fun _ => True), trk_in (by rw [lk', if_pos rfl]), fun P w H h z => by have z1 := z.1; rw [efo] at z1; exact z1, sm _ _ upd_same, names, fun x y a e1 e2 => ?_, .inl ⟨hd0, rfl⟩⟩, h2 _ fun b ob z => ?_, h3.mono sm⟩, rfl⟩
    · exact I.ok.inj x y a (clm _ (PySem.mem_of_lookup e1)).1 (clm _ (PySem.mem_of_lookup e2)).1
    · rw [lk']
      by_cases hb : b = f
      · rw [if_pos hb]
        have y := (h1 b ob z).1
        rw [hb, hf] at y
        exact y
      · rw [if_neg hb]; exact z
  exact call_atX (us := [.ref f]) (vs := [.ref f]) G hr I1 t (.cons (show RelV (.ref f) (.ref f) from rfl) .nil) (spW_askX (W := W) ok1 tn rep hF fun v H' z => hQ v H' (Pst.from f1 z))
end
end L3
/-! L3zb: try with several clauses `except c as n`, `except (c, c2) as n` -/
namespace L2
open PySem PySem.Spec PyProof.Rows L2
/-- what a clause tests: one class, a written pair of classes -/
inductive TstOk (X : Cx) : Expr → List Value → Prop
  | one {x : Str} {c : Value} {np : Pos} (hc : Names X x c) : TstOk X (.Name x np) [c]
  | two {x y : Str} {c d : Value} {np np2 tp : Pos} {kk : Nat} (hc : Names X x c) (hd : Names X y d) : TstOk X (.Tuple [.Name x np, .Name y np2] kk tp) [c, d]
def gone (D : Ends) (i : Nat) : Ends := { nx := fun σ' H' => D.nx (σ'.set i none) H', rt := D.rt, bk := fun σ' H' => D.bk (σ'.set i none) H', ct := fun σ' H' => D.ct (σ'.set i none) H' }
def wAsM (K : PySem.W.Frag) (i : Nat) (Wout : WX) (D : Ends) : List (List Value × (Addr → Value → Option Addr → TS)) → WX
  | [] => Wout
  | (cs, ts) :: r => fun cls d σ H => ∃ b, PySem.W.exmAny K cls cs = some b ∧ (b = true → ∀ a, H a = none → ts a cls d (gone D i) (σ.set i (some (.ref a))) H) ∧ (b = false → wAsM K i Wout D r cls d σ H)
inductive HdsAs (X : Cx) (n : Str) : List ExceptHandler → List (List Value × (Addr → Value → Option Addr → TS)) → Prop
  | nil : HdsAs X n [] []
  | cons {tst : Expr} {cs : List Value} {ts : Addr → Value → Option Addr → TS} {b₀ : Stmt} {suite : List Stmt} {pos' : Pos} {hds : List ExceptHandler} {l : List (List Value × (Addr → Value → Option Addr → TS))} (hc : TstOk X tst cs)
      (hsu : ∀ (a : Addr) (oe : Obj) (cls : Value) (d : Option Addr) (pn : List (Addr × Obj)), Zc cls d oe → (∃ vs, oe.data = .fields vs) → X.base.get? a = none → a ∉ frs X.stack → PSs (X.suite a ((a, oe) :: pn)) (b₀ :: suite) (ts a cls d)) (r : HdsAs X n hds l) :
      HdsAs X n (.ExceptHandler (some tst) (some n) (b₀ :: suite) pos' :: hds) ((cs, ts) :: l)
theorem flying_keeps {B h h' : Heap} {l : List Env} {e : Addr} {Z : Obj → Prop} (f : HandSPX.FlyingZ B l e Z h) (k : ∀ b o, h.get? b = some o → h'.get? b = some o) : HandSPX.FlyingZ B l e Z h' := by
  obtain ⟨f1, f2, f3, oe, vs, T, oT, ts, h1, h2, h3, h4, h5, h6, h7, h8, h9⟩ := f
  exact ⟨fun b o e => k b o (f1 b o e), f2, f3.of_keeps fun b o e _ => ⟨o, k b o e, rfl⟩, oe, vs, T, oT, ts, k _ _ h1, h2, h3, h4, h5, h6, k _ _ h7, h8, h9⟩
theorem exm_one1 {K : PySem.W.Frag} {cls c : Value} {b : Bool} (h : PySem.W.exmAny K cls [c] = some b) : PySem.W.exmOne K cls c = some b := by
  have h2 : (match PySem.W.exmOne K cls c, (some false : Option Bool) with | some b, some d => some (b || d) | _, _ => none) = some b := h
  cases z : PySem.W.exmOne K cls c with
  | none => rw [z] at h2; cases h2
  | some x =>
    rw [z] at h2
    have h3 : some (x || false) = some b := h2
    rw [Bool.or_false] at h3
    exact h3
section
variable {X : Cx}
/-- the test of a clause, in the suite's context -/
theorem test_ok {a : Addr} {oe : Obj} {pn : List (Addr × Obj)} {σ : L2.St} {H : Hp} {s : Shared} {tst : Expr} {cs : List Value} {cls : Value} {b : Bool} {E : Value → Shared → Prop} {Q : Bool → Shared → Prop} {E2 : Value → Shared → Prop} (hc : TstOk X tst cs)
    (S : L2.Inv (X.suite a ((a, oe) :: pn)) [] σ H s) (he : s.heap.get? a = some oe) (hz : oe.cls = cls) (hx : PySem.W.exmAny X.K cls cs = some b)
    (q : ∀ h', (∀ b o, s.heap.get? b = some o → h'.get? b = some o) → Q b { s with heap := h' }) :
    wpAny (model X.prog X.w) (X.A.mark (some (.ref a))) (eval tst X.env) (fun c s₁ => wpAny (model X.prog X.w) (X.A.mark (some (.ref a))) (excMatches (.ref a) c) Q E2 s₁) E s := by
  have nm : ∀ {x : Str} {c : Value} {np : Pos} {Q : Value → Shared → Prop} {E : Value → Shared → Prop}, Names X x c → Q c s → wpAny (model X.prog X.w) (X.A.mark (some (.ref a))) (eval (.Name x np) X.env) Q E s := fun {x c np Q E} hc q => by
    obtain ⟨hg, hdbg, hm | ⟨hm, hv, hnn⟩⟩ := hc
    · exact ld_glob (X := X.suite a ((a, oe) :: pn)) S hg hm q hdbg
    · exact ld_blt (X := X.suite a ((a, oe) :: pn)) S hg hm hv q hnn hdbg
  cases hc with
  | one hc =>
    have LT : PySem.W.Looks (model X.prog X.w) s.heap (typeOf (.ref a)) cls := fun A Q E s k q => wpAny_typeOf_ref (k _ _ he) (by rw [hz]; exact q)
    have LM := PySem.W.exm_one (M := model X.prog X.w) S.kIn LT (exm_one1 hx)
    exact nm hc (LM.here (q _ fun _ _ e => e))
  | @two x y c d np np2 tp kk hc hd =>
    refine wpAny_Tuple_spliced ?_
    refine Calls.spliced_cons (nm hc ?_)
    refine Calls.spliced_cons (nm hd ?_)
    refine Calls.spliced_nil ⟨by show 2 ≤ sizeLine; decide, ?_⟩
    have k : ∀ b o, s.heap.get? b = some o → (s.heap.push { cls := .type "tuple", data := .seq [c, d].toArray }).get? b = some o := fun b o e => Heap.get?_push_of_some _ e
    have LT : PySem.W.Looks (model X.prog X.w) (s.heap.push { cls := .type "tuple", data := .seq [c, d].toArray }) (typeOf (.ref a)) cls := fun A Q E s k' q => wpAny_typeOf_ref (k' _ _ (k _ _ he)) (by rw [hz]; exact q)
    have LM := PySem.W.exm_tup2 (M := model X.prog X.w) (S.kIn.keeps k) LT (Heap.get?_push_size _ rfl) hx
    exact LM.here (q _ k)
variable {n : Str} {i : Nat} {body : List Stmt} {h₀ : ExceptHandler} {hds : List ExceptHandler} {l : List (List Value × (Addr → Value → Option Addr → TS))} {pos : Pos} {tb : WX → TS} {Wout : WX}
theorem ps_try_asM (hs : X.stack = X.env :: X.outer) (hf : X.env.frame = some X.env.locals) (hN : X.N.Nodup) (hi : X.N[i]? = some n) (hln : X.env.kindOf n = some .local) (tk : Takes X Wout)
    (hb : ∀ (W : WX) (pn : List (Addr × Obj)) (xe : Value → Shared → Prop), Takes (X.tr pn xe) W → PassesOwn (model X.prog X.w) X.A X.env xe → PSs (X.tr pn xe) body (tb W))
    (hh : HdsAs X n (h₀ :: hds) l) : PS X (.Try body (h₀ :: hds) [] [] pos) (fun D σ H => tb (wAsM X.K i Wout D l) D σ H) := by
  refine ⟨fun pins s σ H D I h => ?_⟩
  have ok := I.ok
  have hfr : X.A.frames = some (X.env :: X.outer) := by rw [ok.frames, hs]
  have hloc : Loc X.env.scope n := .inl hln
  refine wpAny_Try_except ?_
  refine wpAny_mono ((hb (wAsM X.K i Wout D l) (X.pn ++ pins) (fun e s₁ => wpAny (model X.prog X.w) X.A (noteFrame e X.env) (fun _ s₂ => wpAny (model X.prog X.w) X.A (setFlight e none) (fun _ s₃ =>
    wpAny (model X.prog X.w) X.A (handleBy e X.env (h₀ :: hds)) (SP X pins D) X.xe s₃) X.xe s₂) X.xe s₁) (fun u s' xx => ?_) PassesOwn.looking).run [] s σ H D (I.toTry _) h) (fun f s1 hsp => ?_) (fun e s1 he => he)
  · -- the catch
    obtain ⟨a, B, sI, pins', σ', H', cls, d, rfl, J', nb, up, sky, na, os, ag, w⟩ := xx
    have J : Inv X pins σ' H' sI := J'.ofTry ok
    have sky' : Sky B (X.env :: X.outer) a (Zc cls d) X.env.locals s'.heap := by rw [← hs]; exact sky
    show wpAny (model X.prog X.w) X.A (noteFrame (.ref a) X.env) _ _ _
    refine Sky.land Zc.steady hfr hf sky' fun h3 fl3 up3 => ?_
    have notFr : ∀ {h : Heap} {o : Obj} {vs : Array Value}, h.FunFrames B (X.env :: X.outer) → h.get? a = some o → o.data = .fields vs → a ∉ frs (X.env :: X.outer) := fun {h o vs} ff e dd hm => by
      obtain ⟨_, o', e', hnf⟩ := ff.mem hm
      rw [e] at e'; cases e'
      exact hnf _ dd
    obtain ⟨oe3, vs3, he3, hz3, hd3⟩ := fl3.there
    have nfr := notFr fl3.2.2.1 he3 hd3
    have nfr' : a ∉ frs X.stack := by rw [hs]; exact nfr
    have nL : a ≠ X.env.locals := fun z => nfr (List.mem_filterMap.mpr ⟨X.env, List.mem_cons_self, by rw [hf, z]⟩)
    have nF : a ∉ X.fs := fun hm => by
      obtain ⟨e, he, q⟩ := List.mem_filterMap.mp hm
      exact nfr (List.mem_filterMap.mpr ⟨e, List.mem_cons_of_mem _ he, q⟩)
    have nB : X.base.get? a = none := by
      cases z : X.base.get? a with
      | none => rfl
      | some o =>
        have h1 := nb a o (J.bs a o z).1 nfr'
        rw [fl3.2.1] at h1
        cases h1
    have go : ∀ {hds' : List ExceptHandler} {l' : List (List Value × (Addr → Value → Option Addr → TS))}, HdsAs X n hds' l' → wAsM X.K i Wout D l' cls d σ' H' → ∀ h3 : Heap, HandSPX.FlyingZ B (X.env :: X.outer) a (Zc cls d) h3 → s'.heap.UpToSlots h3 →
        wpAny (model X.prog X.w) X.A (handleBy (.ref a) X.env hds') (SP X pins D) X.xe { s' with heap := h3 } := by
      intro hds' l' hk
      induction hk with
      | nil =>
        intro w h3 fl3 up3
        refine wpAny_handleBy_nil ?_
        obtain ⟨k1, k2, k3, oe, vs, T, oT, ts', he, hz, hd, h1, hr⟩ := id fl3
        unfold PySem.passOn
        refine wpAny_bind (wpAny_field he hd h1 ?_)
        rw [if_neg (show ¬ ((Value.ref T == Value.none) = true) from by simp)]
        have fin : wpAny (model X.prog X.w) X.A (setFlight (.ref a) X.env.frame) (fun _ s4 => wpAny (model X.prog X.w) X.A (throw (.ref a) : Sem Flow) (SP X pins D) X.xe s4) X.xe { s' with heap := h3 } := by
          rw [hf]
          refine HandSPX.setFlight_upZ fl3 fun h4 hh4 up4 => wpAny_throw (tk _ _ ?_)
          exact ⟨a, B, sI, pins, σ', H', cls, d, rfl, J, nb, (up.trans up3).trans up4, .inr (.inr (by rw [hs]; exact hh4)), na, os, ag, w⟩
        first
          | exact wpAny_bind (wpAny_pure (wpAny_bind fin))
          | exact wpAny_bind fin
      | @cons tst cs ts b₀ suite pos' hds2 l2 hc hsu r ih =>
        intro w h3 fl3 up3
        obtain ⟨b, hb1, hyes, hno⟩ := w
        have J3 : Inv X pins σ' H' { s' with heap := h3 } := J.landed nb fl3.1 (up.trans up3) os ag
        obtain ⟨oe3, vs3, he3, hz3, hd3⟩ := fl3.there
        have S3 := J3.suite he3 hd3 na nL nF
        refine wpAny_handleBy_cons (codeAny_handlers_test ?_) (by intro q; cases q)
        refine test_ok hc S3 he3 hz3.1 hb1 fun h5 k5 => ?_
        have fl5 := flying_keeps fl3 k5
        have up5 : s'.heap.UpToSlots h5 := up3.trans (Heap.UpToSlots.of_keeps k5)
        cases b with
        | true =>
          refine codeAny_handlers_suite_as ?_
          refine HandSPX.lands_againZ (s := { s' with heap := h5 }) fl5 fun h4 fl4 up4 => ?_
          have J4 : Inv X pins σ' H' { s' with heap := h4 } := J.landed nb fl4.1 ((up.trans up5).trans up4) os ag
          obtain ⟨oe4, vs4, he4, hz4, hd4⟩ := fl4.there
          have S4 := J4.suite he4 hd4 na nL nF
          refine store_ok (X := X.suite a ((a, oe4) :: (X.pn ++ pins))) (v := .ref a) S4 hN hi hloc rfl (fun s5 S5 => ?_) (.inr hln)
          refine wpAny_mono ((hsu a oe4 cls d (X.pn ++ pins) hz4 ⟨_, hd4⟩ nB nfr').run [] s5 _ H' _ S5 (hyes rfl a na)) (fun f s6 hsp => ?_) (fun _ _ z => False.elim z)
          have end_ : ∀ {σ6 : St} {H6 : Hp} {Q : Shared → Prop}, Inv (X.suite a ((a, oe4) :: (X.pn ++ pins))) [] σ6 H6 s6 → (∀ s7, Inv X pins (σ6.set i none) H6 s7 → Q s7) →
              wpAny (model X.prog X.w) X.A (do bindName X.env n .none; unbindBehindTheSuite X.env n pos') (fun _ s7 => Q s7) X.xe s6 := fun {σ6 H6 Q} S6 hq => gone_ok (S6.unsuite ok) hN hi hln hq
          cases f with
          | next =>
            obtain ⟨σ6, H6, S6, q6⟩ := hsp
            exact end_ S6 fun s7 J7 => ⟨_, _, J7, q6⟩
          | brk =>
            obtain ⟨σ6, H6, S6, q6⟩ := hsp
            exact end_ S6 fun s7 J7 => ⟨_, _, J7, q6⟩
          | cont =>
            obtain ⟨σ6, H6, S6, q6⟩ := hsp
            exact end_ S6 fun s7 J7 => ⟨_, _, J7, q6⟩
          | ret u =>
            obtain ⟨v6, σ6, H6, S6, r6, q6⟩ := hsp
            exact end_ S6 fun s7 J7 => ⟨_, _, _, J7, r6, q6⟩
        | false =>
          show wpAny _ X.A (handleBy (.ref a) X.env hds2) _ _ _
          exact ih (hno rfl) h5 fl5 up5
    exact go hh w h3 fl3 up3
  · cases f with
    | next =>
      obtain ⟨σ', H', J', q⟩ := hsp
      exact wpAny_execs_nil ⟨σ', H', J'.ofTry ok, q⟩
    | brk =>
      obtain ⟨σ', H', J', q⟩ := hsp
      exact ⟨σ', H', J'.ofTry ok, q⟩
    | cont =>
      obtain ⟨σ', H', J', q⟩ := hsp
      exact ⟨σ', H', J'.ofTry ok, q⟩
    | ret u =>
      obtain ⟨v, σ', H', J', r, q⟩ := hsp
      exact ⟨v, σ', H', J'.ofTry ok, r, q⟩
end
end L2
/-! L3zc: defs called while an error is handled; attributes of errors; try .. except (..) as e: said = (e.word, field(e)) -/
namespace L2H
open PySem PySem.Spec PyProof.Rows L2 HotX
theorem RoomH.units {k : Nat} {A : Around} (r : RoomH k A) : A.units + 64 < cLine := by have := r.un; omega
def cxC (CX : CXT) (P : Program) (w : World) (K : PySem.W.Frag) (mg : Str → Option Value) (base : Heap) (N : List Str) (qual : Str) (scope : Scope) (f : Addr) (cd : Value) (A : Around) (outer : List Env) (s : Shared) (H : Hp) (E : XK) : Cx :=
  { cxOf CX P w K mg base N qual scope f cd A outer s H E with calm := false }
theorem inv_startC {CX : CXT} {P : Program} {w : World} {K : PySem.W.Frag} {mg : Str → Option Value} {base : Heap} {N ps : List Str} {qual : Str} {scope : Scope} {f : Addr} {cd : Value} {A : Around} {outer : List Env} {s s1 : Shared} {H : Hp} {E : XK} {us : List Value} {vs : List V}
    (S : FnScope N ps scope) (e0 : Env0 P w K mg base A outer s H) (hl : vs.length = ps.length) (r : Vals vs us)
    (x : InCallC s s.heap.objs.size (bindL (envOfC qual scope s.heap.objs.size f cd).kindOf (ps.zip us) fun _ => none) (cellsFrom (s.heap.objs.size + 1) scope.names []) (bindC (envOfC qual scope s.heap.objs.size f cd).kindOf (ps.zip us) fun _ => none) s1) :
    Inv (cxC CX P w K mg base N qual scope f cd A outer s H E) [] (L2.start N vs) H s1 := by
  have hpl : ps.length ≤ N.length := by have := congrArg List.length S.pre; rw [List.length_take] at this; omega
  obtain ⟨h1, tk, rfl, hk⟩ := x.done
  have noA : ∀ b : Addr, b ∉ (cxC CX P w K mg base N qual scope f cd A outer s H E).ex := fun b z => absurd (show b ∈ ([] : List Addr) from z) (by simp)
  refine ⟨⟨e0.mod, S.kind, rfl, rfl, Nat.le_refl _, fun y z c h1 h2 => ?_, fun y hy => ?_, fun y c _ h => ?_, (fun z => Bool.noConfusion (show false = true from z)), Around.frames_deeper e0.frames, .inr ⟨rfl, rfl⟩, fun b z => absurd z (noA b), e0.bs, e0.bsz, fun b _ _ => noA b, fun b z => absurd z (noA b), e0.funs, e0.frf⟩,
    rfl, e0.bare, Un.kept hk, ⟨_, x.toInCall.ns, fun i y v h1 h2 h3 => ?_⟩, fun y c h => ⟨_, x.cell y c h⟩, e0.hok.fresh (Nat.le_refl _), fun y c h => ?_, fun q hq => absurd (show q ∈ ([] : List (Addr × Obj)) ++ [] from hq) (by simp), e0.hok.kept hk, ?_⟩
  · exact name_of_addr x.apart (PySem.mem_of_lookup h1) (PySem.mem_of_lookup h2)
  · have hy : scope.names.lookup y = some .cell ∨ scope.names.lookup y = some .free := hy
    rcases hy with hy | hy
    · exact cell_has hy
    · exact absurd rfl (S.nofree _ (PySem.mem_of_lookup hy))
  · exact Nat.le_of_lt (x.above y c (PySem.mem_of_lookup h))
  · have hi : i < vs.length := by
      unfold L2.start at h2
      by_cases hi : i < vs.length
      · exact hi
      · rw [List.getElem?_append_right (by simpa using hi)] at h2
        rw [List.getElem?_replicate] at h2
        split at h2 <;> cases h2
    have ha : vs[i]? = some v := by
      unfold L2.start at h2
      rw [List.getElem?_append_left (by simpa using hi), List.getElem?_map] at h2
      cases e : vs[i]? with
      | none => rw [e] at h2; cases h2
      | some a => rw [e] at h2; cases h2; rfl
    obtain ⟨u, hu, rv⟩ := r.get ha
    have hp : ps[i]? = some y := by
      rw [← S.pre, List.getElem?_take_of_lt (by omega)]; exact h1
    have ndP : ps.Nodup := by rw [← S.pre]; exact S.nd.sublist (List.take_sublist _ _)
    refine ⟨u, rv, ?_⟩
    rcases S.par y (List.mem_of_getElem? hp) with k | k
    · exact .inl ⟨k, bindL_get ndP hp hu k⟩
    · obtain ⟨c, e⟩ := cell_has (n := s.heap.objs.size + 1) k
      refine .inr ⟨.inl k, c, e, ?_⟩
      have q := x.cell y c e
      rw [bindC_get ndP hp hu (by show scope.names.lookup y ≠ _; rw [k]; decide)] at q
      exact q
  · exact e0.hok.fresh (Nat.le_of_lt (x.above y c (PySem.mem_of_lookup h)))
  · unfold L2.start
    show _ = N.length
    rw [List.length_append, List.length_map, List.length_replicate]
    omega
end L2H
namespace L3
open PySem PySem.Spec PyProof.Rows L2
abbrev cx3C (P : Program) (w : World) (K : PySem.W.Frag) (mg : Str → Option Value) (base : Heap) (N : List Str) (qual : Str) (scope : Scope) (f : Addr) (cdv : Value) (A : Around) (outer : List Env) (s : Shared) (H : Hp) (E : XK) : Cx := L2H.cxC (L2.CX P w) P w K mg base N qual scope f cdv A outer s H E
/-- a def that may be called while an error is handled -/
theorem fnC3 {P : Program} {w : World} {K : PySem.W.Frag} {mg : Str → Option Value} {base : Heap} {x qual : Str} {params : Arguments} {body : List Stmt} {scope : Scope} {f : Addr} {fd : FuncData} {N ps : List Str} {k : Nat} {F : TF} {T : TSD} (FD : FunD K x qual params body scope [] [] f fd) (Sc : FnScope N ps scope) (hb : Binds K fd ps []) (hn : ∀ wd ds φ ε, F wd ds φ ε → ds.length = ps.length)
    (hbody : ∀ (cdv : Value) (A : Around) (outer : List Env) (s : Shared) (H : Hp) (E : XK), L2H.RoomH k (A.deeper (envOfC qual scope s.heap.objs.size f cdv)) → DSs (cx3C P w K mg base N qual scope f cdv A outer s H E) (W3 E) body T)
    (hT : ∀ wd ds φ ε, F wd ds φ ε → T ⟨wd, fun ex _ => ε ex⟩ (retD φ) (startD N ds)) : FnC P w K mg base (k + 1) f F := by
  obtain ⟨oc, od, dV, kV, doc, pm, an, cdv, ct, osl, rfl, lk, hcd, _, _⟩ := FD.ex
  intro A outer s H us vs Q E hr e0 r ⟨wd, R, ds, φ, ε, b, rr, hf, hQ, hE⟩
  have hl : vs.length = ps.length := by rw [rr.length]; exact hn _ _ _ _ hf
  have hlu : us.length = ps.length := by rw [← r.length]; exact hl
  have KX : K.In s.heap := e0.mod.kin.keeps fun b o e => (e0.bs b o e).1
  have lim : s.heap.NoLimit := e0.mod.nolimit.keeps fun b o e => (e0.bs b o e).1
  have hbt : BindsTo s (PySem.W.fnOf x qual params body scope dV kV doc pm an cdv ct) ⟨us, []⟩ (ps.zip us) := by
    have b := hb s us KX (by rw [List.append_nil]; exact hlu)
    rw [List.append_nil] at b
    exact b
  have hkind : ∀ y ∈ ps.zip us, scope.names.lookup y.1 = some .local ∨ (scope.names.lookup y.1 = some .cell ∧ ((cellsFrom (s.heap.objs.size + 1) scope.names []).lookup y.1).isSome = true) := fun ⟨n, v⟩ hy => by
    rcases Sc.par n (List.of_mem_zip hy).1 with q | q
    · exact .inl q
    · exact .inr ⟨q, PySem.W.cellsFrom_some _ _ _ (.inl q)⟩
  refine codeAny_call_function hr.depth (KX _ _ lk) rfl Sc.co Sc.gen rfl (PySem.W.codeRec_of KX hcd) (hbt _ _ _ _ ?_)
  refine wpAny_newFunctionEnv_cells Sc.kind hkind fun env he s1 z => ?_
  subst he
  refine ⟨lim.keeps z.toInCall.keep, codeAny_func ?_⟩
  have ht := hbody cdv A outer s H E (hr.deeper _)
  have hq : tS3 K (W3 E) T { nx := fun _ H' => Q .non H', rt := Q } (L2.start N vs) H := body_ok (S := ⟨⟨wd, fun ex _ => ε ex⟩, R, H, R⟩) (fun R' H' σ env cls od ex ok xr q => hE cls od R' H' ex ok.fin xr q) (start_ok3 (c := ⟨wd, fun ex _ => ε ex⟩) b rr) (hT wd ds φ ε hf) hQ
  have I : Inv (cx3C P w K mg base N qual scope f cdv A outer s H E) [] (L2.start N vs) H s1 := L2H.inv_startC Sc e0 hl r z
  refine wpAny_mono (ht.run [] s1 (L2.start N vs) H _ I hq) (fun fl s' hs => ?_) fun e s' hs => hs
  have fin : ∀ {σ' : L2.St} {H' : Hp} {v : V} {u : Value}, Inv (cx3C P w K mg base N qual scope f cdv A outer s H E) [] σ' H' s' → RelV v u → Q v H' → CE outer P w H s Q u s' :=
    fun {σ' H' v u} J rv q => ⟨v, H', J.os, J.bare, J.base, J.hok, rv, q⟩
  cases fl with
  | ret u =>
    obtain ⟨v, σ', H', J, rv, q⟩ := hs
    exact fin J rv q
  | next =>
    obtain ⟨σ', H', J, q⟩ := hs
    exact fin (v := V.non) (u := Value.none) J rfl q
  | brk =>
    obtain ⟨_, _, _, q⟩ := hs
    exact False.elim q
  | cont =>
    obtain ⟨_, _, _, q⟩ := hs
    exact False.elim q
/-! ### attributes of errors -/
def NoA (K : PySem.W.Frag) (C : Addr) (n : Str) : Prop := PySem.W.findIn K (.ref C) n = some none
section
variable {X : Cx} {W : WX} {pos : Pos} {e : Expr} {T : TD} {te : TE} {n : Str}
/-- an error held as a value -/
def tXt (K : PySem.W.Frag) (n : Str) (te : TE) : TE := fun σ H Q => te σ H fun x H1 => ∃ (a C dx : Addr) (o : HO) (fvs : List (Str × V)) (v : V), x = .ref a ∧ H1 a = some o ∧
  (∀ P w H h, ObjOk P w H h a o → ∃ (oe : Obj) (vs : Array Value), h.get? a = some oe ∧ oe.cls = .ref C ∧ oe.dict = some dx ∧ oe.data = .fields vs) ∧ XfC K C ∧ NoA K C n ∧ H1 dx = some (.xd fvs) ∧ fvs.lookup n = some v ∧ Q v H1
theorem pe_xt (he : PE X e te) (hb : attributeBase e n X.env (eval e X.env) = eval e X.env := by rfl) : PE X (.Attribute e n pos) (tXt X.K n te) := by
  refine ⟨fun pins s σ H Q I h => ?_⟩
  refine attr_of hb (thn (he.run pins s σ H _ I h) fun u s1 hh => ?_)
  obtain ⟨x, H1, I1, rx, a, C, dx, o, fvs, v, ex, ha, ho, xf, hno, hd, l, q⟩ := hh
  subst ex
  obtain rfl : u = Value.ref a := rx
  obtain ⟨oe, vs, h1, h2, h3, h4⟩ := ho _ _ _ _ (I1.hok a o ha)
  have hx : ObjOk X.prog X.w H1 s1.heap dx (.xd fvs) := I1.hok dx _ hd
  obtain ⟨mA, hns, hr⟩ := hx
  obtain ⟨od, ho, hl⟩ := lookIn_ns hns
  obtain ⟨u, hu, ru⟩ := RelO.some_of (v := v) (o := mA n) (by rw [← l]; exact hr n)
  have J : PySem.W.InstAt s1.heap a oe C (some od) := ⟨h1, h2, by unfold PySem.W.notCls; rw [h4] <;> rfl, by rw [h3]; exact ho⟩
  exact HandSPX.exc_get I1.kIn J xf.ga xf.gg xf.exC (PySem.W.findObj_own xf.hdC hno rfl (by rw [hl, hu])) (handed_of ru) ⟨v, H1, I1.tok _, ru, q⟩
def TFldX (K : PySem.W.Frag) (n : Str) (T : TD) : TD := fun c env φ => T c env fun d => ∃ C fs v, d = .exc C fs ∧ XfC K C ∧ NoA K C n ∧ fs.lookup n = some v ∧ φ v
theorem de_fldX (he : DE X W e T) (hb : attributeBase e n X.env (eval e X.env) = eval e X.env := by rfl) : DE X W (.Attribute e n pos) (TFldX X.K n T) :=
  de_mk (pe_xt he hb) fun S R H σ env φ lk ok h => tD.ask lk ok h fun R1 H1 d v f1 ok1 r1 ⟨C, fs, w, e1, xf, no, l, q⟩ => by
    subst e1
    obtain ⟨a, dx, fvs, ev, ⟨o, h1, h2⟩, h3, h4⟩ := (show ∃ p dx fvs, v = .ref p ∧ ExcAt R1 C dx p ∧ R1 dx = some (.xd fvs) ∧ RepF X.K R1 fs fvs from r1)
    obtain ⟨v', l', r'⟩ := h4.look l
    exact ⟨a, C, dx, o, fvs, v', ev, ok1.bas.sub _ _ h1, h2, xf, no, ok1.bas.sub _ _ h3, l', R1, w, f1, r', q⟩
/-- the caught one -/
def tXa (K : PySem.W.Frag) (a : Addr) (cls : Value) (d : Option Addr) (n : Str) (te : TE) : TE := fun σ H Q => te σ H fun x H1 => x = .ref a ∧ ∃ (C dx : Addr) (fvs : List (Str × V)) (v : V), cls = .ref C ∧ d = some dx ∧ XfC K C ∧ NoA K C n ∧ H1 dx = some (.xd fvs) ∧ fvs.lookup n = some v ∧ Q v H1
theorem pe_xa {a : Addr} {oe : Obj} {cls : Value} {d : Option Addr} {pn : List (Addr × Obj)} (hz : L2.Zc cls d oe) (hf : ∃ vs, oe.data = .fields vs) (he : PE (X.suite a ((a, oe) :: pn)) e te) (hb : attributeBase e n X.env (eval e X.env) = eval e X.env := by rfl) :
    PE (X.suite a ((a, oe) :: pn)) (.Attribute e n pos) (tXa X.K a cls d n te) := by
  refine ⟨fun pins s σ H Q I h => ?_⟩
  refine attr_of hb (thn (he.run pins s σ H _ I h) fun u s1 hh => ?_)
  obtain ⟨x, H1, I1, rx, ex, C, dx, fvs, v, ec, ed, xf, hno, ea, l, q⟩ := hh
  subst ex
  obtain rfl : u = Value.ref a := rx
  subst ec
  subst ed
  obtain ⟨ha, _⟩ := I1.pin (a, oe) (List.mem_append_left _ List.mem_cons_self)
  obtain ⟨vs, hd⟩ := hf
  have hx : ObjOk X.prog X.w H1 s1.heap dx (.xd fvs) := I1.hok dx _ ea
  obtain ⟨mA, hns, hr⟩ := hx
  obtain ⟨od, ho, hl⟩ := lookIn_ns hns
  obtain ⟨u, hu, ru⟩ := RelO.some_of (v := v) (o := mA n) (by rw [← l]; exact hr n)
  have J : PySem.W.InstAt s1.heap a oe C (some od) := ⟨ha, hz.1, by unfold PySem.W.notCls; rw [hd] <;> rfl, by rw [hz.2]; exact ho⟩
  exact HandSPX.exc_get I1.kIn J xf.ga xf.gg xf.exC (PySem.W.findObj_own xf.hdC hno rfl (by rw [hl, hu])) (handed_of ru) ⟨v, H1, I1.tok _, ru, q⟩
/-- field(e) of the caught one -/
def lkA (a : Addr) (oe : Obj) (H' : Hp) : Prop := H' a = some (.frz oe (.ext fun _ => True))
theorem pe_hotcall {a : Addr} {oe : Obj} {pn : List (Addr × Obj)} {F : TF} {k i : Nat} {g : Addr} {x y : Str} {p p2 : Pos} (G : FnC X.prog X.w X.K X.mg X.base k g F) (hr : L2H.RoomH k (X.A.mark (some (.ref a)))) (hG : Gl X x) (hM : X.mg x = some (.ref g)) (hK : PySem.W.keepIn X.K (.ref g) = true)
    (hba : X.base.get? a = none) (hfa : a ∉ frs X.stack) (hN : X.N[i]? = some y) (hv : Vis X.env.scope y) (hdb : (x == ("__debug__" : Str)) = false := by decide) (hd : (y == ("__debug__" : Str)) = false := by decide) (hcd : (y == ("__classdict__" : Str)) = false := by decide)
    (he : starEach [.Name y p2] X.env = (false, eval (.Name y p2) X.env) :: starEach [] X.env := by rfl) :
    PE (X.suite a ((a, oe) :: pn)) (.Call (.Name x p) [.Name y p2] [] pos) (fun σ H Q => σ[i]? = some (some (.ref a)) ∧ spW X.K F [.ref a] (trk [(a, oe)] H) (fun v H' => (∀ b o, [(a, oe)].lookup b = some o → H' b = some (.frz o (.ext fun _ => True))) ∧ Q v (untrk [(a, oe)] H')) fun _ _ _ => False) := by
  refine ⟨fun pins s σ H Q I ⟨h0, h1⟩ => ?_⟩
  refine wpAny_Call_Name_kw (ld_glob I hG hM ?_ hdb)
  refine PySem.W.callWith_K (h₀ := X.base) I.ok.mod.kin hK ?_ he (by rfl)
  refine Calls.spliced_cons (thn ((pe_var (X := X.suite a ((a, oe) :: pn)) (pos := p2) (i := i) hN hv hd hcd).run pins s σ H (fun v H1 => v = .ref a ∧ H1 = H) I ⟨.ref a, h0, rfl, rfl⟩) fun u s1 ⟨v, H1, I1, r1, q1⟩ => ?_)
  obtain ⟨ev, eH⟩ := q1
  subst ev
  rw [eH] at I1
  obtain rfl : u = Value.ref a := r1
  refine Calls.spliced_nil ⟨I1.kIn, ?_⟩
  have pin := I1.pin (a, oe) (List.mem_append_left _ List.mem_cons_self)
  have lk : ∀ b o, [(a, oe)].lookup b = some o → b = a ∧ o = oe := fun b o e => by
    rw [List.lookup_cons] at e
    by_cases hb : b = a
    · rw [beq_iff_eq.mpr hb] at e
      exact ⟨hb, (Option.some.inj e).symm⟩
    · rw [beq_eq_false_iff_ne.mpr hb] at e
      cases e
  exact call_atXC (us := [.ref a]) (vs := [.ref a]) G hr I1 ⟨fun b o e => by
    obtain ⟨e1, e2⟩ := lk b o e
    subst e1 e2
    exact ⟨pin.1, pin.2.1, hba, hfa⟩⟩ (.cons (show RelV (.ref a) (.ref a) from rfl) .nil) h1
end
end L3
/-! L3zd: try: .. except (C, C2) as e: said = (e.word, field(e)) / except C3 as e: said = (e.word, ()) -/
namespace L3
open PySem PySem.Spec PyProof.Rows L2
/-- what is wanted of the body's errors: i e's slot, j said's -/
def erWhy (K : PySem.W.Frag) (i j : Nat) (F : TF) (cs1 cs2 : List Value) (c : Ct) (D : EndD) : Er → Ev → Prop := fun ex env => i < env.length ∧ ∃ b1, PySem.W.exmAny K (.ref ex.C) cs1 = some b1 ∧
  (b1 = true → XfC K ex.C ∧ NoA K ex.C "word" ∧ ∃ w, ex.fs.lookup ("word" : Str) = some w ∧ F c.wd [.exc ex.C ex.fs] (fun d => plainD d = true ∧ D.nx ((env.set j (.v (.tup [w, d]))).set i .no)) fun _ => False) ∧
  (b1 = false → ∃ b2, PySem.W.exmAny K (.ref ex.C) cs2 = some b2 ∧ (b2 = true → XfC K ex.C ∧ NoA K ex.C "word" ∧ ∃ w, ex.fs.lookup ("word" : Str) = some w ∧ D.nx ((env.set j (.v (.tup [w, .tup []]))).set i .no)) ∧ (b2 = false → c.er ex env))
def TWhy (K : PySem.W.Frag) (i j : Nat) (Tb : TSD) (F : TF) (cs1 cs2 : List Value) : TSD := fun c D env => Tb ⟨c.wd, erWhy K i j F cs1 cs2 c D⟩ D env
theorem set_around {α : Type} {l : List α} {i j : Nat} {a b c : α} (h : i ≠ j) : ((l.set i a).set j b).set i c = (l.set j b).set i c := by
  rw [List.set_comm _ _ h, List.set_set]
section
variable {X : Cx} {W : WX} {pos : Pos}
theorem ds_try_why {e said fld : Str} {i j k : Nat} {g : Addr} {F : TF} {body : List Stmt} {Tb : TSD} {t1 t2 : Expr} {cs1 cs2 : List Value} {p1 p2 p3 p4 p5 p6 p7 p8 p9 q1 q2 q3 q4 q5 q6 q7 : Pos} {k1 k2 k3 : Nat}
    (hs : X.stack = X.env :: X.outer) (hf : X.env.frame = some X.env.locals) (hN : X.N.Nodup) (hi : X.N[i]? = some e) (hln : X.env.kindOf e = some .local) (hj : X.N[j]? = some said) (hlj : X.env.scope.names.lookup said = some .local) (hij : i ≠ j) (tk : L2.Takes X W)
    (ht1 : L2.TstOk X t1 cs1) (ht2 : L2.TstOk X t2 cs2) (G : FnC X.prog X.w X.K X.mg X.base k g F) (hr : Room k X.A) (hG : Gl X fld) (hM : X.mg fld = some (.ref g)) (hK : PySem.W.keepIn X.K (.ref g) = true)
    (hb : ∀ (W : WX) (pn : List (Addr × Obj)) (xe : Value → Shared → Prop), L2.Takes (X.tr pn xe) W → PassesOwn (model X.prog X.w) X.A X.env xe → DSs (X.tr pn xe) W body Tb)
    (hdb : (fld == ("__debug__" : Str)) = false := by decide) (hd : (e == ("__debug__" : Str)) = false := by decide) (hcd : (e == ("__classdict__" : Str)) = false := by decide)
    (hba : attributeBase (.Name e p3) "word" X.env (eval (.Name e p3) X.env) = eval (.Name e p3) X.env := by rfl) (hbb : attributeBase (.Name e q3) "word" X.env (eval (.Name e q3) X.env) = eval (.Name e q3) X.env := by rfl)
    (hst : starEach [.Name e p6] X.env = (false, eval (.Name e p6) X.env) :: starEach [] X.env := by rfl)
    (hsw1 : swapsWith (.Tuple [.Attribute (.Name e p3) "word" p4, .Call (.Name fld p5) [.Name e p6] [] p7] k1 p8) (some (.Name said p2)) p9.line X.env = pure false := by rfl)
    (hsw2 : swapsWith (.Tuple [.Attribute (.Name e q3) "word" q4, .Tuple [] k2 q5] k3 q6) (some (.Name said q2)) q7.line X.env = pure false := by rfl)
    (hs1 : starEach [.Attribute (.Name e p3) "word" p4, .Call (.Name fld p5) [.Name e p6] [] p7] X.env = (false, eval (.Attribute (.Name e p3) "word" p4) X.env) :: starEach [.Call (.Name fld p5) [.Name e p6] [] p7] X.env := by rfl)
    (hs2 : starEach [.Call (.Name fld p5) [.Name e p6] [] p7] X.env = (false, eval (.Call (.Name fld p5) [.Name e p6] [] p7) X.env) :: starEach [] X.env := by rfl)
    (hs3 : starEach [.Attribute (.Name e q3) "word" q4, .Tuple [] k2 q5] X.env = (false, eval (.Attribute (.Name e q3) "word" q4) X.env) :: starEach [.Tuple [] k2 q5] X.env := by rfl)
    (hs4 : starEach [.Tuple [] k2 q5] X.env = (false, eval (.Tuple [] k2 q5) X.env) :: starEach [] X.env := by rfl) :
    DS X W (.Try body [.ExceptHandler (some t1) (some e) [.Assign [.Name said p2] (.Tuple [.Attribute (.Name e p3) "word" p4, .Call (.Name fld p5) [.Name e p6] [] p7] k1 p8) p9] p1,
      .ExceptHandler (some t2) (some e) [.Assign [.Name said q2] (.Tuple [.Attribute (.Name e q3) "word" q4, .Tuple [] k2 q5] k3 q6) q7] q1] [] [] pos) (TWhy X.K i j Tb F cs1 cs2) := by
  have hvi : Vis X.env.scope e := .inl hln
  let s1 : Addr → Obj → Value → Option Addr → TS := fun a oe cls d => tAsg (tTup (tCons (tXa X.K a cls d "word" (tVar i)) (tCons (fun σ H Q => σ[i]? = some (some (.ref a)) ∧ spW X.K F [.ref a] (trk [(a, oe)] H) (fun v H' => (∀ b o, [(a, oe)].lookup b = some o → H' b = some (.frz o (.ext fun _ => True))) ∧ Q v (untrk [(a, oe)] H')) fun _ _ _ => False) tNil))) (gName j)
  let ts1 : Addr → Value → Option Addr → TS := fun a cls d D σ H => ∀ oe, L2.Zc cls d oe → (∃ vs, oe.data = .fields vs) → s1 a oe cls d D σ H
  let ts2 : Addr → Value → Option Addr → TS := fun a cls d => tAsg (tTup (tCons (tXa X.K a cls d "word" (tVar i)) (tCons (tTup tNil) tNil))) (gName j)
  have P : PS X (.Try body [.ExceptHandler (some t1) (some e) [.Assign [.Name said p2] (.Tuple [.Attribute (.Name e p3) "word" p4, .Call (.Name fld p5) [.Name e p6] [] p7] k1 p8) p9] p1,
      .ExceptHandler (some t2) (some e) [.Assign [.Name said q2] (.Tuple [.Attribute (.Name e q3) "word" q4, .Tuple [] k2 q5] k3 q6) q7] q1] [] [] pos) (fun D σ H => (fun W => tS3 X.K W Tb) (L2.wAsM X.K i W D [(cs1, ts1), (cs2, ts2)]) D σ H) := by
    refine L2.ps_try_asM (tb := fun W => tS3 X.K W Tb) hs hf hN hi hln tk (fun W pn xe tk' po => hb W pn xe tk' po) (.cons ht1 (fun a oe cls d pn hz hv hba' hfa => ?_) (.cons ht2 (fun a oe cls d pn hz hv hba' hfa => ?_) .nil))
    · have p := pss_one (ps_set (X := X.suite a ((a, oe) :: pn)) (i := j) (pos := p9) hN hj (.inl hlj) (pe_tup (x1 := k1) (pos := p8) (pa_cons (pe_xa (pos := p4) hz hv (pe_var (X := X.suite a ((a, oe) :: pn)) (pos := p3) (i := i) hi hvi hd hcd) hba) (pa_cons (pe_hotcall (pos := p7) (p := p5) (p2 := p6) G (⟨hr.dp, hr.un⟩) hG hM hK hba' hfa hi hvi hdb hd hcd hst) pa_nil hs2) hs1)) hsw1 (.inr hlj))
      exact ⟨fun pins s σ H D I h => p.run pins s σ H D I (h oe hz hv)⟩
    · exact pss_one (ps_set (X := X.suite a ((a, oe) :: pn)) (i := j) (pos := q7) hN hj (.inl hlj) (pe_tup (x1 := k3) (pos := q6) (pa_cons (pe_xa (pos := q4) hz hv (pe_var (X := X.suite a ((a, oe) :: pn)) (pos := q3) (i := i) hi hvi hd hcd) hbb) (pa_cons (pe_tup (x1 := k2) (pos := q5) pa_nil) pa_nil hs4) hs3)) hsw2 (.inr hlj))
  refine ⟨fun pins s σ H E I ⟨S, R, env, D3, lk, ok, hT, eo⟩ => P.run pins s σ H E I ?_⟩
  refine ⟨⟨⟨S.c.wd, erWhy X.K i j F cs1 cs2 S.c D3⟩, S.R0, S.H0, S.Rb⟩, R, env, D3, ?_, ⟨ok.fin, ok.rb, ok.sl, ok.own, ok.dis⟩, hT, ⟨fun R H σ env o q => eo.nx R H σ env ⟨o.fin, o.rb, o.sl, o.own, o.dis⟩ q, fun R H σ env d v o r q => eo.rt R H σ env d v ⟨o.fin, o.rb, o.sl, o.own, o.dis⟩ r q, fun R H σ env o q => eo.bk R H σ env ⟨o.fin, o.rb, o.sl, o.own, o.dis⟩ q, fun R H σ env o q => eo.ct R H σ env ⟨o.fin, o.rb, o.sl, o.own, o.dis⟩ q⟩⟩
  intro R' H' σ' env' cls od ex o' xr er
  have o1 : Ok3 X.K S R' H' σ' env' := ⟨o'.fin, o'.rb, o'.sl, o'.own, o'.dis⟩
  obtain ⟨ec, dx, fvs, ed, hdx, hfs⟩ := xr
  subst ec ed
  obtain ⟨hlen, b1, hb1, hy, hn⟩ := er
  have hσ : i < σ'.length := by rw [o1.sl.length]; exact hlen
  have at_i : ∀ a : Addr, (σ'.set i (some (.ref a)))[i]? = some (some (V.ref a)) := fun a => by rw [List.getElem?_set_self hσ]
  have done : ∀ {a p : Addr} {R2 H2 : Hp} {w d2 : D} {wv v2 : V}, Fin S.c.wd R' H' R2 H2 → Rep X.K R2 w wv → Rep X.K R2 d2 v2 → H2 p = none → D3.nx ((env'.set j (.v (.tup [w, d2]))).set i .no) →
      (L2.gone E i).nx ((σ'.set i (some (.ref a))).set j (some (.ref p))) (upd H2 p (.tup [wv, v2])) := fun {a p R2 H2 w d2 wv v2} f r1 r2 hp q => by
    have o2 := o1.through f
    have fa := Fin.alloc (o := .tup [wv, v2]) o2.bas hp
    have o3 := o2.through fa
    have o4 := o3.put (i := j) (d := .tup [w, d2]) (v := .ref p) ⟨p, [wv, v2], rfl, upd_same, wv, [v2], rfl, r1.mono fa.up, v2, [], rfl, r2.mono fa.up, rfl⟩
    have o5 := o4.drop (i := i) (x := none)
    show E.nx (((σ'.set i (some (.ref a))).set j (some (.ref p))).set i none) _
    rw [set_around hij]
    exact eo.nx _ _ _ _ o5 q
  refine ⟨b1, hb1, fun e1 a na => ?_, fun e1 => ?_⟩
  · obtain ⟨xf, no, w, lw, hF⟩ := hy e1
    obtain ⟨wv, l', rw'⟩ := hfs.look lw
    intro oe hz ⟨vs, hvs⟩
    have lk1 : ∀ b o, [(a, oe)].lookup b = some o → b = a ∧ o = oe := fun b o e => by
      rw [List.lookup_cons] at e
      by_cases hb : b = a
      · rw [beq_iff_eq.mpr hb] at e
        exact ⟨hb, (Option.some.inj e).symm⟩
      · rw [beq_eq_false_iff_ne.mpr hb] at e
        cases e
    have tn : ∀ b o, [(a, oe)].lookup b = some o → H' b = none := fun b o e => by rw [(lk1 b o e).1]; exact na
    have sm := same_trk o1.bas tn
    have self : [(a, oe)].lookup a = some oe := by rw [List.lookup_cons, beq_self_eq_true]
    refine ⟨.ref a, at_i a, rfl, ex.C, dx, fvs, wv, rfl, rfl, xf, no, o1.bas.sub _ _ hdx, l', at_i a, ?_⟩
    refine spW_askX (W := W) (X := X) o1 tn (ds := [.exc ex.C ex.fs]) (φ := fun d => D3.nx ((env'.set j (.v (.tup [w, d]))).set i .no)) ⟨.ref a, [], rfl, ⟨a, dx, fvs, rfl, ⟨.frz oe (.ext fun _ => True), trk_in self, fun P w H h z => ⟨oe, vs, z.1, hz.1, hz.2, hvs⟩⟩, sm _ _ hdx, hfs.mono sm⟩, rfl⟩ hF fun v H2 ⟨R2, d, f, r, q⟩ => ?_
    refine ⟨by show 2 ≤ sizeLine; decide, fun p hp => ?_⟩
    exact done f (rw'.mono f.up) r hp q
  · obtain ⟨b2, hb2, hy2, hn2⟩ := hn e1
    refine ⟨b2, hb2, fun e2 a na => ?_, fun e2 => lk R' H' σ' env' _ _ ex o1 ⟨rfl, dx, fvs, rfl, hdx, hfs⟩ (hn2 e2)⟩
    obtain ⟨xf, no, w, lw, hq⟩ := hy2 e2
    obtain ⟨wv, l', rw'⟩ := hfs.look lw
    refine ⟨.ref a, at_i a, rfl, ex.C, dx, fvs, wv, rfl, rfl, xf, no, o1.bas.sub _ _ hdx, l', by show 0 ≤ sizeLine; exact Nat.zero_le _, fun p0 hp0 => ⟨by show 2 ≤ sizeLine; decide, fun p hp => ?_⟩⟩
    have fa := Fin.alloc (o := .tup []) o1.bas hp0
    exact done fa (rw'.mono fa.up) (show Rep X.K _ (.tup []) _ from ⟨p0, [], rfl, upd_same, rfl⟩) hp hq
end
end L3
/-! L3ze: the same rules, what they speak of taken from outside -/
namespace L3
open PySem PySem.Spec PyProof.Rows L2
section
variable {X : Cx} {W : WX} {pos : Pos} {e : Expr} {T : TD} {n : Str}
theorem de_fldXK {K : PySem.W.Frag} (he : DE X W e T) (hb : attributeBase e n X.env (eval e X.env) = eval e X.env := by rfl) (hK : X.K = K := by rfl) : DE X W (.Attribute e n pos) (TFldX K n T) := by
  subst hK
  exact de_fldX he hb
theorem de_cloK {P : Program} {w : World} {K : PySem.W.Frag} {mg : Str → Option Value} {base : Heap} (i : Nat) {x : Str} {p : Pos} {k : Nat} (hr : Room k X.A) (tk : L2.Takes X W) (hN : X.N[i]? = some x := by rfl) (hv : Vis X.env.scope x := by first | exact Or.inl rfl | exact Or.inr (Or.inl rfl) | exact Or.inr (Or.inr rfl))
    (hd : (x == ("__debug__" : Str)) = false := by decide) (hcd : (x == ("__classdict__" : Str)) = false := by decide) (hP : X.prog = P := by rfl) (hw : X.w = w := by rfl) (hK : X.K = K := by rfl) (hm : X.mg = mg := by rfl) (hb : X.base = base := by rfl) :
    DE X W (.Call (.Name x p) [] [] pos) (TClo P w K mg base k i) := by
  subst hP hw hK hm hb
  exact de_clo i hr tk hN hv hd hcd
end
section
variable {X : Cx} {W : WX} {pos : Pos}
theorem ds_try_whyK {K : PySem.W.Frag} {e said fld : Str} {i j k : Nat} {g : Addr} {F : TF} {body : List Stmt} {Tb : TSD} {t1 t2 : Expr} {cs1 cs2 : List Value} {p1 p2 p3 p4 p5 p6 p7 p8 p9 q1 q2 q3 q4 q5 q6 q7 : Pos} {k1 k2 k3 : Nat}
    (hs : X.stack = X.env :: X.outer) (hf : X.env.frame = some X.env.locals) (hN : X.N.Nodup) (hi : X.N[i]? = some e) (hln : X.env.kindOf e = some .local) (hj : X.N[j]? = some said) (hlj : X.env.scope.names.lookup said = some .local) (hij : i ≠ j) (tk : L2.Takes X W)
    (ht1 : L2.TstOk X t1 cs1) (ht2 : L2.TstOk X t2 cs2) (G : FnC X.prog X.w X.K X.mg X.base k g F) (hr : Room k X.A) (hG : Gl X fld) (hM : X.mg fld = some (.ref g)) (hK : PySem.W.keepIn X.K (.ref g) = true)
    (hb : ∀ (W : WX) (pn : List (Addr × Obj)) (xe : Value → Shared → Prop), L2.Takes (X.tr pn xe) W → PassesOwn (model X.prog X.w) X.A X.env xe → DSs (X.tr pn xe) W body Tb)
    (hdb : (fld == ("__debug__" : Str)) = false := by decide) (hd : (e == ("__debug__" : Str)) = false := by decide) (hcd : (e == ("__classdict__" : Str)) = false := by decide)
    (hba : attributeBase (.Name e p3) "word" X.env (eval (.Name e p3) X.env) = eval (.Name e p3) X.env := by rfl) (hbb : attributeBase (.Name e q3) "word" X.env (eval (.Name e q3) X.env) = eval (.Name e q3) X.env := by rfl)
    (hst : starEach [.Name e p6] X.env = (false, eval (.Name e p6) X.env) :: starEach [] X.env := by rfl)
    (hsw1 : swapsWith (.Tuple [.Attribute (.Name e p3) "word" p4, .Call (.Name fld p5) [.Name e p6] [] p7] k1 p8) (some (.Name said p2)) p9.line X.env = pure false := by rfl)
    (hsw2 : swapsWith (.Tuple [.Attribute (.Name e q3) "word" q4, .Tuple [] k2 q5] k3 q6) (some (.Name said q2)) q7.line X.env = pure false := by rfl)
    (hs1 : starEach [.Attribute (.Name e p3) "word" p4, .Call (.Name fld p5) [.Name e p6] [] p7] X.env = (false, eval (.Attribute (.Name e p3) "word" p4) X.env) :: starEach [.Call (.Name fld p5) [.Name e p6] [] p7] X.env := by rfl)
    (hs2 : starEach [.Call (.Name fld p5) [.Name e p6] [] p7] X.env = (false, eval (.Call (.Name fld p5) [.Name e p6] [] p7) X.env) :: starEach [] X.env := by rfl)
    (hs3 : starEach [.Attribute (.Name e q3) "word" q4, .Tuple [] k2 q5] X.env = (false, eval (.Attribute (.Name e q3) "word" q4) X.env) :: starEach [.Tuple [] k2 q5] X.env := by rfl)
    (hs4 : starEach [.Tuple [] k2 q5] X.env = (false, eval (.Tuple [] k2 q5) X.env) :: starEach [] X.env := by rfl)
    (hKK : X.K = K := by rfl) :
    DS X W (.Try body [.ExceptHandler (some t1) (some e) [.Assign [.Name said p2] (.Tuple [.Attribute (.Name e p3) "word" p4, .Call (.Name fld p5) [.Name e p6] [] p7] k1 p8) p9] p1,
      .ExceptHandler (some t2) (some e) [.Assign [.Name said q2] (.Tuple [.Attribute (.Name e q3) "word" q4, .Tuple [] k2 q5] k3 q6) q7] q1] [] [] pos) (TWhy K i j Tb F cs1 cs2) := by
  subst hKK
  exact ds_try_why hs hf hN hi hln hj hlj hij tk ht1 ht2 G hr hG hM hK hb hdb hd hcd hba hbb hst hsw1 hsw2 hs1 hs2 hs3 hs4
end
section
variable {X : Cx} {W : WX} {pos : Pos} {k : Nat} {g : Addr} {F : TF} {T : List (Addr × Str)}
theorem de_callLamK {qq : Str} {x : Str} {c P : Addr} {params : Arguments} {body : Expr} {scope : Scope} {ix : List Nat} {p lpos : Pos} (G : Fn3 X.prog X.w X.K X.mg X.base k g F) (hr : Room k X.A) (hG : Gl X x) (hM : X.mg x = some (.ref g)) (hK : PySem.W.keepIn X.K (.ref g) = true)
    (TB : LamX.TabB X.base X.mg c P) (hcode : X.env.code = .ref c) (hm : (P, X.env.qual ++ "<lambda>") ∈ T) (hu : ∀ p ∈ T, p.1 = P → p.2 = X.env.qual ++ "<lambda>") (LS : LamX.lamSB X.env.scope scope = true) (hdef : defaultsOf params X.env = ([], []))
    (hix : ix.map (X.N[·]?) = (lamN scope).map some) (hfn : (lamN scope).all X.fn = true) (hdb : (x == ("__debug__" : Str)) = false := by decide)
    (hq : X.env.qual = qq := by rfl) : DE X W (.Call (.Name x p) [.Lambda params body scope lpos] [] pos) (TCallLam T F ⟨qq ++ "<lambda>", params, body, scope⟩ ix) := by
  subst hq
  exact de_callLam G hr hG hM hK TB hcode hm hu (LamX.lamS_by LS) hdef hix (fun y hy => List.all_eq_true.mp hfn y hy) hdb
end
end L3
/-! L3pr: reading any text: parse, sound and complete -/
namespace L3
open PySem PySem.Spec PyProof.Rows L2
abbrev PRes := Option (Tr × List Nat)
/-- the branches, from the sign between on; m rounds at most -/
def kidsP (p : List Nat → PRes) : Nat → List Nat → List Tr → Option (List Tr × List Nat)
  | 0, _, _ => none
  | m + 1, l, acc => match l with
    | [] => none
    | c :: r => if (c = 40 ∧ acc = []) ∨ (c = 44 ∧ acc ≠ []) then
        match p r with
        | none => none
        | some (t, r') => if acc.length = 3 then none else kidsP p m r' (acc ++ [t])
      else if c = 41 then some (acc, r) else none
def parse : Nat → List Nat → PRes
  | 0, _ => none
  | n + 1, l => if isSg (l.takeWhile isLet) = true then
      match l.dropWhile isLet with
      | 40 :: r => (kidsP (parse n) 5 (40 :: r) []).map fun x => (.nd (l.takeWhile isLet) x.1, x.2)
      | r => some (.nd (l.takeWhile isLet) [], r)
    else none
theorem parse_step (n : Nat) (l : List Nat) : parse (n + 1) l = if isSg (l.takeWhile isLet) = true then
      (if (l.dropWhile isLet).head? = some 40 then (kidsP (parse n) 5 (l.dropWhile isLet) []).map fun x => (.nd (l.takeWhile isLet) x.1, x.2) else some (.nd (l.takeWhile isLet) [], l.dropWhile isLet)) else none := by
  show (if isSg (l.takeWhile isLet) = true then _ else _) = _
  by_cases h : isSg (l.takeWhile isLet) = true
  · rw [if_pos h, if_pos h]
    cases e : l.dropWhile isLet with
    | nil => rfl
    | cons c r =>
      by_cases hc : c = 40
      · subst hc
        rw [if_pos (show (40 :: r).head? = some 40 from rfl)]
        rfl
      · rw [if_neg (by simpa using hc)]
        split
        · rename_i x y z
          injection z with z1 z2
          exact absurd z1 hc
        · rfl
  · rw [if_neg h, if_neg h]
/-- of the program's text -/
def readT (l : List Nat) : Option Tr := match parse 101 l with
  | some (t, []) => some t
  | _ => none
theorem sepR_snoc : ∀ (b : Bool) (acc : List Tr) (t : Tr) (rem : List Tr) (post : List Nat), True := fun _ _ _ _ _ => trivial
theorem kids_sound {p : List Nat → PRes} {n : Nat} (hp : ∀ l t r, p l = some (t, r) → t.ok ∧ l = t.txt ++ r ∧ t.dep ≤ n) : ∀ (m : Nat) (l : List Nat) (acc ks : List Tr) (r : List Nat), acc.length ≤ 3 → kidsP p m l acc = some (ks, r) →
    ∃ rem, ks = acc ++ rem ∧ oks rem ∧ ks.length ≤ 3 ∧ (∀ t ∈ rem, t.dep ≤ n) ∧ l = sepR acc.isEmpty rem r
  | 0, l, acc, ks, r, _, h => by cases h
  | m + 1, [], acc, ks, r, _, h => by cases h
  | m + 1, c :: l, acc, ks, r, ha, h => by
    have h2 : (if (c = 40 ∧ acc = []) ∨ (c = 44 ∧ acc ≠ []) then
        match p l with
        | none => none
        | some (t, r') => if acc.length = 3 then none else kidsP p m r' (acc ++ [t])
      else if c = 41 then some (acc, l) else none) = some (ks, r) := h
    by_cases hc : (c = 40 ∧ acc = []) ∨ (c = 44 ∧ acc ≠ [])
    · rw [if_pos hc] at h2
      cases e : p l with
      | none => rw [e] at h2; cases h2
      | some x =>
        obtain ⟨t, r'⟩ := x
        rw [e] at h2
        have h3 : (if acc.length = 3 then none else kidsP p m r' (acc ++ [t])) = some (ks, r) := h2
        by_cases h4 : acc.length = 3
        · rw [if_pos h4] at h3; cases h3
        · rw [if_neg h4] at h3
          obtain ⟨rem, e1, e2, e3, e4, e5⟩ := kids_sound hp m r' (acc ++ [t]) ks r (by rw [List.length_append]; show acc.length + 1 ≤ 3; omega) h3
          obtain ⟨k1, k2, k3⟩ := hp l t r' e
          refine ⟨t :: rem, by rw [e1]; simp, ⟨k1, e2⟩, e3, fun u hu => ?_, ?_⟩
          · rcases List.mem_cons.mp hu with z | z
            · rw [z]; exact k3
            · exact e4 u z
          · have ne : (acc ++ [t]).isEmpty = false := by cases acc <;> rfl
            rw [ne] at e5
            show c :: l = (if acc.isEmpty = true then 40 else 44) :: (t.txt ++ sepR false rem r)
            rw [k2, e5]
            rcases hc with ⟨z1, z2⟩ | ⟨z1, z2⟩
            · rw [z1, z2]; rfl
            · rw [z1]
              cases acc with
              | nil => exact absurd rfl z2
              | cons _ _ => rfl
    · rw [if_neg hc] at h2
      by_cases h5 : c = 41
      · rw [if_pos h5] at h2
        have h6 := Option.some.inj h2
        injection h6 with e1 e2
        subst e1 e2
        exact ⟨[], by simp, trivial, ha, fun _ h => (by cases h), by rw [h5]; cases acc.isEmpty <;> rfl⟩
      · rw [if_neg h5] at h2; cases h2
theorem take_drop (l : List Nat) : l.takeWhile isLet ++ l.dropWhile isLet = l := List.takeWhile_append_dropWhile
theorem parse_sound : ∀ (n : Nat) (l : List Nat) (t : Tr) (r : List Nat), parse n l = some (t, r) → t.ok ∧ l = t.txt ++ r ∧ t.dep ≤ n
  | 0, l, t, r, h => by cases h
  | n + 1, l, t, r, h => by
    rw [parse_step] at h
    by_cases hs : isSg (l.takeWhile isLet) = true
    · rw [if_pos hs] at h
      by_cases h4 : (l.dropWhile isLet).head? = some 40
      · rw [if_pos h4] at h
        cases e : kidsP (parse n) 5 (l.dropWhile isLet) [] with
        | none => rw [e] at h; cases h
        | some x =>
          obtain ⟨ks, r'⟩ := x
          rw [e] at h
          have h5 := Option.some.inj h
          injection h5 with e1 e2
          subst e1 e2
          obtain ⟨rem, e3, e4, e5, e6, e7⟩ := kids_sound (parse_sound n) 5 _ [] ks r' (by simp) e
          have e3 : ks = rem := e3
          subst e3
          have hne : ∃ t q, ks = t :: q := by
            cases ks with
            | nil =>
              have e8 : l.dropWhile isLet = 41 :: r' := e7
              rw [e8] at h4
              cases h4
            | cons t q => exact ⟨t, q, rfl⟩
          obtain ⟨t, q, rfl⟩ := hne
          refine ⟨⟨hs, e5, e4⟩, ?_, ?_⟩
          · rw [txt_sep]
            have e8 : l.dropWhile isLet = sepR true (t :: q) r' := e7
            rw [← e8, take_drop]
          · show 1 + deps (t :: q) ≤ n + 1
            have : ∀ ks : List Tr, (∀ t ∈ ks, t.dep ≤ n) → deps ks ≤ n := by
              intro ks
              induction ks with
              | nil => intro _; exact Nat.zero_le _
              | cons a b ih =>
                intro h
                show max a.dep (deps b) ≤ n
                have h1 := h a List.mem_cons_self
                have h2 := ih fun t ht => h t (List.mem_cons_of_mem _ ht)
                omega
            have := this _ e6
            omega
      · rw [if_neg h4] at h
        have h5 := Option.some.inj h
        injection h5 with e1 e2
        subst e1 e2
        refine ⟨⟨hs, by show 0 ≤ 3; omega, trivial⟩, ?_, by show 1 + 0 ≤ n + 1; omega⟩
        show l = l.takeWhile isLet ++ l.dropWhile isLet
        rw [take_drop]
    · rw [if_neg hs] at h; cases h
theorem take_let : ∀ {s R : List Nat}, (∀ c ∈ s, isLet c = true) → (∀ c r, R = c :: r → isLet c = false) → (s ++ R).takeWhile isLet = s ∧ (s ++ R).dropWhile isLet = R
  | [], [], _, _ => ⟨rfl, rfl⟩
  | [], c :: r, _, h => by
    have := h c r rfl
    refine ⟨?_, ?_⟩
    · show (c :: r).takeWhile isLet = []
      rw [List.takeWhile_cons_of_neg (by rw [this]; simp)]
    · show (c :: r).dropWhile isLet = c :: r
      rw [List.dropWhile_cons_of_neg (by rw [this]; simp)]
  | c :: s, R, h1, h2 => by
    obtain ⟨a, b⟩ := take_let (s := s) (fun c hc => h1 c (List.mem_cons_of_mem _ hc)) h2
    have hc := h1 c List.mem_cons_self
    refine ⟨?_, ?_⟩
    · show (c :: (s ++ R)).takeWhile isLet = c :: s
      rw [List.takeWhile_cons_of_pos hc, a]
    · show (c :: (s ++ R)).dropWhile isLet = R
      rw [List.dropWhile_cons_of_pos hc, b]
theorem kids_complete {p : List Nat → PRes} {n : Nat} (hp : ∀ t post, t.ok → t.dep ≤ n → sepOk post → p (t.txt ++ post) = some (t, post)) : ∀ (rem acc : List Tr) (m : Nat) (post : List Nat), oks rem → (∀ t ∈ rem, t.dep ≤ n) → acc.length + rem.length ≤ 3 → rem.length < m → (acc ≠ [] ∨ rem ≠ []) →
    kidsP p m (sepR acc.isEmpty rem post) acc = some (acc ++ rem, post)
  | [], acc, 0, post, _, _, _, h, _ => absurd h (Nat.not_lt_zero _)
  | [], acc, m + 1, post, _, _, _, _, hn => by
    have ha : acc ≠ [] := hn.elim id fun h => absurd rfl h
    show (if ((41 : Nat) = 40 ∧ acc = []) ∨ ((41 : Nat) = 44 ∧ acc ≠ []) then (match p post with | none => none | some (t, r') => if acc.length = 3 then none else kidsP p m r' (acc ++ [t])) else if (41 : Nat) = 41 then some (acc, post) else none) = _
    rw [if_neg (by omega), if_pos rfl, List.append_nil]
  | t :: rem, acc, 0, post, _, _, _, h, _ => absurd h (Nat.not_lt_zero _)
  | t :: rem, acc, m + 1, post, ho, hd, hl, hm, _ => by
    have hc : ((if acc.isEmpty = true then 40 else 44) = 40 ∧ acc = []) ∨ ((if acc.isEmpty = true then 40 else 44) = 44 ∧ acc ≠ []) := by
      cases acc with
      | nil => exact .inl ⟨rfl, rfl⟩
      | cons _ _ => exact .inr ⟨rfl, by simp⟩
    show (if ((if acc.isEmpty = true then 40 else 44) = 40 ∧ acc = []) ∨ ((if acc.isEmpty = true then 40 else 44) = 44 ∧ acc ≠ []) then
        (match p (t.txt ++ sepR false rem post) with
        | none => none
        | some (t, r') => if acc.length = 3 then none else kidsP p m r' (acc ++ [t])) else _) = _
    rw [if_pos hc, hp t _ ho.1 (hd t List.mem_cons_self) (sepR_ok _ _)]
    have hl2 : acc.length + (rem.length + 1) ≤ 3 := hl
    have hm2 : rem.length + 1 < m + 1 := hm
    show (if acc.length = 3 then none else kidsP p m (sepR false rem post) (acc ++ [t])) = _
    rw [if_neg (by omega)]
    have ne : (acc ++ [t]).isEmpty = false := by cases acc <;> rfl
    have := kids_complete hp rem (acc ++ [t]) m post ho.2 (fun u hu => hd u (List.mem_cons_of_mem _ hu)) (by rw [List.length_append]; show acc.length + 1 + rem.length ≤ 3; omega) (by omega) (.inl (by simp))
    rw [ne] at this
    rw [this]
    simp
theorem parse_complete : ∀ (n : Nat) (t : Tr) (post : List Nat), t.ok → t.dep ≤ n → sepOk post → parse n (t.txt ++ post) = some (t, post)
  | 0, t, post, _, h, _ => by have := dep_pos t; omega
  | n + 1, .nd s [], post, ho, hd, hp => by
    obtain ⟨e1, e2⟩ := take_let (ok_sg_len ho.1).2.2 (sepOk_let hp)
    rw [parse_step]
    have e3 : (Tr.nd s []).txt = s := rfl
    rw [e3, e1, e2, if_pos ho.1, if_neg]
    cases post with
    | nil => simp
    | cons c r =>
      rcases hp with e | e
      · subst e; simp
      · subst e; simp
  | n + 1, .nd s (t :: r), post, ho, hd, hp => by
    obtain ⟨e1, e2⟩ := take_let (R := sepR true (t :: r) post) (ok_sg_len ho.1).2.2 sepR_let
    rw [parse_step, txt_sep, e1, e2, if_pos ho.1, if_pos (show (sepR true (t :: r) post).head? = some 40 from rfl)]
    have hdd : 1 + deps (t :: r) ≤ n + 1 := hd
    have := kids_complete (parse_complete n) (t :: r) [] 5 post ho.2.2 (fun u hu => by have := deps_le hu; omega) (by have := ho.2.1; simpa using this) (by have h3 : (t :: r).length ≤ 3 := ho.2.1; omega) (.inr (by simp))
    have e4 : sepR ([] : List Tr).isEmpty (t :: r) post = sepR true (t :: r) post := rfl
    rw [e4] at this
    rw [this]
    rfl
theorem read_sound {l : List Nat} {t : Tr} (h : readT l = some t) : t.ok ∧ l = t.txt ∧ t.dep ≤ 101 := by
  unfold readT at h
  cases e : parse 101 l with
  | none => rw [e] at h; cases h
  | some x =>
    obtain ⟨u, r⟩ := x
    rw [e] at h
    cases r with
    | nil =>
      have h2 := Option.some.inj h
      subst h2
      obtain ⟨h1, h2, h3⟩ := parse_sound _ _ _ _ e
      exact ⟨h1, by rw [h2, List.append_nil], h3⟩
    | cons c r => cases h
theorem read_complete {t : Tr} (h : t.ok) (hd : t.dep ≤ 101) : readT t.txt = some t := by
  unfold readT
  have := parse_complete 101 t [] h hd trivial
  rw [List.append_nil] at this
  rw [this]
/-! ### how deep -/
def netS (d : Int) (c : Nat) : Int := d + ((if c = 40 then 1 else 0) - (if c = 41 then 1 else 0))
def net (l : List Nat) : Int := l.foldl netS 0
theorem net_from : ∀ (l : List Nat) (d : Int), l.foldl netS d = d + net l
  | [], d => by show d = d + 0; omega
  | c :: l, d => by
    show l.foldl netS (netS d c) = d + l.foldl netS (netS 0 c)
    rw [net_from l (netS d c), net_from l (netS 0 c)]
    unfold netS
    omega
theorem net_app (a b : List Nat) : net (a ++ b) = net a + net b := by
  unfold net
  rw [List.foldl_append, net_from]
  rfl
theorem net_one (c : Nat) : net [c] = (if c = 40 then 1 else 0) - (if c = 41 then 1 else 0) := by
  show netS 0 c = _
  unfold netS
  omega
theorem net_lets : ∀ {l : List Nat}, (∀ c ∈ l, isLet c = true) → net l = 0
  | [], _ => rfl
  | c :: l, h => by
    have hc := isLet_iff.mp (h c List.mem_cons_self)
    have e : c :: l = [c] ++ l := rfl
    rw [e, net_app, net_one, net_lets fun d hd => h d (List.mem_cons_of_mem _ hd), if_neg (by omega), if_neg (by omega)]
    omega
mutual
theorem net_txt : ∀ {t : Tr}, t.ok → net t.txt = 0
  | .nd s [], h => net_lets (ok_sg_len h.1).2.2
  | .nd s (t :: r), h => by
    have e : (Tr.nd s (t :: r)).txt = s ++ ([40] ++ (joinL (txts (t :: r)) ++ [41])) := rfl
    rw [e, net_app, net_app, net_app, net_one, net_one, net_lets (ok_sg_len h.1).2.2, net_join h.2.2]
    simp
theorem net_join : ∀ {ks : List Tr}, oks ks → net (joinL (txts ks)) = 0
  | [], _ => rfl
  | [t], h => net_txt h.1
  | t :: u :: r, h => by
    have e : joinL (txts (t :: u :: r)) = t.txt ++ ([44] ++ joinL (txts (u :: r))) := rfl
    rw [e, net_app, net_app, net_one, net_txt h.1, net_join (ks := u :: r) h.2]
    simp
end
/-- every beginning is less deep than n -/
def bud (l : List Nat) (n : Nat) : Prop := ∀ q r, l = q ++ r → net q + 1 ≤ (n : Int)
theorem bud_pos {l : List Nat} {n : Nat} (h : bud l n) : 1 ≤ n := by
  have := h [] l rfl
  have e : net [] = 0 := rfl
  omega
theorem bud_cut {a b : List Nat} {n k : Nat} (h : bud (a ++ b) n) (hk : net a = k) : bud b (n - k) ∧ k + 1 ≤ n := by
  have h0 := h a b rfl
  refine ⟨fun q r e => ?_, by omega⟩
  have := h (a ++ q) r (by rw [e]; simp)
  rw [net_app] at this
  omega
end L3
/-! L3wt: the hand's world with tables of code objects -/
namespace L3
open PySem PySem.Spec PyProof.Rows L2
theorem tabs_ext {T : List (Addr × Str)} {H H' : Hp} (t : LamX.Tabs T H) (hf : ∀ p ∈ T, ∀ o, H p.1 = some o → H' p.1 = some o) (hx : ∀ b φ, H b = some (.ext φ) → H' b = some (.ext φ)) : LamX.Tabs T H' := fun p hp => by
  obtain ⟨ps, h1, h2, h3⟩ := t p hp
  exact ⟨ps, hf p hp _ h1, h2, fun pos cv hc => by
    obtain ⟨c, e, h4⟩ := h3 pos cv hc
    exact ⟨c, e, hx _ _ h4⟩⟩
/-- the hand at h, its cells at c, the tables T -/
def hwT (T : List (Addr × Str)) (h c : Addr) (cells : List Int) : Wd where
  foot := fun b => (b = h ∨ b = c) ∨ ∃ p ∈ T, b = p.1
  inv := fun H => (∃ i j m : Int, 0 ≤ i ∧ h ≠ c ∧ H h = some (.lst [.ref c, .int i, .int j, .int m]) ∧ H c = some (.lst (cells.map V.int))) ∧ LamX.Tabs T H
  there := fun H b ⟨⟨i, j, m, _, _, h1, h2⟩, t⟩ hb => by
    rcases hb with (e | e) | ⟨p, hp, e⟩
    · exact ⟨_, by rw [e]; exact h1⟩
    · exact ⟨_, by rw [e]; exact h2⟩
    · obtain ⟨ps, h3, _⟩ := t p hp
      exact ⟨_, by rw [e]; exact h3⟩
  ext := fun H H' ⟨⟨i, j, m, h0, hn, h1, h2⟩, t⟩ hk hx => ⟨⟨i, j, m, h0, hn, hk _ _ (.inl (.inl rfl)) h1, hk _ _ (.inl (.inr rfl)) h2⟩, tabs_ext t (fun p hp o e => hk _ _ (.inr ⟨p, hp, rfl⟩) e) hx⟩
theorem hwT_wdt {T : List (Addr × Str)} {h c : Addr} {cells : List Int} : WdT T (hwT T h c cells) where
  tabs := fun H i => i.2
  foot := fun p hp => .inr ⟨p, hp, rfl⟩
  pres := fun H H1 ⟨⟨i, j, m, h0, hn, h1, h2⟩, _⟩ e t => ⟨⟨i, j, m, h0, hn, e _ _ h1 (by intro ps z; cases z), e _ _ h2 (by intro ps z; cases z)⟩, t⟩
  noext := fun H b φ ⟨⟨i, j, m, h0, hn, h1, h2⟩, t⟩ hb z => by
    rcases hb with (e | e) | ⟨p, hp, e⟩
    · rw [e, h1] at z; cases z
    · rw [e, h2] at z; cases z
    · obtain ⟨ps, h3, _⟩ := t p hp
      rw [e, h3] at z; cases z
def F_pickT (T : List (Addr × Str)) : TF := fun wd ds φ _ => ∃ (h c : Addr) (cells : List Int) (many : Int), wd = hwT T h c cells ∧ ds = [.ref h, .int many] ∧ 0 < many ∧ many < 1000000 ∧ ∀ r : Int, 0 ≤ r → r < many → φ (.int r)
theorem pick_ofT {T : List (Addr × Str)} {P : Program} {w : World} {K : PySem.W.Frag} {mg : Str → Option Value} {base : Heap} {k : Nat} {f : Addr} (G : FnR P w K mg base (L2.CX P w) k f sp_pick) : Fn3 P w K mg base k f (F_pickT T) := by
  refine FnR.imp G fun vs H Q E ⟨wd, R, ds, φ, ε, b, r, ⟨h, c, cells, many, e1, e2, h1, h2, hq⟩, hQ, _⟩ => ?_
  subst e1 e2
  obtain ⟨v, u, ev, r1, r2⟩ := reps2 r
  subst ev
  obtain rfl : v = .ref h := r1
  obtain rfl : u = .int many := r2
  obtain ⟨⟨i, j, m, h0, hn, g1, g2⟩, t⟩ := b.inv
  refine ⟨h, c, cells, i, j, m, many, rfl, h0, hn, g1, g2, h1, h2, fun i' j' r hi hr1 hr2 => hQ _ R _ (.int r) ⟨fun _ _ h => h, fun a o q => ?_, fun a o q hf => ?_, fun _ _ q _ _ => q, ⟨⟨i', j', m, hi, hn, upd_same, by rw [upd_ne hn.symm]; exact g2⟩, tabs_ext t (fun p hp o e => ?_) fun b φ e => ?_⟩, b.ft⟩ rfl (hq r hr1 hr2)⟩
  · have : a ≠ h := fun e => by
      have := b.ft a (.inl (.inl e))
      rw [this] at q
      cases q
    rw [upd_ne this]
    exact b.sub a o q
  · rw [upd_ne fun e => hf (.inl (.inl e))]
    exact q
  · obtain ⟨ps, h3, _⟩ := t p hp
    rw [upd_ne fun z => by rw [z, g1] at h3; cases h3]
    exact e
  · rw [upd_ne fun z => by rw [z, g1] at e; cases e]
    exact e
/-- a drawn item -/
def F_ofT (T : List (Addr × Str)) : TF := fun wd ds φ _ => ∃ (h c : Addr) (cells : List Int) (es : List D), wd = hwT T h c cells ∧ ds = [.ref h, .lst es] ∧ es ≠ [] ∧ es.length < 1000000 ∧ ∀ d ∈ es, φ d
theorem script_worldT {K : PySem.W.Frag} {T : List (Addr × Str)} {H : Hp} {a : Addr} {xs : List V} (hO : ∀ p ∈ T, H p.1 = some (.tbl #[])) (h : SqL K H a xs) : ∃ wd : Wd, Bas wd (fun _ => none) H ∧ (∀ H', wd.inv H' → SqL K H' a xs) ∧ ∀ H', wd.inv H' → LamX.Tabs T H' := by
  have t0 : LamX.Tabs T H := fun p hp => LamX.TabS.nil (hO p hp)
  rcases h with h | h
  · obtain ⟨o, ho, hs⟩ : ∃ o, H a = some o ∧ ∀ H' : Hp, H' a = some o → SqL K H' a xs := by
      rcases h with h | ⟨o, h⟩
      · exact ⟨_, h, fun H' z => .inl (.inl z)⟩
      · exact ⟨_, h, fun H' z => .inl (.inr ⟨o, z⟩)⟩
    refine ⟨⟨fun b => b = a ∨ ∃ p ∈ T, b = p.1, fun H' => H' a = some o ∧ LamX.Tabs T H', fun H b ⟨i1, i2⟩ hb => ?_, fun H H' ⟨i1, i2⟩ k x => ⟨k _ _ (.inl rfl) i1, tabs_ext i2 (fun p hp o e => k _ _ (.inr ⟨p, hp, rfl⟩) e) x⟩⟩, ⟨fun _ _ q => (by cases q), ⟨ho, t0⟩, fun _ _ => rfl⟩, fun H' i => hs H' i.1, fun H' i => i.2⟩
    rcases hb with e | ⟨p, hp, e⟩
    · exact ⟨_, by rw [e]; exact i1⟩
    · obtain ⟨ps, h3, _⟩ := i2 p hp
      exact ⟨_, by rw [e]; exact h3⟩
  · refine ⟨⟨fun b => ∃ p ∈ T, b = p.1, fun H' => LamX.Tabs T H', fun H b i2 ⟨p, hp, e⟩ => ?_, fun H H' i2 k x => tabs_ext i2 (fun p hp o e => k _ _ ⟨p, hp, rfl⟩ e) x⟩, ⟨fun _ _ q => (by cases q), t0, fun _ _ => rfl⟩, fun H' _ => .inr h, fun H' i => i⟩
    obtain ⟨ps, h3, _⟩ := i2 p hp
    exact ⟨_, by rw [e]; exact h3⟩
def sp_lawT (K : PySem.W.Frag) (T : List (Addr × Str)) : Sp := fun vs H Q _ => ∃ (a : Addr) (ns : List Int), vs = [.ref a] ∧ (∀ p ∈ T, H p.1 = some (.tbl #[])) ∧ SqL K H a (ns.map V.int) ∧ ns.length ≤ 63 ∧ ∀ H', Q (.bl true) H'
theorem law_topT {K : PySem.W.Frag} {W : WX} {N : List Str} {H : Hp} {Q : VK} {vs : List V} {Tb : List (Addr × Str)} {T : TD} {Trest : TSD} (hN : 2 ≤ N.length) (h : ∃ E, sp_lawT K Tb vs H Q E)
    (hT : ∀ (wd : Wd) (a : Addr) (ns : List Int) (φ : D → Prop), (∀ H, wd.inv H → SqL K H a (ns.map V.int)) → ns.length ≤ 63 → (∀ m : Int, φ (.lst [.lst (ns.map D.int), .int 0, .int 0, .int m])) → T ⟨wd, fun _ _ => False⟩ (.v (.ref a) :: List.replicate (N.length - 1) .no) φ)
    (hrest : ∀ (p c : Addr) (ns : List Int), Trest ⟨hwT Tb p c ns, fun _ _ => False⟩ { nx := fun _ => False, rt := fun d _ => d = .bl true } (.no :: .v (.ref p) :: List.replicate (N.length - 2) .no)) :
    tSeq (tAsg (tD K W T) (gName 1)) (tS3 K W Trest) { nx := fun _ H' => Q .non H', rt := Q } (L2.start N vs) H := by
  obtain ⟨E, a, ns, rfl, hO, hS, hl, hQ⟩ := h
  obtain ⟨wd, b, hw', hwt⟩ := script_worldT hO hS
  obtain ⟨n, hn⟩ : ∃ n, N.length = n + 2 := ⟨N.length - 2, by omega⟩
  have e1 : L2.start N [.ref a] = some (.ref a) :: none :: List.replicate n none := by
    unfold L2.start
    rw [hn]
    rfl
  rw [e1]
  have no : ∀ (n : Nat) (R H : Hp), Paired (SlOk K R H) (List.replicate n none) (List.replicate n .no) := by
    intro n R H
    induction n with
    | zero => exact .nil
    | succ n ih => exact .cons trivial ih
  have nad : ∀ (n i : Nat) (p : Addr), adAt (List.replicate n .no) i ≠ some p := by
    intro n i p h
    unfold adAt at h
    rw [List.getElem?_replicate] at h
    split at h <;> cases h
  have nad2 : ∀ (n i : Nat) (s : Sl) (p : Addr), s.ad = none → adAt (s :: List.replicate n .no) i ≠ some p := by
    intro n i s p hs h
    cases i with
    | zero =>
      have : s.ad = some p := h
      rw [hs] at this
      cases this
    | succ i => exact nad n i p h
  refine ⟨⟨⟨wd, fun _ _ => False⟩, fun _ => none, H, fun _ => none⟩, fun _ => none, .v (.ref a) :: List.replicate (n + 1) .no, fun d => ∃ m : Int, d = .lst [.lst (ns.map D.int), .int 0, .int 0, .int m], fun _ _ _ _ _ _ _ _ _ z => z.elim, ⟨Fin.refl b, fun _ _ h => h, .cons ⟨_, rfl, rfl⟩ (no (n + 1) _ _), fun i p h => absurd h (nad2 _ _ _ _ rfl), fun i j p h _ => absurd h (nad2 _ _ _ _ rfl)⟩, ?_, fun v H' ⟨R', d, f, r, m, e⟩ => ?_⟩
  · have := hT wd a ns (fun d => ∃ m : Int, d = .lst [.lst (ns.map D.int), .int 0, .int 0, .int m]) hw' hl (fun m => ⟨m, rfl⟩)
    rw [hn] at this
    exact this
  · subst e
    obtain ⟨p, xs, rfl, hp, hr⟩ := rep_lst r
    obtain ⟨v1, r1, rfl, q1, hr⟩ := hr
    obtain ⟨v2, r2, rfl, q2, hr⟩ := hr
    obtain ⟨v3, r3, rfl, q3, hr⟩ := hr
    obtain ⟨v4, r4, rfl, q4, hr⟩ := hr
    obtain rfl : r4 = [] := hr
    obtain ⟨c, ys, rfl, hc, hy⟩ := rep_lst q1
    obtain rfl : ys = ns.map V.int := hy.ints
    obtain rfl : v2 = .int 0 := q2
    obtain rfl : v3 = .int 0 := q3
    obtain rfl : v4 = .int m := q4
    have hpc : p ≠ c := fun e => by
      subst e
      rw [hp] at hc
      have z := HO.lst.inj (Option.some.inj hc)
      cases ns with
      | nil => cases z
      | cons n r => cases z
    refine ⟨⟨⟨hwT Tb p c ns, fun _ _ => False⟩, fun _ => none, H', fun _ => none⟩, fun _ => none, .no :: .v (.ref p) :: List.replicate n .no, { nx := fun _ => False, rt := fun d _ => d = .bl true }, fun _ _ _ _ _ _ _ _ _ z => z.elim,
      ⟨Fin.refl ⟨fun _ _ q => by (cases q), ⟨⟨0, 0, m, Int.le_refl _, hpc, f.sub _ _ hp, f.sub _ _ hc⟩, hwt _ f.inv⟩, fun _ _ => rfl⟩, fun _ _ h => h, .cons trivial (.cons ⟨_, rfl, rfl⟩ (no n _ _)), fun i q h => ?_, fun i j q h _ => ?_⟩, ?_, ⟨fun _ _ _ _ _ z => z.elim, fun R H σ env d v ok r e => ?_, fun _ _ _ _ _ z => z.elim, fun _ _ _ _ _ z => z.elim⟩⟩
    · cases i with
      | zero => cases h
      | succ i => exact absurd h (nad2 n i _ q rfl)
    · cases i with
      | zero => cases h
      | succ i => exact absurd h (nad2 n i _ q rfl)
    · have := hrest p c ns
      rw [hn] at this
      exact this
    · subst e
      obtain rfl : v = .bl true := r
      exact hQ H

end L3
/-! L3xt: the head with tables of code objects -/
namespace L3
open PySem PySem.Spec PyProof.Rows L2
def obsXT (n : Nat) (fa : List He.Fa) (fn : List He5.DefA) (ex : List ExB) (tf : List He.Defn) (g : Addr → Option Obj) : He.AlD × Bool := (obsX fa fn ex (He.frT g (He5.asA g n)), He.tabsB g tf (He.frT g (He5.asA g n)))
structure SaysXT (fa : List He.Fa) (fn : List He5.DefA) (ex : List ExB) (tf : List He.Defn) (h : Heap) (K : PySem.W.Frag) : Prop where
  s : SaysX fa fn ex K
  hd : ∀ p ∈ tf, PySem.W.codeHdIn K (He.cT K p).1 (He.cT K p).2 = true
  out : ∀ p ∈ tf, K.lookup (He.cT K p).2 = none
  empty : ∀ p ∈ tf, h.get? (He.cT K p).2 = some { cls := .none, data := .fields #[] }
theorem saysXT_of {n : Nat} {fa : List He.Fa} {fn : List He5.DefA} {ex : List ExB} {tf : List He.Defn} {h : Heap} (e : obsXT n fa fn ex tf h.get? = (He5.valA fn, true)) : SaysXT fa fn ex tf h (He.frT h.get? (He5.asA h.get? n)) := by
  have e1 : obsX fa fn ex (He.frT h.get? (He5.asA h.get? n)) = He5.valA fn := congrArg (fun z : He.AlD × Bool => z.1) e
  have e2 : He.tabsB h.get? tf (He.frT h.get? (He5.asA h.get? n)) = true := congrArg (fun z : He.AlD × Bool => z.2) e
  have key : ∀ p ∈ tf, PySem.W.codeHdIn (He.frT h.get? (He5.asA h.get? n)) (He.cT (He.frT h.get? (He5.asA h.get? n)) p).1 (He.cT (He.frT h.get? (He5.asA h.get? n)) p).2 = true ∧ ∃ o, h.get? (He.cT (He.frT h.get? (He5.asA h.get? n)) p).2 = some o ∧ He.emptyTab o = true := fun p hp => by
    obtain ⟨h3, h4⟩ := He.ba (List.all_eq_true.mp e2 p hp)
    refine ⟨h3, ?_⟩
    cases q : h.get? (He.cT (He.frT h.get? (He5.asA h.get? n)) p).2 with
    | none =>
      rw [q] at h4
      cases h4
    | some o =>
      rw [q] at h4
      exact ⟨o, rfl, h4⟩
  exact ⟨e1, fun p hp => (key p hp).1, fun p hp => by
    obtain ⟨_, o, q, z⟩ := key p hp
    exact He.frT_none q z, fun p hp => by
    obtain ⟨_, o, q, z⟩ := key p hp
    rw [q, He.emptyTab_eq z]⟩
def hookXT (n : Nat) (fa : List He.Fa) (fn : List He5.DefA) (ex : List ExB) (tf : List He.Defn) : PySem.W.Hook where
  α := He.AlD × Bool
  obs := fun s => obsXT n fa fn ex tf s.heap.get?
  val := fun _ => (He5.valA fn, true)
  says := fun _ h => ∃ K : PySem.W.Frag, K.In h ∧ SaysXT fa fn ex tf h K
  of := fun _ _ e => ⟨_, He.frT_in, saysXT_of e⟩
  keeps := fun _ _ _ ⟨K, hK, c⟩ k => ⟨K, PySem.W.Frag.In.keeps hK k, ⟨c.s, c.hd, c.out, fun p hp => k _ _ (c.empty p hp)⟩⟩
theorem obsXT_eq {n : Nat} {fa : List He.Fa} {fn : List He5.DefA} {ex : List ExB} {tf : List He.Defn} {g : Addr → Option Obj} {s : Shared} (h : ∀ a, g a = s.heap.get? a) : obsXT n fa fn ex tf g = (hookXT n fa fn ex tf).obs s := by
  have e : g = s.heap.get? := funext h
  rw [e] <;> rfl
/-- a def whose code object is told -/
theorem FunD.okC {CX : CXT} {P : Program} {w : World} {K : PySem.W.Frag} {mg : Str → Option Value} {base : Heap} {x qual : Str} {params : Arguments} {body : List Stmt} {scope : Scope} {dvs : List V} {kws : List (Str × V)} {f : Addr} {fd : FuncData} {N ps : List Str} {k : Nat} {sp : Sp} {p : He.Defn}
    (F : FunD K x qual params body scope dvs kws f fd) (hp : He.fAd K p = f) (S : FnScope N ps scope) (len : ∀ vs H Q E, sp vs H Q E → vs.length = ps.length)
    (hbody : ∀ (A : Around) (outer : List Env) (s : Shared) (H : Hp) (vs : List V) (Q : VK) (E : XK), Room k (A.deeper (envOfC qual scope s.heap.objs.size f (.ref (He.codeOf K p)))) → sp vs H Q E →
      ∃ t, PSs (cxOf CX P w K mg base N qual scope f (.ref (He.codeOf K p)) A outer s H E) body t ∧ t { nx := fun _ H' => Q .non H', rt := Q } (start N vs) H) : FnOk P w K mg base CX (k + 1) f fd ps sp := by
  obtain ⟨oc, od, dV, kV, doc, pm, an, cdv, ct, osl, rfl, lk, hcd, _, _⟩ := F.ex
  obtain ⟨c, ec⟩ := He.codeIn_ref hcd
  have e : He.codeOf K p = c := He.codeOf_eq (by rw [hp]; exact lk) ec
  subst ec
  subst e
  exact fn_of lk hcd S len fun A outer s H vs Q E hr hsp => hbody A outer s H vs Q E hr hsp
end L3
/-! L3xe: an own exception's __init__: super().__init__(e), then fields -/
namespace L3
open PySem PySem.Spec PyProof.Rows L2
theorem FunS.bindsN {K : PySem.W.Frag} {x qual : Str} {params : Arguments} {body : List Stmt} {scope : Scope} {file : Str} {D f : Addr} {fd : FuncData} {ps : List Str} (F : FunS K x qual params body scope file D f fd)
    (h : ∀ (cc : Addr) (kV doc pm : Value) (an : Option Addr) (cdv ct : Value) (us : List Value), us.length = ps.length → bindArgs (PySem.W.fnX x qual params body scope [("__class__", cc)] .none kV doc pm an cdv ct) ⟨us, []⟩ = pure (ps.zip us)) : Binds K fd ps [] := by
  obtain ⟨oc, od, kV, doc, pm, an, cda, cc, ct, osl, rfl, _⟩ := F.ex
  exact .all (h cc kV doc pm an (.ref cda) ct)
section
variable {P : Program} {w : World} {K : PySem.W.Frag} {mg : Str → Option Value} {base : Heap} {k : Nat} {x qual : Str} {params : Arguments} {rest : List Stmt} {scope : Scope} {file : Str} {D f f2 C : Addr} {fd : FuncData} {N ps : List Str} {sn : Str} {ar : Arg} {e : Expr} {p0 p1 p2 p3 p4 : Pos} {mk mk2 : MkV} {ta : TA} {tr : TS} {B newId initId : String} {bm : List Value}
theorem exi_bas (F : FunS K x qual params (.Expr (.Call (.Attribute (.Call (.Name "super" p0) [] [] p1) "__init__" p2) [e] [] p3) p4 :: rest) scope file D f fd) (Sc : FnScopeS N ps scope) (pf : PrgF P file) (hsup : mg "super" = none) (hps : ps[0]? = some sn) (har : (params.posonlyargs ++ params.args).head? = some ar) (hsn : ar.arg = sn) (hb : Binds K fd ps [])
    (T : ExC K B newId initId bm C) (Nx : NxtI K C D (.builtin initId)) (hB : PySem.W.subIn K (.ref C) (.type B) = some true) (len : ∀ ws fs, mk ws = some fs → ws.length + 1 = ps.length)
    (hcall : ∀ (L : Addr) (cd : Value) (cc : Addr), eval (.Call (.Attribute (.Call (.Name "super" p0) [] [] p1) "__init__" p2) [e] [] p3) (envS qual scope L f cd cc) = (do
      let ov ← attributeBase (.Call (.Name "super" p0) [] [] p1) "__init__" (envS qual scope L f cd cc) (eval (.Call (.Name "super" p0) [] [] p1) (envS qual scope L f cd cc))
      standAt p2.atName
      let (f', first) ← holding [ov] (getMethod ov "__init__" (plO (.Call (.Name "super" p0) [] [] p1) (envS qual scope L f cd cc)))
      callWith p3 f' first (backTo p3 (starEach [e] (envS qual scope L f cd cc))) []))
    (hS : ∀ (L : Addr) (cd : Value) (cc : Addr), starEach [e] (envS qual scope L f cd cc) = (false, eval e (envS qual scope L f cd cc)) :: starEach [] (envS qual scope L f cd cc)) (hsw : ∀ (L : Addr) (cd : Value) (cc : Addr), swapsWith (.Call (.Attribute (.Call (.Name "super" p0) [] [] p1) "__init__" p2) [e] [] p3) none p4.line (envS qual scope L f cd cc) = pure false)
    (ha : ∀ (cd : Value) (cc : Addr) (A : Around) (outer : List Env) (s : Shared) (H : Hp) (E : XK), PA (cxS (L2.CX P w) P w K mg base N qual scope f cd cc A outer s H E) [e] ta) (hr : ∀ (cd : Value) (cc : Addr) (A : Around) (outer : List Env) (s : Shared) (H : Hp) (E : XK), PSs (cxS (L2.CX P w) P w K mg base N qual scope f cd cc A outer s H E) rest tr)
    (hmono : ∀ (σ : L2.St) {H : Hp} {Q Q' : List V → Hp → Prop}, ta σ H Q → (∀ vs H1, Q vs H1 → Q' vs H1) → ta σ H Q')
    (hta : ∀ (a : Addr) (ws : List V) (fs : List (Str × V)) (H : Hp), mk ws = some fs → ∃ y, ta (L2.start N (.ref a :: ws)) H (fun vs H1 => vs = [y] ∧ H1 = H))
    (htr : ∀ (a : Addr) (ws : List V) (fs : List (Str × V)) (H : Hp) (Dn : Ends), mk ws = some fs → H a = some (exo a C none) → (∀ dx, H dx = none → dx ≠ a → Dn.nx (L2.start N (.ref a :: ws)) (upd (upd H dx (exd dx fs)) a (exo a C (some dx)))) → tr Dn (L2.start N (.ref a :: ws)) H)
    (h0 : ∀ (a : Addr) (ws : List V), (L2.start N (.ref a :: ws))[0]? = some (some (V.ref a)) := by intro _ _; rfl) :
    FnR P w K mg base (L2.CX P w) (k + 1) f (spX (fun c => c = C) mk) := by
  have G : FnOk P w K mg base (L2.CX P w) (k + 1) f fd ps (spX (fun c => c = C) mk) := by
    refine fn_ofS F Sc pf hsup hps har hsn (fun vs H Q E ⟨a, C', ws, fs, e1, _, _, hm, _⟩ => ?_) fun cd cc A outer s s1 H vs Q E hroom U ⟨a, C', ws, fs, e1, e2, hA, hm, hq⟩ I => ?_
    · rw [e1]
      exact len ws fs hm
    · subst e1
      have e2' := e2.symm
      subst e2'
      obtain ⟨y, hy⟩ := hta a ws fs H hm
      refine ks_wpAt_execs_cons ?_
      refine ks_wpAt_mono (sup_bas (K2 := fun H2 => H2 = H) U T Nx hB (ha cd cc A outer s H E) I (h0 a ws) hA (hcall _ cd cc) (hS _ cd cc) rfl (hsw _ cd cc) (hmono _ hy fun vs H1 ⟨z1, z2⟩ => by subst z1 z2; exact ⟨by show 1 ≤ 1000; decide, hA, rfl⟩)) (fun fl s' hfl => ?_) fun _ _ z => z
      obtain ⟨e3, H2, I2, e4⟩ := hfl
      subst e3 e4
      exact wpAt_of_wpAny ((hr cd cc A outer s H2 E).run [] s' _ H2 _ I2 (htr a ws fs H2 _ hm hA fun dx n1 n2 => hq dx n1 n2))
  have z := G.raw (ds := []) (dvs := []) hb .nil
  intro A outer s H us vs Q E hr e0 r hs
  exact z A outer s H us vs Q E hr e0 r (by show spX _ _ (vs ++ []) H Q E; rw [List.append_nil]; exact hs)
theorem exi_own (F : FunS K x qual params (.Expr (.Call (.Attribute (.Call (.Name "super" p0) [] [] p1) "__init__" p2) [e] [] p3) p4 :: rest) scope file D f fd) (Sc : FnScopeS N ps scope) (pf : PrgF P file) (hsup : mg "super" = none) (hps : ps[0]? = some sn) (har : (params.posonlyargs ++ params.args).head? = some ar) (hsn : ar.arg = sn) (hb : Binds K fd ps [])
    (Nx : NxtI K C D (.ref f2)) (ht : PySem.W.typeIn K (.ref f2) = some (.type "function")) (hfn : PySem.W.fnIn K f2 = true) (G2 : FnR P w K mg base (L2.CX P w) k f2 (spX (fun c => c = C) mk2)) (len : ∀ ws fs, mk ws = some fs → ws.length + 1 = ps.length)
    (hcall : ∀ (L : Addr) (cd : Value) (cc : Addr), eval (.Call (.Attribute (.Call (.Name "super" p0) [] [] p1) "__init__" p2) [e] [] p3) (envS qual scope L f cd cc) = (do
      let ov ← attributeBase (.Call (.Name "super" p0) [] [] p1) "__init__" (envS qual scope L f cd cc) (eval (.Call (.Name "super" p0) [] [] p1) (envS qual scope L f cd cc))
      standAt p2.atName
      let (f', first) ← holding [ov] (getMethod ov "__init__" (plO (.Call (.Name "super" p0) [] [] p1) (envS qual scope L f cd cc)))
      callWith p3 f' first (backTo p3 (starEach [e] (envS qual scope L f cd cc))) []))
    (hS : ∀ (L : Addr) (cd : Value) (cc : Addr), starEach [e] (envS qual scope L f cd cc) = (false, eval e (envS qual scope L f cd cc)) :: starEach [] (envS qual scope L f cd cc)) (hsw : ∀ (L : Addr) (cd : Value) (cc : Addr), swapsWith (.Call (.Attribute (.Call (.Name "super" p0) [] [] p1) "__init__" p2) [e] [] p3) none p4.line (envS qual scope L f cd cc) = pure false)
    (ha : ∀ (cd : Value) (cc : Addr) (A : Around) (outer : List Env) (s : Shared) (H : Hp) (E : XK), PA (cxS (L2.CX P w) P w K mg base N qual scope f cd cc A outer s H E) [e] ta) (hr : ∀ (cd : Value) (cc : Addr) (A : Around) (outer : List Env) (s : Shared) (H : Hp) (E : XK), PSs (cxS (L2.CX P w) P w K mg base N qual scope f cd cc A outer s H E) rest tr)
    (hmono : ∀ (σ : L2.St) {H : Hp} {Q Q' : List V → Hp → Prop}, ta σ H Q → (∀ vs H1, Q vs H1 → Q' vs H1) → ta σ H Q')
    (hta : ∀ (a : Addr) (ws : List V) (fs : List (Str × V)) (H : Hp), mk ws = some fs → ∃ y, ta (L2.start N (.ref a :: ws)) H (fun vs H1 => vs = [y] ∧ H1 = H) ∧ ∃ fs0, mk2 [y] = some fs0 ∧
      ∀ (dx : Addr) (Dn : Ends), H dx = none → dx ≠ a → Dn.nx (L2.start N (.ref a :: ws)) (upd (upd H dx (exd dx fs)) a (exo a C (some dx))) → tr Dn (L2.start N (.ref a :: ws)) (upd (upd H dx (exd dx fs0)) a (exo a C (some dx))))
    (h0 : ∀ (a : Addr) (ws : List V), (L2.start N (.ref a :: ws))[0]? = some (some (V.ref a)) := by intro _ _; rfl) :
    FnR P w K mg base (L2.CX P w) (k + 1) f (spX (fun c => c = C) mk) := by
  have G : FnOk P w K mg base (L2.CX P w) (k + 1) f fd ps (spX (fun c => c = C) mk) := by
    refine fn_ofS F Sc pf hsup hps har hsn (fun vs H Q E ⟨a, C', ws, fs, e1, _, _, hm, _⟩ => ?_) fun cd cc A outer s s1 H vs Q E hroom U ⟨a, C', ws, fs, e1, e2, hA, hm, hq⟩ I => ?_
    · rw [e1]
      exact len ws fs hm
    · subst e1
      have e2' := e2.symm
      subst e2'
      obtain ⟨y, hy, fs0, hm2, htr⟩ := hta a ws fs H hm
      refine ks_wpAt_execs_cons ?_
      refine ks_wpAt_mono (sup_own (K2 := fun H2 => ∃ dx, H dx = none ∧ dx ≠ a ∧ H2 = upd (upd H dx (exd dx fs0)) a (exo a C (some dx))) U Nx ht hfn G2 hroom (ha cd cc A outer s H E) I (h0 a ws) hA (hcall _ cd cc) (hS _ cd cc) rfl (hsw _ cd cc) (hmono _ hy fun vs H1 ⟨z1, z2⟩ => by
        subst z1 z2
        exact ⟨a, C, [y], fs0, rfl, rfl, hA, hm2, fun dx n1 n2 => ⟨dx, n1, n2, rfl⟩⟩)) (fun fl s' hfl => ?_) fun _ _ z => z
      obtain ⟨e3, H2, I2, dx, n1, n2, e4⟩ := hfl
      subst e3 e4
      exact wpAt_of_wpAny ((hr cd cc A outer s H E).run [] s' _ _ _ I2 (htr dx _ n1 n2 (hq dx n1 n2)))
  have z := G.raw (ds := []) (dvs := []) hb .nil
  intro A outer s H us vs Q E hr e0 r hs
  exact z A outer s H us vs Q E hr e0 r (by show spX _ _ (vs ++ []) H Q E; rw [List.append_nil]; exact hs)
end
end L3
/-! L3xs: the head with defs that close over __class__ -/
namespace L3
open PySem PySem.Spec PyProof.Rows L2
/-- one such def: D its class -/
structure DefS where
  at_ : PySem.W.Frag → Addr
  cls : PySem.W.Frag → Addr
  file : Str
  name : Str
  qual : Str
  params : Arguments
  body : List Stmt
  scope : Scope
def fnS (K : PySem.W.Frag) (a : Addr) : He.FnW := match K.lookup a with
  | some ⟨_, _, .func fd, _⟩ => (match fd.closure with
    | [(n, _)] => if n = ("__class__" : Str) then some (fd.name, fd.qualname, fd.params, fd.body, fd.scope, fd.globals, [], fd.builtins) else none
    | _ => none)
  | _ => none
def DefS.val (d : DefS) : He.FnW := some (d.name, d.qual, d.params, .stmts d.body, d.scope, mainGlobals, [], builtinsNs)
def fileB (K : PySem.W.Frag) (file : Str) : Value → Bool
  | .ref cda => (match K.lookup cda with
    | some ⟨_, _, .fields vs, _⟩ => (match (vs[2]? : Option Value) with
      | some (Value.str x _) => decide (x = file)
      | _ => false)
    | _ => false)
  | _ => false
def cellB (K : PySem.W.Frag) (D : Addr) : List (Str × Addr) → Bool
  | [(_, cc)] => (match K.lookup cc with
    | some ⟨_, _, .cell (some (.ref d)), _⟩ => decide (d = D)
    | _ => false)
  | _ => false
def noneB : Value → Bool
  | .none => true
  | _ => false
def DefS.ok (K : PySem.W.Frag) (d : DefS) : Bool := PySem.W.keepIn K (.ref (d.at_ K)) && ((PySem.W.clsIn K (d.cls K)).isSome && (match K.lookup (d.at_ K) with
  | some ⟨_, _, .func fd, _⟩ => PySem.W.codeIn K fd.code d.qual && (fileB K d.file fd.code && (cellB K (d.cls K) fd.closure && noneB fd.defaults))
  | _ => false))
theorem DefS.funS {K : PySem.W.Frag} {d : DefS} (e : fnS K (d.at_ K) = d.val) (c : d.ok K = true) : ∃ fd, FunS K d.name d.qual d.params d.body d.scope d.file (d.cls K) (d.at_ K) fd := by
  obtain ⟨kp, c⟩ := He.ba c
  obtain ⟨kc, c2⟩ := He.ba c
  unfold fnS at e
  cases q : K.lookup (d.at_ K) with
  | none =>
    rw [q] at c2
    cases c2
  | some o =>
    obtain ⟨oc, od, dt, osl⟩ := o
    rw [q] at c2 e
    cases dt with
    | func fd =>
      obtain ⟨h1, c3⟩ := He.ba c2
      obtain ⟨h2, c4⟩ := He.ba c3
      obtain ⟨h3, h4⟩ := He.ba c4
      obtain ⟨nm, qn, pr, bd, sc, gl, cl, df, kd, dc, pm, an, cd, ct, bn⟩ := fd
      dsimp only at h1 h2 h3 h4 e
      have hdf : df = .none := by
        cases df <;> first | rfl | cases h4
      subst hdf
      cases cl with
      | nil => cases e
      | cons p r =>
        cases r with
        | cons _ _ => obtain ⟨n, cc⟩ := p; cases e
        | nil =>
          obtain ⟨n, cc⟩ := p
          dsimp only at e
          by_cases hn : n = ("__class__" : Str)
          · rw [if_pos hn] at e
            have e2 := Option.some.inj e
            injection e2 with e3 e2
            injection e2 with e4 e2
            injection e2 with e5 e2
            injection e2 with e6 e2
            injection e2 with e7 e2
            injection e2 with e8 e2
            injection e2 with e9 e10
            subst hn
            cases cd with
            | ref cda =>
              unfold fileB at h2
              dsimp only at h2
              cases q2 : K.lookup cda with
              | none => rw [q2] at h2; cases h2
              | some o2 =>
                obtain ⟨c1, cdd, dt2, cs⟩ := o2
                rw [q2] at h2
                cases dt2 with
                | fields vs =>
                  dsimp only at h2
                  cases q3 : vs[2]? with
                  | none => rw [q3] at h2; cases h2
                  | some y =>
                    rw [q3] at h2
                    cases y with
                    | str z tf =>
                      have hz : z = d.file := of_decide_eq_true h2
                      subst hz
                      unfold cellB at h3
                      dsimp only at h3
                      cases q4 : K.lookup cc with
                      | none => rw [q4] at h3; cases h3
                      | some o4 =>
                        obtain ⟨l1, l2, l3, l4⟩ := o4
                        rw [q4] at h3
                        cases l3 with
                        | cell v =>
                          cases v with
                          | none => cases h3
                          | some v =>
                            cases v with
                            | ref dd =>
                              have hdd : dd = d.cls K := of_decide_eq_true h3
                              subst hdd
                              refine ⟨_, ⟨⟨oc, od, kd, dc, pm, an, cda, cc, ct, osl, ?_, q, h1, ⟨c1, cdd, vs, cs, tf, q2, q3⟩, l1, l2, l4, q4⟩, Option.isSome_iff_exists.mp kc, kp⟩⟩
                              subst e3 e4 e5 e6 e7 e8 e10
                              rfl
                            | _ => cases h3
                        | _ => cases h3
                    | _ => cases h2
                | _ => cases h2
            | _ => cases h2
          · rw [if_neg hn] at e
            cases e
    | _ => cases c2
/-! ### the hook -/
abbrev AlU : Type := (He.AlD × List He.FnW) × Bool
def obsXU (n : Nat) (fa : List He.Fa) (fn : List He5.DefA) (fs : List DefS) (ex : List ExB) (tf : List He.Defn) (g : Addr → Option Obj) : AlU :=
  ((obsX fa fn ex (He.frT g (He5.asA g n)), fs.map fun d => fnS (He.frT g (He5.asA g n)) (d.at_ (He.frT g (He5.asA g n)))), (fs.all fun d => d.ok (He.frT g (He5.asA g n))) && He.tabsB g tf (He.frT g (He5.asA g n)))
def valXU (fn : List He5.DefA) (fs : List DefS) : AlU := ((He5.valA fn, fs.map DefS.val), true)
structure SaysXU (fa : List He.Fa) (fn : List He5.DefA) (fs : List DefS) (ex : List ExB) (tf : List He.Defn) (h : Heap) (K : PySem.W.Frag) : Prop where
  s : SaysX fa fn ex K
  sf : (fs.map fun d => fnS K (d.at_ K)) = fs.map DefS.val
  so : (fs.all fun d => d.ok K) = true
  hd : ∀ p ∈ tf, PySem.W.codeHdIn K (He.cT K p).1 (He.cT K p).2 = true
  out : ∀ p ∈ tf, K.lookup (He.cT K p).2 = none
  empty : ∀ p ∈ tf, h.get? (He.cT K p).2 = some { cls := .none, data := .fields #[] }
theorem saysXU_of {n : Nat} {fa : List He.Fa} {fn : List He5.DefA} {fs : List DefS} {ex : List ExB} {tf : List He.Defn} {h : Heap} (e : obsXU n fa fn fs ex tf h.get? = valXU fn fs) : SaysXU fa fn fs ex tf h (He.frT h.get? (He5.asA h.get? n)) := by
  have e1 : obsX fa fn ex (He.frT h.get? (He5.asA h.get? n)) = He5.valA fn := congrArg (fun z : AlU => z.1.1) e
  have e2 : ((fs.all fun d => d.ok (He.frT h.get? (He5.asA h.get? n))) && He.tabsB h.get? tf (He.frT h.get? (He5.asA h.get? n))) = true := congrArg (fun z : AlU => z.2) e
  have e3 : (fs.map fun d => fnS (He.frT h.get? (He5.asA h.get? n)) (d.at_ (He.frT h.get? (He5.asA h.get? n)))) = fs.map DefS.val := congrArg (fun z : AlU => z.1.2) e
  obtain ⟨e4, e5⟩ := He.ba e2
  have t := saysXT_of (fa := fa) (fn := fn) (ex := ex) (tf := tf) (n := n) (h := h) (by unfold obsXT; rw [e1, e5])
  exact ⟨e1, e3, e4, t.hd, t.out, t.empty⟩
def hookXU (n : Nat) (fa : List He.Fa) (fn : List He5.DefA) (fs : List DefS) (ex : List ExB) (tf : List He.Defn) : PySem.W.Hook where
  α := AlU
  obs := fun s => obsXU n fa fn fs ex tf s.heap.get?
  val := fun _ => valXU fn fs
  says := fun _ h => ∃ K : PySem.W.Frag, K.In h ∧ SaysXU fa fn fs ex tf h K
  of := fun _ _ e => ⟨_, He.frT_in, saysXU_of e⟩
  keeps := fun _ _ _ ⟨K, hK, c⟩ k => ⟨K, PySem.W.Frag.In.keeps hK k, ⟨c.s, c.sf, c.so, c.hd, c.out, fun p hp => k _ _ (c.empty p hp)⟩⟩
theorem obsXU_eq {n : Nat} {fa : List He.Fa} {fn : List He5.DefA} {fs : List DefS} {ex : List ExB} {tf : List He.Defn} {g : Addr → Option Obj} {s : Shared} (h : ∀ a, g a = s.heap.get? a) : obsXU n fa fn fs ex tf g = (hookXU n fa fn fs ex tf).obs s := by
  have e : g = s.heap.get? := funext h
  rw [e] <;> rfl
theorem SaysXU.def_s {fa : List He.Fa} {fn : List He5.DefA} {fs : List DefS} {ex : List ExB} {tf : List He.Defn} {h : Heap} {K : PySem.W.Frag} (c : SaysXU fa fn fs ex tf h K) (i : Nat) {d : DefS} (e : fs[i]? = some d := by rfl) :
    ∃ fd, FunS K d.name d.qual d.params d.body d.scope d.file (d.cls K) (d.at_ K) fd := by
  have h1 : (fs.map fun d => fnS K (d.at_ K))[i]? = (fs.map DefS.val)[i]? := by rw [c.sf]
  rw [List.getElem?_map, List.getElem?_map, e] at h1
  exact DefS.funS (Option.some.inj h1) (List.all_eq_true.mp c.so d (List.mem_of_getElem? e))
end L3
/-! L3zf: a lambda as a value of its maker (D.lam), turned to D.clo where it is handed on -/
namespace LamX
open PySem PySem.Spec PyProof.Rows L2
section
variable {X : Cx} {pins : List (Addr × Obj)} {σ : L2.St} {H : Hp} {s : Shared}
theorem lam_make4 {T : List (Addr × Str)} {c P : Addr} {params : Arguments} {body : Expr} {scope : Scope} {pos : Pos} {E : Value → Shared → Prop} {Q : Value → Shared → Prop} (I : Inv X pins σ H s) (TB : TabB X.base X.mg c P) (hcode : X.env.code = .ref c)
    (hm : (P, X.env.qual ++ "<lambda>") ∈ T) (hu : ∀ p ∈ T, p.1 = P → p.2 = X.env.qual ++ "<lambda>") (hT : Tabs T H) (hdef : defaultsOf params X.env = ([], [])) (hfree : ∀ y ∈ scope.names, y.2 = .free → ∃ c, X.env.cells.lookup y.1 = some c)
    (h : ∀ (f c' : Addr) (pm ctv : Value) (H1 : Hp) (s' : Shared), Inv X pins σ (upd H1 f (.frz (PySem.W.kla_obj "<lambda>" (X.env.qual ++ "<lambda>") params body scope (cloFrom X.env.cells scope.names []) pm c' ctv) (.ext fun _ => True))) s' → ExtN H H1 → Tabs T H1 →
      s'.heap.get? f = some (PySem.W.kla_obj "<lambda>" (X.env.qual ++ "<lambda>") params body scope (cloFrom X.env.cells scope.names []) pm c' ctv) → H1 f = none → f ∉ frs X.stack → H1 c' = some (CodeO c' (X.env.qual ++ "<lambda>")) → (∀ b o, b ≠ P → H b = some o → H1 b = some o) → X.base.get? f = none → Q (.ref f) s') :
    wpAny (model X.prog X.w) X.A (eval (.Lambda params body scope pos) X.env) Q E s := by
  obtain ⟨ps, hP, ht, ha⟩ := hT _ hm
  refine PySem.W.kla_eval hdef ?_
  have bP : s.heap.BuiltinsAt X.mg P := TB.bm.keeps I.bk
  have hP' : s.heap.get? P = some { cls := .none, data := .fields ps } := I.hok P _ hP
  have nofr : ∀ f, s.heap.objs.size ≤ f → f ∉ frs X.stack := fun f hf z => by
    rcases List.mem_cons.mp (I.stkSub _ z) with e | e
    · have h1 := I.lt
      rw [← e] at h1
      exact Nat.lt_irrefl _ (Nat.lt_of_lt_of_le h1 hf)
    · exact I.nofs hf e
  have nob : ∀ f, s.heap.objs.size ≤ f → X.base.get? f = none := fun f hf => by
    cases z : X.base.get? f with
    | none => rfl
    | some o => exact absurd (Nat.lt_of_lt_of_le (Heap.lt_size (I.bk f o z)) hf) (Nat.lt_irrefl _)
  cases hc : codeAmong pos ps.toList with
  | none =>
    refine PySem.W.kla_makeFunction (mg := X.mg) (c := c) (P := P) (ps := ps) (closure_ok hfree) I.ok.glob (I.mod.glob.keeps I.bk) hcode (TB.code.keeps I.bk) hP' ht hc TB.gP bP fun c' ctv h' tk hx hge hlt hrec htb => ?_
    obtain ⟨c2, oc, vs, t, e2, hoc, hd, hv⟩ := hrec
    cases e2
    have hsz : s.heap.objs.size ≤ h'.objs.size := Nat.le_trans hge (Nat.le_of_lt hlt)
    have nC : H c' = none := I.hok.fresh hge
    have I1 := inv_table (t' := tk) (more := #[rawInt pos.line, rawInt pos.col, .ref c']) (h' := h') I hP (fun b o hb e => hx b o hb e) htb hge ⟨oc, vs, t, hoc, hd, hv⟩
    have I2 := I1.laid (t' := tk) (h' := h'.push (PySem.W.kla_obj "<lambda>" (X.env.qual ++ "<lambda>") params body scope (cloFrom X.env.cells scope.names []) ((X.mg "__name__").getD .none) c' ctv)) (a := h'.objs.size) (o := .frz (PySem.W.kla_obj "<lambda>" (X.env.qual ++ "<lambda>") params body scope (cloFrom X.env.cells scope.names []) ((X.mg "__name__").getD .none) c' ctv) (.ext fun _ => True)) (fun b u e => Heap.get?_push_of_some _ e) (Nat.le_refl _) ⟨Heap.get?_push_size _ rfl, trivial, ⟨_, Heap.get?_push_size _ rfl⟩, fun _ _ _ _ => trivial⟩
    have hE : ExtN H (upd (upd H P (.tbl (ps ++ #[rawInt pos.line, rawInt pos.col, .ref c']))) c' (CodeO c' (X.env.qual ++ "<lambda>"))) := fun b o e n => by
      rw [upd_ne (ne_of_none e nC), upd_ne (fun z => n ps (Option.some.inj (e.symm.trans (by rw [z]; exact hP))))]
      exact e
    have eL : (ps ++ #[rawInt pos.line, rawInt pos.col, .ref c']).toList = ps.toList ++ [rawInt pos.line, rawInt pos.col, .ref c'] := by simp
    refine h h'.objs.size c' ((X.mg "__name__").getD .none) ctv _ _ I2 hE (fun p hp => ?_) (Heap.get?_push_size _ rfl) ?_ (nofr _ hsz) upd_same (fun b o hb e => by rw [upd_ne (ne_of_none e nC), upd_ne hb]; exact e) (nob _ hsz)
    · by_cases hb : p.1 = P
      · rw [hu p hp hb, hb]
        refine ⟨_, by rw [upd_ne (ne_of_none hP nC), upd_same], by rw [eL]; exact PySem.TriplesOk_snoc _ _ _ _ ht, fun p' cv hcv => ?_⟩
        rw [eL] at hcv
        rcases among_app _ ht hcv with z | z
        · obtain ⟨c0, e1, e2⟩ := ha p' cv z
          exact ⟨c0, e1, hE _ _ e2 codeO_ne⟩
        · exact ⟨c', z, upd_same⟩
      · obtain ⟨ps', a1, a2, a3⟩ := hT p hp
        refine ⟨ps', by rw [upd_ne (ne_of_none a1 nC), upd_ne hb]; exact a1, a2, fun p' cv hcv => ?_⟩
        obtain ⟨c0, e1, e2⟩ := a3 p' cv hcv
        exact ⟨c0, e1, hE _ _ e2 codeO_ne⟩
    · have n1 : h'.objs.size ≠ c' := Nat.ne_of_gt hlt
      have n2 : h'.objs.size ≠ P := Nat.ne_of_gt (Nat.lt_of_lt_of_le (Heap.lt_size hP') hsz)
      rw [upd_ne n1, upd_ne n2]
      exact I.hok.fresh hsz
  | some cv =>
    obtain ⟨c', e, hco⟩ := ha pos cv hc
    subst e
    refine PySem.W.kla_makeFunctionHit (mg := X.mg) (c := c) (P := P) (ps := ps) (closure_ok hfree) I.ok.glob (I.mod.glob.keeps I.bk) hcode (TB.code.keeps I.bk) hP' ht hc bP fun ctv h' tk hx hsz => ?_
    have I1 : Inv X pins σ H { s with heap := h', toks := tk } := I.kept fun b o e => hx b o e
    have I2 := I1.laid (t' := tk) (h' := h'.push (PySem.W.kla_obj "<lambda>" (X.env.qual ++ "<lambda>") params body scope (cloFrom X.env.cells scope.names []) ((X.mg "__name__").getD .none) c' ctv)) (a := h'.objs.size) (o := .frz (PySem.W.kla_obj "<lambda>" (X.env.qual ++ "<lambda>") params body scope (cloFrom X.env.cells scope.names []) ((X.mg "__name__").getD .none) c' ctv) (.ext fun _ => True)) (fun b u e => Heap.get?_push_of_some _ e) (Nat.le_refl _) ⟨Heap.get?_push_size _ rfl, trivial, ⟨_, Heap.get?_push_size _ rfl⟩, fun _ _ _ _ => trivial⟩
    exact h h'.objs.size c' ((X.mg "__name__").getD .none) ctv H _ I2 (ExtN.refl H) hT (Heap.get?_push_size _ rfl) (I.hok.fresh hsz) (nofr _ hsz) hco (fun b o _ e => e) (nob _ hsz)
theorem lam_tail5 {T : List (Addr × Str)} {c P : Addr} {params : Arguments} {body : Expr} {scope : Scope} {pos : Pos} {E : Value → Shared → Prop} {Q : Value → Shared → Prop} {dV : Value} (I : Inv X pins σ H s) (TB : TabB X.base X.mg c P) (hcode : X.env.code = .ref c)
    (hm : (P, X.env.qual ++ "<lambda>") ∈ T) (hu : ∀ p ∈ T, p.1 = P → p.2 = X.env.qual ++ "<lambda>") (hT : Tabs T H) (hfree : ∀ y ∈ scope.names, y.2 = .free → ∃ c, X.env.cells.lookup y.1 = some c)
    (h : ∀ (f c' : Addr) (pm ctv doc : Value) (H1 : Hp) (s' : Shared), Inv X pins σ (upd H1 f (.frz (PySem.W.kdv_obj "<lambda>" (X.env.qual ++ "<lambda>") params (.expr body) scope (cloFrom X.env.cells scope.names []) dV doc pm c' ctv) (.ext fun _ => True))) s' → ExtN H H1 → Tabs T H1 →
      s'.heap.get? f = some (PySem.W.kdv_obj "<lambda>" (X.env.qual ++ "<lambda>") params (.expr body) scope (cloFrom X.env.cells scope.names []) dV doc pm c' ctv) → H1 f = none → f ∉ frs X.stack → H1 c' = some (CodeO c' (X.env.qual ++ "<lambda>")) → (∀ b o, b ≠ P → H b = some o → H1 b = some o) → X.base.get? f = none → Q (.ref f) s') :
    wpAny (model X.prog X.w) X.A (makeTail "<lambda>" (X.env.qual ++ "<lambda>") params (.expr body) scope X.env dV .none none pos pos.line) Q E s := by
  obtain ⟨ps, hP, ht, ha⟩ := hT _ hm
  have bP : s.heap.BuiltinsAt X.mg P := TB.bm.keeps I.bk
  have hP' : s.heap.get? P = some { cls := .none, data := .fields ps } := I.hok P _ hP
  have nofr : ∀ f, s.heap.objs.size ≤ f → f ∉ frs X.stack := fun f hf z => by
    rcases List.mem_cons.mp (I.stkSub _ z) with e | e
    · have h1 := I.lt
      rw [← e] at h1
      exact Nat.lt_irrefl _ (Nat.lt_of_lt_of_le h1 hf)
    · exact I.nofs hf e
  have nob : ∀ f, s.heap.objs.size ≤ f → X.base.get? f = none := fun f hf => by
    cases z : X.base.get? f with
    | none => rfl
    | some o => exact absurd (Nat.lt_of_lt_of_le (Heap.lt_size (I.bk f o z)) hf) (Nat.lt_irrefl _)
  cases hc : codeAmong pos ps.toList with
  | none =>
    refine PySem.W.kdv_makeTail (mg := X.mg) (c := c) (P := P) (ps := ps) (closure_ok hfree) I.ok.glob (I.mod.glob.keeps I.bk) hcode (TB.code.keeps I.bk) hP' ht hc TB.gP bP fun c' ctv doc h' tk hx hge hlt hrec htb => ?_
    obtain ⟨c2, oc, vs, t, e2, hoc, hd, hv⟩ := hrec
    cases e2
    have hsz : s.heap.objs.size ≤ h'.objs.size := Nat.le_trans hge (Nat.le_of_lt hlt)
    have nC : H c' = none := I.hok.fresh hge
    have I1 := inv_table (t' := tk) (more := #[rawInt pos.line, rawInt pos.col, .ref c']) (h' := h') I hP (fun b o hb e => hx b o hb e) htb hge ⟨oc, vs, t, hoc, hd, hv⟩
    have I2 := I1.laid (t' := tk) (h' := h'.push (PySem.W.kdv_obj "<lambda>" (X.env.qual ++ "<lambda>") params (.expr body) scope (cloFrom X.env.cells scope.names []) dV doc ((X.mg "__name__").getD .none) c' ctv)) (a := h'.objs.size) (o := .frz (PySem.W.kdv_obj "<lambda>" (X.env.qual ++ "<lambda>") params (.expr body) scope (cloFrom X.env.cells scope.names []) dV doc ((X.mg "__name__").getD .none) c' ctv) (.ext fun _ => True)) (fun b u e => Heap.get?_push_of_some _ e) (Nat.le_refl _) ⟨Heap.get?_push_size _ rfl, trivial, ⟨_, Heap.get?_push_size _ rfl⟩, fun _ _ _ _ => trivial⟩
    have hE : ExtN H (upd (upd H P (.tbl (ps ++ #[rawInt pos.line, rawInt pos.col, .ref c']))) c' (CodeO c' (X.env.qual ++ "<lambda>"))) := fun b o e n => by
      rw [upd_ne (ne_of_none e nC), upd_ne (fun z => n ps (Option.some.inj (e.symm.trans (by rw [z]; exact hP))))]
      exact e
    have eL : (ps ++ #[rawInt pos.line, rawInt pos.col, .ref c']).toList = ps.toList ++ [rawInt pos.line, rawInt pos.col, .ref c'] := by simp
    refine h h'.objs.size c' ((X.mg "__name__").getD .none) ctv doc _ _ I2 hE (fun p hp => ?_) (Heap.get?_push_size _ rfl) ?_ (nofr _ hsz) upd_same (fun b o hb e => by rw [upd_ne (ne_of_none e nC), upd_ne hb]; exact e) (nob _ hsz)
    · by_cases hb : p.1 = P
      · rw [hu p hp hb, hb]
        refine ⟨_, by rw [upd_ne (ne_of_none hP nC), upd_same], by rw [eL]; exact PySem.TriplesOk_snoc _ _ _ _ ht, fun p' cv hcv => ?_⟩
        rw [eL] at hcv
        rcases among_app _ ht hcv with z | z
        · obtain ⟨c0, e1, e2⟩ := ha p' cv z
          exact ⟨c0, e1, hE _ _ e2 codeO_ne⟩
        · exact ⟨c', z, upd_same⟩
      · obtain ⟨ps', a1, a2, a3⟩ := hT p hp
        refine ⟨ps', by rw [upd_ne (ne_of_none a1 nC), upd_ne hb]; exact a1, a2, fun p' cv hcv => ?_⟩
        obtain ⟨c0, e1, e2⟩ := a3 p' cv hcv
        exact ⟨c0, e1, hE _ _ e2 codeO_ne⟩
    · have n1 : h'.objs.size ≠ c' := Nat.ne_of_gt hlt
      have n2 : h'.objs.size ≠ P := Nat.ne_of_gt (Nat.lt_of_lt_of_le (Heap.lt_size hP') hsz)
      rw [upd_ne n1, upd_ne n2]
      exact I.hok.fresh hsz
  | some cv =>
    obtain ⟨c', e, hco⟩ := ha pos cv hc
    subst e
    refine PySem.W.kdv_makeTailHit (mg := X.mg) (c := c) (P := P) (ps := ps) (closure_ok hfree) I.ok.glob (I.mod.glob.keeps I.bk) hcode (TB.code.keeps I.bk) hP' ht hc bP fun ctv doc h' tk hx hsz => ?_
    have I1 : Inv X pins σ H { s with heap := h', toks := tk } := I.kept fun b o e => hx b o e
    have I2 := I1.laid (t' := tk) (h' := h'.push (PySem.W.kdv_obj "<lambda>" (X.env.qual ++ "<lambda>") params (.expr body) scope (cloFrom X.env.cells scope.names []) dV doc ((X.mg "__name__").getD .none) c' ctv)) (a := h'.objs.size) (o := .frz (PySem.W.kdv_obj "<lambda>" (X.env.qual ++ "<lambda>") params (.expr body) scope (cloFrom X.env.cells scope.names []) dV doc ((X.mg "__name__").getD .none) c' ctv) (.ext fun _ => True)) (fun b u e => Heap.get?_push_of_some _ e) (Nat.le_refl _) ⟨Heap.get?_push_size _ rfl, trivial, ⟨_, Heap.get?_push_size _ rfl⟩, fun _ _ _ _ => trivial⟩
    exact h h'.objs.size c' ((X.mg "__name__").getD .none) ctv doc H _ I2 (ExtN.refl H) hT (Heap.get?_push_size _ rfl) (I.hok.fresh hsz) (nofr _ hsz) hco (fun b o _ e => e) (nob _ hsz)
/-- .. with one default -/
theorem lam_make5 {T : List (Addr × Str)} {c P : Addr} {params : Arguments} {body e : Expr} {scope : Scope} {pos : Pos} {E : Value → Shared → Prop} {Q : Value → Shared → Prop} (I : Inv X pins σ H s) (TB : TabB X.base X.mg c P) (hcode : X.env.code = .ref c)
    (hm : (P, X.env.qual ++ "<lambda>") ∈ T) (hu : ∀ p ∈ T, p.1 = P → p.2 = X.env.qual ++ "<lambda>") (hT : Tabs T H) (hd : params.defaults = [e]) (hk : params.kw_defaults = []) (hfree : ∀ y ∈ scope.names, y.2 = .free → ∃ c, X.env.cells.lookup y.1 = some c)
    (he : ∀ Q' : Value → Shared → Prop, (∀ u t', Q' u { s with toks := t' }) → wpAny (model X.prog X.w) X.A (eval e X.env) Q' E s)
    (h : ∀ (u : Value) (t f c' : Addr) (pm ctv doc : Value) (H1 : Hp) (s' : Shared), H t = none → Inv X pins σ (upd H1 f (.frz (PySem.W.kdv_obj "<lambda>" (X.env.qual ++ "<lambda>") params (.expr body) scope (cloFrom X.env.cells scope.names []) (.ref t) doc pm c' ctv) (.ext fun _ => True))) s' → ExtN (upd H t (.frz (PySem.W.kdv_tup [u]) (.ext fun _ => True))) H1 → Tabs T H1 →
      H1 f = none → H1 c' = some (CodeO c' (X.env.qual ++ "<lambda>")) → (∀ b o, b ≠ P → (upd H t (.frz (PySem.W.kdv_tup [u]) (.ext fun _ => True))) b = some o → H1 b = some o) → Q (.ref f) s') :
    wpAny (model X.prog X.w) X.A (eval (.Lambda params body scope pos) X.env) Q E s := by
  refine PySem.W.kdv_lam (by rw [hd]; rfl) hk ?_
  rw [hd]
  refine PySem.W.kdv_all1 (he _ fun u t' => PySem.W.kdv_all0 ?_)
  rw [makeFunction_eq]
  simp only [List.zip_nil_right, List.filterMap_nil, List.isEmpty_nil, if_true, pure_bind, List.isEmpty_cons, Bool.false_eq_true, if_false]
  refine wpAny_bind (wpAny_newTextTuple ?_)
  have I0 : Inv X pins σ H { s with toks := t' } := I.tok _
  have hn : H s.heap.objs.size = none := I.hok.fresh (Nat.le_refl _)
  have I1 : Inv X pins σ (upd H s.heap.objs.size (.frz (PySem.W.kdv_tup [u]) (.ext fun _ => True))) { s with heap := s.heap.push (PySem.W.kdv_tup [u]), toks := t' } :=
    I.laid (t' := t') (h' := s.heap.push (PySem.W.kdv_tup [u])) (a := s.heap.objs.size) (o := .frz (PySem.W.kdv_tup [u]) (.ext fun _ => True)) (fun b o e => Heap.get?_push_of_some _ e) (Nat.le_refl _) ⟨Heap.get?_push_size _ rfl, trivial, ⟨_, Heap.get?_push_size _ rfl⟩, fun _ _ _ _ => trivial⟩
  have hT1 : Tabs T (upd H s.heap.objs.size (.frz (PySem.W.kdv_tup [u]) (.ext fun _ => True))) := fun p hp => by
    obtain ⟨ps, a1, a2, a3⟩ := hT p hp
    refine ⟨ps, by rw [upd_ne (ne_of_none a1 hn)]; exact a1, a2, fun p' cv hcv => ?_⟩
    obtain ⟨c0, e1, e2⟩ := a3 p' cv hcv
    exact ⟨c0, e1, by rw [upd_ne (ne_of_none e2 hn)]; exact e2⟩
  exact lam_tail5 I1 TB hcode hm hu hT1 hfree fun f c' pm ctv doc H1 s' J eN T1 _ hf _ hco kp _ => h u s.heap.objs.size f c' pm ctv doc H1 s' hn J eN T1 hf hco kp
end
end LamX
namespace L3
open PySem PySem.Spec PyProof.Rows L2
section
variable {X : Cx} {W : WX} {pos : Pos} {T : List (Addr × Str)}
/-- lambda: .. ; cells: the maker's -/
def TLam (T : List (Addr × Str)) (L : LamC) (cl : List (Str × Addr)) : TD := fun c _ φ => WdT T c.wd ∧ φ (.lam L cl)
theorem de_lam {c P : Addr} {params : Arguments} {body : Expr} {scope : Scope} (TB : LamX.TabB X.base X.mg c P) (hcode : X.env.code = .ref c) (hm : (P, X.env.qual ++ "<lambda>") ∈ T) (hu : ∀ p ∈ T, p.1 = P → p.2 = X.env.qual ++ "<lambda>") (LS : lamSB2 X.env.scope scope = true) (hdef : defaultsOf params X.env = ([], [])) :
    DE X W (.Lambda params body scope pos) (TLam T ⟨X.env.qual ++ "<lambda>", params, body, scope⟩ (cloFrom X.env.cells scope.names [])) := by
  have LS := lamS2_by LS
  refine ⟨fun pins s σ H Q I ⟨S, R, env, φ, lk, ok, ⟨wt, hφ⟩, hQ⟩ => ?_⟩
  refine LamX.lam_make4 I TB hcode hm hu (wt.tabs H ok.bas.inv) hdef (LS.has I.ok) fun f c' pm' ctv H1 s' I1 eN T1 hf hfH hfr hco kept hfb => ?_
  have hfoot : ∀ {b : Addr}, S.c.wd.foot b → b ≠ c' := fun {b} hb e => by
    subst e
    exact wt.noext H1 _ _ (wt.pres H H1 ok.bas.inv eN T1) hb hco
  have kp : ∀ b o, H b = some o → ¬ S.c.wd.foot b → H1 b = some o := fun b o e n => kept b o (fun z => n (by rw [z]; exact wt.foot _ hm)) e
  have f1 : Fin S.c.wd R H (upd R c' (LamX.CodeO c' (X.env.qual ++ "<lambda>"))) H1 := by
    refine ⟨fun b o e => ?_, fun b o e => ?_, kp, fun b o h1 h2 h3 => ?_, wt.pres H H1 ok.bas.inv eN T1, fun b hb => ?_⟩
    · by_cases hb : b = c'
      · subst hb
        have h2 := kp b o (ok.bas.sub _ _ e) (fun z => hfoot z rfl)
        rw [hco] at h2
        rw [upd_same]
        exact h2
      · rw [upd_ne hb]; exact e
    · by_cases hb : b = c'
      · subst hb
        rw [upd_same] at e
        rw [hco]; exact e
      · rw [upd_ne hb] at e
        exact kp b o (ok.bas.sub _ _ e) fun z => by
          have := ok.bas.ft b z
          rw [e] at this
          cases this
    · by_cases hb : b = c'
      · subst hb
        have h4 := kp b o h2 (fun z => hfoot z rfl)
        rw [hco] at h4
        exact absurd (Option.some.inj h4).symm (h3 _)
      · rw [upd_ne hb]; exact h1
    · rw [upd_ne (hfoot hb)]
      exact ok.bas.ft b hb
  have ok1 := ok.through f1
  have f2 := Fin.alloc (o := .frz (PySem.W.kla_obj "<lambda>" (X.env.qual ++ "<lambda>") params body scope (cloFrom X.env.cells scope.names []) pm' c' ctv) (.ext fun _ => True)) ok1.bas hfH
  refine ⟨.ref f, _, I1, rfl, hQ _ _ ⟨_, .lam ⟨X.env.qual ++ "<lambda>", params, body, scope⟩ (cloFrom X.env.cells scope.names []), f1.trans f2, ⟨f, rfl, c', pm', ctv, .none, .none, _, upd_same, fun P w H h z => z.1, f2.up _ _ upd_same, ?_, fun x y a e1 e2 => ?_, .inl ⟨defaults_nil hdef, rfl⟩⟩, hφ⟩⟩
  · rw [cloFrom_names]
    exact List.append_nil _
  · have clm : ∀ {q : Str × Addr}, q ∈ cloFrom X.env.cells scope.names [] → X.env.cells.lookup q.1 = some q.2 := fun {q} hq => by
      rcases cloFrom_mem hq with z | ⟨z1, z2⟩
      · cases z
      · obtain ⟨c1, hc⟩ := LS.has I.ok _ z1 rfl
        have hc : X.env.cells.lookup q.1 = some c1 := hc
        have z3 : q.2 = c1 := by rw [z2, hc] <;> rfl
        rw [z3]; exact hc
    exact I.ok.inj x y a (clm (PySem.mem_of_lookup e1)) (clm (PySem.mem_of_lookup e2))
/-- .. with one default, an int -/
theorem de_lamD {c P : Addr} {params : Arguments} {body : Expr} {scope : Scope} (TB : LamX.TabB X.base X.mg c P) (hcode : X.env.code = .ref c) (hm : (P, X.env.qual ++ "<lambda>") ∈ T) (hu : ∀ p ∈ T, p.1 = P → p.2 = X.env.qual ++ "<lambda>") (LS : lamSB2 X.env.scope scope = true) {n : Int} {jj : Nat} {pp : Pos} (hd : params.defaults = [.Constant (.int n) jj pp]) (hk : params.kw_defaults = []) :
    DE X W (.Lambda params body scope pos) (TLam T ⟨X.env.qual ++ "<lambda>", params, body, scope⟩ (cloFrom X.env.cells scope.names [])) := by
  have LS := lamS2_by LS
  refine ⟨fun pins s σ H Q I ⟨S, R, env, φ, lk, ok, ⟨wt, hφ⟩, hQ⟩ => ?_⟩
  refine LamX.lam_make5 I TB hcode hm hu (wt.tabs H ok.bas.inv) hd hk (LS.has I.ok) (fun Q' k => wpAny_Constant_int (k _ _)) fun u t f c' pm' ctv doc H1 s' hn I1 eN T1 hfH hco kept => ?_
  have fa := Fin.alloc (o := .frz (PySem.W.kdv_tup [u]) (.ext fun _ => True)) ok.bas hn
  have hRt : upd R t (.frz (PySem.W.kdv_tup [u]) (.ext fun _ => True)) t = some (.frz (PySem.W.kdv_tup [u]) (.ext fun _ => True)) := upd_same
  have ok0 := ok.through fa
  generalize upd R t (.frz (PySem.W.kdv_tup [u]) (.ext fun _ => True)) = R0 at fa hRt ok0
  generalize upd H t (.frz (PySem.W.kdv_tup [u]) (.ext fun _ => True)) = H0 at fa ok0 eN kept
  have hfoot : ∀ {b : Addr}, S.c.wd.foot b → b ≠ c' := fun {b} hb e => by
    subst e
    exact wt.noext H1 _ _ (wt.pres H0 H1 ok0.bas.inv eN T1) hb hco
  have kp : ∀ b o, H0 b = some o → ¬ S.c.wd.foot b → H1 b = some o := fun b o e n => kept b o (fun z => n (by rw [z]; exact wt.foot _ hm)) e
  have f1 : Fin S.c.wd R0 H0 (upd R0 c' (LamX.CodeO c' (X.env.qual ++ "<lambda>"))) H1 := by
    refine ⟨fun b o e => ?_, fun b o e => ?_, kp, fun b o h1 h2 h3 => ?_, wt.pres H0 H1 ok0.bas.inv eN T1, fun b hb => ?_⟩
    · by_cases hb : b = c'
      · subst hb
        have h2 := kp b o (ok0.bas.sub _ _ e) (fun z => hfoot z rfl)
        rw [hco] at h2
        rw [upd_same]
        exact h2
      · rw [upd_ne hb]; exact e
    · by_cases hb : b = c'
      · subst hb
        rw [upd_same] at e
        rw [hco]; exact e
      · rw [upd_ne hb] at e
        exact kp b o (ok0.bas.sub _ _ e) fun z => by
          have := ok0.bas.ft b z
          rw [e] at this
          cases this
    · by_cases hb : b = c'
      · subst hb
        have h4 := kp b o h2 (fun z => hfoot z rfl)
        rw [hco] at h4
        exact absurd (Option.some.inj h4).symm (h3 _)
      · rw [upd_ne hb]; exact h1
    · rw [upd_ne (hfoot hb)]
      exact ok0.bas.ft b hb
  have ok1 := ok0.through f1
  have f2 := Fin.alloc (o := .frz (PySem.W.kdv_obj "<lambda>" (X.env.qual ++ "<lambda>") params (.expr body) scope (cloFrom X.env.cells scope.names []) (.ref t) doc pm' c' ctv) (.ext fun _ => True)) ok1.bas hfH
  refine ⟨.ref f, _, I1, rfl, hQ _ _ ⟨_, .lam ⟨X.env.qual ++ "<lambda>", params, body, scope⟩ (cloFrom X.env.cells scope.names []), fa.trans (f1.trans f2), ⟨f, rfl, c', pm', ctv, .ref t, doc, _, upd_same, fun P w H h z => z.1, f2.up _ _ upd_same, ?_, fun x y a e1 e2 => ?_, .inr ⟨by rw [hd]; simp, t, u, rfl, (f1.trans f2).up _ _ hRt⟩⟩, hφ⟩⟩
  · rw [cloFrom_names]
    exact List.append_nil _
  · have clm : ∀ {q : Str × Addr}, q ∈ cloFrom X.env.cells scope.names [] → X.env.cells.lookup q.1 = some q.2 := fun {q} hq => by
      rcases cloFrom_mem hq with z | ⟨z1, z2⟩
      · cases z
      · obtain ⟨c1, hc⟩ := LS.has I.ok _ z1 rfl
        have hc : X.env.cells.lookup q.1 = some c1 := hc
        have z3 : q.2 = c1 := by rw [z2, hc] <;> rfl
        rw [z3]; exact hc
    exact I.ok.inj x y a (clm (PySem.mem_of_lookup e1)) (clm (PySem.mem_of_lookup e2))
end
/-! ### handed on -/
structure Mkr where
  N : List Str
  cells : List (Str × Addr)
  scope : Scope
  fn : Str → Bool
abbrev mkrOf (X : Cx) : Mkr := ⟨X.N, X.env.cells, X.env.scope, X.fn⟩
mutual
def CloD (M : Mkr) (env : Ev) : D → D → Prop
  | .lam L cl, e => ∃ vals ix, e = .clo L vals ∧ cl = cloFrom M.cells L.scope.names [] ∧ lamSB2 M.scope L.scope = true ∧ (lamN L.scope).all M.fn = true ∧ ix.map (M.N[·]?) = (lamN L.scope).map some ∧ slD env ix vals ∧ plainDs vals = true
  | .lst ds, e => ∃ es, e = .lst es ∧ CloDs M env ds es
  | d, e => plainD d = true ∧ e = d
def CloDs (M : Mkr) (env : Ev) : List D → List D → Prop
  | [], es => es = []
  | d :: r, es => ∃ e t, es = e :: t ∧ CloD M env d e ∧ CloDs M env r t
end
def Held (X : Cx) (H : Hp) (s : Shared) (l : List (Addr × Obj)) : Prop := ∀ b o, l.lookup b = some o → s.heap.get? b = some o ∧ H b = none ∧ X.base.get? b = none ∧ b ∉ frs X.stack
theorem look_app {l l' : List (Addr × Obj)} {b : Addr} {o : Obj} (h : (l ++ l').lookup b = some o) : l.lookup b = some o ∨ l'.lookup b = some o := by
  induction l with
  | nil => exact .inr h
  | cons p r ih =>
    obtain ⟨a, x⟩ := p
    rw [List.cons_append, List.lookup_cons] at h
    rw [List.lookup_cons]
    cases e : (b == a) with
    | true => rw [e] at h; exact .inl h
    | false => rw [e] at h; exact ih h
theorem look_app1 {l l' : List (Addr × Obj)} {b : Addr} {o : Obj} (h : l.lookup b = some o) : (l ++ l').lookup b = some o := by
  induction l with
  | nil => cases h
  | cons p r ih =>
    obtain ⟨a, x⟩ := p
    rw [List.lookup_cons] at h
    rw [List.cons_append, List.lookup_cons]
    cases e : (b == a) with
    | true => rw [e] at h; exact h
    | false => rw [e] at h; exact ih h
theorem look_app2 {l l' : List (Addr × Obj)} {b : Addr} (h : ∃ o, l'.lookup b = some o) : ∃ o, (l ++ l').lookup b = some o := by
  induction l with
  | nil => exact h
  | cons p r ih =>
    obtain ⟨a, x⟩ := p
    rw [List.cons_append, List.lookup_cons]
    cases e : (b == a) with
    | true => exact ⟨x, rfl⟩
    | false => exact ih
theorem Held.app {X : Cx} {H : Hp} {s : Shared} {l l' : List (Addr × Obj)} (h : Held X H s l) (h' : Held X H s l') : Held X H s (l ++ l') := fun b o e => (look_app e).elim (h b o) (h' b o)
theorem Held.sub2 {X : Cx} {H : Hp} {s : Shared} {l l' : List (Addr × Obj)} (h : Held X H s l) (h' : Held X H s l') {b : Addr} {o : Obj} (e : l'.lookup b = some o) : (l ++ l').lookup b = some o := by
  obtain ⟨o2, e2⟩ := look_app2 (l := l) ⟨o, e⟩
  have h1 := (h.app h' b o2 e2).1
  rw [(h' b o e).1] at h1
  rw [e2, Option.some.inj h1]
section
variable {X : Cx} {pins : List (Addr × Obj)} {σ : L2.St} {H : Hp} {s : Shared} {S : Sta} {R : Hp} {env : Ev}
mutual
theorem clo_rep (I : L2.Inv X pins σ H s) (ok : Ok3 X.K S R H σ env) : ∀ {d e : D} {v : V}, CloD (mkrOf X) env d e → Rep X.K R d v → ∃ l, Held X H s l ∧ ∀ l' : List (Addr × Obj), (∀ b o, l.lookup b = some o → l'.lookup b = some o) → (∀ b o, l'.lookup b = some o → H b = none) → Rep X.K (trk l' R) e v
  | .lam L cl, e, v, ⟨vals, ix, e1, e2, hS, hfn, hix, hs, hp⟩, r => by
    subst e1 e2
    obtain ⟨f, ev, la⟩ := (show ∃ f, v = .ref f ∧ LamAt R L (cloFrom X.env.cells L.scope.names []) f from r)
    have LS := lamS2_by hS
    have names : (cloFrom X.env.cells L.scope.names []).map (·.1) = lamN L.scope := by
      rw [cloFrom_names]
      exact List.append_nil _
    have clm : ∀ q ∈ cloFrom X.env.cells L.scope.names [], X.env.cells.lookup q.1 = some q.2 ∧ (X.env.scope.names.lookup q.1 = some .cell ∨ X.env.scope.names.lookup q.1 = some .free) ∧ X.fn q.1 = true := fun q hq => by
      have hN : q.1 ∈ lamN L.scope := by rw [← names]; exact List.mem_map.mpr ⟨q, hq, rfl⟩
      rcases cloFrom_mem hq with z | ⟨z1, z2⟩
      · cases z
      · obtain ⟨c1, hc⟩ := LS.has I.ok _ z1 rfl
        have hc : X.env.cells.lookup q.1 = some c1 := hc
        have z3 : q.2 = c1 := by rw [z2, hc] <;> rfl
        exact ⟨by rw [z3]; exact hc, LS.free _ z1 rfl, List.all_eq_true.mp hfn _ hN⟩
    obtain ⟨l, us, h1, h2, h3⟩ := cells_take I ok clm (by rw [hix, ← names, List.map_map]; rfl) hs
    refine ⟨l, h1, fun l' hl tn => ?_⟩
    have sm := same_trk ok.bas tn
    exact ⟨f, _, us, ev, la.mono sm, h2 l' hl, h3.mono sm⟩
  | .lst ds, e, v, ⟨es, e1, hc⟩, r => by
    subst e1
    obtain ⟨p, xs, ev, hp, hr⟩ := rep_lst r
    obtain ⟨l, h1, h2⟩ := clos_rep I ok hc hr
    refine ⟨l, h1, fun l' hl tn => ⟨p, xs, ev, same_trk ok.bas tn _ _ hp, h2 l' hl tn⟩⟩
  | .non, e, v, ⟨_, e1⟩, r => by subst e1; exact ⟨[], fun _ _ z => (by cases z), fun l' _ tn => Rep.mono (same_trk ok.bas tn) r⟩
  | .bl _, e, v, ⟨_, e1⟩, r => by subst e1; exact ⟨[], fun _ _ z => (by cases z), fun l' _ tn => Rep.mono (same_trk ok.bas tn) r⟩
  | .int _, e, v, ⟨_, e1⟩, r => by subst e1; exact ⟨[], fun _ _ z => (by cases z), fun l' _ tn => Rep.mono (same_trk ok.bas tn) r⟩
  | .str _, e, v, ⟨_, e1⟩, r => by subst e1; exact ⟨[], fun _ _ z => (by cases z), fun l' _ tn => Rep.mono (same_trk ok.bas tn) r⟩
  | .ty _, e, v, ⟨_, e1⟩, r => by subst e1; exact ⟨[], fun _ _ z => (by cases z), fun l' _ tn => Rep.mono (same_trk ok.bas tn) r⟩
  | .ref _, e, v, ⟨_, e1⟩, r => by subst e1; exact ⟨[], fun _ _ z => (by cases z), fun l' _ tn => Rep.mono (same_trk ok.bas tn) r⟩
  | .tup _, e, v, ⟨_, e1⟩, r => by subst e1; exact ⟨[], fun _ _ z => (by cases z), fun l' _ tn => Rep.mono (same_trk ok.bas tn) r⟩
  | .ins _ _, e, v, ⟨_, e1⟩, r => by subst e1; exact ⟨[], fun _ _ z => (by cases z), fun l' _ tn => Rep.mono (same_trk ok.bas tn) r⟩
  | .exc _ _, e, v, ⟨_, e1⟩, r => by subst e1; exact ⟨[], fun _ _ z => (by cases z), fun l' _ tn => Rep.mono (same_trk ok.bas tn) r⟩
  | .clo _ _, e, v, ⟨_, e1⟩, r => by subst e1; exact ⟨[], fun _ _ z => (by cases z), fun l' _ tn => Rep.mono (same_trk ok.bas tn) r⟩
  | .dic _, e, v, ⟨_, e1⟩, r => by subst e1; exact ⟨[], fun _ _ z => (by cases z), fun l' _ tn => Rep.mono (same_trk ok.bas tn) r⟩
theorem clos_rep (I : L2.Inv X pins σ H s) (ok : Ok3 X.K S R H σ env) : ∀ {ds es : List D} {vs : List V}, CloDs (mkrOf X) env ds es → Reps X.K R ds vs → ∃ l, Held X H s l ∧ ∀ l' : List (Addr × Obj), (∀ b o, l.lookup b = some o → l'.lookup b = some o) → (∀ b o, l'.lookup b = some o → H b = none) → Reps X.K (trk l' R) es vs
  | [], es, vs, h, r => by
    have e : es = [] := h
    subst e
    exact ⟨[], fun _ _ z => (by cases z), fun _ _ _ => r⟩
  | d :: ds, es, vs, h, r => by
    obtain ⟨e, t, e1, c1, c2⟩ := h
    subst e1
    obtain ⟨v, u, ev, r1, r2⟩ := (show ∃ v r, vs = v :: r ∧ Rep X.K R d v ∧ Reps X.K R ds r from r)
    obtain ⟨l1, a1, b1⟩ := clo_rep I ok c1 r1
    obtain ⟨l2, a2, b2⟩ := clos_rep I ok c2 r2
    exact ⟨l1 ++ l2, a1.app a2, fun l' hl tn => ⟨v, u, ev, b1 l' (fun b o z => hl b o (look_app1 z)) tn, b2 l' (fun b o z => hl b o (a1.sub2 a2 z)) tn⟩⟩
end
end
section
variable {X : Cx} {W : WX} {pos p0 : Pos} {e : Expr} {es : List Expr} {U : TL} {F : TF} {k : Nat} {f : Addr} {x : Str}
def TCallClo (M : Mkr) (F : TF) (U : TL) : TD := fun c env φ => U c env fun ds => ∃ es, CloDs M env ds es ∧ F c.wd es (fun d => plainD d = true ∧ φ d) fun _ => False
theorem de_callClo (G : Fn3 X.prog X.w X.K X.mg X.base k f F) (hr : Room k X.A) (hG : Gl X x) (hM : X.mg x = some (.ref f)) (hK : PySem.W.keepIn X.K (.ref f) = true) (ha : DA X W (e :: es) U)
    (hD : (x == ("__debug__" : Str)) = false := by decide) (he : starEach (e :: es) X.env = (false, eval e X.env) :: starEach es X.env := by rfl) (hpl : (backTo pos (starEach es X.env)).any (·.1) = false := by rfl) :
    DE X W (.Call (.Name x p0) (e :: es) [] pos) (TCallClo (mkrOf X) F U) := by
  refine ⟨fun pins s σ H Q I ⟨S, R, env, φ, lk, ok, hU, hQ⟩ => ?_⟩
  refine wpAny_Call_Name_kw (ld_glob I hG hM ?_ hD)
  refine PySem.W.callWith_K (h₀ := X.base) I.ok.mod.kin hK (thn (ha.run pos pins s σ H (fun vs H1 => ∃ R1 ds, Fin S.c.wd R H R1 H1 ∧ Reps X.K R1 ds vs ∧ ∃ es, CloDs (mkrOf X) env ds es ∧ F S.c.wd es (fun d => plainD d = true ∧ φ d) fun _ => False) I ⟨S, R, env, _, lk, ok, hU, fun v H' ⟨R', d, f', r, q⟩ => ⟨R', d, f', r, q⟩⟩) fun us s1 ⟨vs, H1, I1, r1, R1, ds, f1, rr, es', hc, hF⟩ => ⟨I1.kIn, ?_⟩) he hpl
  have ok1 := ok.through f1
  obtain ⟨l, hl, hrep⟩ := clos_rep I1 ok1 hc rr
  have tn : ∀ b o, l.lookup b = some o → H1 b = none := fun b o z => (hl b o z).2.1
  exact call_atX G hr I1 ⟨hl⟩ r1 (spW_askX (W := W) ok1 tn (hrep l (fun _ _ z => z) tn) hF fun v H' z => hQ v H' (Pst.from f1 z))
end
end L3
/-! L3zg: own exceptions made and raised while another one is handled; made without arguments -/
namespace L3
open PySem PySem.Spec PyProof.Rows L2
/-- a def, whatever is handled -/
def FnRC (P : Program) (w : World) (K : PySem.W.Frag) (mg : Str → Option Value) (base : Heap) (CX : CXT) (k : Nat) (f : Addr) (sp : Sp) : Prop :=
  ∀ (A : Around) (outer : List Env) (s : Shared) (H : Hp) (us : List Value) (vs : List V) (Q : VK) (E : XK), L2H.RoomH k A → Env0 P w K mg base A outer s H → Vals vs us → sp vs H Q E → codeAny (model P w) A (.call (.ref f) ⟨us, []⟩) (CR CX outer P w H s Q E) s
theorem FnRC.mono {P : Program} {w : World} {K : PySem.W.Frag} {mg : Str → Option Value} {base : Heap} {CX : CXT} {j k : Nat} {f : Addr} {sp : Sp} (F : FnRC P w K mg base CX j f sp) (h : j ≤ k) : FnRC P w K mg base CX k f sp := fun A outer s H us vs Q E hr => F A outer s H us vs Q E (hr.mono h)
theorem FnRC.raw {P : Program} {w : World} {K : PySem.W.Frag} {mg : Str → Option Value} {base : Heap} {CX : CXT} {k : Nat} {f : Addr} {sp : Sp} (F : FnRC P w K mg base CX k f sp) : FnR P w K mg base CX k f sp := fun A outer s H us vs Q E hr => F A outer s H us vs Q E (L2H.roomH_of hr)
structure FnOkC (P : Program) (w : World) (K : PySem.W.Frag) (mg : Str → Option Value) (base : Heap) (CX : CXT) (k : Nat) (f : Addr) (fd : FuncData) (ps : List Str) (sp : Sp) : Prop where
  len : ∀ vs H Q E, sp vs H Q E → vs.length = ps.length
  run : ∀ (A : Around) (outer : List Env) (s : Shared) (H : Hp) (args : Args) (us : List Value) (vs : List V) (Q : VK) (E : XK), L2H.RoomH k A → Env0 P w K mg base A outer s H → BindsTo s fd args (ps.zip us) → Vals vs us → sp vs H Q E →
    codeAny (model P w) A (.call (.ref f) args) (CR CX outer P w H s Q E) s
theorem FnOkC.raw {P : Program} {w : World} {K : PySem.W.Frag} {mg : Str → Option Value} {base : Heap} {CX : CXT} {k : Nat} {f : Addr} {fd : FuncData} {ps : List Str} {sp : Sp} (F : FnOkC P w K mg base CX k f fd ps sp) (hb : Binds K fd ps []) : FnRC P w K mg base CX k f sp := by
  intro A outer s H us vs Q E hr e0 r hs
  have hl : (us ++ []).length = ps.length := by rw [List.append_nil, ← r.length]; exact F.len _ _ _ _ hs
  have b := hb s us (e0.mod.kin.keeps fun b o e => (e0.bs b o e).1) hl
  rw [List.append_nil] at b
  exact F.run A outer s H ⟨us, []⟩ us vs Q E hr e0 b r hs
def cxSC (CX : CXT) (P : Program) (w : World) (K : PySem.W.Frag) (mg : Str → Option Value) (base : Heap) (N : List Str) (qual : Str) (scope : Scope) (f : Addr) (cd : Value) (cc : Addr) (A : Around) (outer : List Env) (s : Shared) (H : Hp) (E : XK) : Cx where
  prog := P
  w := w
  K := K
  mg := mg
  base := base
  A := A.deeper (envS qual scope s.heap.objs.size f cd cc)
  N := N
  s_0 := s
  H_0 := H
  env := envS qual scope s.heap.objs.size f cd cc
  outer := outer
  stack := envS qual scope s.heap.objs.size f cd cc :: outer
  ex := []
  calm := false
  fn := fun x => !(x == ("__class__" : Str))
  pn := []
  xe := fun e s' => wpAny (model P w) (A.deeper (envS qual scope s.heap.objs.size f cd cc)) (leaving (envS qual scope s.heap.objs.size f cd cc) e) (fun _ s'' => CX outer H s E e s'') (fun e' s'' => CX outer H s E e' s'') s'
theorem fn_ofSC {CX : CXT} {P : Program} {w : World} {K : PySem.W.Frag} {mg : Str → Option Value} {base : Heap} {k : Nat} {x qual : Str} {params : Arguments} {body : List Stmt} {scope : Scope} {file : Str} {D f : Addr} {fd : FuncData} {N ps : List Str} {sn : Str} {ar : Arg} {sp : Sp}
    (F : FunS K x qual params body scope file D f fd) (S : FnScopeS N ps scope) (pf : PrgF P file) (hsup : mg "super" = none) (hps : ps[0]? = some sn) (har : (params.posonlyargs ++ params.args).head? = some ar) (hsn : ar.arg = sn) (len : ∀ vs H Q E, sp vs H Q E → vs.length = ps.length)
    (hbody : ∀ (cd : Value) (cc : Addr) (A : Around) (outer : List Env) (s s1 : Shared) (H : Hp) (vs : List V) (Q : VK) (E : XK), L2H.RoomH k (A.deeper (envS qual scope s.heap.objs.size f cd cc)) → SupX (cxSC CX P w K mg base N qual scope f cd cc A outer s H E) D f sn → sp vs H Q E →
      L2.Inv (cxSC CX P w K mg base N qual scope f cd cc A outer s H E) [] (L2.start N vs) H s1 →
      _root_.PySem.wpAt (model P w) (cxSC CX P w K mg base N qual scope f cd cc A outer s H E).A (.func body (cxSC CX P w K mg base N qual scope f cd cc A outer s H E).env) (execs body (cxSC CX P w K mg base N qual scope f cd cc A outer s H E).env)
        (SP (cxSC CX P w K mg base N qual scope f cd cc A outer s H E) [] { nx := fun _ H' => Q .non H', rt := Q }) (cxSC CX P w K mg base N qual scope f cd cc A outer s H E).xe s1) :
    FnOkC P w K mg base CX (k + 1) f fd ps sp := by
  obtain ⟨oc, od, kV, doc, pm, an, cda, cc, ct, osl, rfl, lk, hcd, hcode, hcell⟩ := F.ex
  refine ⟨len, fun A outer s H args us vs Q E hr e0 hb r hsp => ?_⟩
  have hl := len _ _ _ _ hsp
  have KX : K.In s.heap := e0.mod.kin.keeps fun b o e => (e0.bs b o e).1
  have lim : s.heap.NoLimit := e0.mod.nolimit.keeps fun b o e => (e0.bs b o e).1
  have ndP : ps.Nodup := by rw [← S.pre]; exact S.nd.sublist (List.take_sublist _ _)
  have hpl : ps.length ≤ N.length := by have := congrArg List.length S.pre; rw [List.length_take] at this; omega
  have hul : us.length = ps.length := r.length.symm.trans hl
  refine ks_codeAny_call_defAt (fd := PySem.W.fnX x qual params body scope [("__class__", cc)] .none kV doc pm an (.ref cda) ct) (body := body) (binds := ps.zip us) hr.depth (KX _ _ lk) rfl lim (PySem.W.codeRec_of KX hcd) rfl hb S.nocell (fun y hy => S.par _ (List.of_mem_zip hy).1) (fun h₀ hns hk => ?_) S.co S.gen S.kind
  obtain ⟨cl, cld, csl, hcc⟩ := hcell
  obtain ⟨ccl, cdd, vs', ccs, tf, hcda, hfile⟩ := hcode
  have hccb : base.get? cc = some ⟨cl, cld, .cell (some (.ref D)), csl⟩ := e0.mod.kin _ _ hcc
  have noA : ∀ b : Addr, b ∉ (cxSC CX P w K mg base N qual scope f (.ref cda) cc A outer s H E).ex := fun b z => absurd (show b ∈ ([] : List Addr) from z) (by simp)
  have cel : ∀ y c, (cxSC CX P w K mg base N qual scope f (.ref cda) cc A outer s H E).env.cells.lookup y = some c → y = ("__class__" : Str) ∧ c = cc := fun y c h => by
    have h2 : (match y == ("__class__" : Str) with | true => some cc | false => none) = some c := h
    cases q : y == ("__class__" : Str) with
    | true =>
      rw [q] at h2
      exact ⟨eq_of_beq q, (Option.some.inj h2).symm⟩
    | false =>
      rw [q] at h2
      cases h2
  have I : L2.Inv (cxSC CX P w K mg base N qual scope f (.ref cda) cc A outer s H E) [] (L2.start N vs) H { s with heap := h₀, toks := s.toks + (ps.zip us).length } := by
    refine ⟨⟨e0.mod, S.kind, rfl, rfl, Nat.le_refl _, fun y z c h1 h2 => (cel y c h1).1.trans (cel z c h2).1.symm, fun y hy => ?_, fun y c hf h => ?_, (fun z => Bool.noConfusion (show false = true from z)), Around.frames_deeper e0.frames, .inr ⟨rfl, rfl⟩, fun b z => absurd z (noA b), e0.bs, e0.bsz, fun b _ _ => noA b, fun b z => absurd z (noA b), e0.funs, e0.frf⟩,
      rfl, e0.bare, Un.kept hk, ⟨_, hns, fun i y v h1 h2 h3 => ?_⟩, fun y c h => ?_, e0.hok.fresh (Nat.le_refl _), fun y c h => ?_, fun p hp => absurd (show p ∈ ([] : List (Addr × Obj)) from hp) (by simp), e0.hok.kept hk, ?_⟩
    · have hy : scope.names.lookup y = some .cell ∨ scope.names.lookup y = some .free := hy
      rcases hy with hy | hy
      · exact absurd rfl (S.nocell _ (PySem.mem_of_lookup hy))
      · have := S.free _ (PySem.mem_of_lookup hy) rfl
        exact ⟨cc, by rw [show y = ("__class__" : Str) from this]; rfl⟩
    · obtain ⟨e1, _⟩ := cel y c h
      subst e1
      have : (!(("__class__" : Str) == ("__class__" : Str))) = true := hf
      simp at this
    · have hi : i < vs.length := by
        unfold L2.start at h2
        by_cases hi : i < vs.length
        · exact hi
        · rw [List.getElem?_append_right (by simpa using hi)] at h2
          rw [List.getElem?_replicate] at h2
          split at h2 <;> cases h2
      have ha : vs[i]? = some v := by
        unfold L2.start at h2
        rw [List.getElem?_append_left (by simpa using hi), List.getElem?_map] at h2
        cases e : vs[i]? with
        | none => rw [e] at h2; cases h2
        | some a => rw [e] at h2; cases h2; rfl
      obtain ⟨u, hu, rv⟩ := r.get ha
      have hp : ps[i]? = some y := by
        rw [← S.pre, List.getElem?_take_of_lt (by omega)]; exact h1
      exact ⟨u, rv, .inl ⟨S.par y (List.mem_of_getElem? hp), look_rev ndP hp hu⟩⟩
    · obtain ⟨_, e2⟩ := cel y c h
      subst e2
      exact ⟨_, _, hk _ _ (KX _ _ hcc), rfl⟩
    · obtain ⟨_, e2⟩ := cel y c h
      subst e2
      exact (e0.bs _ _ hccb).2
    · unfold L2.start
      show _ = N.length
      rw [List.length_append, List.length_map, List.length_replicate]
      omega
  have U : SupX (cxSC CX P w K mg base N qual scope f (.ref cda) cc A outer s H E) D f sn := by
    refine ⟨S.kind, S.sup, S.cls, rfl, ⟨oc, od, _, osl, ar, lk, har, hsn⟩, ?_, S.par _ (List.mem_of_getElem? hps), ⟨cda, ccl, cdd, vs', ccs, file, tf, rfl, hcda, hfile, pf.file⟩, pf.sup, ⟨cc, cl, cld, csl, rfl, hcc⟩, F.cd, hsup⟩
    show N[0]? = some sn
    have : ps[0]? = N[0]? := by
      rw [← S.pre, List.getElem?_take_of_lt]
      have := (List.getElem?_eq_some_iff.mp hps).1
      omega
    rw [← this]
    exact hps
  have z := hbody (.ref cda) cc A outer s _ H vs Q E (hr.deeper _) U hsp I
  have fin : ∀ {σ' : L2.St} {H' : Hp} {v : V} {u : Value} {s' : Shared}, L2.Inv (cxSC CX P w K mg base N qual scope f (.ref cda) cc A outer s H E) [] σ' H' s' → RelV v u → Q v H' → CE outer P w H s Q u s' :=
    fun {σ' H' v u s'} J rv q => ⟨v, H', J.os, J.bare, J.base, J.hok, rv, q⟩
  refine ks_wpAt_mono z (fun fl s' hs => ?_) fun e s' hs => hs
  cases fl with
  | ret u =>
    obtain ⟨v, σ', H', J, rv, q⟩ := hs
    exact fin J rv q
  | next =>
    obtain ⟨σ', H', J, q⟩ := hs
    exact fin (v := V.non) (u := Value.none) J rfl q
  | brk =>
    obtain ⟨_, _, _, q⟩ := hs
    exact False.elim q
  | cont =>
    obtain ⟨_, _, _, q⟩ := hs
    exact False.elim q
section
variable {X : Cx} {pins : List (Addr × Obj)} {σ : L2.St} {H : Hp} {s : Shared} {a C D f f2 : Addr} {sn : Str} {body : List Stmt} {p0 p1 p2 p3 p4 : Pos} {e : Expr} {es : List Expr} {ta : TA} {k : Nat} {sp2 : Sp} {K2 : Hp → Prop}
theorem sup_ownC (U : SupX X D f sn) (N : NxtI X.K C D (.ref f2)) (ht : PySem.W.typeIn X.K (.ref f2) = some (.type "function")) (hfn : PySem.W.fnIn X.K f2 = true) (G : FnRC X.prog X.w X.K X.mg X.base (L2.CX X.prog X.w) k f2 sp2) (hr : L2H.RoomH k X.A) (ha : PA X (e :: es) ta)
    (I : L2.Inv X pins σ H s) (h0 : σ[0]? = some (some (.ref a))) (he : H a = some (exo a C none))
    (hcall : eval (.Call (.Attribute (.Call (.Name "super" p0) [] [] p1) "__init__" p2) (e :: es) [] p3) X.env = (do
      let ov ← attributeBase (.Call (.Name "super" p0) [] [] p1) "__init__" X.env (eval (.Call (.Name "super" p0) [] [] p1) X.env)
      standAt p2.atName
      let (f, first) ← holding [ov] (getMethod ov "__init__" (plO (.Call (.Name "super" p0) [] [] p1) X.env))
      callWith p3 f first (backTo p3 (starEach (e :: es) X.env)) []))
    (hS : starEach (e :: es) X.env = (false, eval e X.env) :: starEach es X.env) (hP : (backTo p3 (starEach es X.env)).any (·.1) = false) (hsw : swapsWith (.Call (.Attribute (.Call (.Name "super" p0) [] [] p1) "__init__" p2) (e :: es) [] p3) none p4.line X.env = pure false)
    (h : ta σ H fun vs H1 => sp2 (.ref a :: vs) H1 (fun _ H2 => K2 H2) (fun _ _ _ => False)) :
    _root_.PySem.wpAt (model X.prog X.w) X.A (.func body X.env) (exec (.Expr (.Call (.Attribute (.Call (.Name "super" p0) [] [] p1) "__init__" p2) (e :: es) [] p3) p4) X.env) (fun fl s' => fl = .next ∧ ∃ H2, L2.Inv X pins σ H2 s' ∧ K2 H2) X.xe s := by
  refine ks_wpAt_Expr_any ?_ (by simp [interactive, I.ok.kind]) hsw
  refine ks_wpAt_MethodCall (pl := plO (.Call (.Name "super" p0) [] [] p1) X.env) ?_ hcall
  refine super_obj U I h0 he N.mro (by decide) fun h1 k1 e1 => ?_
  have I1 := I.kept (t' := s.toks) k1
  have KX := I1.kIn
  obtain ⟨t1, ho⟩ := exo_at I1.hok he
  have J : PySem.W.InstAt h1 a { cls := .ref C, dict := none, data := .fields #[.ref t1, .none, .none, .none, .bool false, .none] } C none := ⟨ho, rfl, rfl, trivial⟩
  obtain ⟨cd, hcd, hal⟩ : ∃ cd, PySem.W.clsIn X.K C = some cd ∧ PySem.W.alongIn X.K "__init__" ((cd.mro.dropWhile (· != .ref D)).drop 1) = some (some (.ref f2)) := by
    have := N.nx
    unfold PySem.W.ks_superIn at this
    cases hc : PySem.W.clsIn X.K C with
    | none => rw [hc] at this; cases this
    | some cd => rw [hc] at this; exact ⟨cd, rfl, this⟩
  obtain ⟨of, hof, hofc⟩ : ∃ of, h1.get? f2 = some of ∧ of.cls = .type "function" := by
    have ht' : (X.K.lookup f2).map (·.cls) = some (.type "function") := ht
    cases z : X.K.lookup f2 with
    | none => rw [z] at ht'; cases ht'
    | some of => rw [z] at ht'; exact ⟨of, KX _ _ z, Option.some.inj ht'⟩
  have KX' : X.K.In h1 := KX
  have nofs := fun {b : Addr} (hb : s.heap.objs.size ≤ b) => I.nofs hb
  have hsz1 : s.heap.objs.size ≤ h1.objs.size := Nat.le_of_lt (Heap.lt_size e1)
  obtain ⟨hh, g, dr, t, os⟩ := s
  refine ks_wpAny_getMethod_super e1 (PySem.W.looks_opaque KX' N.no) (l₀ := cd.mro) (fun A Q E s k q => wpAny_bind ((PySem.W.looks_clsIn KX' hcd) A _ E s k (wpAny_pure q))) rfl KX' hal hof hofc (PySem.W.ks_ne KX' J hcd) (by decide) ?_
  have I2 : L2.Inv X ((h1.objs.size, PySem.W.methodObj (.ref f2) (.ref a)) :: pins) σ H ⟨h1.push { cls := .type "method", data := .fields #[.ref f2, .ref a] }, g, dr, t + 1, os⟩ :=
    pins_new (t' := t + 1) I (fun b o z => Heap.get?_push_of_some _ (k1 b o z)) hsz1 (Heap.get?_push_size _ rfl) (fun v z => by cases z)
  show wpAny _ _ (callWith p3 (.ref h1.objs.size) [] (backTo p3 (starEach (e :: es) X.env)) []) _ _ _
  have hrun : wpAny (model X.prog X.w) X.A (spliced (backTo p3 (starEach (e :: es) X.env))) (fun us s2 => PySem.W.MethP X.K h1.objs.size f2 (.ref a) s2.heap ∧ wpAny (model X.prog X.w) X.A (call (.ref h1.objs.size) ([] ++ us)) (fun _ s' => Flow.next = .next ∧ ∃ H2, L2.Inv X pins σ H2 s' ∧ K2 H2) X.xe s2) X.xe ⟨h1.push { cls := .type "method", data := .fields #[.ref f2, .ref a] }, g, dr, t + 1, os⟩ := by
    refine thn (ha.run p3 _ _ σ H _ I2 h) fun us s2 ⟨vs, H2, I3, rv, q⟩ => ?_
    obtain ⟨pq, _⟩ := I3.pin _ (List.mem_append_right _ List.mem_cons_self)
    refine ⟨⟨pq, I3.kIn⟩, ?_⟩
    refine wpAny_call (ks_codeAny_call_bound pq ?_)
    refine codeAny_mono (G X.A X.stack s2 H2 (.ref a :: us) (.ref a :: vs) _ _ hr I3.env0 (.cons rfl rv) q) fun res s' hres => ?_
    match res, hres with
    | .error er, hres =>
      obtain ⟨_, _, _, _, _, _, _, _, _, _, _, _, z⟩ := hres
      exact z.elim
    | .ok (.ret u), hres =>
      obtain ⟨v, H3, I4, _, q3⟩ := I3.after hres
      exact ⟨rfl, H3, I4.pins_of fun p hp => I4.pin p (List.mem_append_right _ (List.mem_cons_of_mem _ hp)), q3⟩
  rw [hS] at hrun ⊢
  exact PySem.W.callWith_of (P := PySem.W.MethP X.K h1.objs.size f2 (.ref a)) (by show ((false || (backTo p3 (starEach es X.env)).any (·.1)) || false) = false; rw [hP]; rfl) (PySem.W.keeps_M hfn) (Calls.evalArgs_plain hrun)
end
section
variable {P : Program} {w : World} {K : PySem.W.Frag} {mg : Str → Option Value} {base : Heap} {k : Nat} {x qual : Str} {params : Arguments} {rest : List Stmt} {scope : Scope} {file : Str} {D f f2 C : Addr} {fd : FuncData} {N ps : List Str} {sn : Str} {ar : Arg} {e : Expr} {p0 p1 p2 p3 p4 : Pos} {mk mk2 : MkV} {ta : TA} {tr : TS} {B newId initId : String} {bm : List Value}
theorem exi_basC (F : FunS K x qual params (.Expr (.Call (.Attribute (.Call (.Name "super" p0) [] [] p1) "__init__" p2) [e] [] p3) p4 :: rest) scope file D f fd) (Sc : FnScopeS N ps scope) (pf : PrgF P file) (hsup : mg "super" = none) (hps : ps[0]? = some sn) (har : (params.posonlyargs ++ params.args).head? = some ar) (hsn : ar.arg = sn) (hb : Binds K fd ps [])
    (T : ExC K B newId initId bm C) (Nx : NxtI K C D (.builtin initId)) (hB : PySem.W.subIn K (.ref C) (.type B) = some true) (len : ∀ ws fs, mk ws = some fs → ws.length + 1 = ps.length)
    (hcall : ∀ (L : Addr) (cd : Value) (cc : Addr), eval (.Call (.Attribute (.Call (.Name "super" p0) [] [] p1) "__init__" p2) [e] [] p3) (envS qual scope L f cd cc) = (do
      let ov ← attributeBase (.Call (.Name "super" p0) [] [] p1) "__init__" (envS qual scope L f cd cc) (eval (.Call (.Name "super" p0) [] [] p1) (envS qual scope L f cd cc))
      standAt p2.atName
      let (f', first) ← holding [ov] (getMethod ov "__init__" (plO (.Call (.Name "super" p0) [] [] p1) (envS qual scope L f cd cc)))
      callWith p3 f' first (backTo p3 (starEach [e] (envS qual scope L f cd cc))) []))
    (hS : ∀ (L : Addr) (cd : Value) (cc : Addr), starEach [e] (envS qual scope L f cd cc) = (false, eval e (envS qual scope L f cd cc)) :: starEach [] (envS qual scope L f cd cc)) (hsw : ∀ (L : Addr) (cd : Value) (cc : Addr), swapsWith (.Call (.Attribute (.Call (.Name "super" p0) [] [] p1) "__init__" p2) [e] [] p3) none p4.line (envS qual scope L f cd cc) = pure false)
    (ha : ∀ (cd : Value) (cc : Addr) (A : Around) (outer : List Env) (s : Shared) (H : Hp) (E : XK), PA (cxSC (L2.CX P w) P w K mg base N qual scope f cd cc A outer s H E) [e] ta) (hr : ∀ (cd : Value) (cc : Addr) (A : Around) (outer : List Env) (s : Shared) (H : Hp) (E : XK), PSs (cxSC (L2.CX P w) P w K mg base N qual scope f cd cc A outer s H E) rest tr)
    (hmono : ∀ (σ : L2.St) {H : Hp} {Q Q' : List V → Hp → Prop}, ta σ H Q → (∀ vs H1, Q vs H1 → Q' vs H1) → ta σ H Q')
    (hta : ∀ (a : Addr) (ws : List V) (fs : List (Str × V)) (H : Hp), mk ws = some fs → ∃ y, ta (L2.start N (.ref a :: ws)) H (fun vs H1 => vs = [y] ∧ H1 = H))
    (htr : ∀ (a : Addr) (ws : List V) (fs : List (Str × V)) (H : Hp) (Dn : Ends), mk ws = some fs → H a = some (exo a C none) → (∀ dx, H dx = none → dx ≠ a → Dn.nx (L2.start N (.ref a :: ws)) (upd (upd H dx (exd dx fs)) a (exo a C (some dx)))) → tr Dn (L2.start N (.ref a :: ws)) H)
    (h0 : ∀ (a : Addr) (ws : List V), (L2.start N (.ref a :: ws))[0]? = some (some (V.ref a)) := by intro _ _; rfl) :
    FnRC P w K mg base (L2.CX P w) (k + 1) f (spX (fun c => c = C) mk) := by
  have G : FnOkC P w K mg base (L2.CX P w) (k + 1) f fd ps (spX (fun c => c = C) mk) := by
    refine fn_ofSC F Sc pf hsup hps har hsn (fun vs H Q E ⟨a, C', ws, fs, e1, _, _, hm, _⟩ => ?_) fun cd cc A outer s s1 H vs Q E hroom U ⟨a, C', ws, fs, e1, e2, hA, hm, hq⟩ I => ?_
    · rw [e1]
      exact len ws fs hm
    · subst e1
      have e2' := e2.symm
      subst e2'
      obtain ⟨y, hy⟩ := hta a ws fs H hm
      refine ks_wpAt_execs_cons ?_
      refine ks_wpAt_mono (sup_bas (K2 := fun H2 => H2 = H) U T Nx hB (ha cd cc A outer s H E) I (h0 a ws) hA (hcall _ cd cc) (hS _ cd cc) rfl (hsw _ cd cc) (hmono _ hy fun vs H1 ⟨z1, z2⟩ => by subst z1 z2; exact ⟨by show 1 ≤ 1000; decide, hA, rfl⟩)) (fun fl s' hfl => ?_) fun _ _ z => z
      obtain ⟨e3, H2, I2, e4⟩ := hfl
      subst e3 e4
      exact wpAt_of_wpAny ((hr cd cc A outer s H2 E).run [] s' _ H2 _ I2 (htr a ws fs H2 _ hm hA fun dx n1 n2 => hq dx n1 n2))
  exact G.raw hb
theorem exi_ownC (F : FunS K x qual params (.Expr (.Call (.Attribute (.Call (.Name "super" p0) [] [] p1) "__init__" p2) [e] [] p3) p4 :: rest) scope file D f fd) (Sc : FnScopeS N ps scope) (pf : PrgF P file) (hsup : mg "super" = none) (hps : ps[0]? = some sn) (har : (params.posonlyargs ++ params.args).head? = some ar) (hsn : ar.arg = sn) (hb : Binds K fd ps [])
    (Nx : NxtI K C D (.ref f2)) (ht : PySem.W.typeIn K (.ref f2) = some (.type "function")) (hfn : PySem.W.fnIn K f2 = true) (G2 : FnRC P w K mg base (L2.CX P w) k f2 (spX (fun c => c = C) mk2)) (len : ∀ ws fs, mk ws = some fs → ws.length + 1 = ps.length)
    (hcall : ∀ (L : Addr) (cd : Value) (cc : Addr), eval (.Call (.Attribute (.Call (.Name "super" p0) [] [] p1) "__init__" p2) [e] [] p3) (envS qual scope L f cd cc) = (do
      let ov ← attributeBase (.Call (.Name "super" p0) [] [] p1) "__init__" (envS qual scope L f cd cc) (eval (.Call (.Name "super" p0) [] [] p1) (envS qual scope L f cd cc))
      standAt p2.atName
      let (f', first) ← holding [ov] (getMethod ov "__init__" (plO (.Call (.Name "super" p0) [] [] p1) (envS qual scope L f cd cc)))
      callWith p3 f' first (backTo p3 (starEach [e] (envS qual scope L f cd cc))) []))
    (hS : ∀ (L : Addr) (cd : Value) (cc : Addr), starEach [e] (envS qual scope L f cd cc) = (false, eval e (envS qual scope L f cd cc)) :: starEach [] (envS qual scope L f cd cc)) (hsw : ∀ (L : Addr) (cd : Value) (cc : Addr), swapsWith (.Call (.Attribute (.Call (.Name "super" p0) [] [] p1) "__init__" p2) [e] [] p3) none p4.line (envS qual scope L f cd cc) = pure false)
    (ha : ∀ (cd : Value) (cc : Addr) (A : Around) (outer : List Env) (s : Shared) (H : Hp) (E : XK), PA (cxSC (L2.CX P w) P w K mg base N qual scope f cd cc A outer s H E) [e] ta) (hr : ∀ (cd : Value) (cc : Addr) (A : Around) (outer : List Env) (s : Shared) (H : Hp) (E : XK), PSs (cxSC (L2.CX P w) P w K mg base N qual scope f cd cc A outer s H E) rest tr)
    (hmono : ∀ (σ : L2.St) {H : Hp} {Q Q' : List V → Hp → Prop}, ta σ H Q → (∀ vs H1, Q vs H1 → Q' vs H1) → ta σ H Q')
    (hta : ∀ (a : Addr) (ws : List V) (fs : List (Str × V)) (H : Hp), mk ws = some fs → ∃ y, ta (L2.start N (.ref a :: ws)) H (fun vs H1 => vs = [y] ∧ H1 = H) ∧ ∃ fs0, mk2 [y] = some fs0 ∧
      ∀ (dx : Addr) (Dn : Ends), H dx = none → dx ≠ a → Dn.nx (L2.start N (.ref a :: ws)) (upd (upd H dx (exd dx fs)) a (exo a C (some dx))) → tr Dn (L2.start N (.ref a :: ws)) (upd (upd H dx (exd dx fs0)) a (exo a C (some dx))))
    (h0 : ∀ (a : Addr) (ws : List V), (L2.start N (.ref a :: ws))[0]? = some (some (V.ref a)) := by intro _ _; rfl) :
    FnRC P w K mg base (L2.CX P w) (k + 1) f (spX (fun c => c = C) mk) := by
  have G : FnOkC P w K mg base (L2.CX P w) (k + 1) f fd ps (spX (fun c => c = C) mk) := by
    refine fn_ofSC F Sc pf hsup hps har hsn (fun vs H Q E ⟨a, C', ws, fs, e1, _, _, hm, _⟩ => ?_) fun cd cc A outer s s1 H vs Q E hroom U ⟨a, C', ws, fs, e1, e2, hA, hm, hq⟩ I => ?_
    · rw [e1]
      exact len ws fs hm
    · subst e1
      have e2' := e2.symm
      subst e2'
      obtain ⟨y, hy, fs0, hm2, htr⟩ := hta a ws fs H hm
      refine ks_wpAt_execs_cons ?_
      refine ks_wpAt_mono (sup_ownC (K2 := fun H2 => ∃ dx, H dx = none ∧ dx ≠ a ∧ H2 = upd (upd H dx (exd dx fs0)) a (exo a C (some dx))) U Nx ht hfn G2 hroom (ha cd cc A outer s H E) I (h0 a ws) hA (hcall _ cd cc) (hS _ cd cc) rfl (hsw _ cd cc) (hmono _ hy fun vs H1 ⟨z1, z2⟩ => by
        subst z1 z2
        exact ⟨a, C, [y], fs0, rfl, rfl, hA, hm2, fun dx n1 n2 => ⟨dx, n1, n2, rfl⟩⟩)) (fun fl s' hfl => ?_) fun _ _ z => z
      obtain ⟨e3, H2, I2, dx, n1, n2, e4⟩ := hfl
      subst e3 e4
      exact wpAt_of_wpAny ((hr cd cc A outer s H E).run [] s' _ _ _ I2 (htr dx _ n1 n2 (hq dx n1 n2)))
  exact G.raw hb
end

/-- an own exception class: what its making leaves, whatever is handled -/
structure ExcKC (P : Program) (w : World) (K : PySem.W.Frag) (mg : Str → Option Value) (base : Heap) (k : Nat) (C fI : Addr) (mk : MkV) (mkD : MkD) : Prop where
  T : ∃ B n i bm, ExC K B n i bm C
  iC : PySem.W.findIn K (.ref C) "__init__" = some (some (.ref fI))
  tI : PySem.W.typeIn K (.ref fI) = some (.type "function")
  G : FnRC P w K mg base (L2.CX P w) k fI (spX (fun c => c = C) mk)
  rel : ∀ (R : Hp) (ds : List D) (vs : List V) (fs : List (Str × D)), Reps K R ds vs → mkD ds = some fs → ∃ fvs, mk vs = some fvs ∧ RepF K R fs fvs
theorem ExcKC.mono {P : Program} {w : World} {K : PySem.W.Frag} {mg : Str → Option Value} {base : Heap} {j k : Nat} {C fI : Addr} {mk : MkV} {mkD : MkD} (h : ExcKC P w K mg base j C fI mk mkD) (q : j ≤ k) : ExcKC P w K mg base k C fI mk mkD :=
  ⟨h.T, h.iC, h.tI, FnRC.mono h.G q, h.rel⟩
theorem ExcKC.cold {P : Program} {w : World} {K : PySem.W.Frag} {mg : Str → Option Value} {base : Heap} {k : Nat} {C fI : Addr} {mk : MkV} {mkD : MkD} (h : ExcKC P w K mg base k C fI mk mkD) : ExcK P w K mg base k C fI mk mkD :=
  ⟨h.T, h.iC, h.tI, h.G.raw, h.rel⟩
section
variable {X : Cx} {W : WX} {pos p pos' : Pos} {e : Expr} {es : List Expr} {U : TL} {k : Nat} {C fI : Addr} {x : Str} {mk : MkV} {mkD : MkD} {ta : TA}
theorem mk_runC {pins : List (Addr × Obj)} {σ : L2.St} {s1 : Shared} {H1 : Hp} {Q : XK} {us : List Value} {vs : List V} {fs : List (Str × V)} (M : ExcKC X.prog X.w X.K X.mg X.base k C fI mk mkD) (hr : L2H.RoomH (k + 1) X.A) (I1 : L2.Inv X pins σ H1 s1) (r1 : Vals vs us) (hz : vs.length ≤ 1000) (hfs : mk vs = some fs)
    (q1 : ∀ d, H1 d = none → Q (.ref C) (some d) (upd H1 d (.xd fs))) :
    wpAny (model X.prog X.w) X.A (call (.ref C) us) (fun u s' => L2N.MkP X pins σ Q u s' ∧ L2H.Six u s') X.xe s1 := by
  obtain ⟨B, n, i, bmB, T⟩ := M.T
  obtain ⟨nm, q, N, bs, bm, sn, sub, ab, col, dd, k0, k1, k2, k3, k5, hC, hbm⟩ := T.cls
  obtain ⟨hp, g, dr, tk, os⟩ := s1
  have hsz : hp.objs.size ≤ hp.objs.size + 1 := Nat.le_succ _
  have hn : H1 (hp.objs.size + 1) = none := I1.hok.fresh hsz
  have kk : ∀ b o, hp.get? b = some o → ((hp.push (PySem.W.kdv_tup us)).push (PySem.HandSPX.excO C hp.objs.size)).get? b = some o := fun b o e => Heap.get?_push_of_some _ (Heap.get?_push_of_some _ e)
  have hget : ((hp.push (PySem.W.kdv_tup us)).push (PySem.HandSPX.excO C hp.objs.size)).get? (hp.objs.size + 1) = some (PySem.HandSPX.excO C hp.objs.size) := by heap_get
  have I2 : L2.Inv X pins σ (upd H1 (hp.objs.size + 1) (exo (hp.objs.size + 1) C none)) ⟨(hp.push (PySem.W.kdv_tup us)).push (PySem.HandSPX.excO C hp.objs.size), g, dr, tk, os⟩ :=
    I1.laid (t' := tk) (a := hp.objs.size + 1) (o := exo (hp.objs.size + 1) C none) (h' := (hp.push (PySem.W.kdv_tup us)).push (PySem.HandSPX.excO C hp.objs.size)) kk hsz (exo_ok hget)
  have r2 : Vals (V.ref (hp.objs.size + 1) :: vs) (Value.ref (hp.objs.size + 1) :: us) := .cons rfl r1
  have hus : us.length ≤ sizeLine := by
    rw [← Paired.length r1, sizeLine_eq]
    omega
  have hsp : spX (fun c => c = C) mk (.ref (hp.objs.size + 1) :: vs) (upd H1 (hp.objs.size + 1) (exo (hp.objs.size + 1) C none)) (fun v H2 => v = .non ∧ ∃ d, H1 d = none ∧ d ≠ hp.objs.size + 1 ∧ H2 = upd (upd (upd H1 (hp.objs.size + 1) (exo (hp.objs.size + 1) C none)) d (exd d fs)) (hp.objs.size + 1) (exo (hp.objs.size + 1) C (some d))) (fun _ _ _ => False) :=
    ⟨_, C, vs, fs, rfl, rfl, upd_same, hfs, fun dx h1 h2 => ⟨rfl, dx, by rw [upd_ne h2] at h1; exact h1, h2, rfl⟩⟩
  refine wpAny_call (PySem.HandSPX.call_own T.bs.FB (fun Y => PySem.W.excTail_contains Y bm hbm) (I1.kIn _ _ hC) (PySem.W.looks_findIn I1.kIn M.iC) (fun self => PySem.W.bind_fn I1.kIn self M.tI) hus
    (codeAny_mono (M.G _ X.stack _ _ (Value.ref (hp.objs.size + 1) :: us) (V.ref (hp.objs.size + 1) :: vs) _ _ (hr.make C us []) (I2.env0.make C us []) r2 hsp) fun r s' hq' => ?_))
  cases r with
  | error er =>
    obtain ⟨_, _, _, _, _, _, _, _, _, _, _, _, z⟩ := hq'
    exact z.elim
  | ok fl =>
    cases fl with
    | ret u =>
      obtain ⟨v, H2, os2, bare2, un2, hok2, rv, ev, d, hd1, hda, eH⟩ := hq'
      subst ev
      obtain ⟨h2, g2, d2, t2, os'⟩ := s'
      have ea : H2 (hp.objs.size + 1) = some (exo (hp.objs.size + 1) C (some d)) := by rw [eH, upd_same]
      have ed : H2 d = some (exd d fs) := by rw [eH, upd_ne hda, upd_same]
      obtain ⟨t0, G, J, kG, ge, hoe, na⟩ := mk_end0 (d2 := d2) (t2 := t2) I1 hsz kk un2 hok2 os2 bare2 ea ed hd1
      have eF : upd (del H2 (hp.objs.size + 1)) d (.xd fs) = upd H1 d (.xd fs) := by rw [eH]; exact del_back hn hda
      rw [eF] at J na
      refine ⟨rv, ⟨hp.objs.size + 1, _, _, ⟨G, g2, d2, t2, os'⟩, _, .ref C, some d, rfl, J, kG, ge, hoe, ⟨rfl, rfl, fun vs e => by cases e; rfl⟩, rfl, rfl, na, rfl, bare2, raises_own T.exC T.tyC, q1 d hd1⟩, fun a oe vs ea2 hg2 hd2 => ?_⟩
      cases ea2
      have hg3 : h2.get? (hp.objs.size + 1) = some oe := hg2
      rw [hoe] at hg3
      cases hg3
      cases hd2
      show (4 : Nat) < 6
      decide
    | next => exact False.elim hq'
    | brk => exact False.elim hq'
    | cont => exact False.elim hq'
/-- what is made, to be raised -/
theorem pmkXC (M : ExcKC X.prog X.w X.K X.mg X.base k C fI mk mkD) (hr : L2H.RoomH (k + 1) X.A) (hg : Gl X x) (hm : X.mg x = some (.ref C)) (ha : PA X (e :: es) ta)
    (hdb : (x == ("__debug__" : Str)) = false := by decide) (he : starEach (e :: es) X.env = (false, eval e X.env) :: starEach es X.env := by rfl) (hpl : (backTo pos (starEach es X.env)).any (·.1) = false := by rfl) :
    L2H.PMk5 X (.Call (.Name x p) (e :: es) [] pos) (fun σ H Q => ta σ H fun vs H1 => vs.length ≤ 1000 ∧ ∃ fs, mk vs = some fs ∧ ∀ d, H1 d = none → Q (.ref C) (some d) (upd H1 d (.xd fs))) := by
  intro pins s σ H Q I h
  obtain ⟨B, n, i, bmB, T⟩ := M.T
  refine wpAny_Call_Name_kw (ld_glob I hg hm ?_ hdb)
  refine PySem.W.callWith_K (h₀ := X.base) I.ok.mod.kin T.kC (thn (ha.run pos pins s σ H _ I h) fun us s1 ⟨vs, H1, I1, r1, hz, fs, hfs, q1⟩ => ⟨I1.kIn, ?_⟩) he hpl
  exact mk_runC M hr I1 r1 hz hfs q1
theorem pmkX0C (M : ExcKC X.prog X.w X.K X.mg X.base k C fI mk mkD) (hr : L2H.RoomH (k + 1) X.A) (hg : Gl X x) (hm : X.mg x = some (.ref C))
    (hdb : (x == ("__debug__" : Str)) = false := by decide) :
    L2H.PMk5 X (.Call (.Name x p) [] [] pos) (fun σ H Q => ∃ fs, mk [] = some fs ∧ ∀ d, H d = none → Q (.ref C) (some d) (upd H d (.xd fs))) := by
  intro pins s σ H Q I ⟨fs, hfs, q1⟩
  obtain ⟨B, n, i, bmB, T⟩ := M.T
  refine wpAny_Call_Name_kw (ld_glob I hg hm ?_ hdb)
  refine PySem.W.callWith_K0 I.kIn T.kC ?_
  exact mk_runC (us := []) (vs := []) M hr I .nil (by decide) hfs q1
theorem pmk_weak {e : Expr} {t : L2.St → Hp → XK → Prop} (h : L2H.PMk5 X e t) : L2.PMk X e t := fun pins s σ H Q I q => thn (h pins s σ H Q I q) fun u s' ⟨⟨a, oe, vs, sI, H', cls, d, e1, I1, k, n, g, z, r⟩, _⟩ => ⟨a, oe, vs, sI, H', cls, d, e1, I1, k, n, g, z.zc, r⟩
/-- raise C(e, ..), where errors without a context are wanted -/
theorem ds_raiseN (M : ExcKC X.prog X.w X.K X.mg X.base k C fI mk mkD) (hr : Room (k + 1) X.A) (hg : Gl X x) (hm : X.mg x = some (.ref C)) (tk : L2N.Takes X W) (ha : DA X W (e :: es) U) (hc : X.calm = true := by rfl)
    (hdb : (x == ("__debug__" : Str)) = false := by decide) (he : starEach (e :: es) X.env = (false, eval e X.env) :: starEach es X.env := by rfl) (hpl : (backTo pos (starEach es X.env)).any (·.1) = false := by rfl) :
    DS X W (.Raise (some (.Call (.Name x p) (e :: es) [] pos)) none pos') (TRaise C mkD U) :=
  ds_mk (L2N.ps_raise hc tk (pmkXC M (L2H.roomH_of hr) hg hm ha hdb he hpl).pmk) fun S R H σ env D3 lk ok q => tL3.ask lk ok q fun R1 H1 ds vs f1 ok1 r1 ⟨hl, fs, e1, q1⟩ => by
    obtain ⟨fvs, e2, rf⟩ := M.rel R1 ds vs fs r1 e1
    refine ⟨by rw [r1.length]; exact hl, fvs, e2, fun d hd => ?_⟩
    have fa := Fin.alloc (o := .xd fvs) ok1.bas hd
    exact lk _ _ σ env _ _ ⟨C, fs⟩ (ok1.through fa) ⟨rfl, d, fvs, rfl, upd_same, rf.mono fa.up⟩ q1
/-- raise C() -/
def TRaise0 (C : Addr) (mkD : MkD) : TSD := fun c D env => ∃ fs, mkD [] = some fs ∧ c.er ⟨C, fs⟩ env
theorem ds_raise0 (M : ExcKC X.prog X.w X.K X.mg X.base k C fI mk mkD) (hr : Room (k + 1) X.A) (hg : Gl X x) (hm : X.mg x = some (.ref C)) (tk : L2.Takes X W) (hc : X.calm = true := by rfl)
    (hdb : (x == ("__debug__" : Str)) = false := by decide) :
    DS X W (.Raise (some (.Call (.Name x p) [] [] pos)) none pos') (TRaise0 C mkD) :=
  ds_mk (L2.ps_raise hc tk (pmk_weak (pmkX0C M (L2H.roomH_of hr) hg hm hdb))) fun S R H σ env D3 lk ok ⟨fs, e1, q1⟩ => by
    obtain ⟨fvs, e2, rf⟩ := M.rel R [] [] fs .nil e1
    refine ⟨fvs, e2, fun d hd => ?_⟩
    have fa := Fin.alloc (o := .xd fvs) ok.bas hd
    exact lk _ _ σ env _ _ ⟨C, fs⟩ (ok.through fa) ⟨rfl, d, fvs, rfl, upd_same, rf.mono fa.up⟩ q1
end
end L3
/-! L3zh: defs whose errors bear no context (L2N); calls that never raise; try .. except C: raise D(..) from None -/
namespace L3
open PySem PySem.Spec PyProof.Rows L2
abbrev Fn3N (P : Program) (w : World) (K : PySem.W.Frag) (mg : Str → Option Value) (base : Heap) (k : Nat) (f : Addr) (F : TF) : Prop := FnR P w K mg base (L2N.CX P w) k f (spW K F)
theorem Fn3N.mono {P : Program} {w : World} {K : PySem.W.Frag} {mg : Str → Option Value} {base : Heap} {j k : Nat} {f : Addr} {F : TF} (h : Fn3N P w K mg base j f F) (q : j ≤ k) : Fn3N P w K mg base k f F := FnR.mono h q
theorem Fn3N.weak {P : Program} {w : World} {K : PySem.W.Frag} {mg : Str → Option Value} {base : Heap} {k : Nat} {f : Addr} {F : TF} (h : Fn3N P w K mg base k f F) : Fn3 P w K mg base k f F := fun A outer s H us vs Q E hr e0 r hs =>
  codeAny_mono (h A outer s H us vs Q E hr e0 r hs) fun res s' hres => match res, hres with
    | .error er, ⟨a, B, H', cls, d, e1, fl, z⟩ => ⟨a, B, H', cls, d, e1, L2H.flyingZ_imp (fun o z => z.zc) fl, z⟩
    | .ok (.ret u), hres => hres
section
variable {P : Program} {w : World} {K : PySem.W.Frag} {mg : Str → Option Value} {base : Heap} {x qual : Str} {params : Arguments} {body : List Stmt} {scope : Scope} {dvs : List V} {kws : List (Str × V)} {f : Addr} {fd : FuncData}
abbrev cx3N (P : Program) (w : World) (K : PySem.W.Frag) (mg : Str → Option Value) (base : Heap) (N : List Str) (qual : Str) (scope : Scope) (f : Addr) (cdv : Value) (A : Around) (outer : List Env) (s : Shared) (H : Hp) (E : XK) : Cx := cxOf (L2N.CX P w) P w K mg base N qual scope f cdv A outer s H E
theorem tk3N {N : List Str} {cdv : Value} {A : Around} {outer : List Env} {s : Shared} {H : Hp} {E : XK} : L2N.Takes (cx3N P w K mg base N qual scope f cdv A outer s H E) (W3 E) := L2N.takes_of rfl rfl rfl rfl
/-- a def with plain parameters: n of them -/
theorem fn3N {N ps : List Str} {k : Nat} {F : TF} {T : TSD} (FD : FunD K x qual params body scope [] [] f fd) (Sc : FnScope N ps scope) (hb : Binds K fd ps []) (hn : ∀ wd ds φ ε, F wd ds φ ε → ds.length = ps.length)
    (hbody : ∀ (cdv : Value) (A : Around) (outer : List Env) (s : Shared) (H : Hp) (E : XK), Room k (A.deeper (envOfC qual scope s.heap.objs.size f cdv)) → DSs (cx3N P w K mg base N qual scope f cdv A outer s H E) (W3 E) body T)
    (hT : ∀ wd ds φ ε, F wd ds φ ε → T ⟨wd, fun ex _ => ε ex⟩ (retD φ) (startD N ds)) : Fn3N P w K mg base (k + 1) f F := by
  have G : FnOk P w K mg base (L2N.CX P w) (k + 1) f fd ps (spW K F) := by
    refine FD.ok Sc (fun vs H Q E h => ?_) fun cdv A outer s H vs Q E hr h => ?_
    · obtain ⟨wd, R, ds, φ, ε, b, r, hf, _⟩ := h
      rw [r.length]
      exact hn _ _ _ _ hf
    · obtain ⟨wd, R, ds, φ, ε, b, r, hf, hQ, hE⟩ := h
      exact ⟨_, hbody cdv A outer s H E hr, body_ok (S := ⟨⟨wd, fun ex _ => ε ex⟩, R, H, R⟩) (fun R' H' σ env cls od ex ok xr q => hE cls od R' H' ex ok.fin xr q) (start_ok3 (c := ⟨wd, fun ex _ => ε ex⟩) b r) (hT wd ds φ ε hf) hQ⟩
  have z := G.raw (ds := []) (dvs := []) hb .nil
  intro A outer s H us vs Q E hr e0 r hs
  exact z A outer s H us vs Q E hr e0 r (by show spW K F (vs ++ []) H Q E; rw [List.append_nil]; exact hs)
end
section
variable {X : Cx} {W : WX} {pos apos : Pos} {e : Expr} {es : List Expr} {U : TL} {F : TF} {k : Nat} {f C : Addr} {x m : Str} {p0 : Pos}
/-- a callee, at the names as they stand -/
theorem call_atN {sp : Sp} {pins : List (Addr × Obj)} {σ : L2.St} {H : Hp} {s : Shared} {Q : VK} {us : List Value} {vs : List V} (F : FnR X.prog X.w X.K X.mg X.base (L2N.CX X.prog X.w) k f sp) (hr : Room k X.A) (tk : L2N.Takes X W)
    (I : Inv X pins σ H s) (r : Vals vs us) (h : sp vs H Q (WE W σ)) : wpAny (model X.prog X.w) X.A (call (.ref f) us) (EP X pins σ Q) X.xe s :=
  wpAny_call (codeAny_mono (F X.A X.stack s H us vs Q _ hr I.env0 r h) fun res s' hres => match res, hres with
    | .error er, hres => L2N.passAt tk σ pins H s er s' I hres
    | .ok (.ret u), hres => I.after hres)
theorem de_callN (G : Fn3N X.prog X.w X.K X.mg X.base k f F) (hr : Room k X.A) (hG : Gl X x) (hM : X.mg x = some (.ref f)) (hK : PySem.W.keepIn X.K (.ref f) = true) (tk : L2N.Takes X W) (ha : DA X W (e :: es) U)
    (hD : (x == ("__debug__" : Str)) = false := by decide) (hS : starEach (e :: es) X.env = (false, eval e X.env) :: starEach es X.env := by rfl) (hP : (backTo pos (starEach es X.env)).any (·.1) = false := by rfl) : DE X W (.Call (.Name x p0) (e :: es) [] pos) (TCall F U) :=
  de_mk (t := fun σ H Q => tL3 X.K W U σ H fun vs H1 => spW X.K F vs H1 Q (WE W σ)) ⟨fun pins s σ H Q I h => wpAny_Call_Name_kw (ld_glob I hG hM (PySem.W.callWith_K (h₀ := X.base) I.ok.mod.kin hK (thn (ha.run pos pins s σ H _ I h)
    fun us s1 ⟨vs, H1, I1, r, q⟩ => ⟨I1.kIn, call_atN G hr tk I1 r q⟩) hS hP) hD)⟩ fun S R H σ env φ lk ok h => tcall_ask lk ok h
theorem de_smethN {pl : Sem Bool} {x : Str} {p0 : Pos} {p : Addr} (hm : SMet X.K C m p f) (G : Fn3N X.prog X.w X.K X.mg X.base k f F) (hr : Room k X.A) (hG : Gl X x) (hM : X.mg x = some (.ref C)) (tk : L2N.Takes X W) (ha : DA X W (e :: es) U) (hD : (x == ("__debug__" : Str)) = false := by decide)
    (hS : starEach (e :: es) X.env = (false, eval e X.env) :: starEach es X.env := by rfl) (hP : (backTo pos (starEach es X.env)).any (·.1) = false := by rfl)
    (ht : eval (.Call (.Attribute (.Name x p0) m apos) (e :: es) [] pos) X.env = (do let ov ← eval (.Name x p0) X.env; standAt apos.atName; let (g, first) ← holding [ov] (getMethod ov m pl); callWith pos g first (backTo pos (starEach (e :: es) X.env)) (backToKw pos (keywordEach [] X.env))) := by rfl) :
    DE X W (.Call (.Attribute (.Name x p0) m apos) (e :: es) [] pos) (TCall F U) :=
  de_mk (t := fun σ H Q => tL3 X.K W U σ H fun vs H1 => spW X.K F vs H1 Q (WE W σ))
    ⟨fun pins s σ H Q I h => PySem.W.methodCall_KW (pl := pl) (ld_glob I hG hM (by
      obtain ⟨rest, hp⟩ := hm.rc
      refine PySem.W.method_cls I.kIn hm.cr.ga (PySem.W.cls_bind I.kIn hm.cr.rd hm.at_ (wpAny_call (PySem.W.sm_get (s := { s with toks := s.toks + 1 }) I.kIn hp (PySem.W.handed_on rfl ?_))))
      have I' : Inv X pins σ H { s with toks := s.toks + 1 } := I.tok _
      exact PySem.W.callWith_K (first := []) (h₀ := X.base) I.ok.mod.kin hm.kp (thn (ha.run pos pins _ σ H _ I' h) fun us s2 ⟨vs, H2, I2, r, q2⟩ => ⟨I2.kIn, call_atN (us := us) (vs := vs) G hr tk I2 r q2⟩) hS hP) hD) ht⟩
    fun S R H σ env φ lk ok h => tcall_ask lk ok h

/-- the call of a def, nothing raised -/
def TCallQ (F : TF) (U : TL) : TD := fun c env φ => U c env fun ds => F c.wd ds φ fun _ => False
theorem spW_askQ {S : Sta} {R H : Hp} {σ : L2.St} {env : Ev} {φ : D → Prop} {Q : VK} {vs : List V} {ds : List D} (ok : Ok3 X.K S R H σ env) (r : Reps X.K R ds vs) (h : F S.c.wd ds φ fun _ => False)
    (kQ : ∀ v H', Pst X.K S.c R H φ v H' → Q v H') : spW X.K F vs H Q (fun _ _ _ => False) :=
  ⟨S.c.wd, R, ds, φ, _, ok.bas, r, h, fun v R' H' d f rv q => kQ v H' ⟨R', d, f, rv, q⟩, fun cls od R' H' ex f xr q => q⟩
theorem tcall_askQ {S : Sta} {R H : Hp} {σ : L2.St} {env : Ev} {φ : D → Prop} (lk : Lk X.K S W) (ok : Ok3 X.K S R H σ env) (h : TCallQ F U S.c env φ) : tL3 X.K W U σ H fun vs H1 => spW X.K F vs H1 (Pst X.K S.c R H φ) (fun _ _ _ => False) :=
  tL3.ask lk ok h fun R1 H1 ds vs f1 ok1 r1 q1 => spW_askQ ok1 r1 q1 fun v H' p => Pst.from f1 p
theorem de_callQ (G : Fn3 X.prog X.w X.K X.mg X.base k f F) (hr : Room k X.A) (hG : Gl X x) (hM : X.mg x = some (.ref f)) (hK : PySem.W.keepIn X.K (.ref f) = true) (ha : DA X W (e :: es) U)
    (hD : (x == ("__debug__" : Str)) = false := by decide) (hS : starEach (e :: es) X.env = (false, eval e X.env) :: starEach es X.env := by rfl) (hP : (backTo pos (starEach es X.env)).any (·.1) = false := by rfl) : DE X W (.Call (.Name x p0) (e :: es) [] pos) (TCallQ F U) :=
  de_mk (t := fun σ H Q => tL3 X.K W U σ H fun vs H1 => spW X.K F vs H1 Q (fun _ _ _ => False)) ⟨fun pins s σ H Q I h => wpAny_Call_Name_kw (ld_glob I hG hM (PySem.W.callWith_K (h₀ := X.base) I.ok.mod.kin hK (thn (ha.run pos pins s σ H _ I h)
    fun us s1 ⟨vs, H1, I1, r, q⟩ => ⟨I1.kIn, call_q G hr I1.env0 I1 r q⟩) hS hP) hD)⟩ fun S R H σ env φ lk ok h => tcall_askQ lk ok h
theorem de_smethQ {pl : Sem Bool} {x : Str} {p0 : Pos} {p : Addr} (hm : SMet X.K C m p f) (G : Fn3 X.prog X.w X.K X.mg X.base k f F) (hr : Room k X.A) (hG : Gl X x) (hM : X.mg x = some (.ref C)) (ha : DA X W (e :: es) U) (hD : (x == ("__debug__" : Str)) = false := by decide)
    (hS : starEach (e :: es) X.env = (false, eval e X.env) :: starEach es X.env := by rfl) (hP : (backTo pos (starEach es X.env)).any (·.1) = false := by rfl)
    (ht : eval (.Call (.Attribute (.Name x p0) m apos) (e :: es) [] pos) X.env = (do let ov ← eval (.Name x p0) X.env; standAt apos.atName; let (g, first) ← holding [ov] (getMethod ov m pl); callWith pos g first (backTo pos (starEach (e :: es) X.env)) (backToKw pos (keywordEach [] X.env))) := by rfl) :
    DE X W (.Call (.Attribute (.Name x p0) m apos) (e :: es) [] pos) (TCallQ F U) :=
  de_mk (t := fun σ H Q => tL3 X.K W U σ H fun vs H1 => spW X.K F vs H1 Q (fun _ _ _ => False))
    ⟨fun pins s σ H Q I h => PySem.W.methodCall_KW (pl := pl) (ld_glob I hG hM (by
      obtain ⟨rest, hp⟩ := hm.rc
      refine PySem.W.method_cls I.kIn hm.cr.ga (PySem.W.cls_bind I.kIn hm.cr.rd hm.at_ (wpAny_call (PySem.W.sm_get (s := { s with toks := s.toks + 1 }) I.kIn hp (PySem.W.handed_on rfl ?_))))
      have I' : Inv X pins σ H { s with toks := s.toks + 1 } := I.tok _
      exact PySem.W.callWith_K (first := []) (h₀ := X.base) I.ok.mod.kin hm.kp (thn (ha.run pos pins _ σ H _ I' h) fun us s2 ⟨vs, H2, I2, r, q2⟩ => ⟨I2.kIn, call_q (us := us) (vs := vs) G hr I2.env0 I2 r q2⟩) hS hP) hD) ht⟩
    fun S R H σ env φ lk ok h => tcall_askQ lk ok h

end
/-! ### try: .. except C: raise D(..) from None -/
section
variable {X : Cx} {W : WX} {k : Nat} {x y : Str} {c : Value} {body : List Stmt} {np p pos pos' pos2 pos3 cpos : Pos} {j : Nat} {e : Expr} {es : List Expr} {U : TL} {Tb : TSD} {C fI : Addr} {mk : MkV} {mkD : MkD}
def erFrom (K : PySem.W.Frag) (c : Value) (C : Addr) (mkD : MkD) (U : TL) (c0 : Ct) : Er → Ev → Prop := fun ex env => ∃ b, PySem.W.exmOne K (.ref ex.C) c = some b ∧ (b = true → U c0 env fun ds => ds.length ≤ 1000 ∧ ∃ fs, mkD ds = some fs ∧ c0.er ⟨C, fs⟩ env) ∧ (b = false → c0.er ex env)
def TFrom (K : PySem.W.Frag) (c : Value) (C : Addr) (mkD : MkD) (U : TL) (Tb : TSD) : TSD := fun c0 D env => Tb ⟨c0.wd, erFrom K c C mkD U c0⟩ D env
theorem ds_try_from (hs : X.stack = X.env :: X.outer) (hf : X.env.frame = some X.env.locals) (hc : Names X x c) (hpa : ∀ hd : Option Value, PassesOwnAt (model X.prog X.w) (X.A.mark hd) X.A X.env X.xe) (tk : L2.Takes X W)
    (M : ExcKC X.prog X.w X.K X.mg X.base k C fI mk mkD) (hr : Room (k + 1) X.A) (hg : Gl X y) (hm : X.mg y = some (.ref C))
    (hb : ∀ (W : WX) (pn : List (Addr × Obj)) (xe : Value → Shared → Prop), L2N.Takes (X.tr pn xe) W → PassesOwn (model X.prog X.w) X.A X.env xe → DSs (X.tr pn xe) W body Tb)
    (ha : ∀ (a : Addr) (pn : List (Addr × Obj)), DA (L2H.suiteX X a pn) W (e :: es) U)
    (hdb : (y == ("__debug__" : Str)) = false := by decide) (he : starEach (e :: es) X.env = (false, eval e X.env) :: starEach es X.env := by rfl) (hpl : (backTo pos (starEach es X.env)).any (·.1) = false := by rfl) :
    DS X W (.Try body [.ExceptHandler (some (.Name x np)) none [.Raise (some (.Call (.Name y p) (e :: es) [] pos)) (some (.Constant .none j cpos)) pos2] pos'] [] [] pos3) (TFrom X.K c C mkD U Tb) := by
  have P := L2H.ps_try_onlyX (b₀ := .Raise (some (.Call (.Name y p) (e :: es) [] pos)) (some (.Constant .none j cpos)) pos2) (suite := []) (pos := pos3) (pos' := pos') (np := np) (tb := fun W => tS3 X.K W Tb)
    (ts := fun a cls d D σ H => tL3 X.K W U σ H fun vs H1 => vs.length ≤ 1000 ∧ ∃ fs, mk vs = some fs ∧ ∀ d, H1 d = none → W (.ref C) (some d) σ (upd H1 d (.xd fs))) hs hf hc hpa tk (fun W pn xe tk' _ po => hb W pn xe tk' po)
    (fun a oe cls d pn hz hv tkS hot => pss_one (L2H.ps_raiseHN hot tkS (pmkXC (X := L2H.suiteX X a ((a, oe) :: pn)) M (L2H.roomH_mark hr _) hg hm (ha a _) hdb he hpl)))
  refine ⟨fun pins s σ H E I ⟨S, R, env, D3, lk, ok, hT, eo⟩ => P.run pins s σ H E I ?_⟩
  refine ⟨⟨⟨S.c.wd, erFrom X.K c C mkD U S.c⟩, S.R0, S.H0, S.Rb⟩, R, env, D3, ?_, ⟨ok.fin, ok.rb, ok.sl, ok.own, ok.dis⟩, hT, ⟨fun R H σ env o q => eo.nx R H σ env ⟨o.fin, o.rb, o.sl, o.own, o.dis⟩ q, fun R H σ env d v o r q => eo.rt R H σ env d v ⟨o.fin, o.rb, o.sl, o.own, o.dis⟩ r q, fun R H σ env o q => eo.bk R H σ env ⟨o.fin, o.rb, o.sl, o.own, o.dis⟩ q, fun R H σ env o q => eo.ct R H σ env ⟨o.fin, o.rb, o.sl, o.own, o.dis⟩ q⟩⟩
  intro R' H' σ' env' cls od ex o' xr er
  have o1 : Ok3 X.K S R' H' σ' env' := ⟨o'.fin, o'.rb, o'.sl, o'.own, o'.dis⟩
  obtain ⟨b, hb1, hy, hn⟩ := er
  obtain ⟨ec, z⟩ := id xr
  subst ec
  refine ⟨b, hb1, fun e1 a na => ?_, fun e1 => lk R' H' σ' env' _ _ ex o1 xr (hn e1)⟩
  refine tL3.ask lk o1 (hy e1) fun R1 H1 ds vs f1 ok1 r1 ⟨hl, fs, e1, q1⟩ => ?_
  obtain ⟨fvs, e2, rf⟩ := M.rel R1 ds vs fs r1 e1
  refine ⟨by rw [r1.length]; exact hl, fvs, e2, fun d hd => ?_⟩
  have fa := Fin.alloc (o := .xd fvs) ok1.bas hd
  exact lk _ _ σ' env' _ _ ⟨C, fs⟩ (ok1.through fa) ⟨rfl, d, fvs, rfl, upd_same, rf.mono fa.up⟩ q1
end
end L3
/-! L3zi: split; C(k = v, ..) -/
namespace L3
open PySem PySem.Spec PyProof.Rows L2
section
variable {X : Cx} {W : WX} {pos apos : Pos} {o e : Expr} {To Te : TD}
/-! ### x.split(sep) -/
def TSplit (To Te : TD) : TD := fun c env φ => To c env fun d => ∃ a, d = .str a ∧ Te c env fun d2 => ∃ b, d2 = .str b ∧ (b.length == 0) = false ∧ a.length + 2 ≤ sizeLine ∧ φ (.lst ((Txt.split a b).map D.str))
theorem reps_strs {K : PySem.W.Frag} {R : Hp} : ∀ ys : List Str, Reps K R (ys.map D.str) (ys.map V.str)
  | [] => rfl
  | y :: r => ⟨.str y, r.map V.str, rfl, rfl, reps_strs r⟩
theorem de_split (ho : DE X W o To) (he : DE X W e Te) (hs : starEach [e] X.env = [(false, eval e X.env)] := by rfl) (hb : attributeBase o "split" X.env (eval o X.env) = eval o X.env := by rfl) (hl : (apos.endLine == pos.line) = true := by rfl) :
    DE X W (.Call (.Attribute o "split" apos) [e] [] pos) (TSplit To Te) :=
  de_mk (pe_split ho he hs hb hl) fun S R H σ env φ lk ok h => tD.ask lk ok h fun R1 H1 d v f1 ok1 r1 ⟨a, e1, h2⟩ => by
    subst e1
    obtain rfl : v = .str a := r1
    refine ⟨⟨a, rfl⟩, tD.ask lk ok1 h2 fun R2 H2 d2 v2 f2 ok2 r2 ⟨b, e2, hb, hz, q⟩ => ?_⟩
    subst e2
    obtain rfl : v2 = .str b := r2
    exact ⟨a, b, rfl, rfl, hb, hz, fun p hp => Pst.from (f1.trans f2) (Pst.lst ok2.bas hp (reps_strs _) q)⟩
end
/-! ### C(k = v, ..) -/
abbrev FnIO (P : Program) (w : World) (K : PySem.W.Frag) (mg : Str → Option Value) (base : Heap) (k : Nat) (C f : Addr) (fd : FuncData) (ps : List Str) (F : TFI) : Prop := FnOk P w K mg base (L2.CX P w) k f fd ps (spI K C F)
theorem FnIO.mono {P : Program} {w : World} {K : PySem.W.Frag} {mg : Str → Option Value} {base : Heap} {j k : Nat} {C f : Addr} {fd : FuncData} {ps : List Str} {F : TFI} (h : FnIO P w K mg base j C f fd ps F) (q : j ≤ k) : FnIO P w K mg base k C f fd ps F := FnOk.mono h q
section
variable {P : Program} {w : World} {K : PySem.W.Frag} {mg : Str → Option Value} {base : Heap} {x qual : Str} {params : Arguments} {body : List Stmt} {scope : Scope} {f : Addr} {fd : FuncData}
/-- .. with plain parameters -/
theorem fnI3O {N ps : List Str} {k : Nat} {C : Addr} {F : TFI} {T : TSD} (FD : FunD K x qual params body scope [] [] f fd) (Sc : FnScope N ps scope) (hN : N ≠ []) (hb : Binds K fd ps []) (hn : ∀ wd ds φ ε, F wd ds φ ε → ds.length + 1 = ps.length)
    (hbody : ∀ (cdv : Value) (A : Around) (outer : List Env) (s : Shared) (H : Hp) (E : XK), Room k (A.deeper (envOfC qual scope s.heap.objs.size f cdv)) → DSs (cx3 P w K mg base N qual scope f cdv A outer s H E) (W3 E) body T)
    (hT : ∀ a wd ds φ ε, F wd ds φ ε → T ⟨wd, fun ex _ => ε ex⟩ (retI C a φ) (startI N C a ds)) : FnIO P w K mg base (k + 1) C f fd ps F := by
    refine FD.ok Sc (fun vs H Q E h => ?_) fun cdv A outer s H vs Q E hr h => ?_
    · obtain ⟨a, dx, ws, wd, R, H1, ds, φ, ε, e, _, _, _, _, b, r, hf, _⟩ := h
      subst e
      rw [List.length_cons, r.length]
      exact hn _ _ _ _ hf
    · obtain ⟨a, dx, ws, wd, R, H1, ds, φ, ε, e, ha, hd, hne, eH, b, r, hf, hQ, hE⟩ := h
      subst e eH
      exact ⟨_, hbody cdv A outer s _ E hr, bodyI_ok (S := ⟨⟨wd, fun ex _ => ε ex⟩, R, H1, R⟩) (fun R' H' σ env cls od ex ok xr q => hE cls od R' H' ex ok.fin xr q) (startI_ok (c := ⟨wd, fun ex _ => ε ex⟩) hN b r ha hd hne) (hT a wd ds φ ε hf) hQ⟩
theorem FnIO.plain {ps : List Str} {k : Nat} {C : Addr} {F : TFI} (G : FnIO P w K mg base k C f fd ps F) (hb : Binds K fd ps []) : FnI P w K mg base k C f F := by
  have z := FnOk.raw (ds := []) (dvs := []) G hb .nil
  intro A outer s H us vs Q E hr e0 r hs
  exact z A outer s H us vs Q E hr e0 r (by show spI K C F (vs ++ []) H Q E; rw [List.append_nil]; exact hs)
end
def KwI (K : PySem.W.Frag) (fd : FuncData) (ps ks : List Str) (ix : List Nat) : Prop := ∀ (s : Shared) (a : Addr) (ws : List Value), K.In s.heap → ws.length = ks.length → BindsTo s fd ⟨[.ref a], ks.zip ws⟩ (ps.zip (.ref a :: permL ix ws))
section
variable {X : Cx} {W : WX} {pos : Pos} {Uk : TL} {F : TFI} {k : Nat} {f C : Addr} {fd : FuncData} {ps ks : List Str} {ix : List Nat} {x : Str} {p0 : Pos} {kws : List Keyword}
theorem make_kw {sp : Sp} {pins : List (Addr × Obj)} {σ : L2.St} {H : Hp} {s : Shared} {Q : VK} {ws : List Value} {zs : List V} (M : Mk X.K C f) (G : FnOk X.prog X.w X.K X.mg X.base (L2.CX X.prog X.w) k f fd ps sp) (hr : Room (k + 1) X.A) (hb : KwI X.K fd ps ks ix) (tk : L2.Takes X W)
    (I : L2.Inv X pins σ H s) (r : Vals zs ws) (l : ws.length = ks.length) (h : ∀ a dx, H a = none → H dx = none → dx ≠ a → sp (.ref a :: permL ix zs) (upd (upd H dx (.own a)) a (.ins C dx [])) (fun v H2 => v = .non ∧ Q (.ref a) H2) fun cls od H2 => WE W σ cls od H2) :
    wpAny (model X.prog X.w) X.A (call (.ref C) [] (ks.zip ws)) (EP X pins σ Q) X.xe s := by
  have J := Inv.made (C := C) I
  refine wpAny_call (make_map (f := f) I.kIn M.makes M.init (beq_iff_eq.mp M.fn) (codeAny_mono (G.run _ X.stack _ _ ⟨[Value.ref (s.heap.objs.size + 1)], ks.zip ws⟩ (.ref (s.heap.objs.size + 1) :: permL ix ws) (.ref (s.heap.objs.size + 1) :: permL ix zs) _ _ (hr.make C [] (ks.zip ws)) (J.env0.make C [] (ks.zip ws))
    (hb _ _ ws J.kIn l) (.cons rfl (vals_perm r ix)) (h (s.heap.objs.size + 1) s.heap.objs.size (I.hok.fresh (Nat.le_succ _)) (I.hok.fresh (Nat.le_refl _)) (Nat.ne_of_lt (Nat.lt_succ_self _)))) fun res s' hres => ?_))
  match res, hres with
  | .error er, hres => exact L2.passAt tk σ pins _ _ er s' J hres
  | .ok (.ret u), hres =>
    obtain ⟨v, H', J2, rv, ev, q⟩ := J.after hres
    subst ev
    exact ⟨rv, V.ref (s.heap.objs.size + 1), H', J2, rfl, q⟩
def TMakeK (C : Addr) (F : TFI) (m : Nat) (ix : List Nat) (Uk : TL) : TD := fun c env φ => Uk c env fun zs => zs.length = m ∧ F c.wd (permL ix zs) (fun fs => φ (.ins C fs)) fun ex => c.er ex env
theorem de_makeK0 (M : Mk X.K C f) (G : FnIO X.prog X.w X.K X.mg X.base k C f fd ps F) (hb : KwI X.K fd ps ks ix) (hr : Room (k + 1) X.A) (hG : Gl X x) (hM : X.mg x = some (.ref C)) (tk : L2.Takes X W) (hkw : DK X W kws Uk)
    (hall : (backToKw pos (keywordEach kws X.env)).all (·.1.isSome) = true := by rfl) (hks : (backToKw pos (keywordEach kws X.env)).filterMap (·.1) = ks := by rfl)
    (hD : (x == ("__debug__" : Str)) = false := by decide)
    (hpl : ((backTo pos (starEach [] X.env)).any (·.1) || (backToKw pos (keywordEach kws X.env)).any (·.1.isNone)) = false := by rfl) : DE X W (.Call (.Name x p0) [] kws pos) (TMakeK C F ks.length ix Uk) :=
  de_mk (t := fun σ H Q => tL3 X.K W Uk σ H fun zs H1 => zs.length = ks.length ∧ ∀ a dx, H1 a = none → H1 dx = none → dx ≠ a → spI X.K C F (.ref a :: permL ix zs) (upd (upd H1 dx (.own a)) a (.ins C dx [])) (fun v H2 => v = .non ∧ Q (.ref a) H2) fun cls od H2 => WE W σ cls od H2)
    ⟨fun pins s σ H Q I h => wpAny_Call_Name_kw (ld_glob I hG hM (PySem.W.callWith_KW0 (h₀ := X.base) I.ok.mod.kin M.kp hall (by
      refine thn (hkw.run pos pins s σ H _ I h) fun ws s2 ⟨zs, H2, I2, rz, l2, q2⟩ => ⟨I2.kIn, ?_⟩
      rw [hks]
      exact make_kw M G hr hb tk I2 rz (rz.length.symm.trans l2) q2) hpl) hD)⟩ fun S R H σ env φ lk ok h =>
    tL3.ask lk ok h fun R1 H1 ds vs f1 ok1 r1 ⟨l1, q1⟩ => ⟨by rw [r1.length]; exact l1, fun a dx ha hd hne => spI_ask f1 lk ok1 (r1.perm ix) q1 ha hd hne⟩
end
end L3
/-! L3zj: str(x), repr(x) by an own __str__, __repr__ -/
namespace PySem.W
open PySem PySem.Spec PySem.Calls PyProof.Rows
section
variable {prog : Program} {w : World} {M : Model} {A : Around} {E : Value → Shared → Prop} {s : Shared} {K : Frag} {x C f : Addr} {ox : Obj} {od : Option Obj}
open Builtin Builtin.Str in
theorem own_str_call {Q : Value → Shared → Prop} (hu : A.in1.in1.units < cLine) (X : K.In s.heap) (I : InstAt s.heap x ox C od) (hs : findIn K (.ref C) "__str__" = some (some (.ref f))) (hf : isFn K (.ref f) = true)
    (h : wpAny (model prog w) A.in1.in1 (call (.ref f) [.ref x]) (fun r s' => ∃ y u, r = .str y u ∧ Q r s') E s) : wpAny (model prog w) A (call (.type "str") [.ref x]) Q E s := by
  refine callType_codes (T := "str") (Bi := Builtin.«object.__init__») (Q₁ := fun r s₁ => ∃ y u, r = .str y u ∧ Q r s₁) PySem.F.called_str (PySem.F.typeCall_str_1 _) PySem.F.entry_object_init ?_ ?_
  · refine codeAny_of_tree ?_
    show wpAny _ A.in1.in1 (do checkBuiltinCall "str.__new__" ⟨[.type "str", .ref x], []⟩; again (.builtin "str.__new__" ⟨[.type "str", .ref x], []⟩)) _ _ s
    refine wpAny_bind (wpAny_of_eq (PySem.F.newCall_str_1 _) (wpAny_pure ⟨plainId_quiet (by decide +kernel) _, codeAny_builtin PySem.F.entry_str_new ?_⟩))
    rw [Around.under_plainId (by decide +kernel) _]
    rw [str_new_tree]
    refine wpAny_bind (wpAny_pure ?_)
    refine wpAny_bind (wpAny_of_eq isSubtype_str_str ?_)
    have key : wpAny (model prog w) A.in1.in1 (PySem.Builtin.Str.strOf (.ref x)) (fun r s₁ => ∃ y u, r = .str y u ∧ Q r s₁) E s := by
      unfold PySem.Builtin.Str.strOf
      rw [show isExactStr (.ref x) = false from rfl]
      refine wpAny_bind (m := cRoomFor _ _) (wpAny_cRoomFor hu ?_)
      refine wpAny_bind (m := callSpecial? (.ref x) (Str.ofString "__str__")) (special_fn X I hs (beq_iff_eq.mp hf) (wpAny_mono h (fun r s' z => ?_) fun _ _ y => y))
      obtain ⟨y, u, rfl, q⟩ := z
      exact wpAny_pure ⟨_, _, rfl, q⟩
    exact wpAny_bind (wpAny_mono key (fun r s₁ hr => wpAny_pure hr) fun _ _ y => y)
  · rintro obj s₁ ⟨y, u, rfl, hq⟩
    exact ⟨typeIs_str _ _ _, PySem.F.args_object_init_2 _ _, object_init_meets PySem.F.called_str.init.lookup PySem.F.called_str.made (by decide) prog w A.in1 _ s₁ ⟨typeIs_str _ _ _, rfl, hq⟩⟩
theorem own_repr_call {Q : Value → Shared → Prop} (hu : A.in1.units < cLine) (X : K.In s.heap) (I : InstAt s.heap x ox C od) (hs : findIn K (.ref C) "__repr__" = some (some (.ref f))) (hf : isFn K (.ref f) = true)
    (h : wpAny (model prog w) A.in1 (call (.ref f) [.ref x]) (fun r s' => ∃ y u, r = .str y u ∧ Q r s') E s) : wpAny (model prog w) A (call (.builtin "repr") [.ref x]) Q E s := by
  refine Calls.call_function_entry F.kind_repr F.plain_repr F.entry_repr (F.args_repr1 _) ?_
  unfold Builtin.«repr»
  refine wpAny_bind (m := oneArg "repr" _) (wpAny_pure ?_)
  refine wpAny_bind (wpAny_cRoomFor hu ?_)
  refine wpAny_bind (wpAny_bind (I.type.here ((looks_findIn X hs).here ?_)))
  show wpAny _ _ (if (some (Value.ref f)).isNone = true then _ else _) _ _ _
  rw [if_neg (by simp)]
  refine wpAny_bind (m := callSpecialIfBound? (.ref x) (Str.ofString "__repr__") _) (ifBound_K X I hs hf (wpAny_mono h (fun r s' hr => ?_) fun _ _ y => y))
  obtain ⟨m, tk, rfl, hq⟩ := hr
  refine wpAny_bind (wpAny_isInstance (typeIs_str _ _ _) isSubtype_str_str ?_)
  first
    | exact wpAny_pure ⟨_, rfl, hq⟩
    | (rw [if_pos rfl]; exact wpAny_pure ⟨_, rfl, hq⟩)
    | (simp only [if_true]; exact wpAny_pure ⟨_, rfl, hq⟩)
end
end PySem.W
namespace L3
open PySem PySem.Spec PyProof.Rows L2
section
variable {X : Cx} {W : WX} {pos p : Pos} {e : Expr} {T : TD} {F : TF} {k : Nat} {C f : Addr} {m : Str}
/-- what is asked of an own method that tells a text -/
structure TellK (K : PySem.W.Frag) (C f : Addr) (m : Str) : Prop where
  find : PySem.W.findIn K (.ref C) m = some (some (.ref f))
  fn : PySem.W.isFn K (.ref f) = true
def TTell (C : Addr) (F : TF) (T : TD) : TD := fun c env φ => T c env fun d => (∃ fs, d = .ins C fs) ∧ F c.wd [d] (fun r => ∃ z, r = .str z ∧ φ (.str z)) fun _ => False
theorem boot_str : bootBuiltins "str" = some (.type "str") := by rfl
theorem boot_repr : bootBuiltins "repr" = some (.builtin "repr") := by rfl
theorem de_strOwn (q : TellK X.K C f "__str__") (G : Fn3 X.prog X.w X.K X.mg X.base k f F) (hr : Room (k + 2) X.A) (hg : Gl X "str") (hm : X.mg "str" = none) (ha : DE X W e T) (he : starEach [e] X.env = (false, eval e X.env) :: starEach [] X.env := by rfl) (hpl : (backTo pos (starEach [] X.env)).any (·.1) = false := by rfl) :
    DE X W (.Call (.Name "str" p) [e] [] pos) (TTell C F T) :=
  de_mk (t := fun σ H Q => tCons (tD X.K W T) tNil σ H fun vs H1 => ∃ a dx fs, vs = [.ref a] ∧ H1 a = some (.ins C dx fs) ∧ spW X.K F [.ref a] H1 (fun v H2 => ∃ z, v = .str z ∧ Q (.str z) H2) fun _ _ _ => False)
    ⟨fun pins s σ H Q I h => wpAny_Call_Name_kw (ld_blt I hg hm boot_str (PyProof.Rows.callWith_type1 (thn ((pa_cons ha pa_nil he).run pos pins s σ H _ I h) fun us s1 ⟨vs, H1, I1, r, a, dx, fs, ev, ea, q1⟩ => by
      subst ev
      obtain ⟨u, rfl, r1⟩ := vals1 r
      obtain rfl : u = Value.ref a := r1
      obtain ⟨mA, J, _⟩ := ins_get I1.hok ea
      obtain ⟨od, J, _⟩ := J.look
      refine PySem.W.own_str_call (hr.in1.in1.units0) I1.kIn J q.find q.fn (thn (call_q (us := [.ref a]) (vs := [.ref a]) G hr.in1.in1 I1.env0.in1.in1 I1 (.cons rfl .nil) q1) fun w s' ⟨z, H', I', rz, y, ez, qq⟩ => ?_)
      subst ez
      obtain ⟨t, rfl⟩ := (show ∃ t, w = Value.str y t from rz)
      exact ⟨_, _, rfl, .str y, H', I', ⟨_, rfl⟩, qq⟩) he hpl))⟩ fun S R H σ env φ lk ok h => tD.ask lk ok h fun R1 H1 d v f1 ok1 r1 ⟨⟨fs, ed⟩, q⟩ => by
    subst ed
    obtain ⟨a, dx, fvs, e2, hh, rf⟩ := rep_ins r1
    subst e2
    refine ⟨a, dx, fvs, rfl, ok1.bas.sub _ _ hh, S.c.wd, R1, [.ins C fs], _, _, ok1.bas, .one r1, q, fun v R' H' d f r ⟨z, ez, qz⟩ => ?_, fun _ _ _ _ _ _ _ z => z.elim⟩
    subst ez
    obtain rfl : v = .str z := r
    exact ⟨z, rfl, R', .str z, f1.trans f, rfl, qz⟩
theorem de_reprOwn (q : TellK X.K C f "__repr__") (G : Fn3 X.prog X.w X.K X.mg X.base k f F) (hr : Room (k + 1) X.A) (hg : Gl X "repr") (hm : X.mg "repr" = none) (ha : DE X W e T) (he : starEach [e] X.env = (false, eval e X.env) :: starEach [] X.env := by rfl) (hpl : (backTo pos (starEach [e] X.env)).any (·.1) = false := by rfl) :
    DE X W (.Call (.Name "repr" p) [e] [] pos) (TTell C F T) :=
  de_mk (t := fun σ H Q => tCons (tD X.K W T) tNil σ H fun vs H1 => ∃ a dx fs, vs = [.ref a] ∧ H1 a = some (.ins C dx fs) ∧ spW X.K F [.ref a] H1 (fun v H2 => ∃ z, v = .str z ∧ Q (.str z) H2) fun _ _ _ => False)
    ⟨fun pins s σ H Q I h => wpAny_Call_Name_kw (ld_blt I hg hm boot_repr (Calls.callWith_builtin hpl (by
      have z := thn ((pa_cons ha pa_nil he).run pos pins s σ H _ I h) fun us s1 ⟨vs, H1, I1, r, a, dx, fs, ev, ea, q1⟩ => (by
        subst ev
        obtain ⟨u, rfl, r1⟩ := vals1 r
        obtain rfl : u = Value.ref a := r1
        obtain ⟨mA, J, _⟩ := ins_get I1.hok ea
        obtain ⟨od, J, _⟩ := J.look
        refine PySem.W.own_repr_call (hr.in1.units0) I1.kIn J q.find q.fn (thn (call_q (us := [.ref a]) (vs := [.ref a]) (Q := fun v H2 => ∃ z, v = .str z ∧ Q (.str z) H2) G hr.in1 I1.env0.in1 I1 (.cons rfl .nil) q1) fun w s' ⟨z, H', I', rz, y, ez, qq⟩ => ?_)
        subst ez
        obtain ⟨t, rfl⟩ := (show ∃ t, w = Value.str y t from rz)
        exact ⟨_, _, rfl, .str y, H', I', ⟨_, rfl⟩, qq⟩ : wpAny (model X.prog X.w) X.A (call (.builtin "repr") us) (EP X pins σ Q) X.xe s1)
      rw [he] at z ⊢
      exact Calls.evalArgs_plain z)))⟩ fun S R H σ env φ lk ok h => tD.ask lk ok h fun R1 H1 d v f1 ok1 r1 ⟨⟨fs, ed⟩, q⟩ => by
    subst ed
    obtain ⟨a, dx, fvs, e2, hh, rf⟩ := rep_ins r1
    subst e2
    refine ⟨a, dx, fvs, rfl, ok1.bas.sub _ _ hh, S.c.wd, R1, [.ins C fs], _, _, ok1.bas, .one r1, q, fun v R' H' d f r ⟨z, ez, qz⟩ => ?_, fun _ _ _ _ _ _ _ z => z.elim⟩
    subst ez
    obtain rfl : v = .str z := r
    exact ⟨z, rfl, R', .str z, f1.trans f, rfl, qz⟩
end
end L3
/-! L3zk: max of one list of ints -/
namespace L3
open PySem PySem.Spec PyProof.Rows L2
theorem ints_max1 {X : Cx} {pins : List (Addr × Obj)} {σ : L2.St} {H : Hp} {s : Shared} {Q : VK} {p : Addr} {ns : List Int} {n : Int} (hc : X.calm = true) (hu : X.A.units + 64 < cLine) (I : Inv X pins σ H s) (h : SqL X.K H p ((n :: ns).map V.int))
    (q : Q (.int (ns.foldl max n)) H) : wpAny (model X.prog X.w) X.A (call (.builtin "max") [.ref p]) (EP X pins σ Q) X.xe s := by
  obtain ⟨its, rv, hl, _⟩ := I.list h
  have dp : ∀ ns : List Int, DpAll X.K H (ns.map V.int) (ns.map PyData.int) := by
    intro ns
    induction ns with
    | nil => exact .nil
    | cons n r ih => exact .cons (.int n) ih
  obtain ⟨as, ra⟩ := Dp.readsAll I _ _ _ (dp (n :: ns)) rv
  have hd0 : ∀ ns : List Int, PyData.depthAll (ns.map PyData.int) ≤ 1 := by
    intro ns
    induction ns with
    | nil => exact Nat.zero_le _
    | cons n r ih => exact Nat.max_le.mpr ⟨Nat.zero_le _, ih⟩
  have hal : PySem.W.AlikeAll ((n :: ns).map PyData.int) := by
    refine ⟨fun x hx y hy => ?_, fun x hx e => ?_⟩
    · obtain ⟨i, _, rfl⟩ := List.mem_map.mp hx
      obtain ⟨j, _, rfl⟩ := List.mem_map.mp hy
      rfl
    · obtain ⟨i, _, rfl⟩ := List.mem_map.mp hx
      cases e
  have hd1 : PyData.depthAll ((n :: ns).map PyData.int) ≤ 1 := hd0 (n :: ns)
  refine PySem.W.max_list_data (I.ok.hd hc) hl.isList (x := .int n) (xs := ns.map PyData.int) (by simpa using ra) hal (by have := hd1; show X.A.units + 1 + PyData.depthAll ((n :: ns).map PyData.int) < cLine; omega) fun i v h' tk bs hv hr k => ?_
  rw [PySem.W.maxD_ints] at hr
  cases hr
  exact ⟨.int (ns.foldl max n), H, I.kept k, ⟨_, rfl⟩, q⟩
section
variable {X : Cx} {W : WX} {pos p : Pos} {e : Expr} {Ta : TD}
def TMax1 (Ta : TD) : TD := fun c env φ => Ta c env fun x => ∃ (n : Int) (ns : List Int), x = .lst ((n :: ns).map D.int) ∧ φ (.int (ns.foldl max n))
theorem de_max1 (hc : X.calm = true) (hu : X.A.units + 64 < cLine) (hg : Gl X "max") (hm : X.mg "max" = none) (ha : DE X W e Ta) (he : starEach [e] X.env = (false, eval e X.env) :: starEach [] X.env := by rfl) (hpl : (backTo pos (starEach [e] X.env)).any (·.1) = false := by rfl) :
    DE X W (.Call (.Name "max" p) [e] [] pos) (TMax1 Ta) :=
  de_mk (t := fun σ H Q => tCons (tD X.K W Ta) tNil σ H fun vs H1 => ∃ (q : Addr) (n : Int) (ns : List Int), vs = [.ref q] ∧ SqL X.K H1 q ((n :: ns).map V.int) ∧ Q (.int (ns.foldl max n)) H1)
    ⟨fun pins s σ H Q I h => wpAny_Call_Name_kw (ld_blt I hg hm boot_max' (Calls.callWith_builtin hpl (by
      have z := thn ((pa_cons ha pa_nil he).run pos pins s σ H _ I h) fun us s1 ⟨vs, H1, I1, r, q, n, ns, ev, hq, q1⟩ => (by
        subst ev
        obtain ⟨u, rfl, r1⟩ := vals1 r
        cases r1
        exact ints_max1 hc hu I1 hq q1 : wpAny (model X.prog X.w) X.A (call (.builtin "max") us) (EP X pins σ Q) X.xe s1)
      rw [he] at z ⊢
      exact Calls.evalArgs_plain z)))⟩ fun S R H σ env φ lk ok h => tD.ask lk ok h fun R1 H1 d v f1 ok1 r1 ⟨n, ns, e1, q1⟩ => by
    subst e1
    obtain ⟨q, xs, e, hh, hr⟩ := rep_lst r1
    subst e
    rw [hr.ints] at hh
    exact ⟨q, n, ns, rfl, SqL.of (ok1.bas.sub _ _ hh), R1, .int (ns.foldl max n), f1, rfl, q1⟩
end
end L3
/-! L3zl: a constant of a class read off the class -/
namespace L3
open PySem PySem.Spec PyProof.Rows L2
section
variable {X : Cx} {W : WX} {pos : Pos} {e : Expr} {T : TD} {f : Str}
/-- the constant f of the class at C -/
def CConK (K : PySem.W.Frag) (C : Addr) (f : Str) (d : D) : Prop := ClX.CRead K C (.type "type") ∧ flatD d = true ∧ ∃ u, ClX.CVal K C (.type "type") f (flV d) u
def TCCon (K : PySem.W.Frag) (T : TD) (f : Str) : TD := fun c env φ => T c env fun x => ∃ C d, x = .ref C ∧ CConK K C f d ∧ φ d
theorem de_ccon {K : PySem.W.Frag} (he : DE X W e T) (hb : attributeBase e f X.env (eval e X.env) = eval e X.env := by rfl) (hK : X.K = K := by rfl) : DE X W (.Attribute e f pos) (TCCon K T f) := by
  subst hK
  exact de_mk (ClX.pe_cval he hb) fun S R H σ env φ lk ok h => tD.ask lk ok h fun R1 H1 d v f1 ok1 r1 ⟨C, d', e1, ⟨cr, fl, u, cv⟩, q⟩ => by
    subst e1
    obtain rfl : v = .ref C := r1
    exact ⟨C, .type "type", flV d', u, rfl, cr, cv, R1, d', f1, flV_rep fl, q⟩
def cvB (C m : Str) (n : Int) : ExB := fun K => match PySem.W.findCls K (.ref (He.ga K C)) (.type "type") m with
  | some (.val (.int i _)) => decide (i = n)
  | _ => false
theorem cvB_ok {C m : Str} {n : Int} {K : PySem.W.Frag} (hc : ClX.CRead K (He.ga K C) (.type "type")) (h : cvB C m n K = true) : CConK K (He.ga K C) m (.int n) := by
  unfold cvB at h
  split at h
  case h_1 i t e =>
    have := of_decide_eq_true h
    subst this
    exact ⟨hc, rfl, _, e, ⟨t, rfl⟩⟩
  case h_2 => cases h
end
section
variable {X : Cx} {W : WX} {k : Nat} {x y : Str} {c : Value} {body : List Stmt} {np p pos pos' pos2 pos3 cpos : Pos} {j : Nat} {e : Expr} {es : List Expr} {U : TL} {Tb : TSD} {C fI : Addr} {mk : MkV} {mkD : MkD}
theorem ds_try_fromK {K : PySem.W.Frag} (hs : X.stack = X.env :: X.outer) (hf : X.env.frame = some X.env.locals) (hc : Names X x c) (hpa : ∀ hd : Option Value, PassesOwnAt (model X.prog X.w) (X.A.mark hd) X.A X.env X.xe) (tk : L2.Takes X W)
    (M : ExcKC X.prog X.w X.K X.mg X.base k C fI mk mkD) (hr : Room (k + 1) X.A) (hg : Gl X y) (hm : X.mg y = some (.ref C))
    (hb : ∀ (W : WX) (pn : List (Addr × Obj)) (xe : Value → Shared → Prop), L2N.Takes (X.tr pn xe) W → PassesOwn (model X.prog X.w) X.A X.env xe → DSs (X.tr pn xe) W body Tb)
    (ha : ∀ (a : Addr) (pn : List (Addr × Obj)), DA (L2H.suiteX X a pn) W (e :: es) U)
    (hdb : (y == ("__debug__" : Str)) = false := by decide) (he : starEach (e :: es) X.env = (false, eval e X.env) :: starEach es X.env := by rfl) (hpl : (backTo pos (starEach es X.env)).any (·.1) = false := by rfl) (hK : X.K = K := by rfl) :
    DS X W (.Try body [.ExceptHandler (some (.Name x np)) none [.Raise (some (.Call (.Name y p) (e :: es) [] pos)) (some (.Constant .none j cpos)) pos2] pos'] [] [] pos3) (TFrom K c C mkD U Tb) := by
  subst hK
  exact ds_try_from hs hf hc hpa tk M hr hg hm hb ha hdb he hpl
end
section
variable {X : Cx} {pos : Pos}
/-- a, b, .. = a list of that length -/
def GUnl (n : Nat) (u : TGsD) : TGD := fun d env k => ∃ ds, d = .lst ds ∧ ds.length = n ∧ u ds env k
theorem dg_unl {es : List Expr} {kk : Nat} {vs : List Nat} {u : TGsD} {n : Nat} (hc : X.calm = true) (h : DGs X vs es u) (hn : (assignEach es X.env).length = n := by rfl) (hst : (assignEach es X.env).findIdx? (·.1) = none := by rfl) : DG X vs (.Tuple es kk pos) (GUnl n u) :=
  pg_imp (pg_unl hc h hn hst) fun v σ H Q ⟨S, R, env, d, k, ok, r, ⟨ds, e, hl, q⟩, hq⟩ => by
    subst e
    obtain ⟨p, xs, e, hh, hr⟩ := rep_lst r
    subst e
    exact ⟨p, xs, rfl, SqL.of (ok.bas.sub _ _ hh), by rw [hr.length]; exact hl, S, R, env, ds, k, ok, hr, q, hq⟩
end
end L3
namespace K1
open PySem PySem.Spec PyProof.Rows L2 L3
def top (i : Nat) : Stmt := PySem.Challenge.pw_piecetrade_k01_trees_made_and_refused.main.body.getD i (.Pass ⟨0, 0, 0, 0⟩)
abbrev s_is_sign : Stmt := top 13
abbrev N_is_sign : List Str := ["value", "letter"]
theorem sc_is_sign : FnScope N_is_sign ["value"] (defScope s_is_sign) := ⟨rfl, rfl, rfl, by decide +kernel, rfl, by decide +kernel, by decide +kernel⟩
abbrev s_Tree__init : Stmt := inClass (top 14) 1
abbrev N_Tree__init : List Str := ["self", "sign", "branches", "inner", "branch", "text"]
theorem sc_Tree__init : FnScope N_Tree__init ["self", "sign", "branches"] (defScope s_Tree__init) := ⟨rfl, rfl, rfl, by decide +kernel, rfl, by decide +kernel, by decide +kernel⟩
abbrev s_Tree__eq : Stmt := inClass (top 14) 8
abbrev N_Tree__eq : List Str := ["self", "other"]
theorem sc_Tree__eq : FnScope N_Tree__eq ["self", "other"] (defScope s_Tree__eq) := ⟨rfl, rfl, rfl, by decide +kernel, rfl, by decide +kernel, by decide +kernel⟩
abbrev s_Tree__str : Stmt := inClass (top 14) 9
abbrev N_Tree__str : List Str := ["self"]
theorem sc_Tree__str : FnScope N_Tree__str ["self"] (defScope s_Tree__str) := ⟨rfl, rfl, rfl, by decide +kernel, rfl, by decide +kernel, by decide +kernel⟩
abbrev s_Tree__repr : Stmt := inClass (top 14) 10
abbrev N_Tree__repr : List Str := ["self"]
theorem sc_Tree__repr : FnScope N_Tree__repr ["self"] (defScope s_Tree__repr) := ⟨rfl, rfl, rfl, by decide +kernel, rfl, by decide +kernel, by decide +kernel⟩
abbrev s_law_hand : Stmt := top 18
abbrev N_law_hand : List Str := ["_law_script", "_law_cells", "_law_mark", "_law_cell"]
theorem sc_law_hand : FnScope N_law_hand ["_law_script"] (defScope s_law_hand) := ⟨rfl, rfl, rfl, by decide +kernel, rfl, by decide +kernel, by decide +kernel⟩
abbrev s_law_pick : Stmt := top 19
abbrev N_law_pick : List Str := ["_law_hand_here", "_law_many", "_law_cell", "_law_one", "_law_two", "_law_drawn_here"]
theorem sc_law_pick : FnScope N_law_pick ["_law_hand_here", "_law_many"] (defScope s_law_pick) := ⟨rfl, rfl, rfl, by decide +kernel, rfl, by decide +kernel, by decide +kernel⟩
abbrev s_law_of : Stmt := top 20
abbrev N_law_of : List Str := ["_law_hand_here", "_law_items"]
theorem sc_law_of : FnScope N_law_of ["_law_hand_here", "_law_items"] (defScope s_law_of) := ⟨rfl, rfl, rfl, by decide +kernel, rfl, by decide +kernel, by decide +kernel⟩
abbrev s_law_same : Stmt := top 21
abbrev N_law_same : List Str := ["_law_found", "_law_due", "_law_one", "_law_two"]
theorem sc_law_same : FnScope N_law_same ["_law_found", "_law_due"] (defScope s_law_same) := ⟨rfl, rfl, rfl, by decide +kernel, rfl, by decide +kernel, by decide +kernel⟩
abbrev s_law_field : Stmt := top 22
abbrev N_law_field : List Str := ["_law_e"]
theorem sc_law_field : FnScope N_law_field ["_law_e"] (defScope s_law_field) := ⟨rfl, rfl, rfl, by decide +kernel, rfl, by decide +kernel, by decide +kernel⟩
abbrev s_law_why : Stmt := top 23
abbrev N_law_why : List Str := ["_law_ask", "_law_said", "_law_e"]
theorem sc_law_why : FnScope N_law_why ["_law_ask"] (defScope s_law_why) := ⟨rfl, rfl, rfl, by decide +kernel, rfl, by decide +kernel, by decide +kernel⟩
abbrev s_law_words : Stmt := top 24
abbrev N_law_words : List Str := ["_law_asks", "_law_ask"]
theorem sc_law_words : FnScope N_law_words ["_law_asks"] (defScope s_law_words) := ⟨rfl, rfl, rfl, by decide +kernel, rfl, by decide +kernel, by decide +kernel⟩
abbrev s_law_text : Stmt := top 25
abbrev N_law_text : List Str := ["_law_model", "_law_inner", "_law_kid"]
theorem sc_law_text : FnScope N_law_text ["_law_model"] (defScope s_law_text) := ⟨rfl, rfl, rfl, by decide +kernel, rfl, by decide +kernel, by decide +kernel⟩
abbrev s_law_tree : Stmt := top 26
abbrev N_law_tree : List Str := ["_law_model", "_law_kids", "_law_kid"]
theorem sc_law_tree : FnScope N_law_tree ["_law_model"] (defScope s_law_tree) := ⟨rfl, rfl, rfl, by decide +kernel, rfl, by decide +kernel, by decide +kernel⟩
abbrev s_law_size : Stmt := top 27
abbrev N_law_size : List Str := ["_law_model", "_law_kid"]
theorem sc_law_size : FnScope N_law_size ["_law_model"] (defScope s_law_size) := ⟨rfl, rfl, rfl, by decide +kernel, rfl, by decide +kernel, by decide +kernel⟩
abbrev s_law_signs : Stmt := top 28
abbrev N_law_signs : List Str := []
theorem sc_law_signs : FnScope N_law_signs [] (defScope s_law_signs) := ⟨rfl, rfl, rfl, by decide +kernel, rfl, by decide +kernel, by decide +kernel⟩
abbrev s_law_drawn : Stmt := top 29
abbrev N_law_drawn : List Str := ["_law_hand_here", "_law_signs_here", "_law_room", "_law_fits", "_law_sign", "_law_many", "_law_kids", "_law_left", "_law_k", "_law_kid", "_law_pair"]
theorem sc_law_drawn : FnScope N_law_drawn ["_law_hand_here", "_law_signs_here", "_law_room"] (defScope s_law_drawn) := ⟨rfl, rfl, rfl, by decide +kernel, rfl, by decide +kernel, by decide +kernel⟩
abbrev s_law_places : Stmt := top 30
abbrev N_law_places : List Str := ["_law_model", "_law_found", "_law_at", "_law_kid", "_law_path", "_law_piece"]
theorem sc_law_places : FnScope N_law_places ["_law_model"] (defScope s_law_places) := ⟨rfl, rfl, rfl, by decide +kernel, rfl, by decide +kernel, by decide +kernel⟩
abbrev s_law : Stmt := top 31
abbrev N_law : List Str := ["_law_script", "_law_hand_here", "_law_turn", "_law_model", "_law_tree_here", "_law_word", "_law_deep", "_law_kids", "_law_other", "_law_odd", "_law_bad", "_law_asks", "_law_words_here", "_law_late", "_law_path", "_law_piece", "_law_kid"]
theorem sc_law : FnScope N_law ["_law_script"] (defScope s_law) := ⟨rfl, rfl, rfl, by decide +kernel, rfl, by decide +kernel, by decide +kernel⟩
abbrev s_TradeError__init : Stmt := inClass (top 2) 0
abbrev N_TradeError__init : List Str := ["self", "word"]
abbrev s_InvalidSign__init : Stmt := inClass (top 4) 0
abbrev N_InvalidSign__init : List Str := ["self", "given"]
abbrev s_InvalidBranches__init : Stmt := inClass (top 5) 0
abbrev N_InvalidBranches__init : List Str := ["self"]
structure Tx (K : PySem.W.Frag) (mg : Str → Option Value) : Prop where
  mg_Tree : mg "Tree" = some (.ref (He.ga K "Tree"))
  cl_Tree : Cls K (He.ga K "Tree")
  mk_Tree : Mk K (He.ga K "Tree") (He.ma K (He.ga K "Tree") "__init__")
  in_Tree : InsK K (He.ga K "Tree")
  ki_Tree : PySem.W.kitOne K (.ref (He.ga K "Tree")) (.ref (He.ga K "Tree")) = some true
  na_Tree_sign : NoAttr K (He.ga K "Tree") "sign"
  na_Tree_branches : NoAttr K (He.ga K "Tree") "branches"
  na_Tree_size : NoAttr K (He.ga K "Tree") "size"
  na_Tree_depth : NoAttr K (He.ga K "Tree") "depth"
  na_Tree_text : NoAttr K (He.ga K "Tree") "text"
  na_Tree_inside : NoAttr K (He.ga K "Tree") "inside"
  na_Tree_key : NoAttr K (He.ga K "Tree") "key"
  mg_is_sign : mg "is_sign" = some (.ref (He.ga K "is_sign"))
  fd_is_sign : ∃ fd, FunD K "is_sign" "is_sign" (defArgs s_is_sign) (defBody s_is_sign) (defScope s_is_sign) [] [] (He.ga K "is_sign") fd
  kp_is_sign : PySem.W.keepIn K (.ref (He.ga K "is_sign")) = true
  fd_Tree__init : ∃ fd, FunD K "__init__" "Tree.__init__" (defArgs s_Tree__init) (defBody s_Tree__init) (defScope s_Tree__init) [] [] (He.ma K (He.ga K "Tree") "__init__") fd
  fd_Tree__eq : ∃ fd, FunD K "__eq__" "Tree.__eq__" (defArgs s_Tree__eq) (defBody s_Tree__eq) (defScope s_Tree__eq) [] [] (He.ma K (He.ga K "Tree") "__eq__") fd
  fd_Tree__str : ∃ fd, FunD K "__str__" "Tree.__str__" (defArgs s_Tree__str) (defBody s_Tree__str) (defScope s_Tree__str) [] [] (He.ma K (He.ga K "Tree") "__str__") fd
  fd_Tree__repr : ∃ fd, FunD K "__repr__" "Tree.__repr__" (defArgs s_Tree__repr) (defBody s_Tree__repr) (defScope s_Tree__repr) [] [] (He.ma K (He.ga K "Tree") "__repr__") fd
  mg_law_hand : mg "_law_hand" = some (.ref (He.ga K "_law_hand"))
  fd_law_hand : ∃ fd, FunD K "_law_hand" "_law_hand" (defArgs s_law_hand) (defBody s_law_hand) (defScope s_law_hand) [] [] (He.ga K "_law_hand") fd
  kp_law_hand : PySem.W.keepIn K (.ref (He.ga K "_law_hand")) = true
  mg_law_pick : mg "_law_pick" = some (.ref (He.ga K "_law_pick"))
  fd_law_pick : ∃ fd, FunD K "_law_pick" "_law_pick" (defArgs s_law_pick) (defBody s_law_pick) (defScope s_law_pick) [] [] (He.ga K "_law_pick") fd
  kp_law_pick : PySem.W.keepIn K (.ref (He.ga K "_law_pick")) = true
  mg_law_of : mg "_law_of" = some (.ref (He.ga K "_law_of"))
  fd_law_of : ∃ fd, FunD K "_law_of" "_law_of" (defArgs s_law_of) (defBody s_law_of) (defScope s_law_of) [] [] (He.ga K "_law_of") fd
  kp_law_of : PySem.W.keepIn K (.ref (He.ga K "_law_of")) = true
  mg_law_same : mg "_law_same" = some (.ref (He.ga K "_law_same"))
  fd_law_same : ∃ fd, FunD K "_law_same" "_law_same" (defArgs s_law_same) (defBody s_law_same) (defScope s_law_same) [] [] (He.ga K "_law_same") fd
  kp_law_same : PySem.W.keepIn K (.ref (He.ga K "_law_same")) = true
  mg_law_field : mg "_law_field" = some (.ref (He.ga K "_law_field"))
  fd_law_field : ∃ fd, FunD K "_law_field" "_law_field" (defArgs s_law_field) (defBody s_law_field) (defScope s_law_field) [] [] (He.ga K "_law_field") fd
  kp_law_field : PySem.W.keepIn K (.ref (He.ga K "_law_field")) = true
  mg_law_why : mg "_law_why" = some (.ref (He.ga K "_law_why"))
  fd_law_why : ∃ fd, FunD K "_law_why" "_law_why" (defArgs s_law_why) (defBody s_law_why) (defScope s_law_why) [] [] (He.ga K "_law_why") fd
  kp_law_why : PySem.W.keepIn K (.ref (He.ga K "_law_why")) = true
  mg_law_words : mg "_law_words" = some (.ref (He.ga K "_law_words"))
  fd_law_words : ∃ fd, FunD K "_law_words" "_law_words" (defArgs s_law_words) (defBody s_law_words) (defScope s_law_words) [] [] (He.ga K "_law_words") fd
  kp_law_words : PySem.W.keepIn K (.ref (He.ga K "_law_words")) = true
  mg_law_text : mg "_law_text" = some (.ref (He.ga K "_law_text"))
  fd_law_text : ∃ fd, FunD K "_law_text" "_law_text" (defArgs s_law_text) (defBody s_law_text) (defScope s_law_text) [] [] (He.ga K "_law_text") fd
  kp_law_text : PySem.W.keepIn K (.ref (He.ga K "_law_text")) = true
  mg_law_tree : mg "_law_tree" = some (.ref (He.ga K "_law_tree"))
  fd_law_tree : ∃ fd, FunD K "_law_tree" "_law_tree" (defArgs s_law_tree) (defBody s_law_tree) (defScope s_law_tree) [] [] (He.ga K "_law_tree") fd
  kp_law_tree : PySem.W.keepIn K (.ref (He.ga K "_law_tree")) = true
  mg_law_size : mg "_law_size" = some (.ref (He.ga K "_law_size"))
  fd_law_size : ∃ fd, FunD K "_law_size" "_law_size" (defArgs s_law_size) (defBody s_law_size) (defScope s_law_size) [] [] (He.ga K "_law_size") fd
  kp_law_size : PySem.W.keepIn K (.ref (He.ga K "_law_size")) = true
  mg_law_signs : mg "_law_signs" = some (.ref (He.ga K "_law_signs"))
  fd_law_signs : ∃ fd, FunD K "_law_signs" "_law_signs" (defArgs s_law_signs) (defBody s_law_signs) (defScope s_law_signs) [] [] (He.ga K "_law_signs") fd
  kp_law_signs : PySem.W.keepIn K (.ref (He.ga K "_law_signs")) = true
  mg_law_drawn : mg "_law_drawn" = some (.ref (He.ga K "_law_drawn"))
  fd_law_drawn : ∃ fd, FunD K "_law_drawn" "_law_drawn" (defArgs s_law_drawn) (defBody s_law_drawn) (defScope s_law_drawn) [] [] (He.ga K "_law_drawn") fd
  kp_law_drawn : PySem.W.keepIn K (.ref (He.ga K "_law_drawn")) = true
  mg_law_places : mg "_law_places" = some (.ref (He.ga K "_law_places"))
  fd_law_places : ∃ fd, FunD K "_law_places" "_law_places" (defArgs s_law_places) (defBody s_law_places) (defScope s_law_places) [] [] (He.ga K "_law_places") fd
  kp_law_places : PySem.W.keepIn K (.ref (He.ga K "_law_places")) = true
  mg_law : mg "law" = some (.ref (He.ga K "law"))
  fd_law : ∃ fd, FunD K "law" "law" (defArgs s_law) (defBody s_law) (defScope s_law) [] [] (He.ga K "law") fd
  kp_law : PySem.W.keepIn K (.ref (He.ga K "law")) = true
  no_isinstance : mg "isinstance" = none
  no_str : mg "str" = none
  no_len : mg "len" = none
  no_all : mg "all" = none
  no_int : mg "int" = none
  no_sum : mg "sum" = none
  no_max : mg "max" = none
  no_tuple : mg "tuple" = none
  no_bool : mg "bool" = none
  no_list : mg "list" = none
  no_zip : mg "zip" = none
  no_range : mg "range" = none
  no_super : mg "super" = none
  no_repr : mg "repr" = none
  no_enumerate : mg "enumerate" = none
  mg_MOST_LETTERS : ∃ t, mg "MOST_LETTERS" = some (.int 6 t)
  mg_MOST_BRANCHES_trees : ∃ t, mg "MOST_BRANCHES_trees" = some (.int 3 t)
  mg_LETTERS : ∃ t, mg "LETTERS" = some (.str "abcdefghijklmnopqrstuvwxyz" t)
  mg_TradeError : mg "TradeError" = some (.ref (He.ga K "TradeError"))
  mg_Missing : mg "Missing" = some (.ref (He.ga K "Missing"))
  mg_NothingLeft : mg "NothingLeft" = some (.ref (He.ga K "NothingLeft"))
  mg_InvalidSign : mg "InvalidSign" = some (.ref (He.ga K "InvalidSign"))
  mg_InvalidBranches : mg "InvalidBranches" = some (.ref (He.ga K "InvalidBranches"))
  fs_TradeError__init : ∃ fd, FunS K "__init__" "TradeError.__init__" (defArgs s_TradeError__init) (defBody s_TradeError__init) (defScope s_TradeError__init) (PySem.Challenge.pw_piecetrade_k01_trees_made_and_refused.main.file) ((He.ga K "TradeError")) (He.ma K (He.ga K "TradeError") "__init__") fd
  fs_InvalidSign__init : ∃ fd, FunS K "__init__" "InvalidSign.__init__" (defArgs s_InvalidSign__init) (defBody s_InvalidSign__init) (defScope s_InvalidSign__init) (PySem.Challenge.pw_piecetrade_k01_trees_made_and_refused.main.file) ((He.ga K "InvalidSign")) (He.ma K (He.ga K "InvalidSign") "__init__") fd
  fs_InvalidBranches__init : ∃ fd, FunS K "__init__" "InvalidBranches.__init__" (defArgs s_InvalidBranches__init) (defBody s_InvalidBranches__init) (defScope s_InvalidBranches__init) (PySem.Challenge.pw_piecetrade_k01_trees_made_and_refused.main.file) ((He.ga K "InvalidBranches")) (He.ma K (He.ga K "InvalidBranches") "__init__") fd
  xc_InvalidSign : ExC K "ValueError" "ValueError.__new__" "ValueError.__init__" bmVE (He.ga K "InvalidSign")
  xf_InvalidSign : XfC K (He.ga K "InvalidSign")
  nx_InvalidSign : PySem.W.mroIn K (He.ga K "InvalidSign") (.ref (He.ga K "InvalidSign")) = some true ∧ PySem.W.ks_superIn K (He.ga K "InvalidSign") (He.ga K "InvalidSign") "__init__" = some (some (.ref (He.ma K (He.ga K "TradeError") "__init__"))) ∧ PySem.W.nsIn K cStatics "thirdparty.any" = some none
  nxt_InvalidSign : PySem.W.mroIn K (He.ga K "InvalidSign") (.ref (He.ga K "TradeError")) = some true ∧ PySem.W.ks_superIn K (He.ga K "InvalidSign") (He.ga K "TradeError") "__init__" = some (some (.builtin "ValueError.__init__")) ∧ PySem.W.nsIn K cStatics "thirdparty.any" = some none
  sub_InvalidSign : PySem.W.subIn K (.ref (He.ga K "InvalidSign")) (.type "ValueError") = some true
  ic_InvalidSign : PySem.W.findIn K (.ref (He.ga K "InvalidSign")) "__init__" = some (some (.ref (He.ma K (He.ga K "InvalidSign") "__init__"))) ∧ PySem.W.typeIn K (.ref (He.ma K (He.ga K "InvalidSign") "__init__")) = some (.type "function")
  nox_InvalidSign_word : PySem.W.findIn K (.ref (He.ga K "InvalidSign")) "word" = some none
  nox_InvalidSign_given : PySem.W.findIn K (.ref (He.ga K "InvalidSign")) "given" = some none
  em_InvalidSign : PySem.W.exmAny K (.ref (He.ga K "InvalidSign")) [.ref (He.ga K "TradeError"), .ref (He.ga K "Missing")] = some true
  xc_InvalidBranches : ExC K "ValueError" "ValueError.__new__" "ValueError.__init__" bmVE (He.ga K "InvalidBranches")
  xf_InvalidBranches : XfC K (He.ga K "InvalidBranches")
  nx_InvalidBranches : PySem.W.mroIn K (He.ga K "InvalidBranches") (.ref (He.ga K "InvalidBranches")) = some true ∧ PySem.W.ks_superIn K (He.ga K "InvalidBranches") (He.ga K "InvalidBranches") "__init__" = some (some (.ref (He.ma K (He.ga K "TradeError") "__init__"))) ∧ PySem.W.nsIn K cStatics "thirdparty.any" = some none
  nxt_InvalidBranches : PySem.W.mroIn K (He.ga K "InvalidBranches") (.ref (He.ga K "TradeError")) = some true ∧ PySem.W.ks_superIn K (He.ga K "InvalidBranches") (He.ga K "TradeError") "__init__" = some (some (.builtin "ValueError.__init__")) ∧ PySem.W.nsIn K cStatics "thirdparty.any" = some none
  sub_InvalidBranches : PySem.W.subIn K (.ref (He.ga K "InvalidBranches")) (.type "ValueError") = some true
  ic_InvalidBranches : PySem.W.findIn K (.ref (He.ga K "InvalidBranches")) "__init__" = some (some (.ref (He.ma K (He.ga K "InvalidBranches") "__init__"))) ∧ PySem.W.typeIn K (.ref (He.ma K (He.ga K "InvalidBranches") "__init__")) = some (.type "function")
  nox_InvalidBranches_word : PySem.W.findIn K (.ref (He.ga K "InvalidBranches")) "word" = some none
  em_InvalidBranches : PySem.W.exmAny K (.ref (He.ga K "InvalidBranches")) [.ref (He.ga K "TradeError"), .ref (He.ga K "Missing")] = some true
  ty_TE : PySem.W.typeIn K (.ref (He.ma K (He.ga K "TradeError") "__init__")) = some (.type "function") ∧ PySem.W.fnIn K (He.ma K (He.ga K "TradeError") "__init__") = true
  eq_Tree : EqK K (He.ga K "Tree") (He.ma K (He.ga K "Tree") "__eq__")
  nf_Tree_Tree : PySem.W.notFirst K (He.ga K "Tree") (.ref (He.ga K "Tree")) = true
  nf_Tree_str : PySem.W.notFirst K (He.ga K "Tree") (.type "str") = true
  nf_Tree_tuple : PySem.W.notFirst K (He.ga K "Tree") (.type "tuple") = true
  kis_NoneType : PySem.W.kitOne K (.type "NoneType") (.ref (He.ga K "Tree")) = some false
  kis_bool : PySem.W.kitOne K (.type "bool") (.ref (He.ga K "Tree")) = some false
  kis_int : PySem.W.kitOne K (.type "int") (.ref (He.ga K "Tree")) = some false
  kis_str : PySem.W.kitOne K (.type "str") (.ref (He.ga K "Tree")) = some false
  kis_list : PySem.W.kitOne K (.type "list") (.ref (He.ga K "Tree")) = some false
  kis_tuple : PySem.W.kitOne K (.type "tuple") (.ref (He.ga K "Tree")) = some false
  te_str : PySem.W.findIn K (.ref (He.ga K "Tree")) "__str__" = some (some (.ref (He.ma K (He.ga K "Tree") "__str__"))) ∧ PySem.W.isFn K (.ref (He.ma K (He.ga K "Tree") "__str__")) = true
  te_repr : PySem.W.findIn K (.ref (He.ga K "Tree")) "__repr__" = some (some (.ref (He.ma K (He.ga K "Tree") "__repr__"))) ∧ PySem.W.isFn K (.ref (He.ma K (He.ga K "Tree") "__repr__")) = true
  cv_MOST : CConK K (He.ga K "Tree") "MOST_BRANCHES" (.int 3)

end K1
namespace K1
open PySem PySem.Spec PyProof.Rows L2 L3

def mkW : MkV := fun vs => match vs with
  | [d] => some [("word", d)]
  | _ => none
theorem scs_TE : FnScopeS N_TradeError__init ["self", "word"] (defScope s_TradeError__init) := ⟨rfl, rfl, rfl, by decide +kernel, rfl, by decide +kernel, by decide +kernel, by decide +kernel, rfl, rfl⟩
/-- TradeError.__init__ at any own class below it -/
theorem ok_TE {P : Program} {w : World} {K : PySem.W.Frag} {mg : Str → Option Value} {base : Heap} (tx : Tx K mg) (pf : PrgF P PySem.Challenge.pw_piecetrade_k01_trees_made_and_refused.main.file) {C : Addr} (xc : ExC K "ValueError" "ValueError.__new__" "ValueError.__init__" bmVE C)
    (nxt : NxtI K C (He.ga K "TradeError") (.builtin "ValueError.__init__")) (sub : PySem.W.subIn K (.ref C) (.type "ValueError") = some true) (nox : PySem.W.findIn K (.ref C) "word" = some none) : FnRC P w K mg base (L2.CX P w) 1 (He.ma K (He.ga K "TradeError") "__init__") (spX (fun c => c = C) mkW) := by
  obtain ⟨fd, FS⟩ := tx.fs_TradeError__init
  refine exi_basC (N := N_TradeError__init) (ps := ["self", "word"]) (mk := mkW) (sn := "self") (ta := tCons (L2.tVar 1) L2.tNil) (tr := tOstX K "word" (L2.tVar 0) (L2.tVar 1)) FS scs_TE pf tx.no_super rfl rfl rfl (FunS.bindsN FS fun _ _ _ _ _ _ _ us hl => match us, hl with | [_, _], _ => rfl)
    xc nxt sub (fun ws fs h => ?_) (fun _ _ _ => rfl) (fun _ _ _ => rfl) (fun _ _ _ => rfl)
    (fun cd cc A outer s H E => pa_cons (pe_var (i := 1) rfl (Or.inl rfl)) pa_nil) (fun cd cc A outer s H E => pss_one (ps_ostX (pe_var (i := 0) (x := "self") rfl (Or.inl rfl)) (pe_var (i := 1) (x := "word") rfl (Or.inl rfl)))) (fun σ H Q Q' ⟨v, e, q⟩ k => ⟨v, e, k _ _ q⟩) (fun a ws fs H h => ?_) (fun a ws fs H D h hA k => ?_)
  · match ws, h with
    | [_], _ => rfl
  · match ws, h with
    | [g], _ => exact ⟨g, g, rfl, rfl, rfl⟩
  · match ws, h with
    | [g], h =>
      have e : [(("word" : Str), g)] = fs := Option.some.inj h
      subst e
      exact ⟨g, rfl, .ref a, rfl, a, C, _, _, _, _, rfl, xc, nox, .inl ⟨hA, k⟩⟩
def mkvIS : MkV := fun vs => match vs with
  | [d] => some [("given", d), ("word", .str "InvalidSign")]
  | _ => none
def mkdIS : MkD := fun ds => match ds with
  | [d] => some [("given", d), ("word", .str "InvalidSign")]
  | _ => none
def mkvIB : MkV := fun vs => match vs with
  | [] => some [("word", .str "InvalidBranches")]
  | _ => none
def mkdIB : MkD := fun ds => match ds with
  | [] => some [("word", .str "InvalidBranches")]
  | _ => none

theorem scs_InvalidSign : FnScopeS N_InvalidSign__init ["self", "given"] (defScope s_InvalidSign__init) := ⟨rfl, rfl, rfl, by decide +kernel, rfl, by decide +kernel, by decide +kernel, by decide +kernel, rfl, rfl⟩
theorem ok_xInvalidSign {P : Program} {w : World} {K : PySem.W.Frag} {mg : Str → Option Value} {base : Heap} (tx : Tx K mg) (pf : PrgF P PySem.Challenge.pw_piecetrade_k01_trees_made_and_refused.main.file) : FnRC P w K mg base (L2.CX P w) 2 (He.ma K (He.ga K "InvalidSign") "__init__") (spX (fun c => c = (He.ga K "InvalidSign")) mkvIS) := by
  obtain ⟨fd, FS⟩ := tx.fs_InvalidSign__init
  refine exi_ownC (N := N_InvalidSign__init) (ps := ["self", "given"]) (mk := mkvIS) (mk2 := mkW) (sn := "self") (ta := tCons (L2.tC (.str "InvalidSign")) L2.tNil) (tr := tOstX K "given" (L2.tVar 0) (L2.tVar 1)) FS scs_InvalidSign pf tx.no_super rfl rfl rfl (FunS.bindsN FS fun _ _ _ _ _ _ _ us hl => match us, hl with | [_, _], _ => rfl)
    ⟨tx.nx_InvalidSign.1, tx.nx_InvalidSign.2.1, tx.nx_InvalidSign.2.2⟩ tx.ty_TE.1 tx.ty_TE.2 (ok_TE tx pf tx.xc_InvalidSign ⟨tx.nxt_InvalidSign.1, tx.nxt_InvalidSign.2.1, tx.nxt_InvalidSign.2.2⟩ tx.sub_InvalidSign tx.nox_InvalidSign_word) (fun ws fs h => ?_) (fun _ _ _ => rfl) (fun _ _ _ => rfl) (fun _ _ _ => rfl)
    (fun cd cc A outer s H E => pa_cons pe_str pa_nil) (fun cd cc A outer s H E => pss_one (ps_ostX (pe_var (i := 0) (x := "self") rfl (Or.inl rfl)) (pe_var (i := 1) (x := "given") rfl (Or.inl rfl)))) (fun σ H Q Q' q k => k _ _ q) (fun a ws fs H h => ?_)
  · match ws, h with
    | [_], _ => rfl
  · match ws, h with
    | [g], h =>
      have e : [(("given" : Str), g), ("word", .str "InvalidSign")] = fs := Option.some.inj h
      subst e
      refine ⟨.str "InvalidSign", ⟨rfl, rfl⟩, _, rfl, fun dx D n1 n2 k => ?_⟩
      refine ⟨g, rfl, .ref a, rfl, a, (He.ga K "InvalidSign"), _, _, _, _, rfl, tx.xc_InvalidSign, tx.nox_InvalidSign_given, .inr ⟨dx, [("word", .str "InvalidSign")], upd_same, by rw [upd_ne n2, upd_same], by show 1 ≤ 900; decide, ?_⟩⟩
      have e2 : upd (upd (upd H dx (exd dx [("word", V.str "InvalidSign")])) a (exo a (He.ga K "InvalidSign") (some dx))) dx (exd dx [("given", g), ("word", .str "InvalidSign")]) = upd (upd H dx (exd dx [("given", g), ("word", .str "InvalidSign")])) a (exo a (He.ga K "InvalidSign") (some dx)) := by
        funext b
        by_cases h1 : b = dx
        · subst h1
          rw [upd_same, upd_ne n2, upd_same]
        · rw [upd_ne h1]
          by_cases h2 : b = a
          · rw [h2, upd_same, upd_same]
          · rw [upd_ne h2, upd_ne h2, upd_ne h1, upd_ne h1]
      rw [e2]
      exact k
theorem x_InvalidSign {P : Program} {w : World} {K : PySem.W.Frag} {mg : Str → Option Value} {base : Heap} (tx : Tx K mg) (pf : PrgF P PySem.Challenge.pw_piecetrade_k01_trees_made_and_refused.main.file) : ExcKC P w K mg base 2 (He.ga K "InvalidSign") (He.ma K (He.ga K "InvalidSign") "__init__") mkvIS mkdIS :=
  ⟨⟨_, _, _, _, tx.xc_InvalidSign⟩, tx.ic_InvalidSign.1, tx.ic_InvalidSign.2, ok_xInvalidSign tx pf, fun R ds vs fs r h => by
    match ds, r, h with
    | [d], r, h =>
      obtain ⟨v, t, e, r1, r2⟩ := r
      obtain rfl : t = [] := r2
      subst e
      have e : [(("given" : Str), d), ("word", .str "InvalidSign")] = fs := Option.some.inj h
      subst e
      exact ⟨_, rfl, v, _, rfl, r1, .str "InvalidSign", [], rfl, rfl, rfl⟩⟩

theorem scs_InvalidBranches : FnScopeS N_InvalidBranches__init ["self"] (defScope s_InvalidBranches__init) := ⟨rfl, rfl, rfl, by decide +kernel, rfl, by decide +kernel, by decide +kernel, by decide +kernel, rfl, rfl⟩
theorem ok_xInvalidBranches {P : Program} {w : World} {K : PySem.W.Frag} {mg : Str → Option Value} {base : Heap} (tx : Tx K mg) (pf : PrgF P PySem.Challenge.pw_piecetrade_k01_trees_made_and_refused.main.file) : FnRC P w K mg base (L2.CX P w) 2 (He.ma K (He.ga K "InvalidBranches") "__init__") (spX (fun c => c = (He.ga K "InvalidBranches")) mkvIB) := by
  obtain ⟨fd, FS⟩ := tx.fs_InvalidBranches__init
  refine exi_ownC (N := N_InvalidBranches__init) (ps := ["self"]) (mk := mkvIB) (mk2 := mkW) (sn := "self") (ta := tCons (L2.tC (.str "InvalidBranches")) L2.tNil) (tr := L2.tNext) FS scs_InvalidBranches pf tx.no_super rfl rfl rfl (FunS.bindsN FS fun _ _ _ _ _ _ _ us hl => match us, hl with | [_], _ => rfl)
    ⟨tx.nx_InvalidBranches.1, tx.nx_InvalidBranches.2.1, tx.nx_InvalidBranches.2.2⟩ tx.ty_TE.1 tx.ty_TE.2 (ok_TE tx pf tx.xc_InvalidBranches ⟨tx.nxt_InvalidBranches.1, tx.nxt_InvalidBranches.2.1, tx.nxt_InvalidBranches.2.2⟩ tx.sub_InvalidBranches tx.nox_InvalidBranches_word) (fun ws fs h => ?_) (fun _ _ _ => rfl) (fun _ _ _ => rfl) (fun _ _ _ => rfl)
    (fun cd cc A outer s H E => pa_cons pe_str pa_nil) (fun cd cc A outer s H E => pss_nil) (fun σ H Q Q' q k => k _ _ q) (fun a ws fs H h => ?_)
  · match ws, h with
    | [], _ => rfl
  · match ws, h with
    | [], h =>
      have e : [(("word" : Str), V.str "InvalidBranches")] = fs := Option.some.inj h
      subst e
      exact ⟨.str "InvalidBranches", ⟨rfl, rfl⟩, _, rfl, fun dx D n1 n2 k => k⟩
theorem x_InvalidBranches {P : Program} {w : World} {K : PySem.W.Frag} {mg : Str → Option Value} {base : Heap} (tx : Tx K mg) (pf : PrgF P PySem.Challenge.pw_piecetrade_k01_trees_made_and_refused.main.file) : ExcKC P w K mg base 2 (He.ga K "InvalidBranches") (He.ma K (He.ga K "InvalidBranches") "__init__") mkvIB mkdIB :=
  ⟨⟨_, _, _, _, tx.xc_InvalidBranches⟩, tx.ic_InvalidBranches.1, tx.ic_InvalidBranches.2, ok_xInvalidBranches tx pf, fun R ds vs fs r h => by
    match ds, r, h with
    | [], r, h =>
      obtain rfl : vs = [] := r
      have e : [(("word" : Str), D.str "InvalidBranches")] = fs := Option.some.inj h
      subst e
      exact ⟨_, rfl, .str "InvalidBranches", [], rfl, rfl, rfl⟩⟩
end K1
namespace K1
open PySem PySem.Spec PyProof.Rows L2 L3

abbrev big : Nat := 1000000
/-- a value that is no text and no instance -/
def oth : D → Bool
  | .non => true
  | .int _ => true
  | .bl _ => true
  | .lst _ => true
  | .tup _ => true
  | _ => false
def othS : D → Bool
  | .str _ => true
  | d => oth d
def F_is_sign : TF := fun _ ds φ _ => ∃ d, ds = [d] ∧ ((∃ x : Str, d = .str x ∧ x.length ≤ sizeLine ∧ φ (.bl (isSg (lc x)))) ∨ (oth d = true ∧ φ (.bl false)))
def erIS (C : Addr) (d : D) : Er := ⟨C, [("given", d), ("word", .str "InvalidSign")]⟩
def erIB (C : Addr) : Er := ⟨C, [("word", .str "InvalidBranches")]⟩
def notSg (d : D) : Prop := oth d = true ∨ ∃ x : Str, d = .str x ∧ x.length ≤ sizeLine ∧ isSg (lc x) = false
structure badBr (C : Addr) (es : List D) : Prop where
  all : ∀ e ∈ es, (∃ t, e = trD C t) ∨ othS e = true
  len : es.length ≤ 10
  bad : 3 < es.length ∨ ∃ e ∈ es, othS e = true
def F_init (C CS CB : Addr) : TFI := fun _ ds φ ε => (∃ s ks, ds = .str (mks s) :: ks.map (trD C) ∧ (Tr.nd s ks).ok ∧ (Tr.nd s ks).txt.length ≤ big ∧ φ ((Tr.nd s ks).fld C)) ∨
  (∃ d es, ds = d :: es ∧ es.length ≤ 10 ∧ notSg d ∧ ε (erIS CS d)) ∨ (∃ s es, ds = .str (mks s) :: es ∧ isSg s = true ∧ badBr C es ∧ ε (erIB CB))
def isT (C : Addr) : D → Bool
  | .ins C' _ => C' == C
  | _ => false
theorem isT_tr (C : Addr) (t : Tr) : isT C (trD C t) = true := by
  rw [trD_ins]
  exact beq_self_eq_true C
theorem compD_id {g : TGD} {A : TB} {T : TD} {c : Ct} {env : Ev} {f : D → D} {φ : List D → Prop} (ds acc : List D)
    (h : ∀ x, x ∈ ds → ∀ (acc : List D) (ψ : List D → Prop), acc.length < sizeLine → ψ (acc ++ [f x]) → g x env fun env' => A c env' fun k => if k = true then T c env' fun y => acc.length < sizeLine ∧ ψ (acc ++ [y]) else ψ acc)
    (hl : acc.length + ds.length ≤ sizeLine) (q : φ (acc ++ ds.map f)) : CompD g A T c env ds acc φ := by
  have := compD_map (enc := fun e => e) (f := f) ds acc h hl q
  rwa [List.map_id'] at this
theorem isT_oth {C : Addr} {e : D} (h : othS e = true) : isT C e = false := by
  cases e <;> first | rfl | exact Bool.noConfusion h
@[simp] theorem fnb_sign_branches : ((("sign" : Str) == ("branches" : Str)) = false) := by decide +kernel
@[simp] theorem fne_sign_branches : ((("sign" : Str) = ("branches" : Str)) = False) := eq_false (by decide +kernel)
@[simp] theorem fnb_sign_size : ((("sign" : Str) == ("size" : Str)) = false) := by decide +kernel
@[simp] theorem fne_sign_size : ((("sign" : Str) = ("size" : Str)) = False) := eq_false (by decide +kernel)
@[simp] theorem fnb_sign_depth : ((("sign" : Str) == ("depth" : Str)) = false) := by decide +kernel
@[simp] theorem fne_sign_depth : ((("sign" : Str) = ("depth" : Str)) = False) := eq_false (by decide +kernel)
@[simp] theorem fnb_sign_text : ((("sign" : Str) == ("text" : Str)) = false) := by decide +kernel
@[simp] theorem fne_sign_text : ((("sign" : Str) = ("text" : Str)) = False) := eq_false (by decide +kernel)
@[simp] theorem fnb_sign_inside : ((("sign" : Str) == ("inside" : Str)) = false) := by decide +kernel
@[simp] theorem fne_sign_inside : ((("sign" : Str) = ("inside" : Str)) = False) := eq_false (by decide +kernel)
@[simp] theorem fnb_sign_key : ((("sign" : Str) == ("key" : Str)) = false) := by decide +kernel
@[simp] theorem fne_sign_key : ((("sign" : Str) = ("key" : Str)) = False) := eq_false (by decide +kernel)
@[simp] theorem fnb_branches_sign : ((("branches" : Str) == ("sign" : Str)) = false) := by decide +kernel
@[simp] theorem fne_branches_sign : ((("branches" : Str) = ("sign" : Str)) = False) := eq_false (by decide +kernel)
@[simp] theorem fnb_branches_size : ((("branches" : Str) == ("size" : Str)) = false) := by decide +kernel
@[simp] theorem fne_branches_size : ((("branches" : Str) = ("size" : Str)) = False) := eq_false (by decide +kernel)
@[simp] theorem fnb_branches_depth : ((("branches" : Str) == ("depth" : Str)) = false) := by decide +kernel
@[simp] theorem fne_branches_depth : ((("branches" : Str) = ("depth" : Str)) = False) := eq_false (by decide +kernel)
@[simp] theorem fnb_branches_text : ((("branches" : Str) == ("text" : Str)) = false) := by decide +kernel
@[simp] theorem fne_branches_text : ((("branches" : Str) = ("text" : Str)) = False) := eq_false (by decide +kernel)
@[simp] theorem fnb_branches_inside : ((("branches" : Str) == ("inside" : Str)) = false) := by decide +kernel
@[simp] theorem fne_branches_inside : ((("branches" : Str) = ("inside" : Str)) = False) := eq_false (by decide +kernel)
@[simp] theorem fnb_branches_key : ((("branches" : Str) == ("key" : Str)) = false) := by decide +kernel
@[simp] theorem fne_branches_key : ((("branches" : Str) = ("key" : Str)) = False) := eq_false (by decide +kernel)
@[simp] theorem fnb_size_sign : ((("size" : Str) == ("sign" : Str)) = false) := by decide +kernel
@[simp] theorem fne_size_sign : ((("size" : Str) = ("sign" : Str)) = False) := eq_false (by decide +kernel)
@[simp] theorem fnb_size_branches : ((("size" : Str) == ("branches" : Str)) = false) := by decide +kernel
@[simp] theorem fne_size_branches : ((("size" : Str) = ("branches" : Str)) = False) := eq_false (by decide +kernel)
@[simp] theorem fnb_size_depth : ((("size" : Str) == ("depth" : Str)) = false) := by decide +kernel
@[simp] theorem fne_size_depth : ((("size" : Str) = ("depth" : Str)) = False) := eq_false (by decide +kernel)
@[simp] theorem fnb_size_text : ((("size" : Str) == ("text" : Str)) = false) := by decide +kernel
@[simp] theorem fne_size_text : ((("size" : Str) = ("text" : Str)) = False) := eq_false (by decide +kernel)
@[simp] theorem fnb_size_inside : ((("size" : Str) == ("inside" : Str)) = false) := by decide +kernel
@[simp] theorem fne_size_inside : ((("size" : Str) = ("inside" : Str)) = False) := eq_false (by decide +kernel)
@[simp] theorem fnb_size_key : ((("size" : Str) == ("key" : Str)) = false) := by decide +kernel
@[simp] theorem fne_size_key : ((("size" : Str) = ("key" : Str)) = False) := eq_false (by decide +kernel)
@[simp] theorem fnb_depth_sign : ((("depth" : Str) == ("sign" : Str)) = false) := by decide +kernel
@[simp] theorem fne_depth_sign : ((("depth" : Str) = ("sign" : Str)) = False) := eq_false (by decide +kernel)
@[simp] theorem fnb_depth_branches : ((("depth" : Str) == ("branches" : Str)) = false) := by decide +kernel
@[simp] theorem fne_depth_branches : ((("depth" : Str) = ("branches" : Str)) = False) := eq_false (by decide +kernel)
@[simp] theorem fnb_depth_size : ((("depth" : Str) == ("size" : Str)) = false) := by decide +kernel
@[simp] theorem fne_depth_size : ((("depth" : Str) = ("size" : Str)) = False) := eq_false (by decide +kernel)
@[simp] theorem fnb_depth_text : ((("depth" : Str) == ("text" : Str)) = false) := by decide +kernel
@[simp] theorem fne_depth_text : ((("depth" : Str) = ("text" : Str)) = False) := eq_false (by decide +kernel)
@[simp] theorem fnb_depth_inside : ((("depth" : Str) == ("inside" : Str)) = false) := by decide +kernel
@[simp] theorem fne_depth_inside : ((("depth" : Str) = ("inside" : Str)) = False) := eq_false (by decide +kernel)
@[simp] theorem fnb_depth_key : ((("depth" : Str) == ("key" : Str)) = false) := by decide +kernel
@[simp] theorem fne_depth_key : ((("depth" : Str) = ("key" : Str)) = False) := eq_false (by decide +kernel)
@[simp] theorem fnb_text_sign : ((("text" : Str) == ("sign" : Str)) = false) := by decide +kernel
@[simp] theorem fne_text_sign : ((("text" : Str) = ("sign" : Str)) = False) := eq_false (by decide +kernel)
@[simp] theorem fnb_text_branches : ((("text" : Str) == ("branches" : Str)) = false) := by decide +kernel
@[simp] theorem fne_text_branches : ((("text" : Str) = ("branches" : Str)) = False) := eq_false (by decide +kernel)
@[simp] theorem fnb_text_size : ((("text" : Str) == ("size" : Str)) = false) := by decide +kernel
@[simp] theorem fne_text_size : ((("text" : Str) = ("size" : Str)) = False) := eq_false (by decide +kernel)
@[simp] theorem fnb_text_depth : ((("text" : Str) == ("depth" : Str)) = false) := by decide +kernel
@[simp] theorem fne_text_depth : ((("text" : Str) = ("depth" : Str)) = False) := eq_false (by decide +kernel)
@[simp] theorem fnb_text_inside : ((("text" : Str) == ("inside" : Str)) = false) := by decide +kernel
@[simp] theorem fne_text_inside : ((("text" : Str) = ("inside" : Str)) = False) := eq_false (by decide +kernel)
@[simp] theorem fnb_text_key : ((("text" : Str) == ("key" : Str)) = false) := by decide +kernel
@[simp] theorem fne_text_key : ((("text" : Str) = ("key" : Str)) = False) := eq_false (by decide +kernel)
@[simp] theorem fnb_inside_sign : ((("inside" : Str) == ("sign" : Str)) = false) := by decide +kernel
@[simp] theorem fne_inside_sign : ((("inside" : Str) = ("sign" : Str)) = False) := eq_false (by decide +kernel)
@[simp] theorem fnb_inside_branches : ((("inside" : Str) == ("branches" : Str)) = false) := by decide +kernel
@[simp] theorem fne_inside_branches : ((("inside" : Str) = ("branches" : Str)) = False) := eq_false (by decide +kernel)
@[simp] theorem fnb_inside_size : ((("inside" : Str) == ("size" : Str)) = false) := by decide +kernel
@[simp] theorem fne_inside_size : ((("inside" : Str) = ("size" : Str)) = False) := eq_false (by decide +kernel)
@[simp] theorem fnb_inside_depth : ((("inside" : Str) == ("depth" : Str)) = false) := by decide +kernel
@[simp] theorem fne_inside_depth : ((("inside" : Str) = ("depth" : Str)) = False) := eq_false (by decide +kernel)
@[simp] theorem fnb_inside_text : ((("inside" : Str) == ("text" : Str)) = false) := by decide +kernel
@[simp] theorem fne_inside_text : ((("inside" : Str) = ("text" : Str)) = False) := eq_false (by decide +kernel)
@[simp] theorem fnb_inside_key : ((("inside" : Str) == ("key" : Str)) = false) := by decide +kernel
@[simp] theorem fne_inside_key : ((("inside" : Str) = ("key" : Str)) = False) := eq_false (by decide +kernel)
@[simp] theorem fnb_key_sign : ((("key" : Str) == ("sign" : Str)) = false) := by decide +kernel
@[simp] theorem fne_key_sign : ((("key" : Str) = ("sign" : Str)) = False) := eq_false (by decide +kernel)
@[simp] theorem fnb_key_branches : ((("key" : Str) == ("branches" : Str)) = false) := by decide +kernel
@[simp] theorem fne_key_branches : ((("key" : Str) = ("branches" : Str)) = False) := eq_false (by decide +kernel)
@[simp] theorem fnb_key_size : ((("key" : Str) == ("size" : Str)) = false) := by decide +kernel
@[simp] theorem fne_key_size : ((("key" : Str) = ("size" : Str)) = False) := eq_false (by decide +kernel)
@[simp] theorem fnb_key_depth : ((("key" : Str) == ("depth" : Str)) = false) := by decide +kernel
@[simp] theorem fne_key_depth : ((("key" : Str) = ("depth" : Str)) = False) := eq_false (by decide +kernel)
@[simp] theorem fnb_key_text : ((("key" : Str) == ("text" : Str)) = false) := by decide +kernel
@[simp] theorem fne_key_text : ((("key" : Str) = ("text" : Str)) = False) := eq_false (by decide +kernel)
@[simp] theorem fnb_key_inside : ((("key" : Str) == ("inside" : Str)) = false) := by decide +kernel
@[simp] theorem fne_key_inside : ((("key" : Str) = ("inside" : Str)) = False) := eq_false (by decide +kernel)
theorem hide_v {d : D} : hideS (.v d) = .v d := rfl
theorem ok_is_sign {P : Program} {w : World} {K : PySem.W.Frag} {mg : Str → Option Value} {base : Heap} (tx : Tx K mg) : Fn3 P w K mg base 1 (He.ga K "is_sign") F_is_sign := by
  obtain ⟨fd, FD⟩ := tx.fd_is_sign
  refine fn3 FD sc_is_sign (FD.bindsN fun _ _ _ _ _ _ us hl => match us, hl with | [_], _ => rfl) ?hn (fun cdv A outer s H E hr => (dss_one (ds_ret (de_and (de_callB (L3.CallR.or call_isi call_isiT) (cd_isiA (K := K)) rfl tx.no_isinstance (by decide +kernel) (da_cons (dv 0) (da_cons (de_bty rfl tx.no_str) da_nil))) (de_and (de_chain op_le opd_le op_le opd_le de_int (de_len rfl tx.no_len (da_cons (dv 0) da_nil)) (de_gint rfl tx.mg_MOST_LETTERS)) (de_one (de_callB (cr_all rfl) cd_all rfl tx.no_all (by decide +kernel) (da_cons (de_lc (own := [("letter", 1)]) rfl sc_is_sign.nd (di_str (dv 0)) (blkOk_by (own := [("letter", 1)]) (N := N_is_sign) (sc := defScope s_is_sign) (by decide +kernel)) (fun _ _ _ _ _ => (dg_name (i := 1) sc_is_sign.nd rfl (Or.inl rfl))) (fun _ _ _ _ _ => dts_nil) (fun _ _ _ _ _ => (de_cmp op_inA opd_in (dv 1) (de_gstr rfl tx.mg_LETTERS) rfl))) da_nil)))))))) ?hT
  case hn =>
    rintro wd ds φ ε ⟨x, rfl, _⟩
    rfl
  case hT =>
    rintro wd ds φ ε ⟨d, rfl, h⟩
    rcases h with ⟨x, rfl, hz, q⟩ | ⟨ho, q⟩
    case inr =>
      rw [show startD N_is_sign [d] = [.v d, .no] from rfl]
      cases d <;> first | exact Bool.noConfusion ho | (simp [TVar, TC, TOp, TTst, fI, TAnd, TOr, TNot, TAndV, TOrV, TNotV, TIf, TChain, TChainB, TNoPart, TPart, TSl, TFld, TFldO, TCon, TNil, TCons, TTup, TLst, TCB, TM1, TFmt, TJs, TJoined, TNext, TSeq, TBreak, TCont, TNever, TRet, TRetN, TDrop, TIfS, L3.TSet, TAug, TPar, GName, GNil, GCons, GTup, TAsg, TIl, TIt, TIs, TIr1, TIr2, TIz, TFor, TOwn, TOwnL, TApp, TExt, TBor, TBorB, TFrz, TPutF, TYes, TLc, TLc2, TCall, TStar, TMake, TOpC, TParO1, TParO0, TPutJ, TBorN, TFldX, TIenT, TOwnLc, TMaxd, TCallK, lenF, isiAF, isiF, isiTF, PySem.W.kitAny, inF, sumF, allF, anyF, tupleF, int1F, max2F, joinF, ixF, addF, mulF, tyOf, TyK, clsOf, clsOfs, wipeD, hideS, flatD, putD, and_assoc, neNilF, slF, isF, isntF, isND]; exact q)
    rw [show startD N_is_sign [.str x] = [.v (.str x), .no] from rfl]
    simp [TVar, TC, TOp, TTst, fI, TAnd, TOr, TNot, TAndV, TOrV, TNotV, TIf, TChain, TChainB, TNoPart, TPart, TSl, TFld, TFldO, TCon, TNil, TCons, TTup, TLst, TCB, TM1, TFmt, TJs, TJoined, TNext, TSeq, TBreak, TCont, TNever, TRet, TRetN, TDrop, TIfS, L3.TSet, TAug, TPar, GName, GNil, GCons, GTup, TAsg, TIl, TIt, TIs, TIr1, TIr2, TIz, TFor, TOwn, TOwnL, TApp, TExt, TBor, TBorB, TFrz, TPutF, TYes, TLc, TLc2, TCall, TStar, TMake, TOpC, TParO1, TParO0, TPutJ, TBorN, TFldX, TIenT, TOwnLc, TMaxd, TCallK, lenF, isiAF, isiF, isiTF, PySem.W.kitAny, inF, sumF, allF, anyF, tupleF, int1F, max2F, joinF, ixF, addF, mulF, tyOf, TyK, clsOf, clsOfs, wipeD, hideS, flatD, putD, and_assoc, neNilF, slF, isF, isntF, isND]
    refine ⟨hz, ?_⟩
    have hl : x.length = (lc x).length := by show x.cps.size = _; simp
    unfold isSg at q
    rw [hl]
    by_cases h1 : 1 ≤ (lc x).length
    · refine .inr ⟨by omega, ?_⟩
      by_cases h2 : (lc x).length ≤ 6
      · refine .inr ⟨by omega, compD_map (f := fun c => .bl (isLet c)) _ _ (fun c _ acc ψ hl q => ?_) ?_ ?_⟩
        · simp [TVar, TC, TOp, TTst, fI, TAnd, TOr, TNot, TAndV, TOrV, TNotV, TIf, TChain, TChainB, TNoPart, TPart, TSl, TFld, TFldO, TCon, TNil, TCons, TTup, TLst, TCB, TM1, TFmt, TJs, TJoined, TNext, TSeq, TBreak, TCont, TNever, TRet, TRetN, TDrop, TIfS, L3.TSet, TAug, TPar, GName, GNil, GCons, GTup, TAsg, TIl, TIt, TIs, TIr1, TIr2, TIz, TFor, TOwn, TOwnL, TApp, TExt, TBor, TBorB, TFrz, TPutF, TYes, TLc, TLc2, TCall, TStar, TMake, TOpC, TParO1, TParO0, TPutJ, TBorN, TFldX, TIenT, TOwnLc, TMaxd, TCallK, lenF, isiAF, isiF, isiTF, PySem.W.kitAny, inF, sumF, allF, anyF, tupleF, int1F, max2F, joinF, ixF, addF, mulF, tyOf, TyK, clsOf, clsOfs, wipeD, hideS, flatD, putD, and_assoc, neNilF, slF, isF, isntF, isND]
          exact ⟨hl, q⟩
        · show 0 + (lc x).length ≤ _
          rw [sizeLine_eq]
          omega
        · refine ⟨(lc x).map isLet, ?_, ?_⟩
          · rw [← blsD_map, List.map_map]
            rfl
          · rw [decide_eq_true h1, decide_eq_true h2] at q
            simpa [List.all_map] using q
      · refine .inl ⟨by omega, ?_⟩
        rw [decide_eq_false h2] at q
        simpa using q
    · refine .inl ⟨by omega, ?_⟩
      rw [decide_eq_false h1] at q
      simpa using q
theorem oko_is_sign {P : Program} {w : World} {K : PySem.W.Frag} {mg : Str → Option Value} {base : Heap} (tx : Tx K mg) : ∃ fd, Fn3O P w K mg base 1 (He.ga K "is_sign") fd ["value"] F_is_sign ∧ KwB K fd ["value"] 0 ["value"] [0] := by
  obtain ⟨fd, FD⟩ := tx.fd_is_sign
  refine ⟨fd, fn3O FD sc_is_sign ?hn (fun cdv A outer s H E hr => (dss_one (ds_ret (de_and (de_callB (L3.CallR.or call_isi call_isiT) (cd_isiA (K := K)) rfl tx.no_isinstance (by decide +kernel) (da_cons (dv 0) (da_cons (de_bty rfl tx.no_str) da_nil))) (de_and (de_chain op_le opd_le op_le opd_le de_int (de_len rfl tx.no_len (da_cons (dv 0) da_nil)) (de_gint rfl tx.mg_MOST_LETTERS)) (de_one (de_callB (cr_all rfl) cd_all rfl tx.no_all (by decide +kernel) (da_cons (de_lc (own := [("letter", 1)]) rfl sc_is_sign.nd (di_str (dv 0)) (blkOk_by (own := [("letter", 1)]) (N := N_is_sign) (sc := defScope s_is_sign) (by decide +kernel)) (fun _ _ _ _ _ => (dg_name (i := 1) sc_is_sign.nd rfl (Or.inl rfl))) (fun _ _ _ _ _ => dts_nil) (fun _ _ _ _ _ => (de_cmp op_inA opd_in (dv 1) (de_gstr rfl tx.mg_LETTERS) rfl))) da_nil)))))))) ?hT, kwB_of FD fun _ _ _ _ _ _ us ws h1 h2 => match us, h1, ws, h2 with | [], _, [_], _ => rfl⟩
  case hn =>
    rintro wd ds φ ε ⟨x, rfl, _⟩
    rfl
  case hT =>
    rintro wd ds φ ε ⟨d, rfl, h⟩
    rcases h with ⟨x, rfl, hz, q⟩ | ⟨ho, q⟩
    case inr =>
      rw [show startD N_is_sign [d] = [.v d, .no] from rfl]
      cases d <;> first | exact Bool.noConfusion ho | (simp [TVar, TC, TOp, TTst, fI, TAnd, TOr, TNot, TAndV, TOrV, TNotV, TIf, TChain, TChainB, TNoPart, TPart, TSl, TFld, TFldO, TCon, TNil, TCons, TTup, TLst, TCB, TM1, TFmt, TJs, TJoined, TNext, TSeq, TBreak, TCont, TNever, TRet, TRetN, TDrop, TIfS, L3.TSet, TAug, TPar, GName, GNil, GCons, GTup, TAsg, TIl, TIt, TIs, TIr1, TIr2, TIz, TFor, TOwn, TOwnL, TApp, TExt, TBor, TBorB, TFrz, TPutF, TYes, TLc, TLc2, TCall, TStar, TMake, TOpC, TParO1, TParO0, TPutJ, TBorN, TFldX, TIenT, TOwnLc, TMaxd, TCallK, lenF, isiAF, isiF, isiTF, PySem.W.kitAny, inF, sumF, allF, anyF, tupleF, int1F, max2F, joinF, ixF, addF, mulF, tyOf, TyK, clsOf, clsOfs, wipeD, hideS, flatD, putD, and_assoc, neNilF, slF, isF, isntF, isND]; exact q)
    rw [show startD N_is_sign [.str x] = [.v (.str x), .no] from rfl]
    simp [TVar, TC, TOp, TTst, fI, TAnd, TOr, TNot, TAndV, TOrV, TNotV, TIf, TChain, TChainB, TNoPart, TPart, TSl, TFld, TFldO, TCon, TNil, TCons, TTup, TLst, TCB, TM1, TFmt, TJs, TJoined, TNext, TSeq, TBreak, TCont, TNever, TRet, TRetN, TDrop, TIfS, L3.TSet, TAug, TPar, GName, GNil, GCons, GTup, TAsg, TIl, TIt, TIs, TIr1, TIr2, TIz, TFor, TOwn, TOwnL, TApp, TExt, TBor, TBorB, TFrz, TPutF, TYes, TLc, TLc2, TCall, TStar, TMake, TOpC, TParO1, TParO0, TPutJ, TBorN, TFldX, TIenT, TOwnLc, TMaxd, TCallK, lenF, isiAF, isiF, isiTF, PySem.W.kitAny, inF, sumF, allF, anyF, tupleF, int1F, max2F, joinF, ixF, addF, mulF, tyOf, TyK, clsOf, clsOfs, wipeD, hideS, flatD, putD, and_assoc, neNilF, slF, isF, isntF, isND]
    refine ⟨hz, ?_⟩
    have hl : x.length = (lc x).length := by show x.cps.size = _; simp
    unfold isSg at q
    rw [hl]
    by_cases h1 : 1 ≤ (lc x).length
    · refine .inr ⟨by omega, ?_⟩
      by_cases h2 : (lc x).length ≤ 6
      · refine .inr ⟨by omega, compD_map (f := fun c => .bl (isLet c)) _ _ (fun c _ acc ψ hl q => ?_) ?_ ?_⟩
        · simp [TVar, TC, TOp, TTst, fI, TAnd, TOr, TNot, TAndV, TOrV, TNotV, TIf, TChain, TChainB, TNoPart, TPart, TSl, TFld, TFldO, TCon, TNil, TCons, TTup, TLst, TCB, TM1, TFmt, TJs, TJoined, TNext, TSeq, TBreak, TCont, TNever, TRet, TRetN, TDrop, TIfS, L3.TSet, TAug, TPar, GName, GNil, GCons, GTup, TAsg, TIl, TIt, TIs, TIr1, TIr2, TIz, TFor, TOwn, TOwnL, TApp, TExt, TBor, TBorB, TFrz, TPutF, TYes, TLc, TLc2, TCall, TStar, TMake, TOpC, TParO1, TParO0, TPutJ, TBorN, TFldX, TIenT, TOwnLc, TMaxd, TCallK, lenF, isiAF, isiF, isiTF, PySem.W.kitAny, inF, sumF, allF, anyF, tupleF, int1F, max2F, joinF, ixF, addF, mulF, tyOf, TyK, clsOf, clsOfs, wipeD, hideS, flatD, putD, and_assoc, neNilF, slF, isF, isntF, isND]
          exact ⟨hl, q⟩
        · show 0 + (lc x).length ≤ _
          rw [sizeLine_eq]
          omega
        · refine ⟨(lc x).map isLet, ?_, ?_⟩
          · rw [← blsD_map, List.map_map]
            rfl
          · rw [decide_eq_true h1, decide_eq_true h2] at q
            simpa [List.all_map] using q
      · refine .inl ⟨by omega, ?_⟩
        rw [decide_eq_false h2] at q
        simpa using q
    · refine .inl ⟨by omega, ?_⟩
      rw [decide_eq_false h1] at q
      simpa using q
theorem ok_init {P : Program} {w : World} {K : PySem.W.Frag} {mg : Str → Option Value} {base : Heap} (tx : Tx K mg) (x_InvalidSign : ExcKC P w K mg base 2 (He.ga K "InvalidSign") (He.ma K (He.ga K "InvalidSign") "__init__") mkvIS mkdIS) (x_InvalidBranches : ExcKC P w K mg base 2 (He.ga K "InvalidBranches") (He.ma K (He.ga K "InvalidBranches") "__init__") mkvIB mkdIB) : FnI P w K mg base 4 (He.ga K "Tree") (He.ma K (He.ga K "Tree") "__init__") (F_init (He.ga K "Tree") (He.ga K "InvalidSign") (He.ga K "InvalidBranches")) := by
  obtain ⟨fd, FD⟩ := tx.fd_Tree__init
  have g_is_sign : Fn3 P w K mg base 1 (He.ga K "is_sign") F_is_sign := ok_is_sign tx
  refine fnI3star (k := 3) (N := N_Tree__init) (ps := ["self", "sign"]) (pv := "branches") FD sc_Tree__init (by decide) (fun kV doc pm an cdv ct us rest hl => match us, hl, rest with | [_, _], _, [] => rfl | [_, _], _, _ :: _ => rfl) ?hn (by decide) (fun cdv A outer s H E hr => (dss_cons (ds_if (dt_not (dt_val (de_call g_is_sign (hr.mono (by omega)) rfl tx.mg_is_sign tx.kp_is_sign tk3 (da_cons (dv 1) da_nil))))
     (dss_one (ds_raise x_InvalidSign.cold (hr.mono (by omega)) rfl tx.mg_InvalidSign tk3 (da_cons (dv 1) da_nil)))
     dss_nil)
    (dss_cons (ds_if (dt_bool (dw_or (dt_cmp op_gt opd_gt (de_len rfl tx.no_len (da_cons (dv 2) da_nil)) (de_gint rfl tx.mg_MOST_BRANCHES_trees) (nomark _)) (dw_or1 (dt_not (dt_val (de_callB (cr_all rfl) cd_all rfl tx.no_all (by decide +kernel) (da_cons (de_lc (own := [("branch", 4)]) rfl sc_Tree__init.nd (di_tup (dv 2)) (blkOk_by (own := [("branch", 4)]) (N := N_Tree__init) (sc := defScope s_Tree__init) (by decide +kernel)) (fun _ _ _ _ _ => (dg_name (i := 4) sc_Tree__init.nd rfl (Or.inl rfl))) (fun _ _ _ _ _ => dts_nil) (fun _ _ _ _ _ => (de_callB (L3.CallR.or call_isi call_isiT) (cd_isiA (K := K)) rfl tx.no_isinstance (by decide +kernel) (da_cons (dv 4) (da_cons (de_gref rfl tx.mg_Tree) da_nil))))) da_nil)))))))
     (dss_one (ds_raise0 x_InvalidBranches (hr.mono (by omega)) rfl tx.mg_InvalidBranches tk3))
     dss_nil)
    (dss_cons (ds_putFK (K := K) 0 (dv 1))
    (dss_cons (ds_putFK (K := K) 0 (dv 2))
    (dss_cons (ds_putFK (K := K) 0 (de_add de_int (de_callB (cr_sum rfl) cd_sum rfl tx.no_sum (by decide +kernel) (da_cons (de_lc (own := [("branch", 4)]) rfl sc_Tree__init.nd (di_tup (dv 2)) (blkOk_by (own := [("branch", 4)]) (N := N_Tree__init) (sc := defScope s_Tree__init) (by decide +kernel)) (fun _ _ _ _ _ => (dg_name (i := 4) sc_Tree__init.nd rfl (Or.inl rfl))) (fun _ _ _ _ _ => dts_nil) (fun _ _ _ _ _ => (de_fldK (K := K) (dv 4)))) da_nil))))
    (dss_cons (ds_putFK (K := K) 0 (de_add de_int (de_maxd rfl hr.units rfl tx.no_max (de_lc (own := [("branch", 4)]) rfl sc_Tree__init.nd (di_tup (dv 2)) (blkOk_by (own := [("branch", 4)]) (N := N_Tree__init) (sc := defScope s_Tree__init) (by decide +kernel)) (fun _ _ _ _ _ => (dg_name (i := 4) sc_Tree__init.nd rfl (Or.inl rfl))) (fun _ _ _ _ _ => dts_nil) (fun _ _ _ _ _ => (de_fldK (K := K) (dv 4)))) de_int)))
    (dss_cons (ds_set (i := 3) sc_Tree__init.nd rfl (Or.inl rfl) (de_join de_str (de_lc (own := [("branch", 4)]) rfl sc_Tree__init.nd (di_tup (dv 2)) (blkOk_by (own := [("branch", 4)]) (N := N_Tree__init) (sc := defScope s_Tree__init) (by decide +kernel)) (fun _ _ _ _ _ => (dg_name (i := 4) sc_Tree__init.nd rfl (Or.inl rfl))) (fun _ _ _ _ _ => dts_nil) (fun _ _ _ _ _ => (de_fldK (K := K) (dv 4))))))
    (dss_cons (ds_putFK (K := K) 0 (de_ifExp (dt_cmp (op_eqD hr.units) opd_eq (de_len rfl tx.no_len (da_cons (dv 2) da_nil)) de_int (nomark _)) (dv 1) (de_joined (DJ.cons (de_fmt (dv 1)) (DJ.cons de_str (DJ.cons (de_fmt (dv 3)) (DJ.cons de_str DJ.nil)))))))
    (dss_cons (ds_putFK (K := K) 0 (de_add (de_callTy call_tuple_of cd_tuple rfl tx.no_tuple (by decide +kernel) (da_cons (de_lc2 (own := [("branch", 4), ("text", 5)]) (vs1 := [5]) rfl sc_Tree__init.nd (di_tup (dv 2)) (blkOk_by (own := [("branch", 4), ("text", 5)]) (N := N_Tree__init) (sc := defScope s_Tree__init) (by decide +kernel)) (by decide) (fun _ _ _ _ _ => (dg_name (i := 4) sc_Tree__init.nd rfl (Or.inl rfl))) (fun _ _ _ _ _ => dts_nil) (fun _ _ _ _ _ => (di_tup (de_fldK (K := K) (dv 4)))) (fun _ _ _ _ _ => (dg_name (i := 5) sc_Tree__init.nd rfl (Or.inl rfl))) (fun _ _ _ _ _ => dts_nil) (fun _ _ _ _ _ => (dv 5))) da_nil)) (de_tup (da_cons (de_fldOK (K := K) 0) da_nil))))
    (dss_one (ds_putFK (K := K) 0 (de_tup (da_cons (de_fldOK (K := K) 0) (da_cons (dv 1) (da_cons (de_len rfl tx.no_len (da_cons (dv 2) da_nil)) (da_cons (de_callTy call_tuple_of cd_tuple rfl tx.no_tuple (by decide +kernel) (da_cons (de_lc (own := [("branch", 4)]) rfl sc_Tree__init.nd (di_tup (dv 2)) (blkOk_by (own := [("branch", 4)]) (N := N_Tree__init) (sc := defScope s_Tree__init) (by decide +kernel)) (fun _ _ _ _ _ => (dg_name (i := 4) sc_Tree__init.nd rfl (Or.inl rfl))) (fun _ _ _ _ _ => dts_nil) (fun _ _ _ _ _ => (de_fldK (K := K) (dv 4)))) da_nil)) da_nil))))))))))))))))) ?hT
  case hn =>
    rintro wd ds φ ε (⟨s, ks, rfl, ⟨h1, h2, h3⟩, _⟩ | ⟨d, es, rfl, hl, _⟩ | ⟨s, es, rfl, _, hb, _⟩)
    · refine ⟨?_, ?_⟩
      · show 2 ≤ (ks.map (trD (He.ga K "Tree"))).length + 1 + 1
        omega
      · rw [List.length_cons, List.length_map, sizeLine_eq]
        omega
    · refine ⟨by show 2 ≤ es.length + 1 + 1; omega, ?_⟩
      rw [List.length_cons, sizeLine_eq]
      omega
    · have := hb.len
      refine ⟨by show 2 ≤ es.length + 1 + 1; omega, ?_⟩
      rw [List.length_cons, sizeLine_eq]
      omega
  case hT =>
    have hL : sizeLine = 16777216 := sizeLine_eq
    rintro a wd ds φ ε (⟨s, ks, rfl, ⟨h1, h2, h3⟩, hl, q⟩ | ⟨d, es, rfl, hl, hd, q⟩ | ⟨s, es, rfl, h1, hb, q⟩)
    case inr.inl =>
      show TSeq _ _ _ _ [.oi a (He.ga K "Tree") [], .v d, .v (.tup es), .no, .no, .no]
      simp only [TSeq, TIfS]
      refine go_then (fun ψ hψ => ?_) ?_
      · simp [TVar, TC, TOp, TTst, fI, TAnd, TOr, TNot, TAndV, TOrV, TNotV, TIf, TChain, TChainB, TNoPart, TPart, TSl, TFld, TFldO, TCon, TNil, TCons, TTup, TLst, TCB, TM1, TFmt, TJs, TJoined, TNext, TSeq, TBreak, TCont, TNever, TRet, TRetN, TDrop, TIfS, L3.TSet, TAug, TPar, GName, GNil, GCons, GTup, TAsg, TIl, TIt, TIs, TIr1, TIr2, TIz, TFor, TOwn, TOwnL, TApp, TExt, TBor, TBorB, TFrz, TPutF, TYes, TLc, TLc2, TCall, TStar, TMake, TOpC, TParO1, TParO0, TPutJ, TBorN, TFldX, TIenT, TOwnLc, TMaxd, TCallK, lenF, isiAF, isiF, isiTF, PySem.W.kitAny, inF, sumF, allF, anyF, tupleF, int1F, max2F, joinF, ixF, addF, mulF, tyOf, TyK, clsOf, clsOfs, wipeD, hideS, flatD, putD, and_assoc, neNilF, slF, isF, isntF, isND, F_is_sign]
        rcases hd with ho | ⟨x, rfl, hx, hs⟩
        · exact .inr ⟨ho, hψ⟩
        · exact .inl ⟨x, rfl, hx, by rw [hs]; exact hψ⟩
      · simp [TVar, TC, TOp, TTst, fI, TAnd, TOr, TNot, TAndV, TOrV, TNotV, TIf, TChain, TChainB, TNoPart, TPart, TSl, TFld, TFldO, TCon, TNil, TCons, TTup, TLst, TCB, TM1, TFmt, TJs, TJoined, TNext, TSeq, TBreak, TCont, TNever, TRet, TRetN, TDrop, TIfS, L3.TSet, TAug, TPar, GName, GNil, GCons, GTup, TAsg, TIl, TIt, TIs, TIr1, TIr2, TIz, TFor, TOwn, TOwnL, TApp, TExt, TBor, TBorB, TFrz, TPutF, TYes, TLc, TLc2, TCall, TStar, TMake, TOpC, TParO1, TParO0, TPutJ, TBorN, TFldX, TIenT, TOwnLc, TMaxd, TCallK, lenF, isiAF, isiF, isiTF, PySem.W.kitAny, inF, sumF, allF, anyF, tupleF, int1F, max2F, joinF, ixF, addF, mulF, tyOf, TyK, clsOf, clsOfs, wipeD, hideS, flatD, putD, and_assoc, neNilF, slF, isF, isntF, isND, TRaise, mkdIS]
        exact q
    case inr.inr =>
      have hsg := (ok_sg_len h1)
      have hbl := hb.len
      show TSeq _ _ _ _ [.oi a (He.ga K "Tree") [], .v (.str (mks s)), .v (.tup es), .no, .no, .no]
      simp only [TSeq, TIfS]
      refine go_else (fun ψ hψ => ?_) ?_
      · simp [TVar, TC, TOp, TTst, fI, TAnd, TOr, TNot, TAndV, TOrV, TNotV, TIf, TChain, TChainB, TNoPart, TPart, TSl, TFld, TFldO, TCon, TNil, TCons, TTup, TLst, TCB, TM1, TFmt, TJs, TJoined, TNext, TSeq, TBreak, TCont, TNever, TRet, TRetN, TDrop, TIfS, L3.TSet, TAug, TPar, GName, GNil, GCons, GTup, TAsg, TIl, TIt, TIs, TIr1, TIr2, TIz, TFor, TOwn, TOwnL, TApp, TExt, TBor, TBorB, TFrz, TPutF, TYes, TLc, TLc2, TCall, TStar, TMake, TOpC, TParO1, TParO0, TPutJ, TBorN, TFldX, TIenT, TOwnLc, TMaxd, TCallK, lenF, isiAF, isiF, isiTF, PySem.W.kitAny, inF, sumF, allF, anyF, tupleF, int1F, max2F, joinF, ixF, addF, mulF, tyOf, TyK, clsOf, clsOfs, wipeD, hideS, flatD, putD, and_assoc, neNilF, slF, isF, isntF, isND, F_is_sign, oth, lc_mks, len_mks, h1]
        exact ⟨by omega, hψ⟩
      simp only [TNext, TSeq, TIfS]
      refine go_then (fun ψ hψ => ?_) ?_
      · simp [TVar, TC, TOp, TTst, fI, TAnd, TOr, TNot, TAndV, TOrV, TNotV, TIf, TChain, TChainB, TNoPart, TPart, TSl, TFld, TFldO, TCon, TNil, TCons, TTup, TLst, TCB, TM1, TFmt, TJs, TJoined, TNext, TSeq, TBreak, TCont, TNever, TRet, TRetN, TDrop, TIfS, L3.TSet, TAug, TPar, GName, GNil, GCons, GTup, TAsg, TIl, TIt, TIs, TIr1, TIr2, TIz, TFor, TOwn, TOwnL, TApp, TExt, TBor, TBorB, TFrz, TPutF, TYes, TLc, TLc2, TCall, TStar, TMake, TOpC, TParO1, TParO0, TPutJ, TBorN, TFldX, TIenT, TOwnLc, TMaxd, TCallK, lenF, isiAF, isiF, isiTF, PySem.W.kitAny, inF, sumF, allF, anyF, tupleF, int1F, max2F, joinF, ixF, addF, mulF, tyOf, TyK, clsOf, clsOfs, wipeD, hideS, flatD, putD, and_assoc, neNilF, slF, isF, isntF, isND]
        by_cases h3 : 3 < es.length
        · exact .inr ⟨by omega, hψ⟩
        · refine .inl ⟨by omega, compD_id (f := fun e => .bl (isT (He.ga K "Tree") e)) es [] (fun e he acc ψ hl q => ?_) (by show 0 + _ ≤ _; omega) ?_⟩
          · rcases hb.all e he with ⟨t, rfl⟩ | ho
            · rw [isT_tr] at q
              simp [TVar, TC, TOp, TTst, fI, TAnd, TOr, TNot, TAndV, TOrV, TNotV, TIf, TChain, TChainB, TNoPart, TPart, TSl, TFld, TFldO, TCon, TNil, TCons, TTup, TLst, TCB, TM1, TFmt, TJs, TJoined, TNext, TSeq, TBreak, TCont, TNever, TRet, TRetN, TDrop, TIfS, L3.TSet, TAug, TPar, GName, GNil, GCons, GTup, TAsg, TIl, TIt, TIs, TIr1, TIr2, TIz, TFor, TOwn, TOwnL, TApp, TExt, TBor, TBorB, TFrz, TPutF, TYes, TLc, TLc2, TCall, TStar, TMake, TOpC, TParO1, TParO0, TPutJ, TBorN, TFldX, TIenT, TOwnLc, TMaxd, TCallK, lenF, isiAF, isiF, isiTF, PySem.W.kitAny, inF, sumF, allF, anyF, tupleF, int1F, max2F, joinF, ixF, addF, mulF, tyOf, TyK, clsOf, clsOfs, wipeD, hideS, flatD, putD, and_assoc, neNilF, slF, isF, isntF, isND, trD_ins, tx.in_Tree, tx.ki_Tree, hl, q]
            · rw [isT_oth ho] at q
              cases e <;> first | exact Bool.noConfusion ho | (simp [TVar, TC, TOp, TTst, fI, TAnd, TOr, TNot, TAndV, TOrV, TNotV, TIf, TChain, TChainB, TNoPart, TPart, TSl, TFld, TFldO, TCon, TNil, TCons, TTup, TLst, TCB, TM1, TFmt, TJs, TJoined, TNext, TSeq, TBreak, TCont, TNever, TRet, TRetN, TDrop, TIfS, L3.TSet, TAug, TPar, GName, GNil, GCons, GTup, TAsg, TIl, TIt, TIs, TIr1, TIr2, TIz, TFor, TOwn, TOwnL, TApp, TExt, TBor, TBorB, TFrz, TPutF, TYes, TLc, TLc2, TCall, TStar, TMake, TOpC, TParO1, TParO0, TPutJ, TBorN, TFldX, TIenT, TOwnLc, TMaxd, TCallK, lenF, isiAF, isiF, isiTF, PySem.W.kitAny, inF, sumF, allF, anyF, tupleF, int1F, max2F, joinF, ixF, addF, mulF, tyOf, TyK, clsOf, clsOfs, wipeD, hideS, flatD, putD, and_assoc, neNilF, slF, isF, isntF, isND, tx.kis_NoneType, tx.kis_bool, tx.kis_int, tx.kis_str, tx.kis_list, tx.kis_tuple, hl, q])
          · have hf : (es.map (isT (He.ga K "Tree"))).all id = false := by
              obtain ⟨e, he, ho⟩ := hb.bad.resolve_left h3
              exact List.all_eq_false.mpr ⟨false, List.mem_map.mpr ⟨e, he, isT_oth ho⟩, by simp⟩
            refine ⟨es.map (isT (He.ga K "Tree")), by rw [List.nil_append, ← blsD_map, List.map_map]; rfl, ?_⟩
            rw [hf]
            exact hψ
      · simp [TVar, TC, TOp, TTst, fI, TAnd, TOr, TNot, TAndV, TOrV, TNotV, TIf, TChain, TChainB, TNoPart, TPart, TSl, TFld, TFldO, TCon, TNil, TCons, TTup, TLst, TCB, TM1, TFmt, TJs, TJoined, TNext, TSeq, TBreak, TCont, TNever, TRet, TRetN, TDrop, TIfS, L3.TSet, TAug, TPar, GName, GNil, GCons, GTup, TAsg, TIl, TIt, TIs, TIr1, TIr2, TIz, TFor, TOwn, TOwnL, TApp, TExt, TBor, TBorB, TFrz, TPutF, TYes, TLc, TLc2, TCall, TStar, TMake, TOpC, TParO1, TParO0, TPutJ, TBorN, TFldX, TIenT, TOwnLc, TMaxd, TCallK, lenF, isiAF, isiF, isiTF, PySem.W.kitAny, inF, sumF, allF, anyF, tupleF, int1F, max2F, joinF, ixF, addF, mulF, tyOf, TyK, clsOf, clsOfs, wipeD, hideS, flatD, putD, and_assoc, neNilF, slF, isF, isntF, isND, TRaise0, mkdIB]
        exact q
    case inl =>
      have hsg := (ok_sg_len h1)
      show TSeq _ _ _ _ [.oi a (He.ga K "Tree") [], .v (.str (mks s)), .v (.tup (ks.map (trD (He.ga K "Tree")))), .no, .no, .no]
      have t1 : AtK K (He.ga K "Tree") "sign" := ⟨tx.cl_Tree, tx.na_Tree_sign⟩
      have t2 : AtK K (He.ga K "Tree") "branches" := ⟨tx.cl_Tree, tx.na_Tree_branches⟩
      have t3 : AtK K (He.ga K "Tree") "size" := ⟨tx.cl_Tree, tx.na_Tree_size⟩
      have t4 : AtK K (He.ga K "Tree") "depth" := ⟨tx.cl_Tree, tx.na_Tree_depth⟩
      have t5 : AtK K (He.ga K "Tree") "text" := ⟨tx.cl_Tree, tx.na_Tree_text⟩
      have t6 : AtK K (He.ga K "Tree") "inside" := ⟨tx.cl_Tree, tx.na_Tree_inside⟩
      have t7 : AtK K (He.ga K "Tree") "key" := ⟨tx.cl_Tree, tx.na_Tree_key⟩
      have e1 : (Str.ofString "," : Str) = mks [44] := by decide +kernel
      have e2 : (Str.ofString "(" : Str) = mks [40] := by decide +kernel
      have e3 : (Str.ofString ")" : Str) = mks [41] := by decide +kernel
      have e4 : Str.empty = mks [] := rfl
      have hL : sizeLine = 16777216 := sizeLine_eq
      have hB : big = 1000000 := rfl
      have hz : 1 + sizs ks ≤ big := Nat.le_trans (siz_txt (t := .nd s ks) ⟨h1, h2, h3⟩) hl
      have hw := wrapL_len s (txts ks)
      have hwl : (wrapL s (txts ks)).length ≤ big := hl
      have hj := joinL_le (txts ks)
      have htl : (txts ks).length = ks.length := by rw [txts_eq, List.length_map]
      simp only [TSeq, TIfS]
      refine go_else (fun ψ hψ => ?_) ?_
      · simp [TVar, TC, TOp, TTst, fI, TAnd, TOr, TNot, TAndV, TOrV, TNotV, TIf, TChain, TChainB, TNoPart, TPart, TSl, TFld, TFldO, TCon, TNil, TCons, TTup, TLst, TCB, TM1, TFmt, TJs, TJoined, TNext, TSeq, TBreak, TCont, TNever, TRet, TRetN, TDrop, TIfS, L3.TSet, TAug, TPar, GName, GNil, GCons, GTup, TAsg, TIl, TIt, TIs, TIr1, TIr2, TIz, TFor, TOwn, TOwnL, TApp, TExt, TBor, TBorB, TFrz, TPutF, TYes, TLc, TLc2, TCall, TStar, TMake, TOpC, TParO1, TParO0, TPutJ, TBorN, TFldX, TIenT, TOwnLc, TMaxd, TCallK, lenF, isiAF, isiF, isiTF, PySem.W.kitAny, inF, sumF, allF, anyF, tupleF, int1F, max2F, joinF, ixF, addF, mulF, tyOf, TyK, clsOf, clsOfs, wipeD, hideS, flatD, putD, and_assoc, neNilF, slF, isF, isntF, isND, F_is_sign, oth, lc_mks, len_mks, h1]
        exact ⟨by omega, hψ⟩
      simp only [TNext, TSeq, TIfS]
      refine go_else (fun ψ hψ => ?_) ?_
      · simp [TVar, TC, TOp, TTst, fI, TAnd, TOr, TNot, TAndV, TOrV, TNotV, TIf, TChain, TChainB, TNoPart, TPart, TSl, TFld, TFldO, TCon, TNil, TCons, TTup, TLst, TCB, TM1, TFmt, TJs, TJoined, TNext, TSeq, TBreak, TCont, TNever, TRet, TRetN, TDrop, TIfS, L3.TSet, TAug, TPar, GName, GNil, GCons, GTup, TAsg, TIl, TIt, TIs, TIr1, TIr2, TIz, TFor, TOwn, TOwnL, TApp, TExt, TBor, TBorB, TFrz, TPutF, TYes, TLc, TLc2, TCall, TStar, TMake, TOpC, TParO1, TParO0, TPutJ, TBorN, TFldX, TIenT, TOwnLc, TMaxd, TCallK, lenF, isiAF, isiF, isiTF, PySem.W.kitAny, inF, sumF, allF, anyF, tupleF, int1F, max2F, joinF, ixF, addF, mulF, tyOf, TyK, clsOf, clsOfs, wipeD, hideS, flatD, putD, and_assoc, neNilF, slF, isF, isntF, isND]
        refine .inl ⟨by omega, compD_map (enc := trD (He.ga K "Tree")) (f := fun _ => .bl true) ks [] (fun t ht acc ψ hl q => ?_) (by simp; omega) ⟨ks.map fun _ => true, ?_, ?_⟩⟩
        · simp [TVar, TC, TOp, TTst, fI, TAnd, TOr, TNot, TAndV, TOrV, TNotV, TIf, TChain, TChainB, TNoPart, TPart, TSl, TFld, TFldO, TCon, TNil, TCons, TTup, TLst, TCB, TM1, TFmt, TJs, TJoined, TNext, TSeq, TBreak, TCont, TNever, TRet, TRetN, TDrop, TIfS, L3.TSet, TAug, TPar, GName, GNil, GCons, GTup, TAsg, TIl, TIt, TIs, TIr1, TIr2, TIz, TFor, TOwn, TOwnL, TApp, TExt, TBor, TBorB, TFrz, TPutF, TYes, TLc, TLc2, TCall, TStar, TMake, TOpC, TParO1, TParO0, TPutJ, TBorN, TFldX, TIenT, TOwnLc, TMaxd, TCallK, lenF, isiAF, isiF, isiTF, PySem.W.kitAny, inF, sumF, allF, anyF, tupleF, int1F, max2F, joinF, ixF, addF, mulF, tyOf, TyK, clsOf, clsOfs, wipeD, hideS, flatD, putD, and_assoc, neNilF, slF, isF, isntF, isND, trD_ins, tx.in_Tree, tx.ki_Tree, hl, q]
        · rw [List.nil_append, ← blsD_map, List.map_map]; rfl
        · have hf : (ks.map fun _ => true).all id = true := by simp
          rw [hf]
          exact hψ
      simp [TVar, TC, TOp, TTst, fI, TAnd, TOr, TNot, TAndV, TOrV, TNotV, TIf, TChain, TChainB, TNoPart, TPart, TSl, TFld, TFldO, TCon, TNil, TCons, TTup, TLst, TCB, TM1, TFmt, TJs, TJoined, TNext, TSeq, TBreak, TCont, TNever, TRet, TRetN, TDrop, TIfS, L3.TSet, TAug, TPar, GName, GNil, GCons, GTup, TAsg, TIl, TIt, TIs, TIr1, TIr2, TIz, TFor, TOwn, TOwnL, TApp, TExt, TBor, TBorB, TFrz, TPutF, TYes, TLc, TLc2, TCall, TStar, TMake, TOpC, TParO1, TParO0, TPutJ, TBorN, TFldX, TIenT, TOwnLc, TMaxd, TCallK, lenF, isiAF, isiF, isiTF, PySem.W.kitAny, inF, sumF, allF, anyF, tupleF, int1F, max2F, joinF, ixF, addF, mulF, tyOf, TyK, clsOf, clsOfs, wipeD, hideS, flatD, putD, and_assoc, neNilF, slF, isF, isntF, isND, t1, t2, t3, t4, t5, t6, t7, lc_mks, len_mks, List.lookup_cons]
      refine compD_map (f := fun t => .int (t.siz : Nat)) ks [] (fun t ht acc ψ hl q => ?_) (by simp; omega) ⟨ks.map fun t => ((t.siz : Nat) : Int), ?_,
        compD_map (f := fun t => .int (t.dep : Nat)) ks [] (fun t ht acc ψ hl q => ?_) (by simp; omega) ⟨ks.map fun t => ((t.dep : Nat) : Int), ?_, ?_⟩⟩
      · simp [TVar, TC, TOp, TTst, fI, TAnd, TOr, TNot, TAndV, TOrV, TNotV, TIf, TChain, TChainB, TNoPart, TPart, TSl, TFld, TFldO, TCon, TNil, TCons, TTup, TLst, TCB, TM1, TFmt, TJs, TJoined, TNext, TSeq, TBreak, TCont, TNever, TRet, TRetN, TDrop, TIfS, L3.TSet, TAug, TPar, GName, GNil, GCons, GTup, TAsg, TIl, TIt, TIs, TIr1, TIr2, TIz, TFor, TOwn, TOwnL, TApp, TExt, TBor, TBorB, TFrz, TPutF, TYes, TLc, TLc2, TCall, TStar, TMake, TOpC, TParO1, TParO0, TPutJ, TBorN, TFldX, TIenT, TOwnLc, TMaxd, TCallK, lenF, isiAF, isiF, isiTF, PySem.W.kitAny, inF, sumF, allF, anyF, tupleF, int1F, max2F, joinF, ixF, addF, mulF, tyOf, TyK, clsOf, clsOfs, wipeD, hideS, flatD, putD, and_assoc, neNilF, slF, isF, isntF, isND, trD_ins, t3, hl, q, fld_size]
      · rw [← intsD_map, List.map_map]; rfl
      · simp [TVar, TC, TOp, TTst, fI, TAnd, TOr, TNot, TAndV, TOrV, TNotV, TIf, TChain, TChainB, TNoPart, TPart, TSl, TFld, TFldO, TCon, TNil, TCons, TTup, TLst, TCB, TM1, TFmt, TJs, TJoined, TNext, TSeq, TBreak, TCont, TNever, TRet, TRetN, TDrop, TIfS, L3.TSet, TAug, TPar, GName, GNil, GCons, GTup, TAsg, TIl, TIt, TIs, TIr1, TIr2, TIz, TFor, TOwn, TOwnL, TApp, TExt, TBor, TBorB, TFrz, TPutF, TYes, TLc, TLc2, TCall, TStar, TMake, TOpC, TParO1, TParO0, TPutJ, TBorN, TFldX, TIenT, TOwnLc, TMaxd, TCallK, lenF, isiAF, isiF, isiTF, PySem.W.kitAny, inF, sumF, allF, anyF, tupleF, int1F, max2F, joinF, ixF, addF, mulF, tyOf, TyK, clsOf, clsOfs, wipeD, hideS, flatD, putD, and_assoc, neNilF, slF, isF, isntF, isND, trD_ins, t4, hl, q, fld_depth]
      · rw [List.map_map]; rfl
      rw [mxD_deps]
      refine compD_map (f := fun t => .str (mks t.txt)) ks [] (fun t ht acc ψ hl q => ?_) (by simp; omega) ⟨(txts ks).map mks, ?_, ?_, ?_⟩
      · simp [TVar, TC, TOp, TTst, fI, TAnd, TOr, TNot, TAndV, TOrV, TNotV, TIf, TChain, TChainB, TNoPart, TPart, TSl, TFld, TFldO, TCon, TNil, TCons, TTup, TLst, TCB, TM1, TFmt, TJs, TJoined, TNext, TSeq, TBreak, TCont, TNever, TRet, TRetN, TDrop, TIfS, L3.TSet, TAug, TPar, GName, GNil, GCons, GTup, TAsg, TIl, TIt, TIs, TIr1, TIr2, TIz, TFor, TOwn, TOwnL, TApp, TExt, TBor, TBorB, TFrz, TPutF, TYes, TLc, TLc2, TCall, TStar, TMake, TOpC, TParO1, TParO0, TPutJ, TBorN, TFldX, TIenT, TOwnLc, TMaxd, TCallK, lenF, isiAF, isiF, isiTF, PySem.W.kitAny, inF, sumF, allF, anyF, tupleF, int1F, max2F, joinF, ixF, addF, mulF, tyOf, TyK, clsOf, clsOfs, wipeD, hideS, flatD, putD, and_assoc, neNilF, slF, isF, isntF, isND, trD_ins, t5, hl, q, fld_text]
      · rw [← strsD_map, txts_eq, List.map_map, List.map_map]; rfl
      · rw [e1, List.map_map, len_mks, List.length_map]
        have : ((txts ks).map (fun x => Str.length (mks x))) = (txts ks).map List.length := List.map_congr_left fun x _ => len_mks x
        show ((txts ks).map (fun x => Str.length (mks x))).sum + _ ≤ _
        rw [this, htl]
        simp
        omega
      rw [fld_nd] at q
      rw [e1, e2, e3, e4, join_mks]
      simp only [mks_app, len_mks, List.nil_append]
      have hins := inss_map_len ks
      by_cases hk : ks = []
      · refine .inr ⟨hk, compD2_map (f := fun t => t.ins.map fun l => D.str (mks l)) ks [] (fun t ht acc ψ hl q => ?_) (by show 0 + _ ≤ _; omega) ⟨by show (ks.flatMap fun t => t.ins.map fun l => D.str (mks l)).length + 1 ≤ _; omega, compD_map (f := Tr.key) ks [] (fun t ht acc ψ hl q => ?_) (by simp; omega) ?_⟩⟩
        · simp [TVar, TC, TOp, TTst, fI, TAnd, TOr, TNot, TAndV, TOrV, TNotV, TIf, TChain, TChainB, TNoPart, TPart, TSl, TFld, TFldO, TCon, TNil, TCons, TTup, TLst, TCB, TM1, TFmt, TJs, TJoined, TNext, TSeq, TBreak, TCont, TNever, TRet, TRetN, TDrop, TIfS, L3.TSet, TAug, TPar, GName, GNil, GCons, GTup, TAsg, TIl, TIt, TIs, TIr1, TIr2, TIz, TFor, TOwn, TOwnL, TApp, TExt, TBor, TBorB, TFrz, TPutF, TYes, TLc, TLc2, TCall, TStar, TMake, TOpC, TParO1, TParO0, TPutJ, TBorN, TFldX, TIenT, TOwnLc, TMaxd, TCallK, lenF, isiAF, isiF, isiTF, PySem.W.kitAny, inF, sumF, allF, anyF, tupleF, int1F, max2F, joinF, ixF, addF, mulF, tyOf, TyK, clsOf, clsOfs, wipeD, hideS, flatD, putD, and_assoc, neNilF, slF, isF, isntF, isND, trD_ins, t6, fld_inside]
          refine compD1_map (enc := fun l => D.str (mks l)) (f := fun l => D.str (mks l)) t.ins acc (fun l hl2 acc ψ hl q => ?_) (by simpa using hl) q
          simp [TVar, TC, TOp, TTst, fI, TAnd, TOr, TNot, TAndV, TOrV, TNotV, TIf, TChain, TChainB, TNoPart, TPart, TSl, TFld, TFldO, TCon, TNil, TCons, TTup, TLst, TCB, TM1, TFmt, TJs, TJoined, TNext, TSeq, TBreak, TCont, TNever, TRet, TRetN, TDrop, TIfS, L3.TSet, TAug, TPar, GName, GNil, GCons, GTup, TAsg, TIl, TIt, TIs, TIr1, TIr2, TIz, TFor, TOwn, TOwnL, TApp, TExt, TBor, TBorB, TFrz, TPutF, TYes, TLc, TLc2, TCall, TStar, TMake, TOpC, TParO1, TParO0, TPutJ, TBorN, TFldX, TIenT, TOwnLc, TMaxd, TCallK, lenF, isiAF, isiF, isiTF, PySem.W.kitAny, inF, sumF, allF, anyF, tupleF, int1F, max2F, joinF, ixF, addF, mulF, tyOf, TyK, clsOf, clsOfs, wipeD, hideS, flatD, putD, and_assoc, neNilF, slF, isF, isntF, isND, hl, q]
        · simp [TVar, TC, TOp, TTst, fI, TAnd, TOr, TNot, TAndV, TOrV, TNotV, TIf, TChain, TChainB, TNoPart, TPart, TSl, TFld, TFldO, TCon, TNil, TCons, TTup, TLst, TCB, TM1, TFmt, TJs, TJoined, TNext, TSeq, TBreak, TCont, TNever, TRet, TRetN, TDrop, TIfS, L3.TSet, TAug, TPar, GName, GNil, GCons, GTup, TAsg, TIl, TIt, TIs, TIr1, TIr2, TIz, TFor, TOwn, TOwnL, TApp, TExt, TBor, TBorB, TFrz, TPutF, TYes, TLc, TLc2, TCall, TStar, TMake, TOpC, TParO1, TParO0, TPutJ, TBorN, TFldX, TIenT, TOwnLc, TMaxd, TCallK, lenF, isiAF, isiF, isiTF, PySem.W.kitAny, inF, sumF, allF, anyF, tupleF, int1F, max2F, joinF, ixF, addF, mulF, tyOf, TyK, clsOf, clsOfs, wipeD, hideS, flatD, putD, and_assoc, neNilF, slF, isF, isntF, isND, trD_ins, t7, hl, q, fld_key]
        · subst hk
          exact q
      · have ew : wrapL s (txts ks) = s ++ [40] ++ joinL (txts ks) ++ [41] := by
          cases ks with
          | nil => exact absurd rfl hk
          | cons t r =>
            show s ++ 40 :: (joinL (txts (t :: r)) ++ [41]) = _
            simp
        have ewl : (s ++ [40] ++ joinL (txts ks) ++ [41]).length ≤ big := by rw [← ew]; exact hl
        simp at ewl
        refine .inl ⟨hk, by omega, by omega, by simp; omega, by omega, by simp; omega, by simp; omega, compD2_map (f := fun t => t.ins.map fun l => D.str (mks l)) ks [] (fun t ht acc ψ hl q => ?_) (by show 0 + _ ≤ _; omega) ⟨by show (ks.flatMap fun t => t.ins.map fun l => D.str (mks l)).length + 1 ≤ _; omega, compD_map (f := Tr.key) ks [] (fun t ht acc ψ hl q => ?_) (by simp; omega) ?_⟩⟩
        · simp [TVar, TC, TOp, TTst, fI, TAnd, TOr, TNot, TAndV, TOrV, TNotV, TIf, TChain, TChainB, TNoPart, TPart, TSl, TFld, TFldO, TCon, TNil, TCons, TTup, TLst, TCB, TM1, TFmt, TJs, TJoined, TNext, TSeq, TBreak, TCont, TNever, TRet, TRetN, TDrop, TIfS, L3.TSet, TAug, TPar, GName, GNil, GCons, GTup, TAsg, TIl, TIt, TIs, TIr1, TIr2, TIz, TFor, TOwn, TOwnL, TApp, TExt, TBor, TBorB, TFrz, TPutF, TYes, TLc, TLc2, TCall, TStar, TMake, TOpC, TParO1, TParO0, TPutJ, TBorN, TFldX, TIenT, TOwnLc, TMaxd, TCallK, lenF, isiAF, isiF, isiTF, PySem.W.kitAny, inF, sumF, allF, anyF, tupleF, int1F, max2F, joinF, ixF, addF, mulF, tyOf, TyK, clsOf, clsOfs, wipeD, hideS, flatD, putD, and_assoc, neNilF, slF, isF, isntF, isND, trD_ins, t6, fld_inside]
          refine compD1_map (enc := fun l => D.str (mks l)) (f := fun l => D.str (mks l)) t.ins acc (fun l hl2 acc ψ hl q => ?_) (by simpa using hl) q
          simp [TVar, TC, TOp, TTst, fI, TAnd, TOr, TNot, TAndV, TOrV, TNotV, TIf, TChain, TChainB, TNoPart, TPart, TSl, TFld, TFldO, TCon, TNil, TCons, TTup, TLst, TCB, TM1, TFmt, TJs, TJoined, TNext, TSeq, TBreak, TCont, TNever, TRet, TRetN, TDrop, TIfS, L3.TSet, TAug, TPar, GName, GNil, GCons, GTup, TAsg, TIl, TIt, TIs, TIr1, TIr2, TIz, TFor, TOwn, TOwnL, TApp, TExt, TBor, TBorB, TFrz, TPutF, TYes, TLc, TLc2, TCall, TStar, TMake, TOpC, TParO1, TParO0, TPutJ, TBorN, TFldX, TIenT, TOwnLc, TMaxd, TCallK, lenF, isiAF, isiF, isiTF, PySem.W.kitAny, inF, sumF, allF, anyF, tupleF, int1F, max2F, joinF, ixF, addF, mulF, tyOf, TyK, clsOf, clsOfs, wipeD, hideS, flatD, putD, and_assoc, neNilF, slF, isF, isntF, isND, hl, q]
        · simp [TVar, TC, TOp, TTst, fI, TAnd, TOr, TNot, TAndV, TOrV, TNotV, TIf, TChain, TChainB, TNoPart, TPart, TSl, TFld, TFldO, TCon, TNil, TCons, TTup, TLst, TCB, TM1, TFmt, TJs, TJoined, TNext, TSeq, TBreak, TCont, TNever, TRet, TRetN, TDrop, TIfS, L3.TSet, TAug, TPar, GName, GNil, GCons, GTup, TAsg, TIl, TIt, TIs, TIr1, TIr2, TIz, TFor, TOwn, TOwnL, TApp, TExt, TBor, TBorB, TFrz, TPutF, TYes, TLc, TLc2, TCall, TStar, TMake, TOpC, TParO1, TParO0, TPutJ, TBorN, TFldX, TIenT, TOwnLc, TMaxd, TCallK, lenF, isiAF, isiF, isiTF, PySem.W.kitAny, inF, sumF, allF, anyF, tupleF, int1F, max2F, joinF, ixF, addF, mulF, tyOf, TyK, clsOf, clsOfs, wipeD, hideS, flatD, putD, and_assoc, neNilF, slF, isF, isntF, isND, trD_ins, t7, hl, q, fld_key]
        · rw [← ew]
          exact q
end K1
namespace K1
open PySem PySem.Spec PyProof.Rows L2 L3

def F_eq (C : Addr) : TF := fun _ ds φ _ => ∃ (a : Tr) (x : D), ds = [trD C a, x] ∧ a.ok ∧ ((∃ b : Tr, b.ok ∧ x = trD C b ∧ φ (.bl (decide (a.txt = b.txt)))) ∨ (othS x = true ∧ φ (.bl false)))
def F_str (C : Addr) : TF := fun _ ds φ _ => ∃ a : Tr, ds = [trD C a] ∧ a.ok ∧ a.txt.length ≤ big ∧ φ (.str (mks a.txt))
def F_repr (C : Addr) : TF := fun _ ds φ _ => ∃ a : Tr, ds = [trD C a] ∧ a.ok ∧ a.txt.length ≤ big ∧ φ (.str (mks ([84, 114, 101, 101, 40] ++ a.txt ++ [41])))
theorem mks_dec (a b : List Nat) : decide (mks a = mks b) = decide (a = b) := decide_eq_decide.mpr ⟨mks_inj, fun h => by rw [h]⟩
theorem ok_Tree__eq {P : Program} {w : World} {K : PySem.W.Frag} {mg : Str → Option Value} {base : Heap} (tx : Tx K mg) : Fn3 P w K mg base 1 (He.ma K (He.ga K "Tree") "__eq__") (F_eq (He.ga K "Tree")) := by
  obtain ⟨fd, FD⟩ := tx.fd_Tree__eq
  refine fn3 FD sc_Tree__eq (FD.bindsN fun _ _ _ _ _ _ us hl => match us, hl with | [_, _], _ => rfl) ?hn (fun cdv A outer s H E hr => (dss_one (ds_ret (de_and (de_callB (L3.CallR.or call_isi call_isiT) (cd_isiA (K := K)) rfl tx.no_isinstance (by decide +kernel) (da_cons (dv 1) (da_cons (de_gref rfl tx.mg_Tree) da_nil))) (de_one (de_cmp (op_eqD hr.units) opd_eq (de_fldK (K := K) (dv 0)) (de_fldK (K := K) (dv 1)) (nomark _))))))) ?hT
  case hn =>
    rintro wd ds φ ε ⟨a, x, rfl, _⟩
    rfl
  case hT =>
    rintro wd ds φ ε ⟨a, x, rfl, ha, q⟩
    show TRet _ _ _ [.v (trD (He.ga K "Tree") a), .v x]
    have t5 : AtK K (He.ga K "Tree") "text" := ⟨tx.cl_Tree, tx.na_Tree_text⟩
    have hL : sizeLine = 16777216 := sizeLine_eq
    have hB : big = 1000000 := rfl
    rcases q with ⟨b, hb, rfl, q⟩ | ⟨ho, q⟩
    · rw [trD_ins, trD_ins]
      simp [TVar, TC, TOp, TTst, fI, TAnd, TOr, TNot, TAndV, TOrV, TNotV, TIf, TChain, TChainB, TNoPart, TPart, TSl, TFld, TFldO, TCon, TNil, TCons, TTup, TLst, TCB, TM1, TFmt, TJs, TJoined, TNext, TSeq, TBreak, TCont, TNever, TRet, TRetN, TDrop, TIfS, L3.TSet, TAug, TPar, GName, GNil, GCons, GTup, TAsg, TIl, TIt, TIs, TIr1, TIr2, TIz, TFor, TOwn, TOwnL, TApp, TExt, TBor, TBorB, TFrz, TPutF, TYes, TLc, TLc2, TCall, TStar, TMake, TOpC, TParO1, TParO0, TPutJ, TBorN, TFldX, TIenT, TOwnLc, TMaxd, TCallK, lenF, isiAF, isiF, isiTF, PySem.W.kitAny, inF, sumF, allF, anyF, tupleF, int1F, max2F, joinF, ixF, addF, mulF, tyOf, TyK, clsOf, clsOfs, wipeD, hideS, flatD, putD, and_assoc, neNilF, slF, isF, isntF, isND, tx.in_Tree, tx.ki_Tree, t5, fld_text, shaped_txt ha, shaped_txt hb, mks_dec]
      exact q
    · cases x <;> first | exact Bool.noConfusion ho | (simp [TVar, TC, TOp, TTst, fI, TAnd, TOr, TNot, TAndV, TOrV, TNotV, TIf, TChain, TChainB, TNoPart, TPart, TSl, TFld, TFldO, TCon, TNil, TCons, TTup, TLst, TCB, TM1, TFmt, TJs, TJoined, TNext, TSeq, TBreak, TCont, TNever, TRet, TRetN, TDrop, TIfS, L3.TSet, TAug, TPar, GName, GNil, GCons, GTup, TAsg, TIl, TIt, TIs, TIr1, TIr2, TIz, TFor, TOwn, TOwnL, TApp, TExt, TBor, TBorB, TFrz, TPutF, TYes, TLc, TLc2, TCall, TStar, TMake, TOpC, TParO1, TParO0, TPutJ, TBorN, TFldX, TIenT, TOwnLc, TMaxd, TCallK, lenF, isiAF, isiF, isiTF, PySem.W.kitAny, inF, sumF, allF, anyF, tupleF, int1F, max2F, joinF, ixF, addF, mulF, tyOf, TyK, clsOf, clsOfs, wipeD, hideS, flatD, putD, and_assoc, neNilF, slF, isF, isntF, isND, trD_ins, tx.kis_NoneType, tx.kis_bool, tx.kis_int, tx.kis_str, tx.kis_list, tx.kis_tuple]; exact q)
theorem ok_Tree__str {P : Program} {w : World} {K : PySem.W.Frag} {mg : Str → Option Value} {base : Heap} (tx : Tx K mg) : Fn3 P w K mg base 1 (He.ma K (He.ga K "Tree") "__str__") (F_str (He.ga K "Tree")) := by
  obtain ⟨fd, FD⟩ := tx.fd_Tree__str
  refine fn3 FD sc_Tree__str (FD.bindsN fun _ _ _ _ _ _ us hl => match us, hl with | [_], _ => rfl) ?hn (fun cdv A outer s H E hr => (dss_one (ds_ret (de_fs1 (de_fmt (de_fldK (K := K) (dv 0))))))) ?hT
  case hn =>
    rintro wd ds φ ε ⟨a, rfl, _⟩
    rfl
  case hT =>
    rintro wd ds φ ε ⟨a, rfl, ha, hl, q⟩
    show TRet _ _ _ [.v (trD (He.ga K "Tree") a)]
    have t5 : AtK K (He.ga K "Tree") "text" := ⟨tx.cl_Tree, tx.na_Tree_text⟩
    have hL : sizeLine = 16777216 := sizeLine_eq
    have hB : big = 1000000 := rfl
    rw [trD_ins]
    simp [TVar, TC, TOp, TTst, fI, TAnd, TOr, TNot, TAndV, TOrV, TNotV, TIf, TChain, TChainB, TNoPart, TPart, TSl, TFld, TFldO, TCon, TNil, TCons, TTup, TLst, TCB, TM1, TFmt, TJs, TJoined, TNext, TSeq, TBreak, TCont, TNever, TRet, TRetN, TDrop, TIfS, L3.TSet, TAug, TPar, GName, GNil, GCons, GTup, TAsg, TIl, TIt, TIs, TIr1, TIr2, TIz, TFor, TOwn, TOwnL, TApp, TExt, TBor, TBorB, TFrz, TPutF, TYes, TLc, TLc2, TCall, TStar, TMake, TOpC, TParO1, TParO0, TPutJ, TBorN, TFldX, TIenT, TOwnLc, TMaxd, TCallK, lenF, isiAF, isiF, isiTF, PySem.W.kitAny, inF, sumF, allF, anyF, tupleF, int1F, max2F, joinF, ixF, addF, mulF, tyOf, TyK, clsOf, clsOfs, wipeD, hideS, flatD, putD, and_assoc, neNilF, slF, isF, isntF, isND, t5, fld_text, len_mks]
    exact ⟨by omega, q⟩
theorem ok_Tree__repr {P : Program} {w : World} {K : PySem.W.Frag} {mg : Str → Option Value} {base : Heap} (tx : Tx K mg) : Fn3 P w K mg base 1 (He.ma K (He.ga K "Tree") "__repr__") (F_repr (He.ga K "Tree")) := by
  obtain ⟨fd, FD⟩ := tx.fd_Tree__repr
  refine fn3 FD sc_Tree__repr (FD.bindsN fun _ _ _ _ _ _ us hl => match us, hl with | [_], _ => rfl) ?hn (fun cdv A outer s H E hr => (dss_one (ds_ret (de_joined (DJ.cons de_str (DJ.cons (de_fmt (de_fldK (K := K) (dv 0))) (DJ.cons de_str DJ.nil))))))) ?hT
  case hn =>
    rintro wd ds φ ε ⟨a, rfl, _⟩
    rfl
  case hT =>
    rintro wd ds φ ε ⟨a, rfl, ha, hl, q⟩
    show TRet _ _ _ [.v (trD (He.ga K "Tree") a)]
    have t5 : AtK K (He.ga K "Tree") "text" := ⟨tx.cl_Tree, tx.na_Tree_text⟩
    have hL : sizeLine = 16777216 := sizeLine_eq
    have hB : big = 1000000 := rfl
    have eE : (Str.empty : Str) = mks [] := rfl
    have eT : (Str.ofString "Tree(" : Str) = mks [84, 114, 101, 101, 40] := by decide +kernel
    have eC : (Str.ofString ")" : Str) = mks [41] := by decide +kernel
    rw [trD_ins]
    simp [TVar, TC, TOp, TTst, fI, TAnd, TOr, TNot, TAndV, TOrV, TNotV, TIf, TChain, TChainB, TNoPart, TPart, TSl, TFld, TFldO, TCon, TNil, TCons, TTup, TLst, TCB, TM1, TFmt, TJs, TJoined, TNext, TSeq, TBreak, TCont, TNever, TRet, TRetN, TDrop, TIfS, L3.TSet, TAug, TPar, GName, GNil, GCons, GTup, TAsg, TIl, TIt, TIs, TIr1, TIr2, TIz, TFor, TOwn, TOwnL, TApp, TExt, TBor, TBorB, TFrz, TPutF, TYes, TLc, TLc2, TCall, TStar, TMake, TOpC, TParO1, TParO0, TPutJ, TBorN, TFldX, TIenT, TOwnLc, TMaxd, TCallK, lenF, isiAF, isiF, isiTF, PySem.W.kitAny, inF, sumF, allF, anyF, tupleF, int1F, max2F, joinF, ixF, addF, mulF, tyOf, TyK, clsOf, clsOfs, wipeD, hideS, flatD, putD, and_assoc, neNilF, slF, isF, isntF, isND, t5, fld_text, len_mks]
    rw [eE, eT, eC]
    simp only [mks_app, len_mks, List.nil_append]
    refine ⟨?_, ?_, ?_, ?_, q⟩ <;> first | omega | (simp only [List.length_append, List.length_cons, List.length_nil]; omega)
end K1
namespace K1
open PySem PySem.Spec PyProof.Rows L2 L3
/-- the law's table of code objects -/
def TT (K : PySem.W.Frag) : List (Addr × Str) := [((He.cT K (("law" : Str), none)).2, (("law" : Str) ++ ".<locals>.") ++ "<lambda>")]
theorem ixn4_1 {n : Nat} : ixN (n + 4) 1 = some 1 := by
  unfold ixN
  rw [if_pos (by omega), if_pos (by omega)]
  rfl
theorem ixn4_2 {n : Nat} : ixN (n + 4) 2 = some 2 := by
  unfold ixN
  rw [if_pos (by omega), if_pos (by omega)]
  rfl
theorem ok_pick {P : Program} {w : World} {K : PySem.W.Frag} {mg : Str → Option Value} {base : Heap} (tx : Tx K mg) : Fn3 P w K mg base 1 (He.ga K "_law_pick") (F_pickT (TT K)) := by
  obtain ⟨fd, FD⟩ := tx.fd_law_pick
  refine pick_ofT (T := TT K) ?_
  have G : FnOk P w K mg base (L2.CX P w) 1 (He.ga K "_law_pick") fd ["_law_hand_here", "_law_many"] sp_pick := by
    refine FD.ok sc_law_pick (fun vs H Q E h => ?_) fun cdv A outer s H vs Q E hr h => ⟨_, show PSs (cx3 P w K mg base N_law_pick "_law_pick" (defScope s_law_pick) (He.ga K "_law_pick") cdv A outer s H E) _ _ from (pss_cons (ps_if (pt_cmpR op_lt (pe_ix ix_h (pv 0) pe_int (fun _ _ => rfl)) pe_int (nomark _)) (pss_cons (ps_asg (pe_op op_add (pe_ix ix_h (pv 0) pe_int (fun _ _ => rfl)) pe_int) (pg_sub (pv 0) pe_int set_list))
    (pss_cons (ps_set (i := 2) sc_law_pick.nd rfl (Or.inl rfl) (pe_op op_add (pe_ix ix_h (pv 0) pe_int (fun _ _ => rfl)) (pe_op op_mul (pe_ix ix_h (pv 0) pe_int (fun _ _ => rfl)) pe_int)))
    (pss_cons (ps_if (pt_cmpR op_le (pe_ix ix_h (pv 0) pe_int (fun _ _ => rfl)) (pe_callB call_hlen rfl tx.no_len boot_len (pa_cons (pe_ix ix_h (pv 0) pe_int (fun _ _ => rfl)) pa_nil)) (nomark _)) (pss_one (ps_set (i := 2) sc_law_pick.nd rfl (Or.inl rfl) (pe_ix ix_h (pe_ix ix_h (pv 0) pe_int (fun _ _ => rfl)) (pe_op op_sub (pe_ix ix_h (pv 0) pe_int (fun _ _ => rfl)) pe_int) (fun _ _ => rfl)))) pss_nil)
    (pss_cons (ps_if (PW.pt (pw_or (pt_cmpR op_gt (pe_ix ix_h (pv 0) pe_int (fun _ _ => rfl)) (pe_callB call_hlen rfl tx.no_len boot_len (pa_cons (pe_ix ix_h (pv 0) pe_int (fun _ _ => rfl)) pa_nil)) (nomark _)) (pw_or1 (pt_cmpR op_lt (pv 2) (pe_op op_pow pe_int pe_int) (nomark _))))) (pss_cons (ps_set (i := 3) sc_law_pick.nd rfl (Or.inl rfl) (pe_op op_mod (pe_callTy call_int1 rfl tx.no_int (by decide +kernel) (pa_cons (pe_op op_add (pe_op op_add (pe_op op_mul (pv 2) pe_int) (pe_op op_mul (pe_ix ix_h (pv 0) pe_int (fun _ _ => rfl)) pe_int)) (pe_ix ix_h (pv 0) pe_int (fun _ _ => rfl))) pa_nil)) pe_int))
    (pss_cons (ps_set (i := 4) sc_law_pick.nd rfl (Or.inl rfl) (pe_op op_mod (pe_callTy call_int1 rfl tx.no_int (by decide +kernel) (pa_cons (pe_op op_add (pe_op op_mul (pv 3) (pv 3)) (pe_op op_mul (pe_ix ix_h (pv 0) pe_int (fun _ _ => rfl)) pe_int)) pa_nil)) pe_int))
    (pss_one (ps_ret (pe_op op_mod (pe_op op_fdiv (pe_op op_mod (pe_callTy call_int1 rfl tx.no_int (by decide +kernel) (pa_cons (pe_op op_add (pe_op op_mul (pv 4) pe_int) (pv 3)) pa_nil)) pe_int) pe_int) (pv 1)))))) pss_nil)
    (pss_one (ps_asg (pv 2) (pg_sub (pv 0) pe_int set_list))))))) pss_nil)
    (pss_cons (ps_set (i := 5) sc_law_pick.nd rfl (Or.inl rfl) (pe_op op_mod (pe_callTy call_int1 rfl tx.no_int (by decide +kernel) (pa_cons (pe_ix ix_h (pv 0) pe_int (fun _ _ => rfl)) pa_nil)) (pv 1)))
    (pss_cons (ps_asg (pe_op op_fdiv (pe_callTy call_int1 rfl tx.no_int (by decide +kernel) (pa_cons (pe_ix ix_h (pv 0) pe_int (fun _ _ => rfl)) pa_nil)) (pv 1)) (pg_sub (pv 0) pe_int set_list))
    (pss_one (ps_ret (pv 5)))))), ?_⟩
    · obtain ⟨h, c, cells, i, j, m, many, rfl, _⟩ := h
      rfl
    · obtain ⟨h, c, cells, i, j, m, many, rfl, h0, hn, g1, g2, hm, hm2, q⟩ := h
      show tSeq _ _ _ [some (.ref h), some (.int many), none, none, none, none] H
      have cm : ∀ (a b : Int), -(2 ^ 64) < b → b < 2 ^ 64 → CMul a b := fun _ _ h1 h2 => .inr ⟨h1, h2⟩
      have tail : ∀ (i j : Int) (H' : Hp) (σ2 σ3 σ4 : Option V), 0 ≤ i → H' h = some (.lst [.ref c, .int i, .int j, .int m]) → (∀ i' j' r : Int, 0 ≤ i' → 0 ≤ r → r < many → Q (.int r) (upd H' h (.lst [.ref c, .int i', .int j', .int m]))) →
          tSeq (tAsg (tOp (rI (fun _ j => 0 < j) fun i j => .int (i % j)) (tCB (fun xs H Q => (∃ i, xs = [.int i] ∧ Q (.int i) H) ∨ ∃ k, xs = [.bl k] ∧ Q (.int (if k then 1 else 0)) H) (tCons (tOp rHx (tVar 0) (tC (.int 2))) tNil)) (tVar 1)) (gName 5))
            (tSeq (tAsg (tOp (rI CDiv fun i j => .int (i / j)) (tCB (fun xs H Q => (∃ i, xs = [.int i] ∧ Q (.int i) H) ∨ ∃ k, xs = [.bl k] ∧ Q (.int (if k then 1 else 0)) H) (tCons (tOp rHx (tVar 0) (tC (.int 2))) tNil)) (tVar 1)) (gSub (tVar 0) (tC (.int 2)) rSetL))
              (tRet (tVar 5))) { nx := fun _ H' => Q .non H', rt := Q } [some (.ref h), some (.int many), σ2, σ3, σ4, none] H' := fun i j H' σ2 σ3 σ4 hi g1 q =>
        ⟨.ref h, rfl, h, _, 2, _, rfl, rfl, g1, rfl, .inl ⟨j, rfl, .int many, rfl, j, many, rfl, rfl, hm,
          .ref h, rfl, h, _, 2, _, rfl, rfl, g1, rfl, .inl ⟨j, rfl, .int many, rfl, j, many, rfl, rfl, ⟨hm, by omega⟩, .ref h, rfl, h, _, 2, 2, rfl, rfl, g1, rfl, .int (j % many), rfl, q i (j / many) (j % many) hi (Int.emod_nonneg _ (by omega)) (Int.emod_lt_of_pos _ hm)⟩⟩⟩
      refine ⟨.ref h, rfl, h, _, 2, _, rfl, rfl, g1, rfl, j, 2, rfl, rfl, decide (j < 2), rfl, ?_⟩
      by_cases hj : j < 2
      · rw [decide_eq_true hj]
        refine iteT ?_
        refine ⟨.ref h, rfl, h, _, 1, _, rfl, rfl, g1, rfl, i, 1, rfl, rfl, .ref h, rfl, h, _, 1, 1, rfl, rfl, g1, rfl, ?_⟩
        have g1' : (upd H h (.lst ([V.ref c, .int i, .int j, .int m].set 1 (.int (i + 1))))) h = some (.lst [.ref c, .int (i + 1), .int j, .int m]) := upd_same
        have gc : (upd H h (.lst ([V.ref c, .int i, .int j, .int m].set 1 (.int (i + 1))))) c = some (.lst (cells.map V.int)) := by rw [upd_ne hn.symm]; exact g2
        have q1 : ∀ i' j' r : Int, 0 ≤ i' → 0 ≤ r → r < many → Q (.int r) (upd (upd H h (.lst ([V.ref c, .int i, .int j, .int m].set 1 (.int (i + 1))))) h (.lst [.ref c, .int i', .int j', .int m])) := fun i' j' r a b c => by
          rw [upd_upd]
          exact q i' j' r a b c
        generalize (upd H h (.lst ([V.ref c, .int i, .int j, .int m].set 1 (.int (i + 1))))) = H1 at g1' gc q1 ⊢
        refine ⟨.ref h, rfl, h, _, 3, _, rfl, rfl, g1', rfl, .ref h, rfl, h, _, 1, _, rfl, rfl, g1', rfl, i + 1, 8677, rfl, rfl, cm _ _ (by decide) (by decide), m, (i + 1) * 8677, rfl, rfl, ?_⟩
        refine ⟨.ref h, rfl, h, _, 1, _, rfl, rfl, g1', rfl, .ref h, rfl, h, _, 0, _, rfl, rfl, g1', rfl, c, _, rfl, gc, i + 1, _, rfl, rfl, decide ((i + 1) ≤ (((cells.map V.int).length : Nat) : Int)), rfl, ?_⟩
        -- what follows, whatever the cell
        have rest : ∀ x : Int, (tSeq (tIfS (tOr (tTest (tOp (rI0 fun i j => V.bl (decide (j < i))) (tOp rHx (tVar 0) (tC (V.int 1))) (tCB rHlen (tCons (tOp rHx (tVar 0) (tC (V.int 0))) tNil)))) (tTest (tOp (rI0 fun i j => V.bl (decide (i < j))) (tVar 2) (tOp (rI CPow fun i j => V.int (i ^ j.toNat)) (tC (V.int 10)) (tC (V.int 18)))))) (tSeq (tAsg (tOp (rI (fun x j => 0 < j) fun i j => V.int (i % j)) (tCB (fun xs H Q => (∃ i, xs = [V.int i] ∧ Q (V.int i) H) ∨ ∃ k, xs = [V.bl k] ∧ Q (V.int (if k = true then 1 else 0)) H) (tCons (tOp (rI0 fun i j => V.int (i + j)) (tOp (rI0 fun i j => V.int (i + j)) (tOp (rI CMul fun i j => V.int (i * j)) (tVar 2) (tC (V.int 40693))) (tOp (rI CMul fun i j => V.int (i * j)) (tOp rHx (tVar 0) (tC (V.int 1))) (tC (V.int 39373)))) (tOp rHx (tVar 0) (tC (V.int 3)))) tNil)) (tC (V.int 2147483647))) (gName 3)) (tSeq (tAsg (tOp (rI (fun x j => 0 < j) fun i j => V.int (i % j)) (tCB (fun xs H Q => (∃ i, xs = [V.int i] ∧ Q (V.int i) H) ∨ ∃ k, xs = [V.bl k] ∧ Q (V.int (if k = true then 1 else 0)) H) (tCons (tOp (rI0 fun i j => V.int (i + j)) (tOp (rI CMul fun i j => V.int (i * j)) (tVar 3) (tVar 3)) (tOp (rI CMul fun i j => V.int (i * j)) (tOp rHx (tVar 0) (tC (V.int 1))) (tC (V.int 52774)))) tNil)) (tC (V.int 998244353))) (gName 4)) (tRet (tOp (rI (fun x j => 0 < j) fun i j => V.int (i % j)) (tOp (rI CDiv fun i j => V.int (i / j)) (tOp (rI (fun x j => 0 < j) fun i j => V.int (i % j)) (tCB (fun xs H Q => (∃ i, xs = [V.int i] ∧ Q (V.int i) H) ∨ ∃ k, xs = [V.bl k] ∧ Q (V.int (if k = true then 1 else 0)) H) (tCons (tOp (rI0 fun i j => V.int (i + j)) (tOp (rI CMul fun i j => V.int (i * j)) (tVar 4) (tC (V.int 48271))) (tVar 3)) tNil)) (tC (V.int 2147483629))) (tC (V.int 17))) (tVar 1))))) tNext) (tAsg (tVar 2) (gSub (tVar 0) (tC (V.int 2)) rSetL))) { nx := tSeq (tAsg (tOp (rI (fun _ j => 0 < j) fun i j => .int (i % j)) (tCB (fun xs H Q => (∃ i, xs = [.int i] ∧ Q (.int i) H) ∨ ∃ k, xs = [.bl k] ∧ Q (.int (if k then 1 else 0)) H) (tCons (tOp rHx (tVar 0) (tC (.int 2))) tNil)) (tVar 1)) (gName 5)) (tSeq (tAsg (tOp (rI CDiv fun i j => .int (i / j)) (tCB (fun xs H Q => (∃ i, xs = [.int i] ∧ Q (.int i) H) ∨ ∃ k, xs = [.bl k] ∧ Q (.int (if k then 1 else 0)) H) (tCons (tOp rHx (tVar 0) (tC (.int 2))) tNil)) (tVar 1)) (gSub (tVar 0) (tC (.int 2)) rSetL)) (tRet (tVar 5))) { nx := fun _ H' => Q .non H', rt := Q }, rt := Q } [some (.ref h), some (.int many), some (.int x), none, none, none] H1 := fun x => by
          refine ⟨.ref h, rfl, h, _, 1, _, rfl, rfl, g1', rfl, .ref h, rfl, h, _, 0, _, rfl, rfl, g1', rfl, c, _, rfl, gc, i + 1, _, rfl, rfl, decide ((((cells.map V.int).length : Nat) : Int) < i + 1), rfl, ?_⟩
          have hs : upd H1 h (.lst [.ref c, .int (i + 1), .int j, .int m]) = H1 := by
            funext b
            by_cases hb : b = h
            · subst hb
              rw [upd_same, g1']
            · rw [upd_ne hb]
          have ret : (tSeq (tAsg (tOp (rI (fun x j => 0 < j) fun i j => V.int (i % j)) (tCB (fun xs H Q => (∃ i, xs = [V.int i] ∧ Q (V.int i) H) ∨ ∃ k, xs = [V.bl k] ∧ Q (V.int (if k = true then 1 else 0)) H) (tCons (tOp (rI0 fun i j => V.int (i + j)) (tOp (rI0 fun i j => V.int (i + j)) (tOp (rI CMul fun i j => V.int (i * j)) (tVar 2) (tC (V.int 40693))) (tOp (rI CMul fun i j => V.int (i * j)) (tOp rHx (tVar 0) (tC (V.int 1))) (tC (V.int 39373)))) (tOp rHx (tVar 0) (tC (V.int 3)))) tNil)) (tC (V.int 2147483647))) (gName 3)) (tSeq (tAsg (tOp (rI (fun x j => 0 < j) fun i j => V.int (i % j)) (tCB (fun xs H Q => (∃ i, xs = [V.int i] ∧ Q (V.int i) H) ∨ ∃ k, xs = [V.bl k] ∧ Q (V.int (if k = true then 1 else 0)) H) (tCons (tOp (rI0 fun i j => V.int (i + j)) (tOp (rI CMul fun i j => V.int (i * j)) (tVar 3) (tVar 3)) (tOp (rI CMul fun i j => V.int (i * j)) (tOp rHx (tVar 0) (tC (V.int 1))) (tC (V.int 52774)))) tNil)) (tC (V.int 998244353))) (gName 4)) (tRet (tOp (rI (fun x j => 0 < j) fun i j => V.int (i % j)) (tOp (rI CDiv fun i j => V.int (i / j)) (tOp (rI (fun x j => 0 < j) fun i j => V.int (i % j)) (tCB (fun xs H Q => (∃ i, xs = [V.int i] ∧ Q (V.int i) H) ∨ ∃ k, xs = [V.bl k] ∧ Q (V.int (if k = true then 1 else 0)) H) (tCons (tOp (rI0 fun i j => V.int (i + j)) (tOp (rI CMul fun i j => V.int (i * j)) (tVar 4) (tC (V.int 48271))) (tVar 3)) tNil)) (tC (V.int 2147483629))) (tC (V.int 17))) (tVar 1))))) { nx := (tAsg (tVar 2) (gSub (tVar 0) (tC (V.int 2)) rSetL)) { nx := tSeq (tAsg (tOp (rI (fun _ j => 0 < j) fun i j => .int (i % j)) (tCB (fun xs H Q => (∃ i, xs = [.int i] ∧ Q (.int i) H) ∨ ∃ k, xs = [.bl k] ∧ Q (.int (if k then 1 else 0)) H) (tCons (tOp rHx (tVar 0) (tC (.int 2))) tNil)) (tVar 1)) (gName 5)) (tSeq (tAsg (tOp (rI CDiv fun i j => .int (i / j)) (tCB (fun xs H Q => (∃ i, xs = [.int i] ∧ Q (.int i) H) ∨ ∃ k, xs = [.bl k] ∧ Q (.int (if k then 1 else 0)) H) (tCons (tOp rHx (tVar 0) (tC (.int 2))) tNil)) (tVar 1)) (gSub (tVar 0) (tC (.int 2)) rSetL)) (tRet (tVar 5))) { nx := fun _ H' => Q .non H', rt := Q }, rt := Q }, rt := Q } [some (.ref h), some (.int many), some (.int x), none, none, none] H1 := by
            refine ⟨.int x, rfl, x, 40693, rfl, rfl, cm _ _ (by decide) (by decide), .ref h, rfl, h, _, 1, _, rfl, rfl, g1', rfl, i + 1, 39373, rfl, rfl, cm _ _ (by decide) (by decide), _, _, rfl, rfl, .ref h, rfl, h, _, 3, _, rfl, rfl, g1', rfl, _, _, rfl, rfl, .inl ⟨_, rfl, _, 2147483647, rfl, rfl, (show (0 : Int) < 2147483647 by decide), ?_⟩⟩
            dsimp only [List.set]
            have b1 := Int.emod_nonneg (x * 40693 + (i + 1) * 39373 + m) (show (2147483647 : Int) ≠ 0 by decide)
            have b2 := Int.emod_lt_of_pos (x * 40693 + (i + 1) * 39373 + m) (show (0 : Int) < 2147483647 by decide)
            generalize (x * 40693 + (i + 1) * 39373 + m) % 2147483647 = one at b1 b2 ⊢
            refine ⟨.int one, rfl, .int one, rfl, one, one, rfl, rfl, cm _ _ (by omega) (by omega), .ref h, rfl, h, _, 1, _, rfl, rfl, g1', rfl, i + 1, 52774, rfl, rfl, cm _ _ (by decide) (by decide), _, _, rfl, rfl, .inl ⟨_, rfl, _, 998244353, rfl, rfl, (show (0 : Int) < 998244353 by decide), ?_⟩⟩
            dsimp only [List.set]
            generalize (one * one + (i + 1) * 52774) % 998244353 = two
            refine ⟨.int two, rfl, two, 48271, rfl, rfl, cm _ _ (by decide) (by decide), .int one, rfl, _, _, rfl, rfl, .inl ⟨_, rfl, _, 2147483629, rfl, rfl, (show (0 : Int) < 2147483629 by decide), _, 17, rfl, rfl, ⟨by decide, by decide⟩, .int many, rfl, _, many, rfl, rfl, hm, ?_⟩⟩
            have := q1 (i + 1) j ((two * 48271 + one) % 2147483629 / 17 % many) (by omega) (Int.emod_nonneg _ (by omega)) (Int.emod_lt_of_pos _ hm)
            rw [hs] at this
            exact this
          by_cases hb : (((cells.map V.int).length : Nat) : Int) < i + 1
          · rw [decide_eq_true hb]
            exact iteT (iteT ret)
          · rw [decide_eq_false hb]
            refine iteF ⟨.int x, rfl, 10, 18, rfl, rfl, ⟨by decide, by decide, by decide⟩, x, _, rfl, rfl, decide (x < 10 ^ (18 : Int).toNat), rfl, ?_⟩
            by_cases hx : x < 10 ^ (18 : Int).toNat
            · rw [decide_eq_true hx]
              exact iteT ret
            · rw [decide_eq_false hx]
              refine iteF ?_
              refine ⟨.int x, rfl, .ref h, rfl, h, _, 2, 2, rfl, rfl, g1', rfl, ?_⟩
              exact tail (i + 1) x _ _ _ _ (by omega) upd_same fun i' j' r a b c => by
                rw [upd_upd]
                exact q1 i' j' r a b c
        by_cases hi : (i + 1) ≤ (((cells.map V.int).length : Nat) : Int)
        · rw [decide_eq_true hi]
          refine iteT ?_
          obtain ⟨x, hx⟩ : ∃ x : Int, atI (cells.map V.int) (i + 1 - 1) = some (.int x) := by
            have e : i + 1 - 1 = ((i.toNat : Nat) : Int) := by omega
            rw [List.length_map] at hi
            rw [e, L3.atI_nat (by rw [List.length_map]; omega), List.getElem?_map]
            have : i.toNat < cells.length := by omega
            rw [List.getElem?_eq_getElem this]
            exact ⟨_, rfl⟩
          exact ⟨.ref h, rfl, h, _, 0, _, rfl, rfl, g1', rfl, .ref h, rfl, h, _, 1, _, rfl, rfl, g1', rfl, i + 1, 1, rfl, rfl, c, _, i + 1 - 1, _, rfl, rfl, gc, hx, rest x⟩
        · rw [decide_eq_false hi]
          refine iteF ?_
          exact rest _
      · rw [decide_eq_false hj]
        refine iteF ?_
        exact tail i j H _ _ _ h0 g1 q
  have z := G.raw (ds := []) (dvs := []) (FD.bindsN fun _ _ _ _ _ _ us hl => match us, hl with | [_, _], _ => rfl) .nil
  intro A outer s H us vs Q E hr e0 r hs
  exact z A outer s H us vs Q E hr e0 r (by show sp_pick (vs ++ []) H Q E; rw [List.append_nil]; exact hs)
end K1
namespace K1
open PySem PySem.Spec PyProof.Rows L2 L3

def pl : Nat → D → Prop
  | _, .non => True
  | _, .bl _ => True
  | _, .int _ => True
  | _, .str x => SeqAt.shaped (.str x) = true
  | n + 1, .lst ds => ds.length ≤ sizeLine ∧ ∀ d ∈ ds, pl n d
  | n + 1, .tup ds => ds.length ≤ sizeLine ∧ ∀ d ∈ ds, pl n d
  | _, _ => False
def F_same : Nat → TF
  | 0 => fun _ _ _ _ => False
  | n + 1 => fun _ ds φ _ => ∃ d, ds = [d, d] ∧ pl n d ∧ φ (.bl true)
mutual
def mD : Tr → D
  | .nd s ks => .tup [.str (mks s), .tup (mDs ks)]
def mDs : List Tr → List D
  | [] => []
  | t :: r => mD t :: mDs r
end
theorem mDs_eq : ∀ ks : List Tr, mDs ks = ks.map mD
  | [] => rfl
  | t :: r => congrArg (mD t :: ·) (mDs_eq r)
theorem mD_nd (s : List Nat) (ks : List Tr) : mD (.nd s ks) = .tup [.str (mks s), .tup (ks.map mD)] := by
  show D.tup [.str (mks s), .tup (mDs ks)] = _
  rw [mDs_eq]
theorem zip_self : ∀ ds : List D, zipD ds ds = ds.map fun d => .tup [d, d]
  | [] => rfl
  | d :: r => congrArg (D.tup [d, d] :: ·) (zip_self r)
theorem le_sum : ∀ {l : List Nat} {x : Nat}, x ∈ l → x ≤ l.sum
  | y :: l, x, h => by
    rw [List.sum_cons]
    rcases List.mem_cons.mp h with e | e
    · omega
    · have := le_sum e
      omega
theorem all_true {α : Type} : ∀ ds : List α, (ds.map fun _ => true).all id = true
  | [] => rfl
  | _ :: r => all_true r
theorem fn_false {P : Program} {w : World} {K : PySem.W.Frag} {mg : Str → Option Value} {base : Heap} {k : Nat} {f : Addr} {F : TF} (h : ∀ wd ds φ ε, ¬ F wd ds φ ε) : Fn3 P w K mg base k f F := by
  intro A outer s H us vs Q E hr e0 r ⟨wd, R, ds, φ, ε, b, rr, z, _⟩
  exact absurd z (h _ _ _ _)
def F_text (n : Nat) : TF := fun _ ds φ _ => ∃ t : Tr, ds = [mD t] ∧ t.ok ∧ t.dep ≤ n ∧ t.txt.length ≤ big ∧ φ (.str (mks t.txt))
def F_mtree (C : Addr) (n : Nat) : TF := fun _ ds φ _ => ∃ t : Tr, ds = [mD t] ∧ t.ok ∧ t.dep ≤ n ∧ t.txt.length ≤ big ∧ φ (trD C t)
def F_model (C : Addr) (n : Nat) : TF := fun _ ds φ _ => ∃ t : Tr, ds = [trD C t] ∧ t.ok ∧ t.dep ≤ n ∧ φ (mD t)
def F_size (n : Nat) : TF := fun _ ds φ _ => ∃ t : Tr, ds = [mD t] ∧ t.ok ∧ t.dep ≤ n ∧ φ (.int (t.siz : Nat))
theorem ok_law_of {P : Program} {w : World} {K : PySem.W.Frag} {mg : Str → Option Value} {base : Heap} (tx : Tx K mg) : Fn3 P w K mg base 2 (He.ga K "_law_of") (F_ofT (TT K)) := by
  obtain ⟨fd, FD⟩ := tx.fd_law_of
  have g_law_pick := ok_pick (P := P) (w := w) (base := base) tx
  refine fn3 FD sc_law_of (FD.bindsN fun _ _ _ _ _ _ us hl => match us, hl with | [_, _], _ => rfl) ?hn (fun cdv A outer s H E hr => (dss_one (ds_ret (de_ix (dv 1) (de_call g_law_pick (hr.mono (by omega)) rfl tx.mg_law_pick tx.kp_law_pick tk3 (da_cons (dv 0) (da_cons (de_len rfl tx.no_len (da_cons (dv 1) da_nil)) da_nil))))))) ?hT
  case hn =>
    rintro wd ds φ ε ⟨h, c, cells, es, rfl, rfl, _⟩
    rfl
  case hT =>
    rintro wd ds φ ε ⟨h, c, cells, es, rfl, rfl, hne, hl, q⟩
    show TRet _ _ _ [.v (.ref h), .v (.lst es)]
    simp [TVar, TC, TOp, TTst, fI, TAnd, TOr, TNot, TAndV, TOrV, TNotV, TIf, TChain, TChainB, TNoPart, TPart, TSl, TFld, TFldO, TCon, TNil, TCons, TTup, TLst, TCB, TM1, TFmt, TJs, TJoined, TNext, TSeq, TBreak, TCont, TNever, TRet, TRetN, TDrop, TIfS, L3.TSet, TAug, TPar, GName, GNil, GCons, GTup, TAsg, TIl, TIt, TIs, TIr1, TIr2, TIz, TFor, TOwn, TOwnL, TApp, TExt, TBor, TBorB, TFrz, TPutF, TYes, TLc, TLc2, TCall, TStar, TMake, TOpC, TParO1, TParO0, TPutJ, TBorN, TFldX, TIenT, TOwnLc, TMaxd, TCallK, lenF, isiAF, isiF, isiTF, PySem.W.kitAny, inF, sumF, allF, anyF, tupleF, int1F, max2F, joinF, ixF, addF, mulF, tyOf, TyK, clsOf, clsOfs, wipeD, hideS, flatD, putD, and_assoc, neNilF, slF, isF, isntF, isND]
    have hp : 0 < es.length := List.length_pos_iff.mpr hne
    refine ⟨h, c, cells, (es.length : Nat), rfl, rfl, by omega, by omega, fun r h1 h2 => ?_⟩
    have hr : r.toNat < es.length := by omega
    have e : r = ((r.toNat : Nat) : Int) := by omega
    refine ⟨es[r.toNat], ?_, q _ (List.getElem_mem hr)⟩
    have e2 := L3.atI_nat hr
    rw [← e] at e2
    rw [e2]
    exact List.getElem?_eq_getElem hr
theorem ok_law_hand {P : Program} {w : World} {K : PySem.W.Frag} {mg : Str → Option Value} {base : Heap} (tx : Tx K mg) : Fn3 P w K mg base 1 (He.ga K "_law_hand") (F_hand2 K) := by
  obtain ⟨fd, FD⟩ := tx.fd_law_hand
  refine fn3 FD sc_law_hand (FD.bindsN fun _ _ _ _ _ _ us hl => match us, hl with | [_], _ => rfl) ?hn (fun cdv A outer s H E hr => (dss_cons (ds_setLc (i := 1) (own := [("_law_cell", 3)]) rfl sc_law_hand.nd rfl rfl (sw_true rfl rfl rfl (by decide +kernel)) (di_list (de_sliceS (K := K) (dv 0) do_none (do_some de_int))) (blkOk_by (own := [("_law_cell", 3)]) (N := N_law_hand) (sc := defScope s_law_hand) (by decide +kernel)) (fun _ _ _ _ _ => (dg_name (i := 3) sc_law_hand.nd rfl (Or.inl rfl))) (fun _ _ _ _ _ => dts_nil) (fun _ _ _ _ _ => (de_callTy call_int1 cd_int1 rfl tx.no_int (by decide +kernel) (da_cons (dv 3) da_nil))))
    (dss_cons (ds_set (i := 2) sc_law_hand.nd rfl (Or.inl rfl) (de_add de_int (de_mul de_int (de_len rfl tx.no_len (da_cons (dv 1) da_nil)))))
    (dss_cons (ds_for (vs := [3]) ps3 rfl (di_list (dv 1)) (dg_name (i := 3) sc_law_hand.nd rfl (Or.inl rfl))
     (dss_one (ds_set (i := 2) sc_law_hand.nd rfl (Or.inl rfl) (de_mod (de_callTy call_int1 cd_int1 rfl tx.no_int (by decide +kernel) (da_cons (de_add (de_mul (dv 2) de_int) (dv 3)) da_nil)) de_int))))
    (dss_one (ds_ret (de_lst (da_cons (dv 1) (da_cons de_int (da_cons de_int (da_cons (dv 2) da_nil))))))))))) ?hT
  case hn =>
    rintro wd ds φ ε ⟨a, ns, rfl, _⟩
    rfl
  case hT =>
    rintro wd ds φ ε ⟨a, ns, rfl, hS, hl, q⟩
    show TSeq _ _ _ _ [.v (.ref a), .no, .no, .no]
    have hc : L3.cutD (ns.map D.int) none (some 63) = ns.map D.int := by
      unfold L3.cutD
      have e : (63 : Int) = ((63 : Nat) : Int) := rfl
      rw [HT.sIx_none, e, HT.sIx_nat, List.length_map, List.drop_zero]
      exact List.take_of_length_le (by rw [List.length_map]; omega)
    have hL : sizeLine = 16777216 := sizeLine_eq
    simp [TVar, TC, TOp, TTst, fI, TAnd, TOr, TNot, TAndV, TOrV, TNotV, TIf, TChain, TChainB, TNoPart, TPart, TSl, TFld, TFldO, TCon, TNil, TCons, TTup, TLst, TCB, TM1, TFmt, TJs, TJoined, TNext, TSeq, TBreak, TCont, TNever, TRet, TRetN, TDrop, TIfS, L3.TSet, TAug, TPar, GName, GNil, GCons, GTup, TAsg, TIl, TIt, TIs, TIr1, TIr2, TIz, TFor, TOwn, TOwnL, TApp, TExt, TBor, TBorB, TFrz, TPutF, TYes, TLc, TLc2, TCall, TStar, TMake, TOpC, TParO1, TParO0, TPutJ, TBorN, TFldX, TIenT, TOwnLc, TMaxd, TCallK, lenF, isiAF, isiF, isiTF, PySem.W.kitAny, inF, sumF, allF, anyF, tupleF, int1F, max2F, joinF, ixF, addF, mulF, tyOf, TyK, clsOf, clsOfs, wipeD, hideS, flatD, putD, and_assoc, neNilF, slF, isF, isntF, isND, TSlS]
    refine ⟨ns, hS, ?_⟩
    rw [hc]
    refine compD_map (enc := D.int) (f := D.int) ns [] (fun n hn acc ψ hl q => ?_) (by show 0 + _ ≤ _; omega) ?_
    · simp [TVar, TC, TOp, TTst, fI, TAnd, TOr, TNot, TAndV, TOrV, TNotV, TIf, TChain, TChainB, TNoPart, TPart, TSl, TFld, TFldO, TCon, TNil, TCons, TTup, TLst, TCB, TM1, TFmt, TJs, TJoined, TNext, TSeq, TBreak, TCont, TNever, TRet, TRetN, TDrop, TIfS, L3.TSet, TAug, TPar, GName, GNil, GCons, GTup, TAsg, TIl, TIt, TIs, TIr1, TIr2, TIz, TFor, TOwn, TOwnL, TApp, TExt, TBor, TBorB, TFrz, TPutF, TYes, TLc, TLc2, TCall, TStar, TMake, TOpC, TParO1, TParO0, TPutJ, TBorN, TFldX, TIenT, TOwnLc, TMaxd, TCallK, lenF, isiAF, isiF, isiTF, PySem.W.kitAny, inF, sumF, allF, anyF, tupleF, int1F, max2F, joinF, ixF, addF, mulF, tyOf, TyK, clsOf, clsOfs, wipeD, hideS, flatD, putD, and_assoc, neNilF, slF, isF, isntF, isND, hl, q]
    rw [List.nil_append, List.length_map]
    refine ⟨.inl ⟨by decide, by decide⟩, ?_⟩
    refine forD_of (enc := D.int) (fun xs env => ∃ (m : Int) (sl : Sl), env = [.v (.ref a), .v (.lst (ns.map D.int)), .v (.int m), sl]) ns _ ⟨5621 + 97 * (ns.length : Nat), .no, by simp⟩ ?_ ?_
    · rintro n rest env D2 - h1 - - ⟨m, sl, rfl⟩
      simp [TVar, TC, TOp, TTst, fI, TAnd, TOr, TNot, TAndV, TOrV, TNotV, TIf, TChain, TChainB, TNoPart, TPart, TSl, TFld, TFldO, TCon, TNil, TCons, TTup, TLst, TCB, TM1, TFmt, TJs, TJoined, TNext, TSeq, TBreak, TCont, TNever, TRet, TRetN, TDrop, TIfS, L3.TSet, TAug, TPar, GName, GNil, GCons, GTup, TAsg, TIl, TIt, TIs, TIr1, TIr2, TIz, TFor, TOwn, TOwnL, TApp, TExt, TBor, TBorB, TFrz, TPutF, TYes, TLc, TLc2, TCall, TStar, TMake, TOpC, TParO1, TParO0, TPutJ, TBorN, TFldX, TIenT, TOwnLc, TMaxd, TCallK, lenF, isiAF, isiF, isiTF, PySem.W.kitAny, inF, sumF, allF, anyF, tupleF, int1F, max2F, joinF, ixF, addF, mulF, tyOf, TyK, clsOf, clsOfs, wipeD, hideS, flatD, putD, and_assoc, neNilF, slF, isF, isntF, isND, CMul]
      exact h1 _ ⟨_, _, rfl⟩
    · rintro env ⟨m, sl, rfl⟩
      simp [TVar, TC, TOp, TTst, fI, TAnd, TOr, TNot, TAndV, TOrV, TNotV, TIf, TChain, TChainB, TNoPart, TPart, TSl, TFld, TFldO, TCon, TNil, TCons, TTup, TLst, TCB, TM1, TFmt, TJs, TJoined, TNext, TSeq, TBreak, TCont, TNever, TRet, TRetN, TDrop, TIfS, L3.TSet, TAug, TPar, GName, GNil, GCons, GTup, TAsg, TIl, TIt, TIs, TIr1, TIr2, TIz, TFor, TOwn, TOwnL, TApp, TExt, TBor, TBorB, TFrz, TPutF, TYes, TLc, TLc2, TCall, TStar, TMake, TOpC, TParO1, TParO0, TPutJ, TBorN, TFldX, TIenT, TOwnLc, TMaxd, TCallK, lenF, isiAF, isiF, isiTF, PySem.W.kitAny, inF, sumF, allF, anyF, tupleF, int1F, max2F, joinF, ixF, addF, mulF, tyOf, TyK, clsOf, clsOfs, wipeD, hideS, flatD, putD, and_assoc, neNilF, slF, isF, isntF, isND]
      exact q m
theorem ok_same {P : Program} {w : World} {K : PySem.W.Frag} {mg : Str → Option Value} {base : Heap} (tx : Tx K mg) : ∀ n : Nat, Fn3 P w K mg base (1 + n) (He.ga K "_law_same") (F_same n)
  | 0 => fn_false (fun _ _ _ _ h => h)
  | n + 1 => by
    obtain ⟨fd, FD⟩ := tx.fd_law_same
    have g_law_same : Fn3 P w K mg base (1 + n) (He.ga K "_law_same") (F_same n) := ok_same tx n
    refine fn3 (k := 1 + n) FD sc_law_same (FD.bindsN fun _ _ _ _ _ _ us hl => match us, hl with | [_, _], _ => rfl) ?hn (fun cdv A outer s H E hr => (dss_cons (ds_if (dt_cmp op_isN opd_is (dv 1) de_non (nomark _))
     (dss_one (ds_ret (de_cmp op_isN opd_is (dv 0) de_non (nomark _))))
     dss_nil)
    (dss_cons (ds_if (dt_bool (dw_or (dt_val (de_callB (L3.CallR.or call_isi call_isiT) (cd_isiA (K := K)) rfl tx.no_isinstance (by decide +kernel) (da_cons (dv 1) (da_cons (de_bty rfl tx.no_bool) da_nil)))) (dw_or1 (dt_val (de_callB (L3.CallR.or call_isi call_isiT) (cd_isiA (K := K)) rfl tx.no_isinstance (by decide +kernel) (da_cons (dv 0) (da_cons (de_bty rfl tx.no_bool) da_nil)))))))
     (dss_one (ds_ret (de_and (de_callB (L3.CallR.or call_isi call_isiT) (cd_isiA (K := K)) rfl tx.no_isinstance (by decide +kernel) (da_cons (dv 1) (da_cons (de_bty rfl tx.no_bool) da_nil))) (de_and (de_callB (L3.CallR.or call_isi call_isiT) (cd_isiA (K := K)) rfl tx.no_isinstance (by decide +kernel) (da_cons (dv 0) (da_cons (de_bty rfl tx.no_bool) da_nil))) (de_one (de_cmp (op_eqD hr.units) opd_eq (dv 0) (dv 1) (nomark _)))))))
     dss_nil)
    (dss_cons (ds_if (dt_val (de_callB (L3.CallR.or call_isi call_isiT) (cd_isiA (K := K)) rfl tx.no_isinstance (by decide +kernel) (da_cons (dv 1) (da_cons (de_tup (da_cons (de_bty rfl tx.no_int) (da_cons (de_bty rfl tx.no_str) da_nil))) da_nil))))
     (dss_one (ds_ret (de_and (de_callB (L3.CallR.or call_isi call_isiT) (cd_isiA (K := K)) rfl tx.no_isinstance (by decide +kernel) (da_cons (dv 0) (da_cons (de_tup (da_cons (de_bty rfl tx.no_int) (da_cons (de_bty rfl tx.no_str) da_nil))) da_nil))) (de_and (de_cmp (op_eqD hr.units) opd_eq (de_callB (L3.CallR.or call_isi call_isiT) (cd_isiA (K := K)) rfl tx.no_isinstance (by decide +kernel) (da_cons (dv 0) (da_cons (de_bty rfl tx.no_int) da_nil))) (de_callB (L3.CallR.or call_isi call_isiT) (cd_isiA (K := K)) rfl tx.no_isinstance (by decide +kernel) (da_cons (dv 1) (da_cons (de_bty rfl tx.no_int) da_nil))) (nomark _)) (de_one (de_cmp (op_eqD hr.units) opd_eq (dv 0) (dv 1) (nomark _)))))))
     dss_nil)
    (dss_cons (ds_if (dt_bool (dw_or (dt_cmp (op_neD hr.units) opd_ne (de_callB (L3.CallR.or call_isi call_isiT) (cd_isiA (K := K)) rfl tx.no_isinstance (by decide +kernel) (da_cons (dv 1) (da_cons (de_bty rfl tx.no_list) da_nil))) (de_callB (L3.CallR.or call_isi call_isiT) (cd_isiA (K := K)) rfl tx.no_isinstance (by decide +kernel) (da_cons (dv 0) (da_cons (de_bty rfl tx.no_list) da_nil))) (nomark _)) (dw_or1 (dt_cmp (op_neD hr.units) opd_ne (de_callB (L3.CallR.or call_isi call_isiT) (cd_isiA (K := K)) rfl tx.no_isinstance (by decide +kernel) (da_cons (dv 1) (da_cons (de_bty rfl tx.no_tuple) da_nil))) (de_callB (L3.CallR.or call_isi call_isiT) (cd_isiA (K := K)) rfl tx.no_isinstance (by decide +kernel) (da_cons (dv 0) (da_cons (de_bty rfl tx.no_tuple) da_nil))) (nomark _)))))
     (dss_one (ds_ret de_bl))
     dss_nil)
    (dss_one (ds_ret (de_and (de_cmp (op_eqD hr.units) opd_eq (de_len rfl tx.no_len (da_cons (dv 0) da_nil)) (de_len rfl tx.no_len (da_cons (dv 1) da_nil)) (nomark _)) (de_one (de_callB (cr_all rfl) cd_all rfl tx.no_all (by decide +kernel) (da_cons (de_lc (own := [("_law_one", 2), ("_law_two", 3)]) rfl sc_law_same.nd (di_zip rfl tx.no_zip (da_cons (dv 0) (da_cons (dv 1) da_nil))) (blkOk_by (own := [("_law_one", 2), ("_law_two", 3)]) (N := N_law_same) (sc := defScope s_law_same) (by decide +kernel)) (fun _ _ _ _ _ => (dg_tup (n := 2) rfl (dgs_cons (dg_name (i := 2) sc_law_same.nd rfl (Or.inl rfl)) (dgs_cons (dg_name (i := 3) sc_law_same.nd rfl (Or.inl rfl)) dgs_nil)))) (fun _ _ _ _ _ => dts_nil) (fun _ _ _ _ _ => (de_call g_law_same (hr.mono (by omega)) rfl tx.mg_law_same tx.kp_law_same takesN (da_cons (dv 2) (da_cons (dv 3) da_nil))))) da_nil))))))))))) ?hT
    case hn =>
      rintro wd ds φ ε ⟨d, rfl, _⟩
      rfl
    case hT =>
      rintro wd ds φ ε ⟨d, rfl, hd, q⟩
      show TSeq _ _ _ _ [.v d, .v d, .no, .no]
      have hL : sizeLine = 16777216 := sizeLine_eq
      cases d with
      | non => simp [TVar, TC, TOp, TTst, fI, TAnd, TOr, TNot, TAndV, TOrV, TNotV, TIf, TChain, TChainB, TNoPart, TPart, TSl, TFld, TFldO, TCon, TNil, TCons, TTup, TLst, TCB, TM1, TFmt, TJs, TJoined, TNext, TSeq, TBreak, TCont, TNever, TRet, TRetN, TDrop, TIfS, L3.TSet, TAug, TPar, GName, GNil, GCons, GTup, TAsg, TIl, TIt, TIs, TIr1, TIr2, TIz, TFor, TOwn, TOwnL, TApp, TExt, TBor, TBorB, TFrz, TPutF, TYes, TLc, TLc2, TCall, TStar, TMake, TOpC, TParO1, TParO0, TPutJ, TBorN, TFldX, TIenT, TOwnLc, TMaxd, TCallK, lenF, isiAF, isiF, isiTF, PySem.W.kitAny, inF, sumF, allF, anyF, tupleF, int1F, max2F, joinF, ixF, addF, mulF, tyOf, TyK, clsOf, clsOfs, wipeD, hideS, flatD, putD, and_assoc, neNilF, slF, isF, isntF, isND, q]
      | bl b => simp [TVar, TC, TOp, TTst, fI, TAnd, TOr, TNot, TAndV, TOrV, TNotV, TIf, TChain, TChainB, TNoPart, TPart, TSl, TFld, TFldO, TCon, TNil, TCons, TTup, TLst, TCB, TM1, TFmt, TJs, TJoined, TNext, TSeq, TBreak, TCont, TNever, TRet, TRetN, TDrop, TIfS, L3.TSet, TAug, TPar, GName, GNil, GCons, GTup, TAsg, TIl, TIt, TIs, TIr1, TIr2, TIz, TFor, TOwn, TOwnL, TApp, TExt, TBor, TBorB, TFrz, TPutF, TYes, TLc, TLc2, TCall, TStar, TMake, TOpC, TParO1, TParO0, TPutJ, TBorN, TFldX, TIenT, TOwnLc, TMaxd, TCallK, lenF, isiAF, isiF, isiTF, PySem.W.kitAny, inF, sumF, allF, anyF, tupleF, int1F, max2F, joinF, ixF, addF, mulF, tyOf, TyK, clsOf, clsOfs, wipeD, hideS, flatD, putD, and_assoc, neNilF, slF, isF, isntF, isND, q]
      | int i => simp [TVar, TC, TOp, TTst, fI, TAnd, TOr, TNot, TAndV, TOrV, TNotV, TIf, TChain, TChainB, TNoPart, TPart, TSl, TFld, TFldO, TCon, TNil, TCons, TTup, TLst, TCB, TM1, TFmt, TJs, TJoined, TNext, TSeq, TBreak, TCont, TNever, TRet, TRetN, TDrop, TIfS, L3.TSet, TAug, TPar, GName, GNil, GCons, GTup, TAsg, TIl, TIt, TIs, TIr1, TIr2, TIz, TFor, TOwn, TOwnL, TApp, TExt, TBor, TBorB, TFrz, TPutF, TYes, TLc, TLc2, TCall, TStar, TMake, TOpC, TParO1, TParO0, TPutJ, TBorN, TFldX, TIenT, TOwnLc, TMaxd, TCallK, lenF, isiAF, isiF, isiTF, PySem.W.kitAny, inF, sumF, allF, anyF, tupleF, int1F, max2F, joinF, ixF, addF, mulF, tyOf, TyK, clsOf, clsOfs, wipeD, hideS, flatD, putD, and_assoc, neNilF, slF, isF, isntF, isND, q]
      | str z => 
        have hz : SeqAt.shaped (.str z) = true := by cases n <;> exact hd
        simp [TVar, TC, TOp, TTst, fI, TAnd, TOr, TNot, TAndV, TOrV, TNotV, TIf, TChain, TChainB, TNoPart, TPart, TSl, TFld, TFldO, TCon, TNil, TCons, TTup, TLst, TCB, TM1, TFmt, TJs, TJoined, TNext, TSeq, TBreak, TCont, TNever, TRet, TRetN, TDrop, TIfS, L3.TSet, TAug, TPar, GName, GNil, GCons, GTup, TAsg, TIl, TIt, TIs, TIr1, TIr2, TIz, TFor, TOwn, TOwnL, TApp, TExt, TBor, TBorB, TFrz, TPutF, TYes, TLc, TLc2, TCall, TStar, TMake, TOpC, TParO1, TParO0, TPutJ, TBorN, TFldX, TIenT, TOwnLc, TMaxd, TCallK, lenF, isiAF, isiF, isiTF, PySem.W.kitAny, inF, sumF, allF, anyF, tupleF, int1F, max2F, joinF, ixF, addF, mulF, tyOf, TyK, clsOf, clsOfs, wipeD, hideS, flatD, putD, and_assoc, neNilF, slF, isF, isntF, isND, q, hz]
      | lst ds =>
        cases n with
        | zero => exact absurd hd id
        | succ n =>
          obtain ⟨hl, hm⟩ := hd
          simp [TVar, TC, TOp, TTst, fI, TAnd, TOr, TNot, TAndV, TOrV, TNotV, TIf, TChain, TChainB, TNoPart, TPart, TSl, TFld, TFldO, TCon, TNil, TCons, TTup, TLst, TCB, TM1, TFmt, TJs, TJoined, TNext, TSeq, TBreak, TCont, TNever, TRet, TRetN, TDrop, TIfS, L3.TSet, TAug, TPar, GName, GNil, GCons, GTup, TAsg, TIl, TIt, TIs, TIr1, TIr2, TIz, TFor, TOwn, TOwnL, TApp, TExt, TBor, TBorB, TFrz, TPutF, TYes, TLc, TLc2, TCall, TStar, TMake, TOpC, TParO1, TParO0, TPutJ, TBorN, TFldX, TIenT, TOwnLc, TMaxd, TCallK, lenF, isiAF, isiF, isiTF, PySem.W.kitAny, inF, sumF, allF, anyF, tupleF, int1F, max2F, joinF, ixF, addF, mulF, tyOf, TyK, clsOf, clsOfs, wipeD, hideS, flatD, putD, and_assoc, neNilF, slF, isF, isntF, isND, zipF, zip_self]
          refine compD_map (enc := fun d => D.tup [d, d]) (f := fun _ => .bl true) ds [] (fun d hd acc ψ hl q => ?_) (by show 0 + _ ≤ _; omega) ⟨ds.map fun _ => true, ?_, ?_⟩
          · simp [TVar, TC, TOp, TTst, fI, TAnd, TOr, TNot, TAndV, TOrV, TNotV, TIf, TChain, TChainB, TNoPart, TPart, TSl, TFld, TFldO, TCon, TNil, TCons, TTup, TLst, TCB, TM1, TFmt, TJs, TJoined, TNext, TSeq, TBreak, TCont, TNever, TRet, TRetN, TDrop, TIfS, L3.TSet, TAug, TPar, GName, GNil, GCons, GTup, TAsg, TIl, TIt, TIs, TIr1, TIr2, TIz, TFor, TOwn, TOwnL, TApp, TExt, TBor, TBorB, TFrz, TPutF, TYes, TLc, TLc2, TCall, TStar, TMake, TOpC, TParO1, TParO0, TPutJ, TBorN, TFldX, TIenT, TOwnLc, TMaxd, TCallK, lenF, isiAF, isiF, isiTF, PySem.W.kitAny, inF, sumF, allF, anyF, tupleF, int1F, max2F, joinF, ixF, addF, mulF, tyOf, TyK, clsOf, clsOfs, wipeD, hideS, flatD, putD, and_assoc, neNilF, slF, isF, isntF, isND]
            exact ⟨d, rfl, hm d hd, hl, q⟩
          · rw [← blsD_map, List.map_map]; rfl
          · rw [all_true]; exact q
      | tup ds =>
        cases n with
        | zero => exact absurd hd id
        | succ n =>
          obtain ⟨hl, hm⟩ := hd
          simp [TVar, TC, TOp, TTst, fI, TAnd, TOr, TNot, TAndV, TOrV, TNotV, TIf, TChain, TChainB, TNoPart, TPart, TSl, TFld, TFldO, TCon, TNil, TCons, TTup, TLst, TCB, TM1, TFmt, TJs, TJoined, TNext, TSeq, TBreak, TCont, TNever, TRet, TRetN, TDrop, TIfS, L3.TSet, TAug, TPar, GName, GNil, GCons, GTup, TAsg, TIl, TIt, TIs, TIr1, TIr2, TIz, TFor, TOwn, TOwnL, TApp, TExt, TBor, TBorB, TFrz, TPutF, TYes, TLc, TLc2, TCall, TStar, TMake, TOpC, TParO1, TParO0, TPutJ, TBorN, TFldX, TIenT, TOwnLc, TMaxd, TCallK, lenF, isiAF, isiF, isiTF, PySem.W.kitAny, inF, sumF, allF, anyF, tupleF, int1F, max2F, joinF, ixF, addF, mulF, tyOf, TyK, clsOf, clsOfs, wipeD, hideS, flatD, putD, and_assoc, neNilF, slF, isF, isntF, isND, zipF, zip_self]
          refine compD_map (enc := fun d => D.tup [d, d]) (f := fun _ => .bl true) ds [] (fun d hd acc ψ hl q => ?_) (by show 0 + _ ≤ _; omega) ⟨ds.map fun _ => true, ?_, ?_⟩
          · simp [TVar, TC, TOp, TTst, fI, TAnd, TOr, TNot, TAndV, TOrV, TNotV, TIf, TChain, TChainB, TNoPart, TPart, TSl, TFld, TFldO, TCon, TNil, TCons, TTup, TLst, TCB, TM1, TFmt, TJs, TJoined, TNext, TSeq, TBreak, TCont, TNever, TRet, TRetN, TDrop, TIfS, L3.TSet, TAug, TPar, GName, GNil, GCons, GTup, TAsg, TIl, TIt, TIs, TIr1, TIr2, TIz, TFor, TOwn, TOwnL, TApp, TExt, TBor, TBorB, TFrz, TPutF, TYes, TLc, TLc2, TCall, TStar, TMake, TOpC, TParO1, TParO0, TPutJ, TBorN, TFldX, TIenT, TOwnLc, TMaxd, TCallK, lenF, isiAF, isiF, isiTF, PySem.W.kitAny, inF, sumF, allF, anyF, tupleF, int1F, max2F, joinF, ixF, addF, mulF, tyOf, TyK, clsOf, clsOfs, wipeD, hideS, flatD, putD, and_assoc, neNilF, slF, isF, isntF, isND]
            exact ⟨d, rfl, hm d hd, hl, q⟩
          · rw [← blsD_map, List.map_map]; rfl
          · rw [all_true]; exact q
      | ty _ => cases n <;> exact absurd hd id
      | ref _ => cases n <;> exact absurd hd id
      | ins _ _ => cases n <;> exact absurd hd id
      | exc _ _ => cases n <;> exact absurd hd id
      | clo _ _ => cases n <;> exact absurd hd id
      | lam _ _ => cases n <;> exact absurd hd id
      | dic _ => cases n <;> exact absurd hd id
theorem ok_text {P : Program} {w : World} {K : PySem.W.Frag} {mg : Str → Option Value} {base : Heap} (tx : Tx K mg) : ∀ n : Nat, Fn3 P w K mg base (1 + n) (He.ga K "_law_text") (F_text n)
  | 0 => fn_false (fun _ _ _ _ ⟨t, _, _, h, _⟩ => by have := dep_pos t; omega)
  | n + 1 => by
    obtain ⟨fd, FD⟩ := tx.fd_law_text
    have g_law_text : Fn3 P w K mg base (1 + n) (He.ga K "_law_text") (F_text n) := ok_text tx n
    refine fn3 (k := 1 + n) FD sc_law_text (FD.bindsN fun _ _ _ _ _ _ us hl => match us, hl with | [_], _ => rfl) ?hn (fun cdv A outer s H E hr => (dss_cons (ds_set (i := 1) sc_law_text.nd rfl (Or.inl rfl) (de_join de_str (de_lc (own := [("_law_kid", 2)]) rfl sc_law_text.nd (di_tup (de_ix (dv 0) de_int)) (blkOk_by (own := [("_law_kid", 2)]) (N := N_law_text) (sc := defScope s_law_text) (by decide +kernel)) (fun _ _ _ _ _ => (dg_name (i := 2) sc_law_text.nd rfl (Or.inl rfl))) (fun _ _ _ _ _ => dts_nil) (fun _ _ _ _ _ => (de_call g_law_text (hr.mono (by omega)) rfl tx.mg_law_text tx.kp_law_text takesN (da_cons (dv 2) da_nil))))))
    (dss_one (ds_ret (de_add (de_ix (dv 0) de_int) (de_ifExp (dt_cmp (op_neD hr.units) opd_ne (dv 1) de_str (nomark _)) (de_add (de_add de_str (dv 1)) de_str) de_str)))))) ?hT
    case hn =>
      rintro wd ds φ ε ⟨t, rfl, _⟩
      rfl
    case hT =>
      rintro wd ds φ ε ⟨⟨s, ks⟩, rfl, ⟨h1, h2, h3⟩, hd, hl, q⟩
      rw [mD_nd]
      show TSeq _ _ _ _ [.v (.tup [.str (mks s), .tup (ks.map mD)]), .no, .no]
      have hL : sizeLine = 16777216 := sizeLine_eq
      have hB : big = 1000000 := rfl
      have k1 : (Str.ofString "(" : Str) = mks [40] := by decide +kernel
      have k2 : (Str.ofString ")" : Str) = mks [41] := by decide +kernel
      have k3 : (Str.ofString "," : Str) = mks [44] := by decide +kernel
      have k4 : (Str.ofString "" : Str) = mks [] := by decide +kernel
      have hks := oks_iff.mp h3
      have hsg := ok_sg_len h1
      have hw := wrapL_len s (txts ks)
      have hwl : (wrapL s (txts ks)).length ≤ big := hl
      have hj := joinL_le (txts ks)
      have htl : (txts ks).length = ks.length := by rw [txts_eq, List.length_map]
      have hdd : deps ks ≤ n := by
        have : 1 + deps ks ≤ n + 1 := hd
        omega
      have hkl : ∀ t ∈ ks, t.txt.length ≤ big := fun t ht => by
        have : t.txt.length ∈ (txts ks).map List.length := by
          rw [txts_eq, List.map_map]
          exact List.mem_map.mpr ⟨t, ht, rfl⟩
        have := le_sum this
        omega
      simp [TVar, TC, TOp, TTst, fI, TAnd, TOr, TNot, TAndV, TOrV, TNotV, TIf, TChain, TChainB, TNoPart, TPart, TSl, TFld, TFldO, TCon, TNil, TCons, TTup, TLst, TCB, TM1, TFmt, TJs, TJoined, TNext, TSeq, TBreak, TCont, TNever, TRet, TRetN, TDrop, TIfS, L3.TSet, TAug, TPar, GName, GNil, GCons, GTup, TAsg, TIl, TIt, TIs, TIr1, TIr2, TIz, TFor, TOwn, TOwnL, TApp, TExt, TBor, TBorB, TFrz, TPutF, TYes, TLc, TLc2, TCall, TStar, TMake, TOpC, TParO1, TParO0, TPutJ, TBorN, TFldX, TIenT, TOwnLc, TMaxd, TCallK, lenF, isiAF, isiF, isiTF, PySem.W.kitAny, inF, sumF, allF, anyF, tupleF, int1F, max2F, joinF, ixF, addF, mulF, tyOf, TyK, clsOf, clsOfs, wipeD, hideS, flatD, putD, and_assoc, neNilF, slF, isF, isntF, isND]
      refine compD_map (enc := mD) (f := fun t => .str (mks t.txt)) ks [] (fun t ht acc ψ hl q => ?_) (by show 0 + _ ≤ _; omega) ⟨(txts ks).map mks, ?_, ?_, ?_⟩
      · simp [TVar, TC, TOp, TTst, fI, TAnd, TOr, TNot, TAndV, TOrV, TNotV, TIf, TChain, TChainB, TNoPart, TPart, TSl, TFld, TFldO, TCon, TNil, TCons, TTup, TLst, TCB, TM1, TFmt, TJs, TJoined, TNext, TSeq, TBreak, TCont, TNever, TRet, TRetN, TDrop, TIfS, L3.TSet, TAug, TPar, GName, GNil, GCons, GTup, TAsg, TIl, TIt, TIs, TIr1, TIr2, TIz, TFor, TOwn, TOwnL, TApp, TExt, TBor, TBorB, TFrz, TPutF, TYes, TLc, TLc2, TCall, TStar, TMake, TOpC, TParO1, TParO0, TPutJ, TBorN, TFldX, TIenT, TOwnLc, TMaxd, TCallK, lenF, isiAF, isiF, isiTF, PySem.W.kitAny, inF, sumF, allF, anyF, tupleF, int1F, max2F, joinF, ixF, addF, mulF, tyOf, TyK, clsOf, clsOfs, wipeD, hideS, flatD, putD, and_assoc, neNilF, slF, isF, isntF, isND]
        exact ⟨t, rfl, hks t ht, Nat.le_trans (deps_le ht) hdd, hkl t ht, hl, q⟩
      · rw [← strsD_map, txts_eq, List.map_map, List.map_map]; rfl
      · rw [k3, List.map_map, len_mks, List.length_map]
        have : ((txts ks).map (fun x => Str.length (mks x))) = (txts ks).map List.length := List.map_congr_left fun x _ => len_mks x
        show ((txts ks).map (fun x => Str.length (mks x))).sum + _ ≤ _
        rw [this, htl]
        simp
        omega
      · rw [k1, k2, k3, k4, join_mks]
        have hsh : SeqAt.shaped (.str (mks (joinL (txts ks)))) = true := shaped_mks (joinL_mem (P := fun c => c < 128) (by decide) (txts_mem (P := fun c => c < 128) (by decide) (by decide) (by decide) (fun c hc => by have := isLet_iff.mp hc; omega) h3))
        have hs0 : SeqAt.shaped (.str (mks [])) = true := shaped_mks (by simp)
        cases ks with
        | nil =>
          simp [TVar, TC, TOp, TTst, fI, TAnd, TOr, TNot, TAndV, TOrV, TNotV, TIf, TChain, TChainB, TNoPart, TPart, TSl, TFld, TFldO, TCon, TNil, TCons, TTup, TLst, TCB, TM1, TFmt, TJs, TJoined, TNext, TSeq, TBreak, TCont, TNever, TRet, TRetN, TDrop, TIfS, L3.TSet, TAug, TPar, GName, GNil, GCons, GTup, TAsg, TIl, TIt, TIs, TIr1, TIr2, TIz, TFor, TOwn, TOwnL, TApp, TExt, TBor, TBorB, TFrz, TPutF, TYes, TLc, TLc2, TCall, TStar, TMake, TOpC, TParO1, TParO0, TPutJ, TBorN, TFldX, TIenT, TOwnLc, TMaxd, TCallK, lenF, isiAF, isiF, isiTF, PySem.W.kitAny, inF, sumF, allF, anyF, tupleF, int1F, max2F, joinF, ixF, addF, mulF, tyOf, TyK, clsOf, clsOfs, wipeD, hideS, flatD, putD, and_assoc, neNilF, slF, isF, isntF, isND, hs0, txts, joinL, len_mks, mks_app]
          refine ⟨by omega, ?_⟩
          exact q
        | cons t r =>
          have hne : ¬ mks (joinL (txts (t :: r))) = mks [] := fun e => by
            have e2 := mks_inj e
            have x1 := joinL_len (txts (t :: r))
            rw [e2] at x1
            have x2 : 1 ≤ t.txt.length := List.length_pos_iff.mpr (txt_ne (hks t List.mem_cons_self))
            have x3 : (txts (t :: r)).map List.length = t.txt.length :: (txts r).map List.length := rfl
            rw [x3, List.sum_cons, List.length_nil] at x1
            omega
          simp [TVar, TC, TOp, TTst, fI, TAnd, TOr, TNot, TAndV, TOrV, TNotV, TIf, TChain, TChainB, TNoPart, TPart, TSl, TFld, TFldO, TCon, TNil, TCons, TTup, TLst, TCB, TM1, TFmt, TJs, TJoined, TNext, TSeq, TBreak, TCont, TNever, TRet, TRetN, TDrop, TIfS, L3.TSet, TAug, TPar, GName, GNil, GCons, GTup, TAsg, TIl, TIt, TIs, TIr1, TIr2, TIz, TFor, TOwn, TOwnL, TApp, TExt, TBor, TBorB, TFrz, TPutF, TYes, TLc, TLc2, TCall, TStar, TMake, TOpC, TParO1, TParO0, TPutJ, TBorN, TFldX, TIenT, TOwnLc, TMaxd, TCallK, lenF, isiAF, isiF, isiTF, PySem.W.kitAny, inF, sumF, allF, anyF, tupleF, int1F, max2F, joinF, ixF, addF, mulF, tyOf, TyK, clsOf, clsOfs, wipeD, hideS, flatD, putD, and_assoc, neNilF, slF, isF, isntF, isND, hs0, hsh, hne, len_mks, mks_app]
          have hw2 : s.length + ((joinL (txts (t :: r))).length + 2) ≤ big := by
            have : (s ++ 40 :: (joinL (txts (t :: r)) ++ [41])).length ≤ big := hl
            simp at this
            omega
          refine ⟨by omega, by omega, by omega, ?_⟩
          exact q
theorem ok_tree {P : Program} {w : World} {K : PySem.W.Frag} {mg : Str → Option Value} {base : Heap} (tx : Tx K mg) (xS : ExcKC P w K mg base 2 (He.ga K "InvalidSign") (He.ma K (He.ga K "InvalidSign") "__init__") mkvIS mkdIS) (xB : ExcKC P w K mg base 2 (He.ga K "InvalidBranches") (He.ma K (He.ga K "InvalidBranches") "__init__") mkvIB mkdIB) : ∀ n : Nat, Fn3 P w K mg base (6 + n) (He.ga K "_law_tree") ((F_mtree (He.ga K "Tree")) n)
  | 0 => fn_false (fun _ _ _ _ ⟨t, _, _, h, _⟩ => by have := dep_pos t; omega)
  | n + 1 => by
    obtain ⟨fd, FD⟩ := tx.fd_law_tree
    have g_law_tree : Fn3 P w K mg base (6 + n) (He.ga K "_law_tree") ((F_mtree (He.ga K "Tree")) n) := ok_tree tx xS xB n
    have g_Tree_init := ok_init (P := P) (w := w) (base := base) tx xS xB
    refine fn3 (k := 6 + n) FD sc_law_tree (FD.bindsN fun _ _ _ _ _ _ us hl => match us, hl with | [_], _ => rfl) ?hn (fun cdv A outer s H E hr => (dss_cons (ds_setLc (i := 1) (own := [("_law_kid", 2)]) rfl sc_law_tree.nd rfl rfl (sw_true rfl rfl rfl (by decide +kernel)) (di_tup (de_ix (dv 0) de_int)) (blkOk_by (own := [("_law_kid", 2)]) (N := N_law_tree) (sc := defScope s_law_tree) (by decide +kernel)) (fun _ _ _ _ _ => (dg_name (i := 2) sc_law_tree.nd rfl (Or.inl rfl))) (fun _ _ _ _ _ => dts_nil) (fun _ _ _ _ _ => (de_call g_law_tree (hr.mono (by omega)) rfl tx.mg_law_tree tx.kp_law_tree takesN (da_cons (dv 2) da_nil))))
    (dss_cons (ds_if (dt_cmp (op_eqD hr.units) opd_eq (de_len rfl tx.no_len (da_cons (dv 1) da_nil)) de_int (nomark _))
     (dss_one (ds_ret (de_make tx.mk_Tree g_Tree_init (hr.mono (by omega)) rfl tx.mg_Tree tk3 (da_cons (de_ix (dv 0) de_int) da_nil))))
     dss_nil)
    (dss_cons (ds_if (dt_cmp (op_eqD hr.units) opd_eq (de_len rfl tx.no_len (da_cons (dv 1) da_nil)) de_int (nomark _))
     (dss_one (ds_ret (de_make tx.mk_Tree g_Tree_init (hr.mono (by omega)) rfl tx.mg_Tree tk3 (da_cons (de_ix (dv 0) de_int) (da_cons (de_ix (dv 1) de_int) da_nil)))))
     dss_nil)
    (dss_one (ds_ret (de_ifExp (dt_cmp (op_eqD hr.units) opd_eq (de_len rfl tx.no_len (da_cons (dv 1) da_nil)) de_int (nomark _)) (de_make tx.mk_Tree g_Tree_init (hr.mono (by omega)) rfl tx.mg_Tree tk3 (da_cons (de_ix (dv 0) de_int) (da_cons (de_ix (dv 1) de_int) (da_cons (de_ix (dv 1) de_int) da_nil)))) (de_make tx.mk_Tree g_Tree_init (hr.mono (by omega)) rfl tx.mg_Tree tk3 (da_cons (de_ix (dv 0) de_int) (da_cons (de_ix (dv 1) de_int) (da_cons (de_ix (dv 1) de_int) (da_cons (de_ix (dv 1) de_int) da_nil)))))))))))) ?hT
    case hn =>
      rintro wd ds φ ε ⟨t, rfl, _⟩
      rfl
    case hT =>
      rintro wd ds φ ε ⟨⟨s, ks⟩, rfl, ⟨h1, h2, h3⟩, hd, hl, q⟩
      rw [mD_nd]
      show TSeq _ _ _ _ [.v (.tup [.str (mks s), .tup (ks.map mD)]), .no, .no]
      have hL : sizeLine = 16777216 := sizeLine_eq
      have hB : big = 1000000 := rfl
      have hks := oks_iff.mp h3
      have hdd : deps ks ≤ n := by
        have : 1 + deps ks ≤ n + 1 := hd
        omega
      have hw := wrapL_len s (txts ks)
      have hwl : (wrapL s (txts ks)).length ≤ big := hl
      have hkl : ∀ t ∈ ks, t.txt.length ≤ big := fun t ht => by
        have : t.txt.length ∈ (txts ks).map List.length := by
          rw [txts_eq, List.map_map]
          exact List.mem_map.mpr ⟨t, ht, rfl⟩
        have := le_sum this
        omega
      simp [TVar, TC, TOp, TTst, fI, TAnd, TOr, TNot, TAndV, TOrV, TNotV, TIf, TChain, TChainB, TNoPart, TPart, TSl, TFld, TFldO, TCon, TNil, TCons, TTup, TLst, TCB, TM1, TFmt, TJs, TJoined, TNext, TSeq, TBreak, TCont, TNever, TRet, TRetN, TDrop, TIfS, L3.TSet, TAug, TPar, GName, GNil, GCons, GTup, TAsg, TIl, TIt, TIs, TIr1, TIr2, TIz, TFor, TOwn, TOwnL, TApp, TExt, TBor, TBorB, TFrz, TPutF, TYes, TLc, TLc2, TCall, TStar, TMake, TOpC, TParO1, TParO0, TPutJ, TBorN, TFldX, TIenT, TOwnLc, TMaxd, TCallK, lenF, isiAF, isiF, isiTF, PySem.W.kitAny, inF, sumF, allF, anyF, tupleF, int1F, max2F, joinF, ixF, addF, mulF, tyOf, TyK, clsOf, clsOfs, wipeD, hideS, flatD, putD, and_assoc, neNilF, slF, isF, isntF, isND]
      refine compD_map (enc := mD) (f := trD (He.ga K "Tree")) ks [] (fun t ht acc ψ hl q => ?_) (by show 0 + _ ≤ _; omega) ?_
      · simp [TVar, TC, TOp, TTst, fI, TAnd, TOr, TNot, TAndV, TOrV, TNotV, TIf, TChain, TChainB, TNoPart, TPart, TSl, TFld, TFldO, TCon, TNil, TCons, TTup, TLst, TCB, TM1, TFmt, TJs, TJoined, TNext, TSeq, TBreak, TCont, TNever, TRet, TRetN, TDrop, TIfS, L3.TSet, TAug, TPar, GName, GNil, GCons, GTup, TAsg, TIl, TIt, TIs, TIr1, TIr2, TIz, TFor, TOwn, TOwnL, TApp, TExt, TBor, TBorB, TFrz, TPutF, TYes, TLc, TLc2, TCall, TStar, TMake, TOpC, TParO1, TParO0, TPutJ, TBorN, TFldX, TIenT, TOwnLc, TMaxd, TCallK, lenF, isiAF, isiF, isiTF, PySem.W.kitAny, inF, sumF, allF, anyF, tupleF, int1F, max2F, joinF, ixF, addF, mulF, tyOf, TyK, clsOf, clsOfs, wipeD, hideS, flatD, putD, and_assoc, neNilF, slF, isF, isntF, isND]
        exact ⟨t, rfl, hks t ht, Nat.le_trans (deps_le ht) hdd, hkl t ht, hl, q⟩
      · have fin : F_init (He.ga K "Tree") (He.ga K "InvalidSign") (He.ga K "InvalidBranches") wd (.str (mks s) :: ks.map (trD (He.ga K "Tree"))) (fun fs => φ (.ins (He.ga K "Tree") fs)) (fun ex => ε ex) := .inl ⟨s, ks, rfl, ⟨h1, h2, h3⟩, hl, by rw [trD_ins] at q; exact q⟩
        match ks, h2, fin with
        | [], _, fin => simpa [TVar, TC, TOp, TTst, fI, TAnd, TOr, TNot, TAndV, TOrV, TNotV, TIf, TChain, TChainB, TNoPart, TPart, TSl, TFld, TFldO, TCon, TNil, TCons, TTup, TLst, TCB, TM1, TFmt, TJs, TJoined, TNext, TSeq, TBreak, TCont, TNever, TRet, TRetN, TDrop, TIfS, L3.TSet, TAug, TPar, GName, GNil, GCons, GTup, TAsg, TIl, TIt, TIs, TIr1, TIr2, TIz, TFor, TOwn, TOwnL, TApp, TExt, TBor, TBorB, TFrz, TPutF, TYes, TLc, TLc2, TCall, TStar, TMake, TOpC, TParO1, TParO0, TPutJ, TBorN, TFldX, TIenT, TOwnLc, TMaxd, TCallK, lenF, isiAF, isiF, isiTF, PySem.W.kitAny, inF, sumF, allF, anyF, tupleF, int1F, max2F, joinF, ixF, addF, mulF, tyOf, TyK, clsOf, clsOfs, wipeD, hideS, flatD, putD, and_assoc, neNilF, slF, isF, isntF, isND] using fin
        | [a], _, fin => simpa [TVar, TC, TOp, TTst, fI, TAnd, TOr, TNot, TAndV, TOrV, TNotV, TIf, TChain, TChainB, TNoPart, TPart, TSl, TFld, TFldO, TCon, TNil, TCons, TTup, TLst, TCB, TM1, TFmt, TJs, TJoined, TNext, TSeq, TBreak, TCont, TNever, TRet, TRetN, TDrop, TIfS, L3.TSet, TAug, TPar, GName, GNil, GCons, GTup, TAsg, TIl, TIt, TIs, TIr1, TIr2, TIz, TFor, TOwn, TOwnL, TApp, TExt, TBor, TBorB, TFrz, TPutF, TYes, TLc, TLc2, TCall, TStar, TMake, TOpC, TParO1, TParO0, TPutJ, TBorN, TFldX, TIenT, TOwnLc, TMaxd, TCallK, lenF, isiAF, isiF, isiTF, PySem.W.kitAny, inF, sumF, allF, anyF, tupleF, int1F, max2F, joinF, ixF, addF, mulF, tyOf, TyK, clsOf, clsOfs, wipeD, hideS, flatD, putD, and_assoc, neNilF, slF, isF, isntF, isND] using fin
        | [a, b], _, fin => simpa [TVar, TC, TOp, TTst, fI, TAnd, TOr, TNot, TAndV, TOrV, TNotV, TIf, TChain, TChainB, TNoPart, TPart, TSl, TFld, TFldO, TCon, TNil, TCons, TTup, TLst, TCB, TM1, TFmt, TJs, TJoined, TNext, TSeq, TBreak, TCont, TNever, TRet, TRetN, TDrop, TIfS, L3.TSet, TAug, TPar, GName, GNil, GCons, GTup, TAsg, TIl, TIt, TIs, TIr1, TIr2, TIz, TFor, TOwn, TOwnL, TApp, TExt, TBor, TBorB, TFrz, TPutF, TYes, TLc, TLc2, TCall, TStar, TMake, TOpC, TParO1, TParO0, TPutJ, TBorN, TFldX, TIenT, TOwnLc, TMaxd, TCallK, lenF, isiAF, isiF, isiTF, PySem.W.kitAny, inF, sumF, allF, anyF, tupleF, int1F, max2F, joinF, ixF, addF, mulF, tyOf, TyK, clsOf, clsOfs, wipeD, hideS, flatD, putD, and_assoc, neNilF, slF, isF, isntF, isND] using fin
        | [a, b, c], _, fin => simpa [TVar, TC, TOp, TTst, fI, TAnd, TOr, TNot, TAndV, TOrV, TNotV, TIf, TChain, TChainB, TNoPart, TPart, TSl, TFld, TFldO, TCon, TNil, TCons, TTup, TLst, TCB, TM1, TFmt, TJs, TJoined, TNext, TSeq, TBreak, TCont, TNever, TRet, TRetN, TDrop, TIfS, L3.TSet, TAug, TPar, GName, GNil, GCons, GTup, TAsg, TIl, TIt, TIs, TIr1, TIr2, TIz, TFor, TOwn, TOwnL, TApp, TExt, TBor, TBorB, TFrz, TPutF, TYes, TLc, TLc2, TCall, TStar, TMake, TOpC, TParO1, TParO0, TPutJ, TBorN, TFldX, TIenT, TOwnLc, TMaxd, TCallK, lenF, isiAF, isiF, isiTF, PySem.W.kitAny, inF, sumF, allF, anyF, tupleF, int1F, max2F, joinF, ixF, addF, mulF, tyOf, TyK, clsOf, clsOfs, wipeD, hideS, flatD, putD, and_assoc, neNilF, slF, isF, isntF, isND] using fin
        | _ :: _ :: _ :: _ :: _, h2, _ => simp at h2
theorem ok_size {P : Program} {w : World} {K : PySem.W.Frag} {mg : Str → Option Value} {base : Heap} (tx : Tx K mg) : ∀ n : Nat, Fn3 P w K mg base (1 + n) (He.ga K "_law_size") (F_size n)
  | 0 => fn_false (fun _ _ _ _ ⟨t, _, _, h, _⟩ => by have := dep_pos t; omega)
  | n + 1 => by
    obtain ⟨fd, FD⟩ := tx.fd_law_size
    have g_law_size : Fn3 P w K mg base (1 + n) (He.ga K "_law_size") (F_size n) := ok_size tx n
    refine fn3 (k := 1 + n) FD sc_law_size (FD.bindsN fun _ _ _ _ _ _ us hl => match us, hl with | [_], _ => rfl) ?hn (fun cdv A outer s H E hr => (dss_one (ds_ret (de_add de_int (de_callB (cr_sum rfl) cd_sum rfl tx.no_sum (by decide +kernel) (da_cons (de_lc (own := [("_law_kid", 1)]) rfl sc_law_size.nd (di_tup (de_ix (dv 0) de_int)) (blkOk_by (own := [("_law_kid", 1)]) (N := N_law_size) (sc := defScope s_law_size) (by decide +kernel)) (fun _ _ _ _ _ => (dg_name (i := 1) sc_law_size.nd rfl (Or.inl rfl))) (fun _ _ _ _ _ => dts_nil) (fun _ _ _ _ _ => (de_call g_law_size (hr.mono (by omega)) rfl tx.mg_law_size tx.kp_law_size takesN (da_cons (dv 1) da_nil)))) da_nil)))))) ?hT
    case hn =>
      rintro wd ds φ ε ⟨t, rfl, _⟩
      rfl
    case hT =>
      rintro wd ds φ ε ⟨⟨s, ks⟩, rfl, ⟨h1, h2, h3⟩, hd, q⟩
      rw [mD_nd]
      show TRet _ _ _ [.v (.tup [.str (mks s), .tup (ks.map mD)]), .no]
      have hL : sizeLine = 16777216 := sizeLine_eq
      have hB : big = 1000000 := rfl
      have hks := oks_iff.mp h3
      have hdd : deps ks ≤ n := by
        have : 1 + deps ks ≤ n + 1 := hd
        omega
      simp [TVar, TC, TOp, TTst, fI, TAnd, TOr, TNot, TAndV, TOrV, TNotV, TIf, TChain, TChainB, TNoPart, TPart, TSl, TFld, TFldO, TCon, TNil, TCons, TTup, TLst, TCB, TM1, TFmt, TJs, TJoined, TNext, TSeq, TBreak, TCont, TNever, TRet, TRetN, TDrop, TIfS, L3.TSet, TAug, TPar, GName, GNil, GCons, GTup, TAsg, TIl, TIt, TIs, TIr1, TIr2, TIz, TFor, TOwn, TOwnL, TApp, TExt, TBor, TBorB, TFrz, TPutF, TYes, TLc, TLc2, TCall, TStar, TMake, TOpC, TParO1, TParO0, TPutJ, TBorN, TFldX, TIenT, TOwnLc, TMaxd, TCallK, lenF, isiAF, isiF, isiTF, PySem.W.kitAny, inF, sumF, allF, anyF, tupleF, int1F, max2F, joinF, ixF, addF, mulF, tyOf, TyK, clsOf, clsOfs, wipeD, hideS, flatD, putD, and_assoc, neNilF, slF, isF, isntF, isND]
      refine compD_map (enc := mD) (f := fun t => .int (t.siz : Nat)) ks [] (fun t ht acc ψ hl q => ?_) (by show 0 + _ ≤ _; omega) ⟨ks.map fun t => ((t.siz : Nat) : Int), ?_, ?_⟩
      · simp [TVar, TC, TOp, TTst, fI, TAnd, TOr, TNot, TAndV, TOrV, TNotV, TIf, TChain, TChainB, TNoPart, TPart, TSl, TFld, TFldO, TCon, TNil, TCons, TTup, TLst, TCB, TM1, TFmt, TJs, TJoined, TNext, TSeq, TBreak, TCont, TNever, TRet, TRetN, TDrop, TIfS, L3.TSet, TAug, TPar, GName, GNil, GCons, GTup, TAsg, TIl, TIt, TIs, TIr1, TIr2, TIz, TFor, TOwn, TOwnL, TApp, TExt, TBor, TBorB, TFrz, TPutF, TYes, TLc, TLc2, TCall, TStar, TMake, TOpC, TParO1, TParO0, TPutJ, TBorN, TFldX, TIenT, TOwnLc, TMaxd, TCallK, lenF, isiAF, isiF, isiTF, PySem.W.kitAny, inF, sumF, allF, anyF, tupleF, int1F, max2F, joinF, ixF, addF, mulF, tyOf, TyK, clsOf, clsOfs, wipeD, hideS, flatD, putD, and_assoc, neNilF, slF, isF, isntF, isND]
        exact ⟨t, rfl, hks t ht, Nat.le_trans (deps_le ht) hdd, hl, q⟩
      · rw [← intsD_map, List.map_map]; rfl
      · rw [← sizs_int]
        exact q

def pathD (p : List Nat) : D := .tup (p.map fun i => D.int (i : Nat))
def plD (x : List Nat × Tr) : D := .tup [pathD x.1, mD x.2]
def F_places (n : Nat) : TF := fun _ ds φ _ => ∃ t : Tr, ds = [mD t] ∧ t.dep ≤ n ∧ t.siz ≤ 1000 ∧ φ (.lst ((plc t).map plD))
def enumT : Nat → List Tr → List (Nat × Tr)
  | _, [] => []
  | n, t :: r => (n, t) :: enumT (n + 1) r
def enD (x : Nat × Tr) : D := .tup [.int (x.1 : Nat), mD x.2]
theorem enum_map : ∀ (ks : List Tr) (n : Nat), enumD n (ks.map mD) = (enumT n ks).map enD
  | [], _ => rfl
  | t :: r, n => congrArg (D.tup [.int (n : Nat), mD t] :: ·) (enum_map r (n + 1))
theorem ok_places {P : Program} {w : World} {K : PySem.W.Frag} {mg : Str → Option Value} {base : Heap} (tx : Tx K mg) : ∀ n : Nat, Fn3 P w K mg base (1 + n) (He.ga K "_law_places") (F_places n)
  | 0 => fn_false (fun _ _ _ _ ⟨t, _, h, _⟩ => by have := dep_pos t; omega)
  | n + 1 => by
    obtain ⟨fd, FD⟩ := tx.fd_law_places
    have g_law_places : Fn3 P w K mg base (1 + n) (He.ga K "_law_places") (F_places n) := ok_places tx n
    refine fn3 (k := 1 + n) FD sc_law_places (FD.bindsN fun _ _ _ _ _ _ us hl => match us, hl with | [_], _ => rfl) ?hn (fun cdv A outer s H E hr => (dss_cons (ds_set (i := 1) sc_law_places.nd rfl (Or.inl rfl) (de_lst (da_cons (de_tup (da_cons (de_tup da_nil) (da_cons (dv 0) da_nil))) da_nil)))
    (dss_cons (ds_for (vs := [2, 3]) ps3 rfl (di_enumT rfl tx.no_enumerate (da_cons (de_ix (dv 0) de_int) da_nil)) (dg_tup (n := 2) rfl (dgs_cons (dg_name (i := 2) sc_law_places.nd rfl (Or.inr rfl)) (dgs_cons (dg_name (i := 3) sc_law_places.nd rfl (Or.inl rfl)) dgs_nil)))
     (dss_one (ds_set (i := 1) sc_law_places.nd rfl (Or.inl rfl) (de_add (dv 1) (de_lc (own := [("_law_path", 4), ("_law_piece", 5)]) rfl sc_law_places.nd (di_list (de_call g_law_places (hr.mono (by omega)) rfl tx.mg_law_places tx.kp_law_places tk3 (da_cons (dv 3) da_nil))) (blkOk_by (own := [("_law_path", 4), ("_law_piece", 5)]) (N := N_law_places) (sc := defScope s_law_places) (by decide +kernel)) (fun _ _ _ _ _ => (dg_tup (n := 2) rfl (dgs_cons (dg_name (i := 4) sc_law_places.nd rfl (Or.inl rfl)) (dgs_cons (dg_name (i := 5) sc_law_places.nd rfl (Or.inl rfl)) dgs_nil)))) (fun _ _ _ _ _ => dts_nil) (fun _ _ _ _ _ => (de_tup (da_cons (de_add (de_tup (da_cons (dv 2) da_nil)) (dv 4)) (da_cons (dv 5) da_nil)))))))))
    (dss_one (ds_ret (dv 1)))))) ?hT
    case hn =>
      rintro wd ds φ ε ⟨t, rfl, _⟩
      rfl
    case hT =>
      rintro wd ds φ ε ⟨⟨s, ks⟩, rfl, hd, hz, q⟩
      show TSeq _ _ _ _ [.v (mD (.nd s ks)), .no, .no, .no, .no, .no]
      have hL : sizeLine = 16777216 := sizeLine_eq
      have hdd : deps ks ≤ n := by
        have : 1 + deps ks ≤ n + 1 := hd
        omega
      have hzz : 1 + sizs ks ≤ 1000 := hz
      have e0 := mD_nd s ks
      simp [TVar, TC, TOp, TTst, fI, TAnd, TOr, TNot, TAndV, TOrV, TNotV, TIf, TChain, TChainB, TNoPart, TPart, TSl, TFld, TFldO, TCon, TNil, TCons, TTup, TLst, TCB, TM1, TFmt, TJs, TJoined, TNext, TSeq, TBreak, TCont, TNever, TRet, TRetN, TDrop, TIfS, L3.TSet, TAug, TPar, GName, GNil, GCons, GTup, TAsg, TIl, TIt, TIs, TIr1, TIr2, TIz, TFor, TOwn, TOwnL, TApp, TExt, TBor, TBorB, TFrz, TPutF, TYes, TLc, TLc2, TCall, TStar, TMake, TOpC, TParO1, TParO0, TPutJ, TBorN, TFldX, TIenT, TOwnLc, TMaxd, TCallK, lenF, isiAF, isiF, isiTF, PySem.W.kitAny, inF, sumF, allF, anyF, tupleF, int1F, max2F, joinF, ixF, addF, mulF, tyOf, TyK, clsOf, clsOfs, wipeD, hideS, flatD, putD, and_assoc, neNilF, slF, isF, isntF, isND, e0]
      rw [enum_map]
      refine forD_of (enc := enD) (fun xs env => ∃ (i : Nat) (todo : List Tr) (found : List (List Nat × Tr)) (s2 s3 : Sl), xs = enumT i todo ∧ (∀ t ∈ todo, t ∈ ks) ∧ found ++ plcs i todo = plc (.nd s ks) ∧ env = [.v (.tup [.str (mks s), .tup (ks.map mD)]), .v (.lst (found.map plD)), s2, s3, .no, .no]) _ _
        ⟨0, ks, [([], .nd s ks)], .no, .no, rfl, fun _ h => h, rfl, by rw [← e0]; rfl⟩ ?_ ?_
      · rintro x rest env D2 - hnx - - ⟨i, todo, found, s2, s3, hx, hm, hf, rfl⟩
        cases todo with
        | nil => cases hx
        | cons t r =>
          injection hx with e1 e2
          subst e1 e2
          have ht := hm t List.mem_cons_self
          have htd := deps_le ht
          have hts := sizs_le ht
          have hfl : found.length + (plcs i (t :: r)).length = (Tr.nd s ks).siz := by rw [← List.length_append, hf, plc_len]
          have hfl2 : (Tr.nd s ks).siz = 1 + sizs ks := rfl
          have hpl : (plcs i (t :: r)).length = t.siz + sizs r := plcs_len
          simp [TVar, TC, TOp, TTst, fI, TAnd, TOr, TNot, TAndV, TOrV, TNotV, TIf, TChain, TChainB, TNoPart, TPart, TSl, TFld, TFldO, TCon, TNil, TCons, TTup, TLst, TCB, TM1, TFmt, TJs, TJoined, TNext, TSeq, TBreak, TCont, TNever, TRet, TRetN, TDrop, TIfS, L3.TSet, TAug, TPar, GName, GNil, GCons, GTup, TAsg, TIl, TIt, TIs, TIr1, TIr2, TIz, TFor, TOwn, TOwnL, TApp, TExt, TBor, TBorB, TFrz, TPutF, TYes, TLc, TLc2, TCall, TStar, TMake, TOpC, TParO1, TParO0, TPutJ, TBorN, TFldX, TIenT, TOwnLc, TMaxd, TCallK, lenF, isiAF, isiF, isiTF, PySem.W.kitAny, inF, sumF, allF, anyF, tupleF, int1F, max2F, joinF, ixF, addF, mulF, tyOf, TyK, clsOf, clsOfs, wipeD, hideS, flatD, putD, and_assoc, neNilF, slF, isF, isntF, isND, enD]
          refine ⟨t, rfl, by omega, by omega, _, rfl, ?_⟩
          refine compD_map (enc := plD) (f := fun x => plD (i :: x.1, x.2)) (plc t) [] (fun x hx acc ψ hl q => ?_) (by show 0 + _ ≤ _; rw [plc_len]; omega) ?_
          · have hxl := plc_pl hx
            have hds := dep_siz t
            simp [TVar, TC, TOp, TTst, fI, TAnd, TOr, TNot, TAndV, TOrV, TNotV, TIf, TChain, TChainB, TNoPart, TPart, TSl, TFld, TFldO, TCon, TNil, TCons, TTup, TLst, TCB, TM1, TFmt, TJs, TJoined, TNext, TSeq, TBreak, TCont, TNever, TRet, TRetN, TDrop, TIfS, L3.TSet, TAug, TPar, GName, GNil, GCons, GTup, TAsg, TIl, TIt, TIs, TIr1, TIr2, TIz, TFor, TOwn, TOwnL, TApp, TExt, TBor, TBorB, TFrz, TPutF, TYes, TLc, TLc2, TCall, TStar, TMake, TOpC, TParO1, TParO0, TPutJ, TBorN, TFldX, TIenT, TOwnLc, TMaxd, TCallK, lenF, isiAF, isiF, isiTF, PySem.W.kitAny, inF, sumF, allF, anyF, tupleF, int1F, max2F, joinF, ixF, addF, mulF, tyOf, TyK, clsOf, clsOfs, wipeD, hideS, flatD, putD, and_assoc, neNilF, slF, isF, isntF, isND, plD, pathD]
            exact ⟨by omega, hl, q⟩
          · simp [TVar, TC, TOp, TTst, fI, TAnd, TOr, TNot, TAndV, TOrV, TNotV, TIf, TChain, TChainB, TNoPart, TPart, TSl, TFld, TFldO, TCon, TNil, TCons, TTup, TLst, TCB, TM1, TFmt, TJs, TJoined, TNext, TSeq, TBreak, TCont, TNever, TRet, TRetN, TDrop, TIfS, L3.TSet, TAug, TPar, GName, GNil, GCons, GTup, TAsg, TIl, TIt, TIs, TIr1, TIr2, TIz, TFor, TOwn, TOwnL, TApp, TExt, TBor, TBorB, TFrz, TPutF, TYes, TLc, TLc2, TCall, TStar, TMake, TOpC, TParO1, TParO0, TPutJ, TBorN, TFldX, TIenT, TOwnLc, TMaxd, TCallK, lenF, isiAF, isiF, isiTF, PySem.W.kitAny, inF, sumF, allF, anyF, tupleF, int1F, max2F, joinF, ixF, addF, mulF, tyOf, TyK, clsOf, clsOfs, wipeD, hideS, flatD, putD, and_assoc, neNilF, slF, isF, isntF, isND, plc_len]
            refine ⟨by omega, hnx _ ⟨i + 1, r, found ++ (plc t).map (fun x => (i :: x.1, x.2)), .v (.int (i : Nat)), .v (mD t), rfl, fun t ht => hm t (List.mem_cons_of_mem _ ht), ?_, ?_⟩⟩
            · rw [← hf]
              show _ = found ++ ((plc t).map (fun x => (i :: x.1, x.2)) ++ plcs (i + 1) r)
              rw [List.append_assoc]
            · rw [List.map_append, List.map_map]
              rfl
      · rintro env ⟨i, todo, found, s2, s3, hx, hm, hf, rfl⟩
        have : todo = [] := by
          cases todo with
          | nil => rfl
          | cons t r => cases hx
        subst this
        have hf2 : found = plc (.nd s ks) := by rw [← hf]; exact (List.append_nil _).symm
        rw [hf2]
        simp [TVar, TC, TOp, TTst, fI, TAnd, TOr, TNot, TAndV, TOrV, TNotV, TIf, TChain, TChainB, TNoPart, TPart, TSl, TFld, TFldO, TCon, TNil, TCons, TTup, TLst, TCB, TM1, TFmt, TJs, TJoined, TNext, TSeq, TBreak, TCont, TNever, TRet, TRetN, TDrop, TIfS, L3.TSet, TAug, TPar, GName, GNil, GCons, GTup, TAsg, TIl, TIt, TIs, TIr1, TIr2, TIz, TFor, TOwn, TOwnL, TApp, TExt, TBor, TBorB, TFrz, TPutF, TYes, TLc, TLc2, TCall, TStar, TMake, TOpC, TParO1, TParO0, TPutJ, TBorN, TFldX, TIenT, TOwnLc, TMaxd, TCallK, lenF, isiAF, isiF, isiTF, PySem.W.kitAny, inF, sumF, allF, anyF, tupleF, int1F, max2F, joinF, ixF, addF, mulF, tyOf, TyK, clsOf, clsOfs, wipeD, hideS, flatD, putD, and_assoc, neNilF, slF, isF, isntF, isND]
        exact q
end K1
namespace K1
open PySem PySem.Spec PyProof.Rows L2 L3

def sgL : List (List Nat × Nat) := [([97], 0), ([98], 0), ([99], 0), ([102], 1), ([103], 2), ([102], 2), ([104], 3)]
def sgD (p : List Nat × Nat) : D := .tup [.str (mks p.1), .int (p.2 : Nat)]
def F_signs : TF := fun _ ds φ _ => ds = [] ∧ φ (.lst (sgL.map sgD))
structure SgOk (sg : List (List Nat × Nat)) : Prop where
  all : ∀ p ∈ sg, isSg p.1 = true ∧ p.2 ≤ 3
  leaf : ∃ p ∈ sg, p.2 = 0
  len : sg.length ≤ 100
theorem sgL_ok : SgOk sgL := ⟨by decide +kernel, ⟨([97], 0), by decide, rfl⟩, by decide⟩
theorem oks_app : ∀ {a b : List Tr}, oks a → oks b → oks (a ++ b)
  | [], _, _, h => h
  | _ :: _, _, h, h2 => ⟨h.1, oks_app h.2 h2⟩
def F_drawn (T : List (Addr × Str)) : Nat → TF
  | 0 => fun _ _ _ _ => False
  | n + 1 => fun wd ds φ _ => ∃ (h c : Addr) (cells : List Int) (room : Int) (sg : List (List Nat × Nat)), wd = hwT T h c cells ∧ ds = [.ref h, .lst (sg.map sgD), .int room] ∧ SgOk sg ∧ 1 ≤ room ∧ room ≤ (n + 1 : Nat) ∧ room ≤ 30 ∧ ∀ t : Tr, t.ok → (t.siz : Int) ≤ room → φ (mD t)
theorem ok_law_signs {P : Program} {w : World} {K : PySem.W.Frag} {mg : Str → Option Value} {base : Heap} (tx : Tx K mg) : Fn3 P w K mg base 1 (He.ga K "_law_signs") F_signs := by
  obtain ⟨fd, FD⟩ := tx.fd_law_signs
  refine fn3 FD sc_law_signs (FD.bindsN fun _ _ _ _ _ _ us hl => match us, hl with | [], _ => rfl) ?hn (fun cdv A outer s H E hr => (dss_one (ds_ret (de_lst (da_cons (de_tup (da_cons de_str (da_cons de_int da_nil))) (da_cons (de_tup (da_cons de_str (da_cons de_int da_nil))) (da_cons (de_tup (da_cons de_str (da_cons de_int da_nil))) (da_cons (de_tup (da_cons de_str (da_cons de_int da_nil))) (da_cons (de_tup (da_cons de_str (da_cons de_int da_nil))) (da_cons (de_tup (da_cons de_str (da_cons de_int da_nil))) (da_cons (de_tup (da_cons de_str (da_cons de_int da_nil))) da_nil))))))))))) ?hT
  case hn =>
    rintro wd ds φ ε ⟨rfl, _⟩
    rfl
  case hT =>
    rintro wd ds φ ε ⟨rfl, q⟩
    show TRet _ _ _ []
    simp [TVar, TC, TOp, TTst, fI, TAnd, TOr, TNot, TAndV, TOrV, TNotV, TIf, TChain, TChainB, TNoPart, TPart, TSl, TFld, TFldO, TCon, TNil, TCons, TTup, TLst, TCB, TM1, TFmt, TJs, TJoined, TNext, TSeq, TBreak, TCont, TNever, TRet, TRetN, TDrop, TIfS, L3.TSet, TAug, TPar, GName, GNil, GCons, GTup, TAsg, TIl, TIt, TIs, TIr1, TIr2, TIz, TFor, TOwn, TOwnL, TApp, TExt, TBor, TBorB, TFrz, TPutF, TYes, TLc, TLc2, TCall, TStar, TMake, TOpC, TParO1, TParO0, TPutJ, TBorN, TFldX, TIenT, TOwnLc, TMaxd, TCallK, lenF, isiAF, isiF, isiTF, PySem.W.kitAny, inF, sumF, allF, anyF, tupleF, int1F, max2F, joinF, ixF, addF, mulF, tyOf, TyK, clsOf, clsOfs, wipeD, hideS, flatD, putD, and_assoc, neNilF, slF, isF, isntF, isND]
    have e : sgL.map sgD = [D.tup [.str "a", .int 0], .tup [.str "b", .int 0], .tup [.str "c", .int 0], .tup [.str "f", .int 1], .tup [.str "g", .int 2], .tup [.str "f", .int 2], .tup [.str "h", .int 3]] := by
      have ea : (Str.ofString "a") = mks [97] := by decide +kernel
      have eb : (Str.ofString "b") = mks [98] := by decide +kernel
      have ec : (Str.ofString "c") = mks [99] := by decide +kernel
      have ef : (Str.ofString "f") = mks [102] := by decide +kernel
      have eg : (Str.ofString "g") = mks [103] := by decide +kernel
      have eh : (Str.ofString "h") = mks [104] := by decide +kernel
      rw [ea, eb, ec, ef, eg, eh]
      rfl
    rw [e] at q
    exact q
theorem ok_drawn {P : Program} {w : World} {K : PySem.W.Frag} {mg : Str → Option Value} {base : Heap} (tx : Tx K mg) : ∀ n : Nat, Fn3 P w K mg base (50 + n) (He.ga K "_law_drawn") (F_drawn (TT K) n)
  | 0 => fn_false fun _ _ _ _ h => h
  | n + 1 => by
    obtain ⟨fd, FD⟩ := tx.fd_law_drawn
    have g_law_drawn : Fn3 P w K mg base (50 + n) (He.ga K "_law_drawn") (F_drawn (TT K) n) := ok_drawn tx n
    have g_law_pick := ok_pick (P := P) (w := w) (base := base) tx
    have g_law_of := ok_law_of (P := P) (w := w) (base := base) tx
    have g_law_size := ok_size (P := P) (w := w) (base := base) tx 40
    refine fn3 (k := 50 + n) FD sc_law_drawn (FD.bindsN fun _ _ _ _ _ _ us hl => match us, hl with | [_, _, _], _ => rfl) ?hn (fun cdv A outer s H E hr => (dss_cons (ds_setLc (i := 3) (own := [("_law_pair", 10)]) rfl sc_law_drawn.nd rfl rfl (sw_true rfl rfl rfl (by decide +kernel)) (di_list (dv 1)) (blkOk_by (own := [("_law_pair", 10)]) (N := N_law_drawn) (sc := defScope s_law_drawn) (by decide +kernel)) (fun _ _ _ _ _ => (dg_name (i := 10) sc_law_drawn.nd rfl (Or.inl rfl))) (fun _ _ _ _ _ => (dts_one (dt_bool (dw_or (dt_cmp op_lt opd_lt (de_ix (dv 10) de_int) (dv 2) (nomark _)) (dw_or1 (dt_cmp (op_eqD hr.units) opd_eq (de_ix (dv 10) de_int) de_int (nomark _))))))) (fun _ _ _ _ _ => (dv 10)))
    (dss_cons (ds_asg (vs := [4, 5]) (de_call g_law_of (hr.mono (by omega)) rfl tx.mg_law_of tx.kp_law_of tk3 (da_cons (dv 0) (da_cons (dv 3) da_nil))) (dg_tup (n := 2) rfl (dgs_cons (dg_name (i := 4) sc_law_drawn.nd rfl (Or.inl rfl)) (dgs_cons (dg_name (i := 5) sc_law_drawn.nd rfl (Or.inl rfl)) dgs_nil))))
    (dss_cons (ds_parOwn0 (i := 6) (j := 7) rfl sc_law_drawn.nd rfl rfl (by decide) rfl rfl (de_sub (dv 2) de_int))
    (dss_cons (ds_for (vs := [8]) ps3 rfl (di_range1 rfl tx.no_range (da_cons (dv 5) da_nil)) (dg_name (i := 8) sc_law_drawn.nd rfl (Or.inl rfl))
     (dss_cons (ds_set (i := 9) sc_law_drawn.nd rfl (Or.inl rfl) (de_call g_law_drawn (hr.mono (by omega)) rfl tx.mg_law_drawn tx.kp_law_drawn tk3 (da_cons (dv 0) (da_cons (dv 1) (da_cons (de_add de_int (de_call g_law_pick (hr.mono (by omega)) rfl tx.mg_law_pick tx.kp_law_pick tk3 (da_cons (dv 0) (da_cons (de_sub (dv 7) (de_sub (de_sub (dv 5) (dv 8)) de_int)) da_nil)))) da_nil)))))
    (dss_cons (ds_set (i := 7) sc_law_drawn.nd rfl (Or.inl rfl) (de_sub (dv 7) (de_call g_law_size (hr.mono (by omega)) rfl tx.mg_law_size tx.kp_law_size tk3 (da_cons (dv 9) da_nil))))
    (dss_one (ds_append 6 (dv 9))))))
    (dss_frz 6 (dss_one (ds_ret (de_tup (da_cons (dv 4) (da_cons (de_callTy call_tuple_of cd_tuple rfl tx.no_tuple (by decide +kernel) (da_cons (dv 6) da_nil)) da_nil))))))))))) ?hT
    case hn =>
      rintro wd ds φ ε ⟨h, c, cells, room, sg, rfl, rfl, _⟩
      rfl
    case hT =>
      rintro wd ds φ ε ⟨h, c, cells, room, sg, rfl, rfl, hsg, h1, h2, h30, q⟩
      show TSeq _ _ _ _ [.v (.ref h), .v (.lst (sg.map sgD)), .v (.int room), .no, .no, .no, .no, .no, .no, .no, .no]
      have hL : sizeLine = 16777216 := sizeLine_eq
      simp [TVar, TC, TOp, TTst, fI, TAnd, TOr, TNot, TAndV, TOrV, TNotV, TIf, TChain, TChainB, TNoPart, TPart, TSl, TFld, TFldO, TCon, TNil, TCons, TTup, TLst, TCB, TM1, TFmt, TJs, TJoined, TNext, TSeq, TBreak, TCont, TNever, TRet, TRetN, TDrop, TIfS, L3.TSet, TAug, TPar, GName, GNil, GCons, GTup, TAsg, TIl, TIt, TIs, TIr1, TIr2, TIz, TFor, TOwn, TOwnL, TApp, TExt, TBor, TBorB, TFrz, TPutF, TYes, TLc, TLc2, TCall, TStar, TMake, TOpC, TParO1, TParO0, TPutJ, TBorN, TFldX, TIenT, TOwnLc, TMaxd, TCallK, lenF, isiAF, isiF, isiTF, PySem.W.kitAny, inF, sumF, allF, anyF, tupleF, int1F, max2F, joinF, ixF, addF, mulF, tyOf, TyK, clsOf, clsOfs, wipeD, hideS, flatD, putD, and_assoc, neNilF, slF, isF, isntF, isND]
      refine compD_fil (enc := sgD) (f := fun p => if (p.2 : Int) < room ∨ (p.2 : Int) = 0 then some (sgD p) else none) sg [] (fun p hp acc ψ hl q => ?_) (by have := hsg.len; show 0 + _ ≤ _; omega) ?_
      · unfold sgD at q ⊢
        simp [TVar, TC, TOp, TTst, fI, TAnd, TOr, TNot, TAndV, TOrV, TNotV, TIf, TChain, TChainB, TNoPart, TPart, TSl, TFld, TFldO, TCon, TNil, TCons, TTup, TLst, TCB, TM1, TFmt, TJs, TJoined, TNext, TSeq, TBreak, TCont, TNever, TRet, TRetN, TDrop, TIfS, L3.TSet, TAug, TPar, GName, GNil, GCons, GTup, TAsg, TIl, TIt, TIs, TIr1, TIr2, TIz, TFor, TOwn, TOwnL, TApp, TExt, TBor, TBorB, TFrz, TPutF, TYes, TLc, TLc2, TCall, TStar, TMake, TOpC, TParO1, TParO0, TPutJ, TBorN, TFldX, TIenT, TOwnLc, TMaxd, TCallK, lenF, isiAF, isiF, isiTF, PySem.W.kitAny, inF, sumF, allF, anyF, tupleF, int1F, max2F, joinF, ixF, addF, mulF, tyOf, TyK, clsOf, clsOfs, wipeD, hideS, flatD, putD, and_assoc, neNilF, slF, isF, isntF, isND]
        by_cases ha : (p.2 : Int) < room
        · have q' : ψ (acc ++ [D.tup [D.str (mks p.1), D.int (p.2 : Nat)]]) := by simpa [ha] using q
          exact .inr ⟨ha, hl, q'⟩
        · by_cases hb : p.2 = 0
          · have q' : ψ (acc ++ [D.tup [D.str (mks p.1), D.int (p.2 : Nat)]]) := by simpa [hb] using q
            exact .inl ⟨by omega, .inr ⟨hb, hl, q'⟩⟩
          · have q' : ψ acc := by simpa [ha, hb] using q
            exact .inl ⟨by omega, .inl ⟨hb, q'⟩⟩
      rw [List.nil_append]
      refine ⟨h, c, cells, _, rfl, rfl, ?_, ?_, fun d hd => ?_⟩
      · intro e
        obtain ⟨p0, hp0, hz0⟩ := hsg.leaf
        have : sgD p0 ∈ sg.filterMap (fun p => if (p.2 : Int) < room ∨ (p.2 : Int) = 0 then some (sgD p) else none) := List.mem_filterMap.mpr ⟨p0, hp0, by rw [if_pos (.inr (by rw [hz0]; rfl))]⟩
        rw [e] at this
        cases this
      · have := List.length_filterMap_le (fun p : List Nat × Nat => if (p.2 : Int) < room ∨ (p.2 : Int) = 0 then some (sgD p) else none) sg
        have h7 := hsg.len
        omega
      obtain ⟨⟨s, N⟩, hp, e⟩ := List.mem_filterMap.mp hd
      have hc : (N : Int) < room ∨ (N : Int) = 0 := by
        by_cases hc : (N : Int) < room ∨ (N : Int) = 0
        · exact hc
        · rw [if_neg hc] at e
          cases e
      rw [if_pos hc] at e
      have ed : d = .tup [.str (mks s), .int (N : Nat)] := (Option.some.inj e).symm
      subst ed
      have hN := hsg.all _ hp
      have hN3 : N ≤ 3 := hN.2
      refine ⟨_, rfl, rfl, _, _, rfl, _, _, rfl, rfl, fun p => ⟨_, rfl, by omega, by omega, ?_⟩⟩
      rw [Int.toNat_natCast]
      refine forD_of (enc := fun i : Nat => D.int (i : Nat)) (fun xs env => ∃ (j : Nat) (ts : List Tr) (left : Int) (s3 s8 s9 : Sl), xs = List.range' j (N - j) ∧ j ≤ N ∧ ts.length = j ∧ oks ts ∧ left = room - 1 - (sizs ts : Nat) ∧ (N : Int) - j ≤ left ∧
        env = [.v (.ref h), .v (.lst (sg.map sgD)), .v (.int room), s3, .v (.str (mks s)), .v (.int (N : Nat)), .ol p (ts.map mD), .v (.int left), s8, s9, .no]) _ _
        ⟨0, [], room - 1, _, .no, .no, by rw [List.range_eq_range']; rfl, Nat.zero_le _, rfl, trivial, by show room - 1 = room - 1 - 0; omega, by omega, rfl⟩ ?_ ?_
      · rintro x rest env D2 - hnx - - ⟨j, ts, left, s3, s8, s9, hx, hj, htl, hts, hleft, hge, rfl⟩
        have hjN : j < N := by
          rcases Nat.lt_or_ge j N with z | z
          · exact z
          · have : N - j = 0 := by omega
            rw [this] at hx
            cases hx
        have hr : List.range' j (N - j) = j :: List.range' (j + 1) (N - (j + 1)) := by
          have : N - j = (N - (j + 1)) + 1 := by omega
          rw [this, List.range'_succ]
        rw [hr] at hx
        injection hx with hx1 hx2
        subst hx1 hx2
        simp [TVar, TC, TOp, TTst, fI, TAnd, TOr, TNot, TAndV, TOrV, TNotV, TIf, TChain, TChainB, TNoPart, TPart, TSl, TFld, TFldO, TCon, TNil, TCons, TTup, TLst, TCB, TM1, TFmt, TJs, TJoined, TNext, TSeq, TBreak, TCont, TNever, TRet, TRetN, TDrop, TIfS, L3.TSet, TAug, TPar, GName, GNil, GCons, GTup, TAsg, TIl, TIt, TIs, TIr1, TIr2, TIz, TFor, TOwn, TOwnL, TApp, TExt, TBor, TBorB, TFrz, TPutF, TYes, TLc, TLc2, TCall, TStar, TMake, TOpC, TParO1, TParO0, TPutJ, TBorN, TFldX, TIenT, TOwnLc, TMaxd, TCallK, lenF, isiAF, isiF, isiTF, PySem.W.kitAny, inF, sumF, allF, anyF, tupleF, int1F, max2F, joinF, ixF, addF, mulF, tyOf, TyK, clsOf, clsOfs, wipeD, hideS, flatD, putD, and_assoc, neNilF, slF, isF, isntF, isND]
        refine ⟨h, c, cells, _, rfl, rfl, by omega, by omega, fun r hr1 hr2 => ?_⟩
        simp [TVar, TC, TOp, TTst, fI, TAnd, TOr, TNot, TAndV, TOrV, TNotV, TIf, TChain, TChainB, TNoPart, TPart, TSl, TFld, TFldO, TCon, TNil, TCons, TTup, TLst, TCB, TM1, TFmt, TJs, TJoined, TNext, TSeq, TBreak, TCont, TNever, TRet, TRetN, TDrop, TIfS, L3.TSet, TAug, TPar, GName, GNil, GCons, GTup, TAsg, TIl, TIt, TIs, TIr1, TIr2, TIz, TFor, TOwn, TOwnL, TApp, TExt, TBor, TBorB, TFrz, TPutF, TYes, TLc, TLc2, TCall, TStar, TMake, TOpC, TParO1, TParO0, TPutJ, TBorN, TFldX, TIenT, TOwnLc, TMaxd, TCallK, lenF, isiAF, isiF, isiTF, PySem.W.kitAny, inF, sumF, allF, anyF, tupleF, int1F, max2F, joinF, ixF, addF, mulF, tyOf, TyK, clsOf, clsOfs, wipeD, hideS, flatD, putD, and_assoc, neNilF, slF, isF, isntF, isND]
        have hn : ∃ n', n = n' + 1 := ⟨n - 1, by omega⟩
        obtain ⟨n', rfl⟩ := hn
        refine ⟨h, c, cells, 1 + r, sg, rfl, rfl, hsg, by omega, by omega, by omega, fun t ht hs => ?_⟩
        simp [TVar, TC, TOp, TTst, fI, TAnd, TOr, TNot, TAndV, TOrV, TNotV, TIf, TChain, TChainB, TNoPart, TPart, TSl, TFld, TFldO, TCon, TNil, TCons, TTup, TLst, TCB, TM1, TFmt, TJs, TJoined, TNext, TSeq, TBreak, TCont, TNever, TRet, TRetN, TDrop, TIfS, L3.TSet, TAug, TPar, GName, GNil, GCons, GTup, TAsg, TIl, TIt, TIs, TIr1, TIr2, TIz, TFor, TOwn, TOwnL, TApp, TExt, TBor, TBorB, TFrz, TPutF, TYes, TLc, TLc2, TCall, TStar, TMake, TOpC, TParO1, TParO0, TPutJ, TBorN, TFldX, TIenT, TOwnLc, TMaxd, TCallK, lenF, isiAF, isiF, isiTF, PySem.W.kitAny, inF, sumF, allF, anyF, tupleF, int1F, max2F, joinF, ixF, addF, mulF, tyOf, TyK, clsOf, clsOfs, wipeD, hideS, flatD, putD, and_assoc, neNilF, slF, isF, isntF, isND]
        refine ⟨t, rfl, ht, by have := dep_siz t; omega, ?_⟩
        have hsz := siz_pos t
        simp [TVar, TC, TOp, TTst, fI, TAnd, TOr, TNot, TAndV, TOrV, TNotV, TIf, TChain, TChainB, TNoPart, TPart, TSl, TFld, TFldO, TCon, TNil, TCons, TTup, TLst, TCB, TM1, TFmt, TJs, TJoined, TNext, TSeq, TBreak, TCont, TNever, TRet, TRetN, TDrop, TIfS, L3.TSet, TAug, TPar, GName, GNil, GCons, GTup, TAsg, TIl, TIt, TIs, TIr1, TIr2, TIz, TFor, TOwn, TOwnL, TApp, TExt, TBor, TBorB, TFrz, TPutF, TYes, TLc, TLc2, TCall, TStar, TMake, TOpC, TParO1, TParO0, TPutJ, TBorN, TFldX, TIenT, TOwnLc, TMaxd, TCallK, lenF, isiAF, isiF, isiTF, PySem.W.kitAny, inF, sumF, allF, anyF, tupleF, int1F, max2F, joinF, ixF, addF, mulF, tyOf, TyK, clsOf, clsOfs, wipeD, hideS, flatD, putD, and_assoc, neNilF, slF, isF, isntF, isND]
        refine ⟨by omega, hnx _ ⟨x + 1, ts ++ [t], left - (t.siz : Nat), _, _, _, rfl, by omega, by rw [List.length_append, htl]; rfl, oks_app hts ⟨ht, trivial⟩, by rw [sizs_snoc]; omega, by omega, by rw [List.map_append]; rfl⟩⟩
      · rintro env ⟨j, ts, left, s3, s8, s9, hx, hj, htl, hts, hleft, hge, rfl⟩
        have hjN : j = N := by
          have := congrArg List.length hx
          simp at this
          omega
        subst hjN
        simp [TVar, TC, TOp, TTst, fI, TAnd, TOr, TNot, TAndV, TOrV, TNotV, TIf, TChain, TChainB, TNoPart, TPart, TSl, TFld, TFldO, TCon, TNil, TCons, TTup, TLst, TCB, TM1, TFmt, TJs, TJoined, TNext, TSeq, TBreak, TCont, TNever, TRet, TRetN, TDrop, TIfS, L3.TSet, TAug, TPar, GName, GNil, GCons, GTup, TAsg, TIl, TIt, TIs, TIr1, TIr2, TIz, TFor, TOwn, TOwnL, TApp, TExt, TBor, TBorB, TFrz, TPutF, TYes, TLc, TLc2, TCall, TStar, TMake, TOpC, TParO1, TParO0, TPutJ, TBorN, TFldX, TIenT, TOwnLc, TMaxd, TCallK, lenF, isiAF, isiF, isiTF, PySem.W.kitAny, inF, sumF, allF, anyF, tupleF, int1F, max2F, joinF, ixF, addF, mulF, tyOf, TyK, clsOf, clsOfs, wipeD, hideS, flatD, putD, and_assoc, neNilF, slF, isF, isntF, isND]
        have := q (.nd s ts) ⟨hN.1, by omega, hts⟩ (by show ((1 + sizs ts : Nat) : Int) ≤ room; omega)
        rw [mD_nd] at this
        exact this
end K1
namespace K1
open PySem PySem.Spec PyProof.Rows L2 L3

/-- an own error, its word, its fields as the law tells them -/
def isErr (CI CS : Addr) (ex : Er) (wd : Str) (fl : List D) : Prop := (∃ z : D, plainD z = true ∧ ex = erIS CI z ∧ wd = "InvalidSign" ∧ fl = [z]) ∨ (ex = erIB CS ∧ wd = "InvalidBranches" ∧ fl = [])
def F_field (CI CS : Addr) : TF := fun _ ds φ _ => ∃ ex wd fl, isErr CI CS ex wd fl ∧ ds = [.exc ex.C ex.fs] ∧ φ (.tup fl)
theorem ok_field {P : Program} {w : World} {K : PySem.W.Frag} {mg : Str → Option Value} {base : Heap} (tx : Tx K mg) : FnC P w K mg base 1 (He.ga K "_law_field") (F_field (He.ga K "InvalidSign") (He.ga K "InvalidBranches")) := by
  obtain ⟨fd, FD⟩ := tx.fd_law_field
  refine fnC3 FD sc_law_field (FD.bindsN fun _ _ _ _ _ _ us hl => match us, hl with | [_], _ => rfl) ?hn (fun cdv A outer s H E hr => (dss_cons (ds_if (dt_cmp op_inA opd_in (de_fldXK (K := K) (dv 0)) (de_tup (da_cons de_str (da_cons de_str (da_cons de_str (da_cons de_str (da_cons de_str (da_cons de_str da_nil))))))) rfl)
     (dss_one (ds_ret (de_tup (da_cons (de_fldXK (K := K) (dv 0)) da_nil))))
     dss_nil)
    (dss_cons (ds_if (dt_cmp op_inA opd_in (de_fldXK (K := K) (dv 0)) (de_tup (da_cons de_str (da_cons de_str da_nil))) rfl)
     (dss_one (ds_ret (de_tup (da_cons (de_fldXK (K := K) (dv 0)) da_nil))))
     dss_nil)
    (dss_cons (ds_if (dt_cmp (op_eqD hr.units) opd_eq (de_fldXK (K := K) (dv 0)) de_str (nomark _))
     (dss_one (ds_ret (de_tup (da_cons (de_fldXK (K := K) (dv 0)) (da_cons (de_fldXK (K := K) (dv 0)) da_nil)))))
     dss_nil)
    (dss_cons (ds_if (dt_cmp op_inA opd_in (de_fldXK (K := K) (dv 0)) (de_tup (da_cons de_str (da_cons de_str (da_cons de_str (da_cons de_str (da_cons de_str da_nil)))))) rfl)
     (dss_one (ds_ret (de_tup (da_cons (de_fldXK (K := K) (dv 0)) da_nil))))
     dss_nil)
    (dss_cons (ds_if (dt_cmp op_inA opd_in (de_fldXK (K := K) (dv 0)) (de_tup (da_cons de_str (da_cons de_str (da_cons de_str da_nil)))) rfl)
     (dss_one (ds_ret (de_ifExp (dt_cmp (op_eqD hr.units) opd_eq (de_fldXK (K := K) (dv 0)) de_str (nomark _)) (de_tup (da_cons (de_fldXK (K := K) (dv 0)) da_nil)) (de_ifExp (dt_cmp (op_eqD hr.units) opd_eq (de_fldXK (K := K) (dv 0)) de_str (nomark _)) (de_tup (da_cons (de_fldXK (K := K) (dv 0)) da_nil)) (de_tup (da_cons (de_fldXK (K := K) (dv 0)) da_nil))))))
     dss_nil)
    (dss_cons (ds_if (dt_cmp (op_eqD hr.units) opd_eq (de_fldXK (K := K) (dv 0)) de_str (nomark _))
     (dss_one (ds_ret (de_tup (da_cons (de_fldK (K := K) (de_fldXK (K := K) (dv 0))) da_nil))))
     dss_nil)
    (dss_one (ds_ret (de_ifExp (dt_cmp (op_eqD hr.units) opd_eq (de_fldXK (K := K) (dv 0)) de_str (nomark _)) (de_tup (da_cons (de_fldXK (K := K) (dv 0)) (da_cons (de_fldXK (K := K) (dv 0)) da_nil))) (de_tup da_nil))))))))))) ?hT
  case hn =>
    rintro wd ds φ ε ⟨ex, w, fl, _, rfl, _⟩
    rfl
  case hT =>
    rintro wd ds φ ε ⟨ex, w, fl, he, rfl, q⟩
    rcases he with ⟨z, hz, rfl, rfl, rfl⟩ | ⟨rfl, rfl, rfl⟩
    · show TSeq _ _ _ _ [.v (.exc (He.ga K "InvalidSign") [("given", z), ("word", .str "InvalidSign")])]
      have l1 : ([("given", z), ("word", .str "InvalidSign")] : List (Str × D)).lookup ("word" : Str) = some (.str "InvalidSign") := rfl
      have l2 : ([("given", z), ("word", .str "InvalidSign")] : List (Str × D)).lookup ("given" : Str) = some z := rfl
      have n1 : NoA K (He.ga K "InvalidSign") "word" := tx.nox_InvalidSign_word
      have n2 : NoA K (He.ga K "InvalidSign") "given" := tx.nox_InvalidSign_given
      have hin : inV (.str "InvalidSign") [.str "InvalidSign", .str "InvalidPath", .str "InvalidText", .str "InvalidIndex", .str "InvalidSize", .str "InvalidLimit"] = true := by decide +kernel
      simp [TVar, TC, TOp, TTst, fI, TAnd, TOr, TNot, TAndV, TOrV, TNotV, TIf, TChain, TChainB, TNoPart, TPart, TSl, TFld, TFldO, TCon, TNil, TCons, TTup, TLst, TCB, TM1, TFmt, TJs, TJoined, TNext, TSeq, TBreak, TCont, TNever, TRet, TRetN, TDrop, TIfS, L3.TSet, TAug, TPar, GName, GNil, GCons, GTup, TAsg, TIl, TIt, TIs, TIr1, TIr2, TIz, TFor, TOwn, TOwnL, TApp, TExt, TBor, TBorB, TFrz, TPutF, TYes, TLc, TLc2, TCall, TStar, TMake, TOpC, TParO1, TParO0, TPutJ, TBorN, TFldX, TIenT, TOwnLc, TMaxd, TCallK, lenF, isiAF, isiF, isiTF, PySem.W.kitAny, inF, sumF, allF, anyF, tupleF, int1F, max2F, joinF, ixF, addF, mulF, tyOf, TyK, clsOf, clsOfs, wipeD, hideS, flatD, putD, and_assoc, neNilF, slF, isF, isntF, isND, l1, l2, n1, n2, tx.xf_InvalidSign, hin, flV, q]
    · show TSeq _ _ _ _ [.v (.exc (He.ga K "InvalidBranches") [("word", .str "InvalidBranches")])]
      have l1 : ([("word", D.str "InvalidBranches")] : List (Str × D)).lookup ("word" : Str) = some (.str "InvalidBranches") := rfl
      have n1 : NoA K (He.ga K "InvalidBranches") "word" := tx.nox_InvalidBranches_word
      have hin : inV (.str "InvalidBranches") [.str "InvalidSign", .str "InvalidPath", .str "InvalidText", .str "InvalidIndex", .str "InvalidSize", .str "InvalidLimit"] = false := by decide +kernel
      have hin2 : inV (.str "InvalidBranches") [.str "TooLarge", .str "TooLong"] = false := by decide +kernel
      have hin3 : inV (.str "InvalidBranches") [.str "InvalidName", .str "DuplicateName", .str "WrongKind", .str "UnknownName", .str "Restless"] = false := by decide +kernel
      have hin4 : inV (.str "InvalidBranches") [.str "InvalidStep", .str "InvalidPage", .str "CapacityExceeded"] = false := by decide +kernel
      have s0 : SeqAt.shaped (.str (Str.ofString "InvalidBranches")) = true := by decide +kernel
      have s1 : SeqAt.shaped (.str (Str.ofString "TooMany")) = true := by decide +kernel
      have s2 : SeqAt.shaped (.str (Str.ofString "NotThere")) = true := by decide +kernel
      have s3 : SeqAt.shaped (.str (Str.ofString "Aborted")) = true := by decide +kernel
      have d1 : ¬ Str.ofString "InvalidBranches" = Str.ofString "TooMany" := by decide +kernel
      have d2 : ¬ Str.ofString "InvalidBranches" = Str.ofString "NotThere" := by decide +kernel
      have d3 : ¬ Str.ofString "InvalidBranches" = Str.ofString "Aborted" := by decide +kernel
      simp [TVar, TC, TOp, TTst, fI, TAnd, TOr, TNot, TAndV, TOrV, TNotV, TIf, TChain, TChainB, TNoPart, TPart, TSl, TFld, TFldO, TCon, TNil, TCons, TTup, TLst, TCB, TM1, TFmt, TJs, TJoined, TNext, TSeq, TBreak, TCont, TNever, TRet, TRetN, TDrop, TIfS, L3.TSet, TAug, TPar, GName, GNil, GCons, GTup, TAsg, TIl, TIt, TIs, TIr1, TIr2, TIz, TFor, TOwn, TOwnL, TApp, TExt, TBor, TBorB, TFrz, TPutF, TYes, TLc, TLc2, TCall, TStar, TMake, TOpC, TParO1, TParO0, TPutJ, TBorN, TFldX, TIenT, TOwnLc, TMaxd, TCallK, lenF, isiAF, isiF, isiTF, PySem.W.kitAny, inF, sumF, allF, anyF, tupleF, int1F, max2F, joinF, ixF, addF, mulF, tyOf, TyK, clsOf, clsOfs, wipeD, hideS, flatD, putD, and_assoc, neNilF, slF, isF, isntF, isND, l1, n1, tx.xf_InvalidBranches, hin, hin2, hin3, hin4, s0, s1, s2, s3, d1, d2, d3, flV, q]

theorem _root_.L3.LamF.weak {P : Program} {w : World} {K : PySem.W.Frag} {mg : Str → Option Value} {base : Heap} {k : Nat} {L : LamC} {F : TF} (h : LamF P w K mg base k L F) : LamF P w K mg base k L (fun wd ds φ ε => ∃ ε0, F wd ds φ ε0 ∧ ∀ ex, ε0 ex → ε ex) :=
  fun A outer s H R f cl us ds wd φ ε Q E hr e0 b la ca rr ⟨ε0, hF, hw⟩ hQ hE => h A outer s H R f cl us ds wd φ ε0 Q E hr e0 b la ca rr hF hQ fun cls od R' H' ex f' x z => hE cls od R' H' ex f' x (hw ex z)
def F_why (P : Program) (w : World) (K : PySem.W.Frag) (mg : Str → Option Value) (base : Heap) (k : Nat) (CI CS : Addr) : TF := fun wd ds φ _ => ∃ (L : LamC) (vals : List D) (FL : TF), ds = [.clo L vals] ∧ LamF P w K mg base k L FL ∧
  FL wd vals (fun d => φ (.tup [.str "", d])) fun ex => ∃ wrd fl, isErr CI CS ex wrd fl ∧ φ (.tup [.str wrd, .tup fl])
theorem ok_why {P : Program} {w : World} {K : PySem.W.Frag} {mg : Str → Option Value} {base : Heap} (tx : Tx K mg) (k : Nat) : Fn3 P w K mg base (k + 2) (He.ga K "_law_why") (F_why P w K mg base k (He.ga K "InvalidSign") (He.ga K "InvalidBranches")) := by
  obtain ⟨fd, FD⟩ := tx.fd_law_why
  have g_field := ok_field (P := P) (w := w) (base := base) tx
  refine fn3 (k := k + 1) FD sc_law_why (FD.bindsN fun _ _ _ _ _ _ us hl => match us, hl with | [_], _ => rfl) ?hn (fun cdv A outer s H E hr =>
    (dss_cons (ds_set (i := 1) sc_law_why.nd rfl (Or.inl rfl) (de_tup (da_cons de_str (da_cons de_non da_nil))))
    (dss_cons (ds_try_whyK (K := K) (i := 2) (j := 1) (k := 1) (F := F_field (He.ga K "InvalidSign") (He.ga K "InvalidBranches")) rfl rfl sc_law_why.nd rfl rfl rfl rfl (by decide) tk3 (.two ⟨rfl, by decide +kernel, .inl tx.mg_TradeError⟩ ⟨rfl, by decide +kernel, .inl tx.mg_Missing⟩) (.one ⟨rfl, by decide +kernel, .inl tx.mg_NothingLeft⟩) g_field (hr.mono (by omega)) rfl tx.mg_law_field tx.kp_law_field
      (fun W pn xe tk po => dss_one (ds_set (i := 1) sc_law_why.nd rfl (Or.inl rfl) (de_tup (da_cons de_str (da_cons (de_cloK (P := P) (w := w) (K := K) (mg := mg) (base := base) (k := k) 0 (hr.mono (by omega)) tk) da_nil))))))
    (dss_one (ds_ret (dv 1)))))) ?hT
  case hn =>
    rintro wd ds φ ε ⟨L, vals, FL, rfl, _⟩
    rfl
  case hT =>
    rintro wd ds φ ε ⟨L, vals, FL, rfl, hL, hF⟩
    show TSeq _ _ _ _ [.v (.clo L vals), .no, .no]
    simp [TVar, TC, TOp, TTst, fI, TAnd, TOr, TNot, TAndV, TOrV, TNotV, TIf, TChain, TChainB, TNoPart, TPart, TSl, TFld, TFldO, TCon, TNil, TCons, TTup, TLst, TCB, TM1, TFmt, TJs, TJoined, TNext, TSeq, TBreak, TCont, TNever, TRet, TRetN, TDrop, TIfS, L3.TSet, TAug, TPar, GName, GNil, GCons, GTup, TAsg, TIl, TIt, TIs, TIr1, TIr2, TIz, TFor, TOwn, TOwnL, TApp, TExt, TBor, TBorB, TFrz, TPutF, TYes, TLc, TLc2, TCall, TStar, TMake, TOpC, TParO1, TParO0, TPutJ, TBorN, TFldX, TIenT, TOwnLc, TMaxd, TCallK, lenF, isiAF, isiF, isiTF, PySem.W.kitAny, inF, sumF, allF, anyF, tupleF, int1F, max2F, joinF, ixF, addF, mulF, tyOf, TyK, clsOf, clsOfs, wipeD, hideS, flatD, putD, and_assoc, neNilF, slF, isF, isntF, isND, TWhy, TClo]
    refine ⟨_, hL.weak, _, hF, fun ex ⟨wrd, fl, he, q⟩ => ?_⟩
    have pq : plainD (.tup fl) = true := by
      rcases he with ⟨z, hz, rfl, rfl, rfl⟩ | ⟨rfl, rfl, rfl⟩
      · show (plainD z && true) = true
        rw [hz]; rfl
      · rfl
    refine ⟨by show 2 < 3; omega, true, ?_, fun _ => ?_, fun z => by cases z⟩
    · rcases he with ⟨z, hz, rfl, rfl, rfl⟩ | ⟨rfl, rfl, rfl⟩
      · exact tx.em_InvalidSign
      · exact tx.em_InvalidBranches
    · have key : XfC K ex.C ∧ NoA K ex.C "word" ∧ ex.fs.lookup ("word" : Str) = some (.str wrd) := by
        rcases he with ⟨z, hz, rfl, rfl, rfl⟩ | ⟨rfl, rfl, rfl⟩
        · exact ⟨tx.xf_InvalidSign, tx.nox_InvalidSign_word, rfl⟩
        · exact ⟨tx.xf_InvalidBranches, tx.nox_InvalidBranches_word, rfl⟩
      exact ⟨key.1, key.2.1, .str wrd, key.2.2, ex, wrd, fl, he, rfl, pq, _, rfl, q⟩
def F_words (P : Program) (w : World) (K : PySem.W.Frag) (mg : Str → Option Value) (base : Heap) (k : Nat) (CI CS : Addr) : TF := fun wd ds φ _ => ∃ (cs : List (LamC × List D × D)), ds = [.lst (cs.map fun p => .clo p.1 p.2.1)] ∧ cs.length ≤ 100 ∧
  (∀ p ∈ cs, ∀ ψ : D → Prop, ψ p.2.2 → F_why P w K mg base k CI CS wd [.clo p.1 p.2.1] ψ fun _ => False) ∧ φ (.lst (cs.map fun p => p.2.2))
theorem ok_words {P : Program} {w : World} {K : PySem.W.Frag} {mg : Str → Option Value} {base : Heap} (tx : Tx K mg) (k : Nat) : Fn3 P w K mg base (k + 3) (He.ga K "_law_words") (F_words P w K mg base k (He.ga K "InvalidSign") (He.ga K "InvalidBranches")) := by
  obtain ⟨fd, FD⟩ := tx.fd_law_words
  have g_law_why := ok_why (P := P) (w := w) (base := base) tx k
  refine fn3 (k := k + 2) FD sc_law_words (FD.bindsN fun _ _ _ _ _ _ us hl => match us, hl with | [_], _ => rfl) ?hn (fun cdv A outer s H E hr => (dss_one (ds_ret (de_lc (own := [("_law_ask", 1)]) rfl sc_law_words.nd (di_list (dv 0)) (blkOk_by (own := [("_law_ask", 1)]) (N := N_law_words) (sc := defScope s_law_words) (by decide +kernel)) (fun _ _ _ _ _ => (dg_name (i := 1) sc_law_words.nd rfl (Or.inl rfl))) (fun _ _ _ _ _ => dts_nil) (fun _ _ _ _ _ => (de_call g_law_why (hr.mono (by omega)) rfl tx.mg_law_why tx.kp_law_why takesN (da_cons (dv 1) da_nil))))))) ?hT
  case hn =>
    rintro wd ds φ ε ⟨cs, rfl, _⟩
    rfl
  case hT =>
    rintro wd ds φ ε ⟨cs, rfl, hl, hw, q⟩
    show TRet _ _ _ [.v (.lst (cs.map fun p => .clo p.1 p.2.1)), .no]
    have hL : sizeLine = 16777216 := sizeLine_eq
    simp [TVar, TC, TOp, TTst, fI, TAnd, TOr, TNot, TAndV, TOrV, TNotV, TIf, TChain, TChainB, TNoPart, TPart, TSl, TFld, TFldO, TCon, TNil, TCons, TTup, TLst, TCB, TM1, TFmt, TJs, TJoined, TNext, TSeq, TBreak, TCont, TNever, TRet, TRetN, TDrop, TIfS, L3.TSet, TAug, TPar, GName, GNil, GCons, GTup, TAsg, TIl, TIt, TIs, TIr1, TIr2, TIz, TFor, TOwn, TOwnL, TApp, TExt, TBor, TBorB, TFrz, TPutF, TYes, TLc, TLc2, TCall, TStar, TMake, TOpC, TParO1, TParO0, TPutJ, TBorN, TFldX, TIenT, TOwnLc, TMaxd, TCallK, lenF, isiAF, isiF, isiTF, PySem.W.kitAny, inF, sumF, allF, anyF, tupleF, int1F, max2F, joinF, ixF, addF, mulF, tyOf, TyK, clsOf, clsOfs, wipeD, hideS, flatD, putD, and_assoc, neNilF, slF, isF, isntF, isND]
    refine compD_map (enc := fun p : LamC × List D × D => D.clo p.1 p.2.1) (f := fun p => p.2.2) cs [] (fun p hp acc ψ hl q => ?_) (by show 0 + _ ≤ _; omega) q
    simp [TVar, TC, TOp, TTst, fI, TAnd, TOr, TNot, TAndV, TOrV, TNotV, TIf, TChain, TChainB, TNoPart, TPart, TSl, TFld, TFldO, TCon, TNil, TCons, TTup, TLst, TCB, TM1, TFmt, TJs, TJoined, TNext, TSeq, TBreak, TCont, TNever, TRet, TRetN, TDrop, TIfS, L3.TSet, TAug, TPar, GName, GNil, GCons, GTup, TAsg, TIl, TIt, TIs, TIr1, TIr2, TIz, TFor, TOwn, TOwnL, TApp, TExt, TBor, TBorB, TFrz, TPutF, TYes, TLc, TLc2, TCall, TStar, TMake, TOpC, TParO1, TParO0, TPutJ, TBorN, TFldX, TIenT, TOwnLc, TMaxd, TCallK, lenF, isiAF, isiF, isiTF, PySem.W.kitAny, inF, sumF, allF, anyF, tupleF, int1F, max2F, joinF, ixF, addF, mulF, tyOf, TyK, clsOf, clsOfs, wipeD, hideS, flatD, putD, and_assoc, neNilF, slF, isF, isntF, isND]
    exact hw p hp _ ⟨hl, q⟩
end K1
namespace K1
open PySem PySem.Spec PyProof.Rows L2 L3

theorem seq_I {A B : TSD} {c : Ct} {D : EndD} {env : Ev} (I : Ev → Prop) (hA : ∀ nx : Ev → Prop, (∀ e, I e → nx e) → A c { D with nx := nx } env) (hB : ∀ e, I e → B c D e) : TSeq A B c D env := hA _ hB
def kidsD : Tr → List D
  | .nd _ ks => ks.map fun t => .str (mks t.txt)
theorem ty_tr {C : Addr} {t : Tr} : tyOf (trD C t) = .ref C := by rw [trD_ins]; rfl
theorem tyNe {C : Addr} (t : Tr) : tyOf (trD C t) ≠ .none := by rw [ty_tr]; exact fun z => by cases z
theorem mD_tup (t : Tr) : ∃ ds, mD t = .tup ds := by
  cases t with
  | nd s ks => exact ⟨_, rfl⟩
def sgD2 : D → D
  | .str x => .bl (isSg (lc x))
  | _ => .bl false
/-- a value that is no sign, as the law draws it -/
def oddD (d : D) : Prop := notSg d ∧ plainD d = true ∧ pl 3 d
theorem odd_str {x : Str} (h1 : x.length ≤ sizeLine) (h2 : isSg (lc x) = false) (h3 : SeqAt.shaped (.str x) = true) : oddD (.str x) := ⟨.inr ⟨x, rfl, h1, h2⟩, rfl, h3⟩
def FL1 (C CI : Addr) : TF := fun _ ds _ ε => ∃ (t : Tr) (d e : D), ds = [trD C t, d, e] ∧ notSg d ∧ plainD d = true ∧ plainD e = true ∧ ε (erIS CI d)
def FL2 (CS : Addr) : TF := fun _ ds _ ε => ∃ e : D, ds = [e] ∧ othS e = true ∧ plainD e = true ∧ ε (erIB CS)
def FL3 (C CS : Addr) : TF := fun _ ds _ ε => ∃ (t u : Tr) (e : D), ds = [trD C t, trD C u, e] ∧ othS e = true ∧ plainD e = true ∧ ε (erIB CS)
def FL4 (C CS : Addr) : TF := fun _ ds _ ε => ∃ t u : Tr, ds = [trD C t, trD C u] ∧ ε (erIB CS)
theorem neF_self {d : D} {φ : D → Prop} (hp : isP d = true) (hs : SeqAt.shaped (toP d) = true) (q : φ (.bl false)) : neF d d φ := ⟨hp, hp, hs, hs, by rw [SeqAt.eqv_refl _ (SeqAt.canLay_of_shaped hs)]; exact q⟩
theorem strs_p : ∀ ls : List (List Nat), isPs (ls.map fun l => D.str (mks l)) = true
  | [] => rfl
  | _ :: r => strs_p r
theorem strs_can : ∀ {ls : List (List Nat)}, (∀ l ∈ ls, ∀ c ∈ l, c < 128) → PyData.canLayAll0 (toPs (ls.map fun l => D.str (mks l))) = true
  | [], _ => rfl
  | l :: r, h => by
    have a := SeqAt.canLay_of_shaped (shaped_mks (h l List.mem_cons_self))
    have b := strs_can fun x hx => h x (List.mem_cons_of_mem l hx)
    show PyData.canLayAll0 (.str (mks l) :: toPs (r.map fun l => D.str (mks l))) = true
    unfold PyData.canLayAll0
    rw [a, b]
    rfl
theorem strs_dep : ∀ ls : List (List Nat), PyData.depthAll (toPs (ls.map fun l => D.str (mks l))) = 0
  | [] => rfl
  | l :: r => by
    show max 0 (PyData.depthAll (toPs (r.map fun l => D.str (mks l)))) = 0
    rw [strs_dep r]; rfl
theorem strs_sh {ls : List (List Nat)} (h : ∀ l ∈ ls, ∀ c ∈ l, c < 128) : SeqAt.shaped (toP (.lst (ls.map fun l => D.str (mks l)))) = true := by
  have h1 : (toP (.lst (ls.map fun l => D.str (mks l)))).canLay0 = true := by
    show (PyData.list (toPs (ls.map fun l => D.str (mks l)))).canLay0 = true
    simpa only [PyData.canLay0] using strs_can h
  have h2 : (toP (.lst (ls.map fun l => D.str (mks l)))).depth ≤ 64 := by
    show PyData.depthAll (toPs (ls.map fun l => D.str (mks l))) + 1 ≤ 64
    rw [strs_dep]; decide
  unfold SeqAt.shaped
  rw [h1, decide_eq_true h2]
  rfl
mutual
theorem plc_top : ∀ t : Tr, ∃ x ∈ plc t, x.1.length + 1 = t.dep
  | .nd s [] => ⟨([], .nd s []), List.mem_cons_self, rfl⟩
  | .nd s (t :: r) => by
    obtain ⟨x, hx, e⟩ := plcs_top (t :: r) 0 (by simp)
    exact ⟨x, List.mem_cons_of_mem _ hx, by show x.1.length + 1 = 1 + deps (t :: r); omega⟩
theorem plcs_top : ∀ (ks : List Tr) (n : Nat), ks ≠ [] → ∃ x ∈ plcs n ks, x.1.length = deps ks
  | [], _, h => absurd rfl h
  | [t], n, _ => by
    obtain ⟨x, hx, e⟩ := plc_top t
    refine ⟨(n :: x.1, x.2), List.mem_append.mpr (.inl (List.mem_map.mpr ⟨x, hx, rfl⟩)), ?_⟩
    show x.1.length + 1 = max t.dep 0
    omega
  | t :: u :: r, n, _ => by
    by_cases h : deps (u :: r) ≤ t.dep
    · obtain ⟨x, hx, e⟩ := plc_top t
      refine ⟨(n :: x.1, x.2), List.mem_append.mpr (.inl (List.mem_map.mpr ⟨x, hx, rfl⟩)), ?_⟩
      show x.1.length + 1 = max t.dep (deps (u :: r))
      omega
    · obtain ⟨x, hx, e⟩ := plcs_top (u :: r) (n + 1) (by simp)
      refine ⟨x, List.mem_append.mpr (.inr hx), ?_⟩
      show x.1.length = max t.dep (deps (u :: r))
      omega
end
theorem fold_max_le : ∀ (l : List Int) (a b : Int), a ≤ b → (∀ x ∈ l, x ≤ b) → l.foldl max a ≤ b
  | [], a, b, h, _ => h
  | x :: r, a, b, h, hl => fold_max_le r (max a x) b (by have := hl x List.mem_cons_self; omega) fun y hy => hl y (List.mem_cons_of_mem _ hy)
theorem fold_max_ge : ∀ (l : List Int) (a : Int), a ≤ l.foldl max a ∧ ∀ x ∈ l, x ≤ l.foldl max a
  | [], a => ⟨Int.le_refl _, fun x h => by cases h⟩
  | y :: r, a => by
    obtain ⟨h1, h2⟩ := fold_max_ge r (max a y)
    refine ⟨by show a ≤ r.foldl max (max a y); omega, fun x hx => ?_⟩
    show x ≤ r.foldl max (max a y)
    rcases List.mem_cons.mp hx with e | e
    · subst e; omega
    · exact h2 x e
theorem plc_max (t : Tr) : ∃ (ns : List Int), (plc t).map (fun x => D.int (x.1.length : Nat)) = ((0 : Int) :: ns).map D.int ∧ ns.foldl max 0 = (t.dep : Nat) - 1 := by
  have hd := dep_pos t
  have hh : ∃ r, plc t = ([], t) :: r := by
    cases t with
    | nd s ks => exact ⟨plcs 0 ks, rfl⟩
  obtain ⟨r, hr⟩ := hh
  refine ⟨r.map fun x => ((x.1.length : Nat) : Int), ?_, ?_⟩
  · rw [hr, List.map_cons, List.map_cons, List.map_map]
    rfl
  · have up : ∀ x ∈ r, (x.1.length : Int) ≤ (t.dep : Nat) - 1 := fun x hx => by
      have := plc_pl (t := t) (x := x) (by rw [hr]; exact List.mem_cons_of_mem _ hx)
      omega
    obtain ⟨g1, g2⟩ := fold_max_ge (r.map fun x => ((x.1.length : Nat) : Int)) 0
    have le := fold_max_le (r.map fun x => ((x.1.length : Nat) : Int)) 0 ((t.dep : Nat) - 1) (by omega) fun y hy => by
      obtain ⟨x, hx, e⟩ := List.mem_map.mp hy
      rw [← e]
      exact up x hx
    obtain ⟨x, hx, e⟩ := plc_top t
    rw [hr] at hx
    rcases List.mem_cons.mp hx with z | z
    · subst z
      have e1 : ([] : List Nat).length + 1 = t.dep := e
      simp at e1
      omega
    · have := g2 _ (List.mem_map.mpr ⟨x, z, rfl⟩)
      omega
mutual
theorem mD_p : ∀ t : Tr, plainD (mD t) = true
  | .nd s ks => by
    have h3 := mDs_p ks
    show (true && (plainDs (mDs ks) && true)) = true
    rw [h3]; rfl
theorem mDs_p : ∀ ks : List Tr, plainDs (mDs ks) = true
  | [] => rfl
  | t :: r => by
    show (plainD (mD t) && plainDs (mDs r)) = true
    rw [mD_p t, mDs_p r]; rfl
end
mutual
theorem plain_key : ∀ t : Tr, plainD t.key = true
  | .nd s ks => by
    show (true && (true && (true && (plainDs (keys ks) && true)))) = true
    rw [plain_keys ks]; rfl
theorem plain_keys : ∀ ks : List Tr, plainDs (keys ks) = true
  | [] => rfl
  | t :: r => by
    show (plainD t.key && plainDs (keys r)) = true
    rw [plain_key t, plain_keys r]; rfl
end
theorem plain_strs : ∀ ls : List (List Nat), plainDs (ls.map fun l => D.str (mks l)) = true
  | [] => rfl
  | l :: r => plain_strs r
mutual
theorem plain_tr (C : Addr) : ∀ t : Tr, plainD (trD C t) = true
  | .nd s ks => by
    have h1 := plain_trs C ks
    have h2 := plain_key (.nd s ks)
    have h3 := plain_strs (Tr.nd s ks).ins
    rw [trD_ins, fld_nd]
    rw [trDs_eq] at h1
    show (true && (plainDs (ks.map (trD C)) && (true && (true && (true && (plainDs _ && (plainD _ && true))))))) = true
    rw [h1]
    simp only [Bool.true_and, Bool.and_true, Bool.and_eq_true]
    refine ⟨plainDs_iff.mpr fun d hd => ?_, by show (true && (true && (true && (plainDs (ks.map Tr.key) && true)))) = true; rw [← keys_eq, plain_keys]; rfl⟩
    rcases List.mem_append.mp hd with z | z
    · obtain ⟨u, _, z⟩ := List.mem_flatMap.mp z
      obtain ⟨l, _, e⟩ := List.mem_map.mp z
      subst e; rfl
    · rw [List.mem_singleton.mp z]; rfl
theorem plain_trs (C : Addr) : ∀ ks : List Tr, plainDs (trDs C ks) = true
  | [] => rfl
  | t :: r => by
    show (plainD (trD C t) && plainDs (trDs C r)) = true
    rw [plain_tr C t, plain_trs C r]; rfl
end
end K1
namespace K1
open PySem PySem.Spec PyProof.Rows L2 L3

theorem ok_law {P : Program} {w : World} {K : PySem.W.Frag} {mg : Str → Option Value} {base : Heap} (tx : Tx K mg) (pf : PrgF P PySem.Challenge.pw_piecetrade_k01_trees_made_and_refused.main.file) (tb : LamX.TabB base mg (He.codeOf K ("law", none)) (He.cT K ("law", none)).2) {fd : FuncData} (FD : FunD K "law" "law" (defArgs s_law) (defBody s_law) (defScope s_law) [] [] (He.ga K "law") fd) : FnOk P w K mg base (L2.CX P w) 201 (He.ga K "law") fd ["_law_script"] (sp_lawT K (TT K)) := by
  have g_law_hand := ok_law_hand (P := P) (w := w) (base := base) tx
  have g_law_pick := ok_pick (P := P) (w := w) (base := base) tx
  have g_law_of := ok_law_of (P := P) (w := w) (base := base) tx
  have g_law_signs := ok_law_signs (P := P) (w := w) (base := base) tx
  have g_law_drawn := ok_drawn (P := P) (w := w) (base := base) tx 31
  have g_law_text := ok_text (P := P) (w := w) (base := base) tx 40
  have g_law_size := ok_size (P := P) (w := w) (base := base) tx 40
  have g_law_places := ok_places (P := P) (w := w) (base := base) tx 40
  have xI := x_InvalidSign (P := P) (w := w) (base := base) tx pf
  have xS := x_InvalidBranches (P := P) (w := w) (base := base) tx pf
  have g_law_tree := ok_tree (P := P) (w := w) (base := base) tx xI xS 40
  have g_law_same := ok_same (P := P) (w := w) (base := base) tx 7
  have g_Tree_init := ok_init (P := P) (w := w) (base := base) tx xI xS
  have g_Tree_eq := ok_Tree__eq (P := P) (w := w) (base := base) tx
  have g_Tree_str := ok_Tree__str (P := P) (w := w) (base := base) tx
  have g_Tree_repr := ok_Tree__repr (P := P) (w := w) (base := base) tx
  have g_is_sign := ok_is_sign (P := P) (w := w) (base := base) tx
  obtain ⟨fd_is_sign, go_is_sign, kw_is_sign⟩ := oko_is_sign (P := P) (w := w) (base := base) tx
  have g_law_why := ok_why (P := P) (w := w) (base := base) tx 120
  have g_law_words := ok_words (P := P) (w := w) (base := base) tx 120
  refine FunD.okC (p := (("law" : Str), none)) FD rfl sc_law (fun vs H Q E h => ?_) fun A outer s H vs Q E hr h => ⟨_, pss_cons (ps_set (i := 1) sc_law.nd rfl (Or.inl rfl) (show DE (cx3 P w K mg base N_law "law" (defScope s_law) (He.ga K "law") (.ref (He.codeOf K ("law", none))) A outer s H E) (W3 E) _ _ from (de_call g_law_hand (hr.mono (by omega)) rfl tx.mg_law_hand tx.kp_law_hand tk3 (da_cons (dv 0) da_nil)))) (show DSs (cx3 P w K mg base N_law "law" (defScope s_law) (He.ga K "law") (.ref (He.codeOf K ("law", none))) A outer s H E) (W3 E) _ _ from (dss_cons (ds_for (vs := [2]) ps3 rfl (di_range1 rfl tx.no_range (da_cons de_int da_nil)) (dg_name (i := 2) sc_law.nd rfl (Or.inl rfl))
     (dss_cons (ds_set (i := 3) sc_law.nd rfl (Or.inl rfl) (de_call g_law_drawn (hr.mono (by omega)) rfl tx.mg_law_drawn tx.kp_law_drawn tk3 (da_cons (dv 1) (da_cons (de_call0 g_law_signs (hr.mono (by omega)) rfl tx.mg_law_signs tx.kp_law_signs tk3) (da_cons (de_add de_int (de_call g_law_pick (hr.mono (by omega)) rfl tx.mg_law_pick tx.kp_law_pick tk3 (da_cons (dv 1) (da_cons de_int da_nil)))) da_nil)))))
    (dss_cons (ds_asg (vs := [4, 5]) (de_tup (da_cons (de_call g_law_tree (hr.mono (by omega)) rfl tx.mg_law_tree tx.kp_law_tree tk3 (da_cons (dv 3) da_nil)) (da_cons (de_call g_law_text (hr.mono (by omega)) rfl tx.mg_law_text tx.kp_law_text tk3 (da_cons (dv 3) da_nil)) da_nil))) (dg_tup (n := 2) rfl (dgs_cons (dg_name (i := 4) sc_law.nd rfl (Or.inr rfl)) (dgs_cons (dg_name (i := 5) sc_law.nd rfl (Or.inl rfl)) dgs_nil))))
    (dss_cons (ds_set (i := 6) sc_law.nd rfl (Or.inl rfl) (de_add (de_max1 rfl hr.units rfl tx.no_max (de_lc (own := [("_law_path", 14), ("_law_piece", 15)]) rfl sc_law.nd (di_list (de_call g_law_places (hr.mono (by omega)) rfl tx.mg_law_places tx.kp_law_places tk3 (da_cons (dv 3) da_nil))) (blkOk_by (own := [("_law_path", 14), ("_law_piece", 15)]) (N := N_law) (sc := defScope s_law) (by decide +kernel)) (fun _ _ _ _ _ => (dg_tup (n := 2) rfl (dgs_cons (dg_name (i := 14) sc_law.nd rfl (Or.inl rfl)) (dgs_cons (dg_name (i := 15) sc_law.nd rfl (Or.inl rfl)) dgs_nil)))) (fun _ _ _ _ _ => dts_nil) (fun _ _ _ _ _ => (de_len rfl tx.no_len (da_cons (dv 14) da_nil))))) de_int))
    (dss_cons (ds_if (dt_not (dt_val (de_call g_law_same (hr.mono (by omega)) rfl tx.mg_law_same tx.kp_law_same tk3 (da_cons (de_lst (da_cons (de_fldK (K := K) (dv 4)) (da_cons (de_fldK (K := K) (dv 4)) (da_cons (de_fldK (K := K) (dv 4)) (da_cons (de_fldK (K := K) (dv 4)) (da_cons (de_strOwn ⟨tx.te_str.1, tx.te_str.2⟩ g_Tree_str (hr.mono (by omega)) rfl tx.no_str (dv 4)) (da_cons (de_reprOwn ⟨tx.te_repr.1, tx.te_repr.2⟩ g_Tree_repr (hr.mono (by omega)) rfl tx.no_repr (dv 4)) da_nil))))))) (da_cons (de_lst (da_cons (de_ix (dv 3) de_int) (da_cons (de_call g_law_size (hr.mono (by omega)) rfl tx.mg_law_size tx.kp_law_size tk3 (da_cons (dv 3) da_nil)) (da_cons (dv 6) (da_cons (dv 5) (da_cons (dv 5) (da_cons (de_add (de_add de_str (dv 5)) de_str) da_nil))))))) da_nil)))))
     (dss_one (ds_ret de_bl))
     dss_nil)
    (dss_cons (ds_setLc (i := 7) (own := [("_law_late", 13)]) rfl sc_law.nd rfl rfl (sw_true rfl rfl rfl (by decide +kernel)) (di_tup (de_fldK (K := K) (dv 4))) (blkOk_by (own := [("_law_late", 13)]) (N := N_law) (sc := defScope s_law) (by decide +kernel)) (fun _ _ _ _ _ => (dg_name (i := 13) sc_law.nd rfl (Or.inl rfl))) (fun _ _ _ _ _ => dts_nil) (fun _ _ _ _ _ => (de_fldK (K := K) (dv 13))))
    (dss_cons (ds_if (dt_bool (dw_or (dt_not (dt_val (de_callB (L3.CallR.or call_isi call_isiT) (cd_isiA (K := K)) rfl tx.no_isinstance (by decide +kernel) (da_cons (de_fldK (K := K) (dv 4)) (da_cons (de_bty rfl tx.no_tuple) da_nil))))) (dw_or1 (dt_cmp (op_neD hr.units) opd_ne (dv 7) (de_lc (own := [("_law_kid", 16)]) rfl sc_law.nd (di_tup (de_ix (dv 3) de_int)) (blkOk_by (own := [("_law_kid", 16)]) (N := N_law) (sc := defScope s_law) (by decide +kernel)) (fun _ _ _ _ _ => (dg_name (i := 16) sc_law.nd rfl (Or.inl rfl))) (fun _ _ _ _ _ => dts_nil) (fun _ _ _ _ _ => (de_call g_law_text (hr.mono (by omega)) rfl tx.mg_law_text tx.kp_law_text takesN (da_cons (dv 16) da_nil)))) (nomark _)))))
     (dss_one (ds_ret de_bl))
     dss_nil)
    (dss_cons (ds_set (i := 8) sc_law.nd rfl (Or.inr rfl) (de_call g_law_tree (hr.mono (by omega)) rfl tx.mg_law_tree tx.kp_law_tree tk3 (da_cons (de_call g_law_drawn (hr.mono (by omega)) rfl tx.mg_law_drawn tx.kp_law_drawn tk3 (da_cons (dv 1) (da_cons (de_call0 g_law_signs (hr.mono (by omega)) rfl tx.mg_law_signs tx.kp_law_signs tk3) (da_cons (de_add de_int (de_call g_law_pick (hr.mono (by omega)) rfl tx.mg_law_pick tx.kp_law_pick tk3 (da_cons (dv 1) (da_cons de_int da_nil)))) da_nil)))) da_nil)))
    (dss_cons (ds_if (dt_bool (dw_or (dt_cmp (op_neD hr.units) opd_ne (de_cmpC (op_ownEq tx.eq_Tree g_Tree_eq (hr.mono (by omega))) (opd_own (K := K)) (dv 4) (dv 8) (nomark _)) (de_cmp (op_eqD hr.units) opd_eq (dv 5) (de_fldK (K := K) (dv 8)) (nomark _)) (nomark _)) (dw_or (dt_cmpC (op_ownNe tx.eq_Tree g_Tree_eq (hr.mono (by omega))) (opd_own (K := K)) (dv 4) (de_call g_law_tree (hr.mono (by omega)) rfl tx.mg_law_tree tx.kp_law_tree tk3 (da_cons (dv 3) da_nil)) (nomark _)) (dw_or (dt_cmpC (op_ownEq tx.eq_Tree g_Tree_eq (hr.mono (by omega))) (opd_own (K := K)) (dv 4) (dv 5) (nomark _)) (dw_or1 (dt_cmpC (op_ownEq tx.eq_Tree g_Tree_eq (hr.mono (by omega))) (opd_own (K := K)) (dv 4) (dv 3) (nomark _)))))))
     (dss_one (ds_ret de_bl))
     dss_nil)
    (dss_cons (ds_set (i := 9) sc_law.nd rfl (Or.inr rfl) (de_call g_law_of (hr.mono (by omega)) rfl tx.mg_law_of tx.kp_law_of tk3 (da_cons (dv 1) (da_cons (de_lst (da_cons de_str (da_cons de_str (da_cons de_str (da_cons de_str (da_cons de_str (da_cons de_non (da_cons de_int (da_cons de_bl (da_cons (de_lst (da_cons de_str da_nil)) (da_cons (de_tup (da_cons de_str da_nil)) da_nil))))))))))) da_nil))))
    (dss_cons (ds_set (i := 10) sc_law.nd rfl (Or.inr rfl) (de_call g_law_of (hr.mono (by omega)) rfl tx.mg_law_of tx.kp_law_of tk3 (da_cons (dv 1) (da_cons (de_lst (da_cons de_non (da_cons de_str (da_cons (dv 3) (da_cons (de_lst (da_cons (dv 4) da_nil)) (da_cons de_int da_nil)))))) da_nil))))
    (dss_cons (ds_set (i := 11) sc_law.nd rfl (Or.inl rfl) (de_lst (da_cons (de_lam (T := TT K) tb rfl List.mem_cons_self (fun p hp _ => by cases List.mem_singleton.mp hp; rfl) (by kernel_rfl) (by rfl)) (da_cons (de_lamD (T := TT K) tb rfl List.mem_cons_self (fun p hp _ => by cases List.mem_singleton.mp hp; rfl) (by kernel_rfl) rfl rfl) (da_cons (de_lam (T := TT K) tb rfl List.mem_cons_self (fun p hp _ => by cases List.mem_singleton.mp hp; rfl) (by kernel_rfl) (by rfl)) (da_cons (de_lam (T := TT K) tb rfl List.mem_cons_self (fun p hp _ => by cases List.mem_singleton.mp hp; rfl) (by kernel_rfl) (by rfl)) da_nil))))))
    (dss_one (ds_if (dt_not (dt_val (de_call g_law_same (hr.mono (by omega)) rfl tx.mg_law_same tx.kp_law_same tk3 (da_cons (de_callClo g_law_words (hr.mono (by omega)) rfl tx.mg_law_words tx.kp_law_words (da_cons (dv 11) da_nil)) (da_cons (de_add (de_lst (da_cons (de_tup (da_cons de_str (da_cons (de_tup (da_cons (dv 9) da_nil)) da_nil))) da_nil)) (de_mul (de_lst (da_cons (de_tup (da_cons de_str (da_cons (de_tup da_nil) da_nil))) da_nil)) de_int)) da_nil)))))
     (dss_one (ds_ret de_bl))
     dss_nil))))))))))))))
    (dss_cons (ds_set (i := 12) sc_law.nd rfl (Or.inl rfl) (de_lst (da_cons de_str (da_cons de_str (da_cons de_str (da_cons de_str (da_cons de_str (da_cons de_str (da_cons de_str (da_cons de_str (da_cons de_non (da_cons de_int (da_cons de_bl (da_cons (de_lst (da_cons de_str da_nil)) da_nil))))))))))))))
    (dss_one (ds_ret (de_and (de_call g_law_same (hr.mono (by omega)) rfl tx.mg_law_same tx.kp_law_same tk3 (da_cons (de_lc (own := [("_law_word", 5)]) rfl sc_law.nd (di_list (dv 12)) (blkOk_by (own := [("_law_word", 5)]) (N := N_law) (sc := defScope s_law) (by decide +kernel)) (fun _ _ _ _ _ => (dg_name (i := 5) sc_law.nd rfl (Or.inl rfl))) (fun _ _ _ _ _ => dts_nil) (fun _ _ _ _ _ => (de_call g_is_sign (hr.mono (by omega)) rfl tx.mg_is_sign tx.kp_is_sign takesN (da_cons (dv 5) da_nil)))) (da_cons (de_add (de_mul (de_lst (da_cons de_bl da_nil)) de_int) (de_mul (de_lst (da_cons de_bl da_nil)) de_int)) da_nil))) (de_and (de_callK0 go_is_sign kw_is_sign (hr.mono (by omega)) rfl tx.mg_is_sign tx.kp_is_sign tk3 (dk_cons de_str dk_nil)) (de_one (de_cmp (op_eqD hr.units) opd_eq (de_ccon (K := K) (de_gref rfl tx.mg_Tree)) de_int (nomark _)))))))))), law_topT (by decide) ⟨E, h⟩ ?_ ?_⟩
  · obtain ⟨a, ns, rfl, _⟩ := h
    rfl
  · intro wd a ns φ hS hl q
    exact ⟨_, rfl, a, ns, rfl, hS, hl, q⟩
  · intro p c ns
    have hB : big = 1000000 := rfl
    have hL : sizeLine = 16777216 := sizeLine_eq
    show TSeq _ _ _ _ [.no, .v (.ref p), .no, .no, .no, .no, .no, .no, .no, .no, .no, .no, .no, .no, .no, .no, .no]
    refine seq_I (fun e => ∃ s2 s3 s4 s5 s6 s7 s8 s9 s10 s11 s12, e = [.no, .v (.ref p), s2, s3, s4, s5, s6, s7, s8, s9, s10, s11, s12, .no, .no, .no, .no]) (fun nxF hnxF => ?_) ?_
    · simp only [TFor, TIr1, TCons, TNil, TC]
      refine ⟨5, rfl, by decide, by decide, ?_⟩
      refine forD_of (enc := fun i : Nat => D.int (0 + (i : Nat))) (fun _ env => ∃ s2 s3 s4 s5 s6 s7 s8 s9 s10 s11 s12, env = [.no, .v (.ref p), s2, s3, s4, s5, s6, s7, s8, s9, s10, s11, s12, .no, .no, .no, .no]) (List.range (5 : Int).toNat) _ ⟨_, _, _, _, _, _, _, _, _, _, _, rfl⟩ ?_ ?_
      · rintro i0 rest env D2 - hnx - - ⟨s2, s3, s4, s5, s6, s7, s8, s9, s10, s11, s12, rfl⟩
        simp only [GName, List.set]
        generalize Sl.v (D.int (0 + (i0 : Int))) = sT
        refine seq_I (fun e => ∃ a : Tr, a.ok ∧ a.siz ≤ 12 ∧ e = [.no, .v (.ref p), sT, .v (mD a), s4, s5, s6, s7, s8, s9, s10, s11, s12, .no, .no, .no, .no]) (fun nx hx => ?_) ?_
        · simp [TVar, TC, TOp, TTst, fI, TAnd, TOr, TNot, TAndV, TOrV, TNotV, TIf, TChain, TChainB, TNoPart, TPart, TSl, TFld, TFldO, TCon, TNil, TCons, TTup, TLst, TCB, TM1, TFmt, TJs, TJoined, TNext, TSeq, TBreak, TCont, TNever, TRet, TRetN, TDrop, TIfS, L3.TSet, TAug, TPar, GName, GNil, GCons, GTup, TAsg, TIl, TIt, TIs, TIr1, TIr2, TIz, TFor, TOwn, TOwnL, TApp, TExt, TBor, TBorB, TFrz, TPutF, TYes, TLc, TLc2, TCall, TStar, TMake, TOpC, TParO1, TParO0, TPutJ, TBorN, TFldX, TIenT, TOwnLc, TMaxd, TCallK, TCallLam, slD, TMeth, GUnl, TTell, TMakeK, lenF, isiAF, isiF, isiTF, PySem.W.kitAny, inF, sumF, allF, anyF, tupleF, int1F, max2F, joinF, ixF, addF, mulF, tyOf, TyK, clsOf, clsOfs, wipeD, hideS, flatD, putD, and_assoc, neNilF, slF, isF, isntF, isND, F_signs]
          refine ⟨p, c, ns, 12, rfl, rfl, by decide, by decide, fun r a0 b0 => ?_⟩
          have e31 : ((31 : Nat) : Int) = 31 := rfl
          refine ⟨p, c, ns, 1 + r, sgL, rfl, rfl, sgL_ok, by omega, ?_, by omega, fun t ok0 z0 => hx _ ⟨t, ok0, by omega, rfl⟩⟩
          show 1 + r ≤ ((31 : Nat) : Int)
          omega
        rintro e ⟨a, oka, za, rfl⟩
        have da := dep_siz a
        have la := txt9 oka
        refine seq_I (fun e => e = [.no, .v (.ref p), sT, .v (mD a), .v (trD (He.ga K "Tree") a), .v (.str (mks a.txt)), s6, s7, s8, s9, s10, s11, s12, .no, .no, .no, .no]) (fun nx hx => ?_) ?_
        · simp [TVar, TC, TOp, TTst, fI, TAnd, TOr, TNot, TAndV, TOrV, TNotV, TIf, TChain, TChainB, TNoPart, TPart, TSl, TFld, TFldO, TCon, TNil, TCons, TTup, TLst, TCB, TM1, TFmt, TJs, TJoined, TNext, TSeq, TBreak, TCont, TNever, TRet, TRetN, TDrop, TIfS, L3.TSet, TAug, TPar, GName, GNil, GCons, GTup, TAsg, TIl, TIt, TIs, TIr1, TIr2, TIz, TFor, TOwn, TOwnL, TApp, TExt, TBor, TBorB, TFrz, TPutF, TYes, TLc, TLc2, TCall, TStar, TMake, TOpC, TParO1, TParO0, TPutJ, TBorN, TFldX, TIenT, TOwnLc, TMaxd, TCallK, TCallLam, slD, TMeth, GUnl, TTell, TMakeK, lenF, isiAF, isiF, isiTF, PySem.W.kitAny, inF, sumF, allF, anyF, tupleF, int1F, max2F, joinF, ixF, addF, mulF, tyOf, TyK, clsOf, clsOfs, wipeD, hideS, flatD, putD, and_assoc, neNilF, slF, isF, isntF, isND]
          refine ⟨a, rfl, oka, by omega, by omega, ?_⟩
          simp [TVar, TC, TOp, TTst, fI, TAnd, TOr, TNot, TAndV, TOrV, TNotV, TIf, TChain, TChainB, TNoPart, TPart, TSl, TFld, TFldO, TCon, TNil, TCons, TTup, TLst, TCB, TM1, TFmt, TJs, TJoined, TNext, TSeq, TBreak, TCont, TNever, TRet, TRetN, TDrop, TIfS, L3.TSet, TAug, TPar, GName, GNil, GCons, GTup, TAsg, TIl, TIt, TIs, TIr1, TIr2, TIz, TFor, TOwn, TOwnL, TApp, TExt, TBor, TBorB, TFrz, TPutF, TYes, TLc, TLc2, TCall, TStar, TMake, TOpC, TParO1, TParO0, TPutJ, TBorN, TFldX, TIenT, TOwnLc, TMaxd, TCallK, TCallLam, slD, TMeth, GUnl, TTell, TMakeK, lenF, isiAF, isiF, isiTF, PySem.W.kitAny, inF, sumF, allF, anyF, tupleF, int1F, max2F, joinF, ixF, addF, mulF, tyOf, TyK, clsOf, clsOfs, wipeD, hideS, flatD, putD, and_assoc, neNilF, slF, isF, isntF, isND]
          refine ⟨a, rfl, oka, by omega, by omega, ?_⟩
          simp [TVar, TC, TOp, TTst, fI, TAnd, TOr, TNot, TAndV, TOrV, TNotV, TIf, TChain, TChainB, TNoPart, TPart, TSl, TFld, TFldO, TCon, TNil, TCons, TTup, TLst, TCB, TM1, TFmt, TJs, TJoined, TNext, TSeq, TBreak, TCont, TNever, TRet, TRetN, TDrop, TIfS, L3.TSet, TAug, TPar, GName, GNil, GCons, GTup, TAsg, TIl, TIt, TIs, TIr1, TIr2, TIz, TFor, TOwn, TOwnL, TApp, TExt, TBor, TBorB, TFrz, TPutF, TYes, TLc, TLc2, TCall, TStar, TMake, TOpC, TParO1, TParO0, TPutJ, TBorN, TFldX, TIenT, TOwnLc, TMaxd, TCallK, TCallLam, slD, TMeth, GUnl, TTell, TMakeK, lenF, isiAF, isiF, isiTF, PySem.W.kitAny, inF, sumF, allF, anyF, tupleF, int1F, max2F, joinF, ixF, addF, mulF, tyOf, TyK, clsOf, clsOfs, wipeD, hideS, flatD, putD, and_assoc, neNilF, slF, isF, isntF, isND]
          exact hx _ rfl
        rintro e rfl
        refine seq_I (fun e => e = [.no, .v (.ref p), sT, .v (mD a), .v (trD (He.ga K "Tree") a), .v (.str (mks a.txt)), .v (.int (a.dep : Nat)), s7, s8, s9, s10, s11, s12, .no, .no, .no, .no]) (fun nx hx => ?_) ?_
        · simp [TVar, TC, TOp, TTst, fI, TAnd, TOr, TNot, TAndV, TOrV, TNotV, TIf, TChain, TChainB, TNoPart, TPart, TSl, TFld, TFldO, TCon, TNil, TCons, TTup, TLst, TCB, TM1, TFmt, TJs, TJoined, TNext, TSeq, TBreak, TCont, TNever, TRet, TRetN, TDrop, TIfS, L3.TSet, TAug, TPar, GName, GNil, GCons, GTup, TAsg, TIl, TIt, TIs, TIr1, TIr2, TIz, TFor, TOwn, TOwnL, TApp, TExt, TBor, TBorB, TFrz, TPutF, TYes, TLc, TLc2, TCall, TStar, TMake, TOpC, TParO1, TParO0, TPutJ, TBorN, TFldX, TIenT, TOwnLc, TMaxd, TCallK, TCallLam, slD, TMeth, GUnl, TTell, TMakeK, lenF, isiAF, isiF, isiTF, PySem.W.kitAny, inF, sumF, allF, anyF, tupleF, int1F, max2F, joinF, ixF, addF, mulF, tyOf, TyK, clsOf, clsOfs, wipeD, hideS, flatD, putD, and_assoc, neNilF, slF, isF, isntF, isND, TMax1]
          refine ⟨a, rfl, by omega, by omega, _, rfl, compD_map (enc := plD) (f := fun x => .int (x.1.length : Nat)) (plc a) [] (fun x hx acc ψ hl q => ?_) (by rw [plc_len]; show 0 + _ ≤ _; omega) ?_⟩
          · simp [TVar, TC, TOp, TTst, fI, TAnd, TOr, TNot, TAndV, TOrV, TNotV, TIf, TChain, TChainB, TNoPart, TPart, TSl, TFld, TFldO, TCon, TNil, TCons, TTup, TLst, TCB, TM1, TFmt, TJs, TJoined, TNext, TSeq, TBreak, TCont, TNever, TRet, TRetN, TDrop, TIfS, L3.TSet, TAug, TPar, GName, GNil, GCons, GTup, TAsg, TIl, TIt, TIs, TIr1, TIr2, TIz, TFor, TOwn, TOwnL, TApp, TExt, TBor, TBorB, TFrz, TPutF, TYes, TLc, TLc2, TCall, TStar, TMake, TOpC, TParO1, TParO0, TPutJ, TBorN, TFldX, TIenT, TOwnLc, TMaxd, TCallK, TCallLam, slD, TMeth, GUnl, TTell, TMakeK, lenF, isiAF, isiF, isiTF, PySem.W.kitAny, inF, sumF, allF, anyF, tupleF, int1F, max2F, joinF, ixF, addF, mulF, tyOf, TyK, clsOf, clsOfs, wipeD, hideS, flatD, putD, and_assoc, neNilF, slF, isF, isntF, isND, plD, pathD]
            exact ⟨hl, q⟩
          · obtain ⟨mm, m1, m2⟩ := plc_max a
            rw [List.nil_append, m1]
            refine ⟨0, mm, rfl, ?_⟩
            rw [m2]
            have e9 : ((a.dep : Nat) : Int) - 1 + 1 = (a.dep : Nat) := by omega
            simp [TVar, TC, TOp, TTst, fI, TAnd, TOr, TNot, TAndV, TOrV, TNotV, TIf, TChain, TChainB, TNoPart, TPart, TSl, TFld, TFldO, TCon, TNil, TCons, TTup, TLst, TCB, TM1, TFmt, TJs, TJoined, TNext, TSeq, TBreak, TCont, TNever, TRet, TRetN, TDrop, TIfS, L3.TSet, TAug, TPar, GName, GNil, GCons, GTup, TAsg, TIl, TIt, TIs, TIr1, TIr2, TIz, TFor, TOwn, TOwnL, TApp, TExt, TBor, TBorB, TFrz, TPutF, TYes, TLc, TLc2, TCall, TStar, TMake, TOpC, TParO1, TParO0, TPutJ, TBorN, TFldX, TIenT, TOwnLc, TMaxd, TCallK, TCallLam, slD, TMeth, GUnl, TTell, TMakeK, lenF, isiAF, isiF, isiTF, PySem.W.kitAny, inF, sumF, allF, anyF, tupleF, int1F, max2F, joinF, ixF, addF, mulF, tyOf, TyK, clsOf, clsOfs, wipeD, hideS, flatD, putD, and_assoc, neNilF, slF, isF, isntF, isND]
            exact hx _ rfl
        rintro e rfl
        refine seq_I (fun e => e = [.no, .v (.ref p), sT, .v (mD a), .v (trD (He.ga K "Tree") a), .v (.str (mks a.txt)), .v (.int (a.dep : Nat)), s7, s8, s9, s10, s11, s12, .no, .no, .no, .no]) (fun nx hx => ?_) ?_
        · unfold TIfS
          refine go_else (fun ψ hψ => ?_) (hx _ rfl)
          obtain ⟨s0, ks, rfl⟩ : ∃ s ks, a = .nd s ks := by cases a; exact ⟨_, _, rfl⟩
          have e0 := mD_nd s0 ks
          have t1 : AtK K (He.ga K "Tree") "sign" := ⟨tx.cl_Tree, tx.na_Tree_sign⟩
          have t3 : AtK K (He.ga K "Tree") "size" := ⟨tx.cl_Tree, tx.na_Tree_size⟩
          have t4 : AtK K (He.ga K "Tree") "depth" := ⟨tx.cl_Tree, tx.na_Tree_depth⟩
          have t5 : AtK K (He.ga K "Tree") "text" := ⟨tx.cl_Tree, tx.na_Tree_text⟩
          have ht := trD_ins (C := (He.ga K "Tree")) (.nd s0 ks)
          have hs0 := (ok_sg_len oka.1)
          have shs : SeqAt.shaped (.str (mks s0)) = true := shaped_mks fun c hc => by have := isLet_iff.mp (hs0.2.2 c hc); omega
          have eT : (Str.ofString "Tree(" : Str) = mks [84, 114, 101, 101, 40] := by decide +kernel
          have eC : (Str.ofString ")" : Str) = mks [41] := by decide +kernel
          have shR : SeqAt.shaped (.str (mks ([84, 114, 101, 101, 40] ++ (Tr.nd s0 ks).txt ++ [41]))) = true := shaped_mks fun c h => by
            rcases List.mem_append.mp h with h | h
            · rcases List.mem_append.mp h with h | h
              · simp at h; omega
              · exact txt_mem (P := fun c => c < 128) (by decide) (by decide) (by decide) (fun c hc => by have := isLet_iff.mp hc; omega) oka c h
            · simp at h; omega
          simp [TVar, TC, TOp, TTst, fI, TAnd, TOr, TNot, TAndV, TOrV, TNotV, TIf, TChain, TChainB, TNoPart, TPart, TSl, TFld, TFldO, TCon, TNil, TCons, TTup, TLst, TCB, TM1, TFmt, TJs, TJoined, TNext, TSeq, TBreak, TCont, TNever, TRet, TRetN, TDrop, TIfS, L3.TSet, TAug, TPar, GName, GNil, GCons, GTup, TAsg, TIl, TIt, TIs, TIr1, TIr2, TIz, TFor, TOwn, TOwnL, TApp, TExt, TBor, TBorB, TFrz, TPutF, TYes, TLc, TLc2, TCall, TStar, TMake, TOpC, TParO1, TParO0, TPutJ, TBorN, TFldX, TIenT, TOwnLc, TMaxd, TCallK, TCallLam, slD, TMeth, GUnl, TTell, TMakeK, lenF, isiAF, isiF, isiTF, PySem.W.kitAny, inF, sumF, allF, anyF, tupleF, int1F, max2F, joinF, ixF, addF, mulF, tyOf, TyK, clsOf, clsOfs, wipeD, hideS, flatD, putD, and_assoc, neNilF, slF, isF, isntF, isND, ht, t1, t3, t4, t5, fld_sign, fld_size, fld_depth, fld_text]
          rw [← ht]
          refine ⟨.nd s0 ks, rfl, oka, by omega, _, rfl, .nd s0 ks, rfl, oka, by omega, _, rfl, ?_⟩
          rw [e0]
          refine ⟨.str (mks s0), by simp, .nd s0 ks, by rw [e0], oka, by omega, ?_⟩
          simp only [eT, eC, mks_app, len_mks]
          refine ⟨by simp; omega, by simp; omega, _, rfl, ⟨sz_6, fun d hd => ?_⟩, .inr ⟨rfl, hψ⟩⟩
          simp only [List.mem_cons, List.not_mem_nil, or_false] at hd
          rcases hd with e | e | e | e | e | e
          · subst e; exact shs
          · subst e; trivial
          · subst e; trivial
          · subst e; exact shaped_txt oka
          · subst e; exact shaped_txt oka
          · subst e; exact shR
        rintro e rfl
        have t2 : AtK K (He.ga K "Tree") "branches" := ⟨tx.cl_Tree, tx.na_Tree_branches⟩
        have t5 : AtK K (He.ga K "Tree") "text" := ⟨tx.cl_Tree, tx.na_Tree_text⟩
        refine seq_I (fun e => e = [.no, .v (.ref p), sT, .v (mD a), .v (trD (He.ga K "Tree") a), .v (.str (mks a.txt)), .v (.int (a.dep : Nat)), .v (.lst (kidsD a)), s8, s9, s10, s11, s12, .no, .no, .no, .no]) (fun nx hx => ?_) ?_
        · obtain ⟨s0, ks, rfl⟩ : ∃ s ks, a = .nd s ks := by cases a; exact ⟨_, _, rfl⟩
          have ht := trD_ins (C := (He.ga K "Tree")) (.nd s0 ks)
          have hks := oks_iff.mp oka.2.2
          have hk3 := oka.2.1
          simp [TVar, TC, TOp, TTst, fI, TAnd, TOr, TNot, TAndV, TOrV, TNotV, TIf, TChain, TChainB, TNoPart, TPart, TSl, TFld, TFldO, TCon, TNil, TCons, TTup, TLst, TCB, TM1, TFmt, TJs, TJoined, TNext, TSeq, TBreak, TCont, TNever, TRet, TRetN, TDrop, TIfS, L3.TSet, TAug, TPar, GName, GNil, GCons, GTup, TAsg, TIl, TIt, TIs, TIr1, TIr2, TIz, TFor, TOwn, TOwnL, TApp, TExt, TBor, TBorB, TFrz, TPutF, TYes, TLc, TLc2, TCall, TStar, TMake, TOpC, TParO1, TParO0, TPutJ, TBorN, TFldX, TIenT, TOwnLc, TMaxd, TCallK, TCallLam, slD, TMeth, GUnl, TTell, TMakeK, lenF, isiAF, isiF, isiTF, PySem.W.kitAny, inF, sumF, allF, anyF, tupleF, int1F, max2F, joinF, ixF, addF, mulF, tyOf, TyK, clsOf, clsOfs, wipeD, hideS, flatD, putD, and_assoc, neNilF, slF, isF, isntF, isND, ht, t2, fld_branches]
          refine compD_map (enc := trD (He.ga K "Tree")) (f := fun t => .str (mks t.txt)) ks [] (fun t ht acc ψ hl q => ?_) (by show 0 + _ ≤ _; omega) ?_
          · simp [TVar, TC, TOp, TTst, fI, TAnd, TOr, TNot, TAndV, TOrV, TNotV, TIf, TChain, TChainB, TNoPart, TPart, TSl, TFld, TFldO, TCon, TNil, TCons, TTup, TLst, TCB, TM1, TFmt, TJs, TJoined, TNext, TSeq, TBreak, TCont, TNever, TRet, TRetN, TDrop, TIfS, L3.TSet, TAug, TPar, GName, GNil, GCons, GTup, TAsg, TIl, TIt, TIs, TIr1, TIr2, TIz, TFor, TOwn, TOwnL, TApp, TExt, TBor, TBorB, TFrz, TPutF, TYes, TLc, TLc2, TCall, TStar, TMake, TOpC, TParO1, TParO0, TPutJ, TBorN, TFldX, TIenT, TOwnLc, TMaxd, TCallK, TCallLam, slD, TMeth, GUnl, TTell, TMakeK, lenF, isiAF, isiF, isiTF, PySem.W.kitAny, inF, sumF, allF, anyF, tupleF, int1F, max2F, joinF, ixF, addF, mulF, tyOf, TyK, clsOf, clsOfs, wipeD, hideS, flatD, putD, and_assoc, neNilF, slF, isF, isntF, isND, trD_ins, t5, fld_text, hl, q]
          · rw [← ht]
            exact hx _ rfl
        rintro e rfl
        refine seq_I (fun e => e = [.no, .v (.ref p), sT, .v (mD a), .v (trD (He.ga K "Tree") a), .v (.str (mks a.txt)), .v (.int (a.dep : Nat)), .v (.lst (kidsD a)), s8, s9, s10, s11, s12, .no, .no, .no, .no]) (fun nx hx => ?_) ?_
        · unfold TIfS
          refine go_else (fun ψ hψ => ?_) (hx _ rfl)
          obtain ⟨s0, ks, rfl⟩ : ∃ s ks, a = .nd s ks := by cases a; exact ⟨_, _, rfl⟩
          have e0 := mD_nd s0 ks
          have ht := trD_ins (C := (He.ga K "Tree")) (.nd s0 ks)
          have hks := oks_iff.mp oka.2.2
          have hk3 := oka.2.1
          have hzk : ∀ t ∈ ks, t.txt.length ≤ big ∧ t.dep ≤ 40 := fun t ht => by
            have q1 := sizs_le ht
            have q2 := txt9 (hks t ht)
            have q3 := dep_siz t
            have q4 : (Tr.nd s0 ks).siz = 1 + sizs ks := rfl
            omega
          simp [TVar, TC, TOp, TTst, fI, TAnd, TOr, TNot, TAndV, TOrV, TNotV, TIf, TChain, TChainB, TNoPart, TPart, TSl, TFld, TFldO, TCon, TNil, TCons, TTup, TLst, TCB, TM1, TFmt, TJs, TJoined, TNext, TSeq, TBreak, TCont, TNever, TRet, TRetN, TDrop, TIfS, L3.TSet, TAug, TPar, GName, GNil, GCons, GTup, TAsg, TIl, TIt, TIs, TIr1, TIr2, TIz, TFor, TOwn, TOwnL, TApp, TExt, TBor, TBorB, TFrz, TPutF, TYes, TLc, TLc2, TCall, TStar, TMake, TOpC, TParO1, TParO0, TPutJ, TBorN, TFldX, TIenT, TOwnLc, TMaxd, TCallK, TCallLam, slD, TMeth, GUnl, TTell, TMakeK, lenF, isiAF, isiF, isiTF, PySem.W.kitAny, inF, sumF, allF, anyF, tupleF, int1F, max2F, joinF, ixF, addF, mulF, tyOf, TyK, clsOf, clsOfs, wipeD, hideS, flatD, putD, and_assoc, neNilF, slF, isF, isntF, isND, ht, t2, fld_branches, e0]
          refine compD_map (enc := mD) (f := fun t => .str (mks t.txt)) ks [] (fun t ht acc ψ hl q => ?_) (by show 0 + _ ≤ _; omega) ?_
          · simp [TVar, TC, TOp, TTst, fI, TAnd, TOr, TNot, TAndV, TOrV, TNotV, TIf, TChain, TChainB, TNoPart, TPart, TSl, TFld, TFldO, TCon, TNil, TCons, TTup, TLst, TCB, TM1, TFmt, TJs, TJoined, TNext, TSeq, TBreak, TCont, TNever, TRet, TRetN, TDrop, TIfS, L3.TSet, TAug, TPar, GName, GNil, GCons, GTup, TAsg, TIl, TIt, TIs, TIr1, TIr2, TIz, TFor, TOwn, TOwnL, TApp, TExt, TBor, TBorB, TFrz, TPutF, TYes, TLc, TLc2, TCall, TStar, TMake, TOpC, TParO1, TParO0, TPutJ, TBorN, TFldX, TIenT, TOwnLc, TMaxd, TCallK, TCallLam, slD, TMeth, GUnl, TTell, TMakeK, lenF, isiAF, isiF, isiTF, PySem.W.kitAny, inF, sumF, allF, anyF, tupleF, int1F, max2F, joinF, ixF, addF, mulF, tyOf, TyK, clsOf, clsOfs, wipeD, hideS, flatD, putD, and_assoc, neNilF, slF, isF, isntF, isND]
            exact ⟨t, rfl, hks t ht, (hzk t ht).2, (hzk t ht).1, hl, q⟩
          · rw [List.nil_append]
            have e8 : (ks.map fun t => D.str (mks t.txt)) = (txts ks).map fun l => D.str (mks l) := by rw [txts_eq, List.map_map]; rfl
            show neF (.lst (ks.map fun t => D.str (mks t.txt))) (.lst (ks.map fun t => D.str (mks t.txt))) _
            rw [e8]
            refine neF_self (strs_p _) (strs_sh fun l hl => txts_mem (P := fun c => c < 128) (by decide) (by decide) (by decide) (fun c hc => by have := isLet_iff.mp hc; omega) oka.2.2 l hl) ?_
            exact .inl ⟨rfl, hψ⟩
        rintro e rfl
        refine seq_I (fun e => ∃ b : Tr, b.ok ∧ b.siz ≤ 3 ∧ e = [.no, .v (.ref p), sT, .v (mD a), .v (trD (He.ga K "Tree") a), .v (.str (mks a.txt)), .v (.int (a.dep : Nat)), .v (.lst (kidsD a)), .v (trD (He.ga K "Tree") b), s9, s10, s11, s12, .no, .no, .no, .no]) (fun nx hx => ?_) ?_
        · simp [TVar, TC, TOp, TTst, fI, TAnd, TOr, TNot, TAndV, TOrV, TNotV, TIf, TChain, TChainB, TNoPart, TPart, TSl, TFld, TFldO, TCon, TNil, TCons, TTup, TLst, TCB, TM1, TFmt, TJs, TJoined, TNext, TSeq, TBreak, TCont, TNever, TRet, TRetN, TDrop, TIfS, L3.TSet, TAug, TPar, GName, GNil, GCons, GTup, TAsg, TIl, TIt, TIs, TIr1, TIr2, TIz, TFor, TOwn, TOwnL, TApp, TExt, TBor, TBorB, TFrz, TPutF, TYes, TLc, TLc2, TCall, TStar, TMake, TOpC, TParO1, TParO0, TPutJ, TBorN, TFldX, TIenT, TOwnLc, TMaxd, TCallK, TCallLam, slD, TMeth, GUnl, TTell, TMakeK, lenF, isiAF, isiF, isiTF, PySem.W.kitAny, inF, sumF, allF, anyF, tupleF, int1F, max2F, joinF, ixF, addF, mulF, tyOf, TyK, clsOf, clsOfs, wipeD, hideS, flatD, putD, and_assoc, neNilF, slF, isF, isntF, isND, F_signs]
          refine ⟨p, c, ns, 3, rfl, rfl, by decide, by decide, fun r a0 b0 => ?_⟩
          have e31 : ((31 : Nat) : Int) = 31 := rfl
          refine ⟨p, c, ns, 1 + r, sgL, rfl, rfl, sgL_ok, by omega, ?_, by omega, fun t ok0 z0 => ?_⟩
          · show 1 + r ≤ ((31 : Nat) : Int)
            omega
          have d0 := dep_siz t
          have l0 := txt9 ok0
          refine ⟨t, rfl, ok0, by omega, by omega, hx _ ⟨t, ok0, by omega, rfl⟩⟩
        rintro e ⟨b, okb, zb, rfl⟩
        have db := dep_siz b
        have lb := txt9 okb
        refine seq_I (fun e => e = [.no, .v (.ref p), sT, .v (mD a), .v (trD (He.ga K "Tree") a), .v (.str (mks a.txt)), .v (.int (a.dep : Nat)), .v (.lst (kidsD a)), .v (trD (He.ga K "Tree") b), s9, s10, s11, s12, .no, .no, .no, .no]) (fun nx hx => ?_) ?_
        · unfold TIfS
          refine go_else (fun ψ hψ => ?_) (hx _ rfl)
          simp [TVar, TC, TOp, TTst, fI, TAnd, TOr, TNot, TAndV, TOrV, TNotV, TIf, TChain, TChainB, TNoPart, TPart, TSl, TFld, TFldO, TCon, TNil, TCons, TTup, TLst, TCB, TM1, TFmt, TJs, TJoined, TNext, TSeq, TBreak, TCont, TNever, TRet, TRetN, TDrop, TIfS, L3.TSet, TAug, TPar, GName, GNil, GCons, GTup, TAsg, TIl, TIt, TIs, TIr1, TIr2, TIz, TFor, TOwn, TOwnL, TApp, TExt, TBor, TBorB, TFrz, TPutF, TYes, TLc, TLc2, TCall, TStar, TMake, TOpC, TParO1, TParO0, TPutJ, TBorN, TFldX, TIenT, TOwnLc, TMaxd, TCallK, TCallLam, slD, TMeth, GUnl, TTell, TMakeK, lenF, isiAF, isiF, isiTF, PySem.W.kitAny, inF, sumF, allF, anyF, tupleF, int1F, max2F, joinF, ixF, addF, mulF, tyOf, TyK, clsOf, clsOfs, wipeD, hideS, flatD, putD, and_assoc, neNilF, slF, isF, isntF, isND]
          have t5 : AtK K (He.ga K "Tree") "text" := ⟨tx.cl_Tree, tx.na_Tree_text⟩
          obtain ⟨ms, hm⟩ := mD_tup a
          refine ⟨⟨_, trD_ins _⟩, tyNe b, by rw [ty_tr]; exact tx.nf_Tree_Tree, a, _, rfl, oka, .inl ⟨b, okb, rfl, _, rfl, ?_⟩⟩
          refine ⟨(He.ga K "Tree"), _, trD_ins b, t5, _, fld_text b, eqF_str.mpr ⟨shaped_txt oka, shaped_txt okb, ?_⟩⟩
          show neF (.bl (decide (a.txt = b.txt))) (.bl (decide (mks a.txt = mks b.txt))) _
          rw [mks_dec]
          refine neF_bl.mpr ?_
          rw [decide_eq_true rfl]
          refine .inl ⟨rfl, a, rfl, oka, by omega, by omega, ⟨_, trD_ins _⟩, tyNe a, by rw [ty_tr]; exact tx.nf_Tree_Tree, a, _, rfl, oka, .inl ⟨a, oka, rfl, _, rfl, .inl ⟨by show D.bl (!decide _) = _; rw [decide_eq_true rfl]; rfl, ?_⟩⟩⟩
          refine ⟨⟨_, trD_ins _⟩, (fun z => by cases z), tx.nf_Tree_str, a, _, rfl, oka, .inr ⟨rfl, _, rfl, .inl ⟨rfl, ?_⟩⟩⟩
          rw [hm]
          exact ⟨⟨_, trD_ins _⟩, (fun z => by cases z), tx.nf_Tree_tuple, a, _, rfl, oka, .inr ⟨rfl, _, rfl, .inl ⟨rfl, hψ⟩⟩⟩
        rintro e rfl
        refine seq_I (fun e => ∃ od : D, oddD od ∧ e = [.no, .v (.ref p), sT, .v (mD a), .v (trD (He.ga K "Tree") a), .v (.str (mks a.txt)), .v (.int (a.dep : Nat)), .v (.lst (kidsD a)), .v (trD (He.ga K "Tree") b), .v od, s10, s11, s12, .no, .no, .no, .no]) (fun nx hx => ?_) ?_
        · simp [TVar, TC, TOp, TTst, fI, TAnd, TOr, TNot, TAndV, TOrV, TNotV, TIf, TChain, TChainB, TNoPart, TPart, TSl, TFld, TFldO, TCon, TNil, TCons, TTup, TLst, TCB, TM1, TFmt, TJs, TJoined, TNext, TSeq, TBreak, TCont, TNever, TRet, TRetN, TDrop, TIfS, L3.TSet, TAug, TPar, GName, GNil, GCons, GTup, TAsg, TIl, TIt, TIs, TIr1, TIr2, TIz, TFor, TOwn, TOwnL, TApp, TExt, TBor, TBorB, TFrz, TPutF, TYes, TLc, TLc2, TCall, TStar, TMake, TOpC, TParO1, TParO0, TPutJ, TBorN, TFldX, TIenT, TOwnLc, TMaxd, TCallK, TCallLam, slD, TMeth, GUnl, TTell, TMakeK, lenF, isiAF, isiF, isiTF, PySem.W.kitAny, inF, sumF, allF, anyF, tupleF, int1F, max2F, joinF, ixF, addF, mulF, tyOf, TyK, clsOf, clsOfs, wipeD, hideS, flatD, putD, and_assoc, neNilF, slF, isF, isntF, isND]
          refine ⟨p, c, ns, _, rfl, rfl, by simp, by simp, fun d hd => hx _ ⟨d, ?_, rfl⟩⟩
          simp only [List.mem_cons, List.not_mem_nil, or_false] at hd
          rcases hd with e | e | e | e | e | e | e | e | e | e <;> subst e
          · exact odd_str (by decide +kernel) (by decide +kernel) (by decide +kernel)
          · exact odd_str (by decide +kernel) (by decide +kernel) (by decide +kernel)
          · exact odd_str (by decide +kernel) (by decide +kernel) (by decide +kernel)
          · exact odd_str (by decide +kernel) (by decide +kernel) (by decide +kernel)
          · exact odd_str (by decide +kernel) (by decide +kernel) (by decide +kernel)
          · exact ⟨.inl rfl, rfl, trivial⟩
          · exact ⟨.inl rfl, rfl, trivial⟩
          · exact ⟨.inl rfl, rfl, trivial⟩
          · exact ⟨.inl rfl, rfl, sz_1, fun d hd => by rw [List.mem_singleton.mp hd]; show SeqAt.shaped (.str (Str.ofString "a")) = true; decide +kernel⟩
          · exact ⟨.inl rfl, rfl, sz_1, fun d hd => by rw [List.mem_singleton.mp hd]; show SeqAt.shaped (.str (Str.ofString "a")) = true; decide +kernel⟩
        rintro e ⟨od, hod, rfl⟩
        refine seq_I (fun e => ∃ bd : D, othS bd = true ∧ plainD bd = true ∧ e = [.no, .v (.ref p), sT, .v (mD a), .v (trD (He.ga K "Tree") a), .v (.str (mks a.txt)), .v (.int (a.dep : Nat)), .v (.lst (kidsD a)), .v (trD (He.ga K "Tree") b), .v od, .v bd, s11, s12, .no, .no, .no, .no]) (fun nx hx => ?_) ?_
        · simp [TVar, TC, TOp, TTst, fI, TAnd, TOr, TNot, TAndV, TOrV, TNotV, TIf, TChain, TChainB, TNoPart, TPart, TSl, TFld, TFldO, TCon, TNil, TCons, TTup, TLst, TCB, TM1, TFmt, TJs, TJoined, TNext, TSeq, TBreak, TCont, TNever, TRet, TRetN, TDrop, TIfS, L3.TSet, TAug, TPar, GName, GNil, GCons, GTup, TAsg, TIl, TIt, TIs, TIr1, TIr2, TIz, TFor, TOwn, TOwnL, TApp, TExt, TBor, TBorB, TFrz, TPutF, TYes, TLc, TLc2, TCall, TStar, TMake, TOpC, TParO1, TParO0, TPutJ, TBorN, TFldX, TIenT, TOwnLc, TMaxd, TCallK, TCallLam, slD, TMeth, GUnl, TTell, TMakeK, lenF, isiAF, isiF, isiTF, PySem.W.kitAny, inF, sumF, allF, anyF, tupleF, int1F, max2F, joinF, ixF, addF, mulF, tyOf, TyK, clsOf, clsOfs, wipeD, hideS, flatD, putD, and_assoc, neNilF, slF, isF, isntF, isND]
          refine ⟨p, c, ns, _, rfl, rfl, by simp, by simp, fun d hd => hx _ ⟨d, ?_⟩⟩
          obtain ⟨ms, hm⟩ := mD_tup a
          simp only [List.mem_cons, List.not_mem_nil, or_false] at hd
          rcases hd with e | e | e | e | e <;> subst e
          · exact ⟨rfl, rfl, rfl⟩
          · exact ⟨rfl, rfl, rfl⟩
          · exact ⟨by rw [hm]; rfl, mD_p a, rfl⟩
          · exact ⟨rfl, by show (plainD (trD (He.ga K "Tree") a) && true) = true; rw [plain_tr]; rfl, rfl⟩
          · exact ⟨rfl, rfl, rfl⟩
        rintro e ⟨bd, hb1, hb2, rfl⟩
        have plT : ∀ t : Tr, plainD (trD (He.ga K "Tree") t) = true := fun t => plain_tr _ t
        have ea : Str.ofString "a" = mks [97] := by decide +kernel
        have sga : isSg [97] = true := by decide +kernel
        refine seq_I (fun e => ∃ d1 d2 d3 d4 La Lb Lc Ld, e = [.no, .v (.ref p), sT, .v (mD a), .v (trD (He.ga K "Tree") a), .v (.str (mks a.txt)), .v (.int (a.dep : Nat)), .v (.lst (kidsD a)), .v (trD (He.ga K "Tree") b), .v od, .v bd, .v (.lst [d1, d2, d3, d4]), s12, .no, .no, .no, .no] ∧
            CloD (mkrOf (cx3 P w K mg base N_law "law" (defScope s_law) (He.ga K "law") (.ref (He.codeOf K ("law", none))) A outer s H E)) e d1 (.clo La [trD (He.ga K "Tree") a, od, bd]) ∧ CloD (mkrOf (cx3 P w K mg base N_law "law" (defScope s_law) (He.ga K "law") (.ref (He.codeOf K ("law", none))) A outer s H E)) e d2 (.clo Lb [bd]) ∧ CloD (mkrOf (cx3 P w K mg base N_law "law" (defScope s_law) (He.ga K "law") (.ref (He.codeOf K ("law", none))) A outer s H E)) e d3 (.clo Lc [trD (He.ga K "Tree") a, trD (He.ga K "Tree") b, bd]) ∧ CloD (mkrOf (cx3 P w K mg base N_law "law" (defScope s_law) (He.ga K "law") (.ref (He.codeOf K ("law", none))) A outer s H E)) e d4 (.clo Ld [trD (He.ga K "Tree") a, trD (He.ga K "Tree") b]) ∧
            LamF P w K mg base 120 La (FL1 (He.ga K "Tree") (He.ga K "InvalidSign")) ∧ LamF P w K mg base 120 Lb (FL2 (He.ga K "InvalidBranches")) ∧ LamF P w K mg base 120 Lc (FL3 (He.ga K "Tree") (He.ga K "InvalidBranches")) ∧ LamF P w K mg base 120 Ld (FL4 (He.ga K "Tree") (He.ga K "InvalidBranches"))) (fun nx hx => ?_) ?_
        · refine ⟨hwT_wdt, hwT_wdt, hwT_wdt, hwT_wdt, (show 4 ≤ sizeLine from sz_4), hx _ ⟨_, _, _, _, _, _, _, _, rfl, ⟨_, [4, 9, 10], rfl, rfl, by kernel_rfl, by kernel_rfl, rfl, ⟨_, _, rfl, rfl, _, _, rfl, rfl, _, _, rfl, rfl, rfl⟩, ?_⟩, ⟨_, [10], rfl, rfl, by kernel_rfl, by kernel_rfl, rfl, ⟨_, _, rfl, rfl, rfl⟩, ?_⟩,
            ⟨_, [4, 8, 10], rfl, rfl, by kernel_rfl, by kernel_rfl, rfl, ⟨_, _, rfl, rfl, _, _, rfl, rfl, _, _, rfl, rfl, rfl⟩, ?_⟩, ⟨_, [4, 8], rfl, rfl, by kernel_rfl, by kernel_rfl, rfl, ⟨_, _, rfl, rfl, _, _, rfl, rfl, rfl⟩, ?_⟩, lamF (k := 119) (lamK_by (by kernel_rfl)) (fun _ _ _ _ _ => rfl) (fun cl f c' A outer s H E hr => (de_make tx.mk_Tree g_Tree_init (hr.mono (by omega)) rfl tx.mg_Tree tkL (da_cons (dv 1) (da_cons (dv 0) (da_cons (dv 2) da_nil))))) ?_, lamFD (k := 119) "_law_also1" (lamK_by (by kernel_rfl)) (by kernel_rfl) (fun _ _ _ _ _ _ _ => ⟨_, rfl, fun _ => rfl⟩) (fun cl f c' A outer s H E hr => (de_make tx.mk_Tree g_Tree_init (hr.mono (by omega)) rfl tx.mg_Tree tkL (da_cons de_str (da_cons (dv 0) da_nil)))) ?_ (by intro z; cases z), lamF (k := 119) (lamK_by (by kernel_rfl)) (fun _ _ _ _ _ => rfl) (fun cl f c' A outer s H E hr => (de_make tx.mk_Tree g_Tree_init (hr.mono (by omega)) rfl tx.mg_Tree tkL (da_cons de_str (da_cons (dv 0) (da_cons (dv 1) (da_cons (dv 2) da_nil)))))) ?_, lamF (k := 119) (lamK_by (by kernel_rfl)) (fun _ _ _ _ _ => rfl) (fun cl f c' A outer s H E hr => (de_make tx.mk_Tree g_Tree_init (hr.mono (by omega)) rfl tx.mg_Tree tkL (da_cons de_str (da_cons (dv 0) (da_cons (dv 0) (da_cons (dv 1) (da_cons (dv 1) da_nil))))))) ?_⟩⟩
          · show (plainD (trD (He.ga K "Tree") a) && (plainD od && (plainD bd && true))) = true
            rw [plT, hod.2.1, hb2]; rfl
          · show (plainD bd && true) = true
            rw [hb2]; rfl
          · show (plainD (trD (He.ga K "Tree") a) && (plainD (trD (He.ga K "Tree") b) && (plainD bd && true))) = true
            rw [plT, plT, hb2]; rfl
          · show (plainD (trD (He.ga K "Tree") a) && (plainD (trD (He.ga K "Tree") b) && true)) = true
            rw [plT, plT]; rfl
          · rintro wd ds φ ε ⟨t, d, e, rfl, h1, h2, h3, q⟩
            refine ⟨by show (plainD (trD (He.ga K "Tree") t) && (plainD d && (plainD e && true))) = true; rw [plT, h2, h3]; rfl, ?_⟩
            simp [TVar, TC, TOp, TTst, fI, TAnd, TOr, TNot, TAndV, TOrV, TNotV, TIf, TChain, TChainB, TNoPart, TPart, TSl, TFld, TFldO, TCon, TNil, TCons, TTup, TLst, TCB, TM1, TFmt, TJs, TJoined, TNext, TSeq, TBreak, TCont, TNever, TRet, TRetN, TDrop, TIfS, L3.TSet, TAug, TPar, GName, GNil, GCons, GTup, TAsg, TIl, TIt, TIs, TIr1, TIr2, TIz, TFor, TOwn, TOwnL, TApp, TExt, TBor, TBorB, TFrz, TPutF, TYes, TLc, TLc2, TCall, TStar, TMake, TOpC, TParO1, TParO0, TPutJ, TBorN, TFldX, TIenT, TOwnLc, TMaxd, TCallK, TCallLam, slD, TMeth, GUnl, TTell, TMakeK, lenF, isiAF, isiF, isiTF, PySem.W.kitAny, inF, sumF, allF, anyF, tupleF, int1F, max2F, joinF, ixF, addF, mulF, tyOf, TyK, clsOf, clsOfs, wipeD, hideS, flatD, putD, and_assoc, neNilF, slF, isF, isntF, isND]
            exact .inr (.inl ⟨d, _, rfl, by show 2 ≤ 10; decide, h1, q⟩)
          · rintro wd ds φ ε ⟨e, rfl, h1, h2, q⟩
            refine ⟨by show (plainD e && true) = true; rw [h2]; rfl, ?_⟩
            simp [TVar, TC, TOp, TTst, fI, TAnd, TOr, TNot, TAndV, TOrV, TNotV, TIf, TChain, TChainB, TNoPart, TPart, TSl, TFld, TFldO, TCon, TNil, TCons, TTup, TLst, TCB, TM1, TFmt, TJs, TJoined, TNext, TSeq, TBreak, TCont, TNever, TRet, TRetN, TDrop, TIfS, L3.TSet, TAug, TPar, GName, GNil, GCons, GTup, TAsg, TIl, TIt, TIs, TIr1, TIr2, TIz, TFor, TOwn, TOwnL, TApp, TExt, TBor, TBorB, TFrz, TPutF, TYes, TLc, TLc2, TCall, TStar, TMake, TOpC, TParO1, TParO0, TPutJ, TBorN, TFldX, TIenT, TOwnLc, TMaxd, TCallK, TCallLam, slD, TMeth, GUnl, TTell, TMakeK, lenF, isiAF, isiF, isiTF, PySem.W.kitAny, inF, sumF, allF, anyF, tupleF, int1F, max2F, joinF, ixF, addF, mulF, tyOf, TyK, clsOf, clsOfs, wipeD, hideS, flatD, putD, and_assoc, neNilF, slF, isF, isntF, isND, ea]
            refine .inr (.inr ⟨[97], _, rfl, sga, ⟨fun x hx => ?_, by show 1 ≤ 10; decide, .inr ⟨e, by simp, h1⟩⟩, q⟩)
            rw [List.mem_singleton.mp hx]
            exact .inr h1
          · rintro wd ds φ ε ⟨t, u, e, rfl, h1, h2, q⟩
            refine ⟨by show (plainD (trD (He.ga K "Tree") t) && (plainD (trD (He.ga K "Tree") u) && (plainD e && true))) = true; rw [plT, plT, h2]; rfl, ?_⟩
            simp [TVar, TC, TOp, TTst, fI, TAnd, TOr, TNot, TAndV, TOrV, TNotV, TIf, TChain, TChainB, TNoPart, TPart, TSl, TFld, TFldO, TCon, TNil, TCons, TTup, TLst, TCB, TM1, TFmt, TJs, TJoined, TNext, TSeq, TBreak, TCont, TNever, TRet, TRetN, TDrop, TIfS, L3.TSet, TAug, TPar, GName, GNil, GCons, GTup, TAsg, TIl, TIt, TIs, TIr1, TIr2, TIz, TFor, TOwn, TOwnL, TApp, TExt, TBor, TBorB, TFrz, TPutF, TYes, TLc, TLc2, TCall, TStar, TMake, TOpC, TParO1, TParO0, TPutJ, TBorN, TFldX, TIenT, TOwnLc, TMaxd, TCallK, TCallLam, slD, TMeth, GUnl, TTell, TMakeK, lenF, isiAF, isiF, isiTF, PySem.W.kitAny, inF, sumF, allF, anyF, tupleF, int1F, max2F, joinF, ixF, addF, mulF, tyOf, TyK, clsOf, clsOfs, wipeD, hideS, flatD, putD, and_assoc, neNilF, slF, isF, isntF, isND, ea]
            refine .inr (.inr ⟨[97], _, rfl, sga, ⟨fun x hx => ?_, by show 3 ≤ 10; decide, .inr ⟨e, by simp, h1⟩⟩, q⟩)
            simp only [List.mem_cons, List.not_mem_nil, or_false] at hx
            rcases hx with e1 | e1 | e1
            · exact .inl ⟨t, e1⟩
            · exact .inl ⟨u, e1⟩
            · rw [e1]; exact .inr h1
          · rintro wd ds φ ε ⟨t, u, rfl, q⟩
            refine ⟨by show (plainD (trD (He.ga K "Tree") t) && (plainD (trD (He.ga K "Tree") u) && true)) = true; rw [plT, plT]; rfl, ?_⟩
            simp [TVar, TC, TOp, TTst, fI, TAnd, TOr, TNot, TAndV, TOrV, TNotV, TIf, TChain, TChainB, TNoPart, TPart, TSl, TFld, TFldO, TCon, TNil, TCons, TTup, TLst, TCB, TM1, TFmt, TJs, TJoined, TNext, TSeq, TBreak, TCont, TNever, TRet, TRetN, TDrop, TIfS, L3.TSet, TAug, TPar, GName, GNil, GCons, GTup, TAsg, TIl, TIt, TIs, TIr1, TIr2, TIz, TFor, TOwn, TOwnL, TApp, TExt, TBor, TBorB, TFrz, TPutF, TYes, TLc, TLc2, TCall, TStar, TMake, TOpC, TParO1, TParO0, TPutJ, TBorN, TFldX, TIenT, TOwnLc, TMaxd, TCallK, TCallLam, slD, TMeth, GUnl, TTell, TMakeK, lenF, isiAF, isiF, isiTF, PySem.W.kitAny, inF, sumF, allF, anyF, tupleF, int1F, max2F, joinF, ixF, addF, mulF, tyOf, TyK, clsOf, clsOfs, wipeD, hideS, flatD, putD, and_assoc, neNilF, slF, isF, isntF, isND, ea]
            refine .inr (.inr ⟨[97], _, rfl, sga, ⟨fun x hx => ?_, by show 4 ≤ 10; decide, .inl (by show 3 < 4; decide)⟩, q⟩)
            simp only [List.mem_cons, List.not_mem_nil, or_false] at hx
            rcases hx with e1 | e1 | e1 | e1
            · exact .inl ⟨t, e1⟩
            · exact .inl ⟨t, e1⟩
            · exact .inl ⟨u, e1⟩
            · exact .inl ⟨u, e1⟩
        rintro e ⟨d1, d2, d3, d4, La, Lb, Lc, Ld, rfl, C1, C2, C3, C4, F1, F2, F3, F4⟩
        unfold TIfS
        generalize mkrOf (cx3 P w K mg base N_law "law" (defScope s_law) (He.ga K "law") (.ref (He.codeOf K ("law", none))) A outer s H E) = M at C1 C2 C3 C4 ⊢
        refine go_else (fun ψ hψ => ?_) (hnx _ ⟨_, _, _, _, _, _, _, _, _, _, _, rfl⟩)
        refine ⟨_, rfl, [.lst [.clo La [trD (He.ga K "Tree") a, od, bd], .clo Lb [bd], .clo Lc [trD (He.ga K "Tree") a, trD (He.ga K "Tree") b, bd], .clo Ld [trD (He.ga K "Tree") a, trD (He.ga K "Tree") b]]], ⟨_, _, rfl, ⟨_, rfl, _, _, rfl, C1, _, _, rfl, C2, _, _, rfl, C3, _, _, rfl, C4, rfl⟩, rfl⟩,
          [(La, [trD (He.ga K "Tree") a, od, bd], .tup [.str "InvalidSign", .tup [od]]), (Lb, [bd], .tup [.str "InvalidBranches", .tup []]), (Lc, [trD (He.ga K "Tree") a, trD (He.ga K "Tree") b, bd], .tup [.str "InvalidBranches", .tup []]), (Ld, [trD (He.ga K "Tree") a, trD (He.ga K "Tree") b], .tup [.str "InvalidBranches", .tup []])], rfl, (show 4 ≤ 100 by decide), fun q hq ψ hψ => ?_, ?_, ?_⟩
        · simp only [List.mem_cons, List.not_mem_nil, or_false] at hq
          rcases hq with e | e | e | e
          · subst e
            exact ⟨_, _, _, rfl, F1, a, od, bd, rfl, hod.1, hod.2.1, hb2, _, _, .inl ⟨od, hod.2.1, rfl, rfl, rfl⟩, hψ⟩
          · subst e
            exact ⟨_, _, _, rfl, F2, bd, rfl, hb1, hb2, _, _, .inr ⟨rfl, rfl, rfl⟩, hψ⟩
          · subst e
            exact ⟨_, _, _, rfl, F3, a, b, bd, rfl, hb1, hb2, _, _, .inr ⟨rfl, rfl, rfl⟩, hψ⟩
          · subst e
            exact ⟨_, _, _, rfl, F4, a, b, rfl, _, _, .inr ⟨rfl, rfl, rfl⟩, hψ⟩
        · show ((true && ((plainD od && true) && true)) && true) = true
          rw [hod.2.1]; rfl
        · simp [TVar, TC, TOp, TTst, fI, TAnd, TOr, TNot, TAndV, TOrV, TNotV, TIf, TChain, TChainB, TNoPart, TPart, TSl, TFld, TFldO, TCon, TNil, TCons, TTup, TLst, TCB, TM1, TFmt, TJs, TJoined, TNext, TSeq, TBreak, TCont, TNever, TRet, TRetN, TDrop, TIfS, L3.TSet, TAug, TPar, GName, GNil, GCons, GTup, TAsg, TIl, TIt, TIs, TIr1, TIr2, TIz, TFor, TOwn, TOwnL, TApp, TExt, TBor, TBorB, TFrz, TPutF, TYes, TLc, TLc2, TCall, TStar, TMake, TOpC, TParO1, TParO0, TPutJ, TBorN, TFldX, TIenT, TOwnLc, TMaxd, TCallK, TCallLam, slD, TMeth, GUnl, TTell, TMakeK, lenF, isiAF, isiF, isiTF, PySem.W.kitAny, inF, sumF, allF, anyF, tupleF, int1F, max2F, joinF, ixF, addF, mulF, tyOf, TyK, clsOf, clsOfs, wipeD, hideS, flatD, putD, and_assoc, neNilF, slF, isF, isntF, isND]
          refine ⟨_, rfl, ⟨sz_4, fun d hd => ?_⟩, .inr ⟨rfl, hψ⟩⟩
          have shI : SeqAt.shaped (.str (Str.ofString "InvalidSign")) = true := by decide +kernel
          have shB : SeqAt.shaped (.str (Str.ofString "InvalidBranches")) = true := by decide +kernel
          have plB : pl 5 (.tup [.str "InvalidBranches", .tup []]) := ⟨sz_2, fun d hd => by
            simp only [List.mem_cons, List.not_mem_nil, or_false] at hd
            rcases hd with e | e
            · subst e; exact shB
            · subst e; exact ⟨Nat.zero_le _, fun d hd => by cases hd⟩⟩
          simp only [List.mem_cons, List.not_mem_nil, or_false] at hd
          rcases hd with e | e | e | e
          · subst e
            exact ⟨sz_2, fun d hd => by
              simp only [List.mem_cons, List.not_mem_nil, or_false] at hd
              rcases hd with e | e
              · subst e; exact shI
              · subst e; exact ⟨sz_1, fun d hd => by rw [List.mem_singleton.mp hd]; exact hod.2.2⟩⟩
          · subst e; exact plB
          · subst e; exact plB
          · subst e; exact plB
      · rintro env ⟨s2, s3, s4, s5, s6, s7, s8, s9, s10, s11, s12, rfl⟩
        exact hnxF _ ⟨_, _, _, _, _, _, _, _, _, _, _, rfl⟩
    · rintro e ⟨s2, s3, s4, s5, s6, s7, s8, s9, s10, s11, s12, rfl⟩
      simp [TVar, TC, TOp, TTst, fI, TAnd, TOr, TNot, TAndV, TOrV, TNotV, TIf, TChain, TChainB, TNoPart, TPart, TSl, TFld, TFldO, TCon, TNil, TCons, TTup, TLst, TCB, TM1, TFmt, TJs, TJoined, TNext, TSeq, TBreak, TCont, TNever, TRet, TRetN, TDrop, TIfS, L3.TSet, TAug, TPar, GName, GNil, GCons, GTup, TAsg, TIl, TIt, TIs, TIr1, TIr2, TIz, TFor, TOwn, TOwnL, TApp, TExt, TBor, TBorB, TFrz, TPutF, TYes, TLc, TLc2, TCall, TStar, TMake, TOpC, TParO1, TParO0, TPutJ, TBorN, TFldX, TIenT, TOwnLc, TMaxd, TCallK, TCallLam, slD, TMeth, GUnl, TTell, TMakeK, lenF, isiAF, isiF, isiTF, PySem.W.kitAny, inF, sumF, allF, anyF, tupleF, int1F, max2F, joinF, ixF, addF, mulF, tyOf, TyK, clsOf, clsOfs, wipeD, hideS, flatD, putD, and_assoc, neNilF, slF, isF, isntF, isND]
      refine compD_id (f := sgD2) _ [] (fun d hd acc ψ hl q => ?_) (by rw [hL]; simp) ?_
      · simp [TVar, TC, TOp, TTst, fI, TAnd, TOr, TNot, TAndV, TOrV, TNotV, TIf, TChain, TChainB, TNoPart, TPart, TSl, TFld, TFldO, TCon, TNil, TCons, TTup, TLst, TCB, TM1, TFmt, TJs, TJoined, TNext, TSeq, TBreak, TCont, TNever, TRet, TRetN, TDrop, TIfS, L3.TSet, TAug, TPar, GName, GNil, GCons, GTup, TAsg, TIl, TIt, TIs, TIr1, TIr2, TIz, TFor, TOwn, TOwnL, TApp, TExt, TBor, TBorB, TFrz, TPutF, TYes, TLc, TLc2, TCall, TStar, TMake, TOpC, TParO1, TParO0, TPutJ, TBorN, TFldX, TIenT, TOwnLc, TMaxd, TCallK, TCallLam, slD, TMeth, GUnl, TTell, TMakeK, lenF, isiAF, isiF, isiTF, PySem.W.kitAny, inF, sumF, allF, anyF, tupleF, int1F, max2F, joinF, ixF, addF, mulF, tyOf, TyK, clsOf, clsOfs, wipeD, hideS, flatD, putD, and_assoc, neNilF, slF, isF, isntF, isND, F_is_sign]
        have hz : ∀ x : Str, x.length ≤ 10 → x.length ≤ sizeLine := fun x h => by omega
        simp only [List.mem_cons, List.not_mem_nil, or_false] at hd
        rcases hd with e | e | e | e | e | e | e | e | e | e | e | e <;> subst e
        all_goals first | exact .inl ⟨_, rfl, hz _ (by decide +kernel), hl, q⟩ | exact .inr ⟨rfl, hl, q⟩
      simp [TVar, TC, TOp, TTst, fI, TAnd, TOr, TNot, TAndV, TOrV, TNotV, TIf, TChain, TChainB, TNoPart, TPart, TSl, TFld, TFldO, TCon, TNil, TCons, TTup, TLst, TCB, TM1, TFmt, TJs, TJoined, TNext, TSeq, TBreak, TCont, TNever, TRet, TRetN, TDrop, TIfS, L3.TSet, TAug, TPar, GName, GNil, GCons, GTup, TAsg, TIl, TIt, TIs, TIr1, TIr2, TIz, TFor, TOwn, TOwnL, TApp, TExt, TBor, TBorB, TFrz, TPutF, TYes, TLc, TLc2, TCall, TStar, TMake, TOpC, TParO1, TParO0, TPutJ, TBorN, TFldX, TIenT, TOwnLc, TMaxd, TCallK, TCallLam, slD, TMeth, GUnl, TTell, TMakeK, lenF, isiAF, isiF, isiTF, PySem.W.kitAny, inF, sumF, allF, anyF, tupleF, int1F, max2F, joinF, ixF, addF, mulF, tyOf, TyK, clsOf, clsOfs, wipeD, hideS, flatD, putD, and_assoc, neNilF, slF, isF, isntF, isND]
      have g0 : sgD2 (.str (Str.ofString "a")) = .bl true := congrArg D.bl (by decide +kernel)
      have g1 : sgD2 (.str (Str.ofString "z")) = .bl true := congrArg D.bl (by decide +kernel)
      have g2 : sgD2 (.str (Str.ofString "abcdef")) = .bl true := congrArg D.bl (by decide +kernel)
      have g3 : sgD2 (.str (Str.ofString "none")) = .bl true := congrArg D.bl (by decide +kernel)
      have g4 : sgD2 (.str (Str.ofString "")) = .bl false := congrArg D.bl (by decide +kernel)
      have g5 : sgD2 (.str (Str.ofString "abcdefg")) = .bl false := congrArg D.bl (by decide +kernel)
      have g6 : sgD2 (.str (Str.ofString "A")) = .bl false := congrArg D.bl (by decide +kernel)
      have g7 : sgD2 (.str (Str.ofString "a(")) = .bl false := congrArg D.bl (by decide +kernel)
      rw [g0, g1, g2, g3, g4, g5, g6, g7]
      refine ⟨_, rfl, ⟨sz_12, fun d hd => ?_⟩, rfl, .str (Str.ofString "f"), rfl, .inl ⟨_, rfl, by rw [hL]; decide +kernel, congrArg D.bl (by decide +kernel), _, _, rfl, tx.cv_MOST, eqF_int.mpr rfl⟩⟩
      simp only [List.mem_cons, List.not_mem_nil, or_false] at hd
      rcases hd with e | e | e | e | e | e | e | e | e | e | e | e <;> (subst e; trivial)
end K1
namespace K1
open PySem PySem.Spec PyProof.Rows L2 L3
def d_is_sign : He5.DefA := { at_ := fun K => (He.ga K "is_sign"), name := "is_sign", qual := "is_sign", params := defArgs s_is_sign, body := defBody s_is_sign, scope := defScope s_is_sign }
def d_Tree__init : He5.DefA := { at_ := fun K => (He.ma K (He.ga K "Tree") "__init__"), name := "__init__", qual := "Tree.__init__", params := defArgs s_Tree__init, body := defBody s_Tree__init, scope := defScope s_Tree__init }
def d_Tree__eq : He5.DefA := { at_ := fun K => (He.ma K (He.ga K "Tree") "__eq__"), name := "__eq__", qual := "Tree.__eq__", params := defArgs s_Tree__eq, body := defBody s_Tree__eq, scope := defScope s_Tree__eq }
def d_Tree__str : He5.DefA := { at_ := fun K => (He.ma K (He.ga K "Tree") "__str__"), name := "__str__", qual := "Tree.__str__", params := defArgs s_Tree__str, body := defBody s_Tree__str, scope := defScope s_Tree__str }
def d_Tree__repr : He5.DefA := { at_ := fun K => (He.ma K (He.ga K "Tree") "__repr__"), name := "__repr__", qual := "Tree.__repr__", params := defArgs s_Tree__repr, body := defBody s_Tree__repr, scope := defScope s_Tree__repr }
def d_law_hand : He5.DefA := { at_ := fun K => (He.ga K "_law_hand"), name := "_law_hand", qual := "_law_hand", params := defArgs s_law_hand, body := defBody s_law_hand, scope := defScope s_law_hand }
def d_law_pick : He5.DefA := { at_ := fun K => (He.ga K "_law_pick"), name := "_law_pick", qual := "_law_pick", params := defArgs s_law_pick, body := defBody s_law_pick, scope := defScope s_law_pick }
def d_law_of : He5.DefA := { at_ := fun K => (He.ga K "_law_of"), name := "_law_of", qual := "_law_of", params := defArgs s_law_of, body := defBody s_law_of, scope := defScope s_law_of }
def d_law_same : He5.DefA := { at_ := fun K => (He.ga K "_law_same"), name := "_law_same", qual := "_law_same", params := defArgs s_law_same, body := defBody s_law_same, scope := defScope s_law_same }
def d_law_field : He5.DefA := { at_ := fun K => (He.ga K "_law_field"), name := "_law_field", qual := "_law_field", params := defArgs s_law_field, body := defBody s_law_field, scope := defScope s_law_field }
def d_law_why : He5.DefA := { at_ := fun K => (He.ga K "_law_why"), name := "_law_why", qual := "_law_why", params := defArgs s_law_why, body := defBody s_law_why, scope := defScope s_law_why }
def d_law_words : He5.DefA := { at_ := fun K => (He.ga K "_law_words"), name := "_law_words", qual := "_law_words", params := defArgs s_law_words, body := defBody s_law_words, scope := defScope s_law_words }
def d_law_text : He5.DefA := { at_ := fun K => (He.ga K "_law_text"), name := "_law_text", qual := "_law_text", params := defArgs s_law_text, body := defBody s_law_text, scope := defScope s_law_text }
def d_law_tree : He5.DefA := { at_ := fun K => (He.ga K "_law_tree"), name := "_law_tree", qual := "_law_tree", params := defArgs s_law_tree, body := defBody s_law_tree, scope := defScope s_law_tree }
def d_law_size : He5.DefA := { at_ := fun K => (He.ga K "_law_size"), name := "_law_size", qual := "_law_size", params := defArgs s_law_size, body := defBody s_law_size, scope := defScope s_law_size }
def d_law_signs : He5.DefA := { at_ := fun K => (He.ga K "_law_signs"), name := "_law_signs", qual := "_law_signs", params := defArgs s_law_signs, body := defBody s_law_signs, scope := defScope s_law_signs }
def d_law_drawn : He5.DefA := { at_ := fun K => (He.ga K "_law_drawn"), name := "_law_drawn", qual := "_law_drawn", params := defArgs s_law_drawn, body := defBody s_law_drawn, scope := defScope s_law_drawn }
def d_law_places : He5.DefA := { at_ := fun K => (He.ga K "_law_places"), name := "_law_places", qual := "_law_places", params := defArgs s_law_places, body := defBody s_law_places, scope := defScope s_law_places }
def d_law : He5.DefA := { at_ := fun K => (He.ga K "law"), name := "law", qual := "law", params := defArgs s_law, body := defBody s_law, scope := defScope s_law }
def fa : List He.Fa := [.glo "Tree", .cls "Tree", .mkr "Tree", .noat "Tree" "sign", .noat "Tree" "branches", .noat "Tree" "size", .noat "Tree" "depth", .noat "Tree" "text", .noat "Tree" "inside", .noat "Tree" "key", .glo "is_sign", .glo "_law_hand", .glo "_law_pick", .glo "_law_of", .glo "_law_same", .glo "_law_field", .glo "_law_why", .glo "_law_words", .glo "_law_text", .glo "_law_tree", .glo "_law_size", .glo "_law_signs", .glo "_law_drawn", .glo "_law_places", .glo "law", .free "isinstance", .free "str", .free "len", .free "all", .free "int", .free "sum", .free "max", .free "tuple", .free "bool", .free "list", .free "zip", .free "range", .free "super", .free "repr", .free "enumerate", .int "MOST_LETTERS" 6, .int "MOST_BRANCHES_trees" 3, .str "LETTERS" "abcdefghijklmnopqrstuvwxyz", .glo "TradeError", .glo "Missing", .glo "NothingLeft", .glo "InvalidSign", .glo "InvalidBranches"]
def ds_TradeError__init : DefS := { at_ := fun K => (He.ma K (He.ga K "TradeError") "__init__"), cls := fun K => (He.ga K "TradeError"), file := (PySem.Challenge.pw_piecetrade_k01_trees_made_and_refused.main.file), name := "__init__", qual := "TradeError.__init__", params := defArgs s_TradeError__init, body := defBody s_TradeError__init, scope := defScope s_TradeError__init }
def ds_InvalidSign__init : DefS := { at_ := fun K => (He.ma K (He.ga K "InvalidSign") "__init__"), cls := fun K => (He.ga K "InvalidSign"), file := (PySem.Challenge.pw_piecetrade_k01_trees_made_and_refused.main.file), name := "__init__", qual := "InvalidSign.__init__", params := defArgs s_InvalidSign__init, body := defBody s_InvalidSign__init, scope := defScope s_InvalidSign__init }
def ds_InvalidBranches__init : DefS := { at_ := fun K => (He.ma K (He.ga K "InvalidBranches") "__init__"), cls := fun K => (He.ga K "InvalidBranches"), file := (PySem.Challenge.pw_piecetrade_k01_trees_made_and_refused.main.file), name := "__init__", qual := "InvalidBranches.__init__", params := defArgs s_InvalidBranches__init, body := defBody s_InvalidBranches__init, scope := defScope s_InvalidBranches__init }
def fn : List He5.DefA := [d_is_sign, d_Tree__init, d_Tree__eq, d_Tree__str, d_Tree__repr, d_law_hand, d_law_pick, d_law_of, d_law_same, d_law_field, d_law_why, d_law_words, d_law_text, d_law_tree, d_law_size, d_law_signs, d_law_drawn, d_law_places, d_law]
def ex : List ExB := [insB "Tree", kitB (rC "Tree") (rC "Tree") true, excB "InvalidSign" "ValueError.__new__" bmVE, (fun K => xfB K (He.ga K "InvalidSign")), (fun K => decide (PySem.W.mroIn K (He.ga K "InvalidSign") (.ref (He.ga K "InvalidSign")) = some true ∧ PySem.W.ks_superIn K (He.ga K "InvalidSign") (He.ga K "InvalidSign") "__init__" = some (some (.ref (He.ma K (He.ga K "TradeError") "__init__"))) ∧ PySem.W.nsIn K cStatics "thirdparty.any" = some none)), (fun K => decide (PySem.W.mroIn K (He.ga K "InvalidSign") (.ref (He.ga K "TradeError")) = some true ∧ PySem.W.ks_superIn K (He.ga K "InvalidSign") (He.ga K "TradeError") "__init__" = some (some (.builtin "ValueError.__init__")) ∧ PySem.W.nsIn K cStatics "thirdparty.any" = some none)), (fun K => decide (PySem.W.subIn K (.ref (He.ga K "InvalidSign")) (.type "ValueError") = some true)), (fun K => decide (PySem.W.findIn K (.ref (He.ga K "InvalidSign")) "__init__" = some (some (.ref (He.ma K (He.ga K "InvalidSign") "__init__"))) ∧ PySem.W.typeIn K (.ref (He.ma K (He.ga K "InvalidSign") "__init__")) = some (.type "function"))), (fun K => decide (PySem.W.findIn K (.ref (He.ga K "InvalidSign")) "word" = some none)), (fun K => decide (PySem.W.findIn K (.ref (He.ga K "InvalidSign")) "given" = some none)), (fun K => decide (PySem.W.exmAny K (.ref (He.ga K "InvalidSign")) [.ref (He.ga K "TradeError"), .ref (He.ga K "Missing")] = some true)), excB "InvalidBranches" "ValueError.__new__" bmVE, (fun K => xfB K (He.ga K "InvalidBranches")), (fun K => decide (PySem.W.mroIn K (He.ga K "InvalidBranches") (.ref (He.ga K "InvalidBranches")) = some true ∧ PySem.W.ks_superIn K (He.ga K "InvalidBranches") (He.ga K "InvalidBranches") "__init__" = some (some (.ref (He.ma K (He.ga K "TradeError") "__init__"))) ∧ PySem.W.nsIn K cStatics "thirdparty.any" = some none)), (fun K => decide (PySem.W.mroIn K (He.ga K "InvalidBranches") (.ref (He.ga K "TradeError")) = some true ∧ PySem.W.ks_superIn K (He.ga K "InvalidBranches") (He.ga K "TradeError") "__init__" = some (some (.builtin "ValueError.__init__")) ∧ PySem.W.nsIn K cStatics "thirdparty.any" = some none)), (fun K => decide (PySem.W.subIn K (.ref (He.ga K "InvalidBranches")) (.type "ValueError") = some true)), (fun K => decide (PySem.W.findIn K (.ref (He.ga K "InvalidBranches")) "__init__" = some (some (.ref (He.ma K (He.ga K "InvalidBranches") "__init__"))) ∧ PySem.W.typeIn K (.ref (He.ma K (He.ga K "InvalidBranches") "__init__")) = some (.type "function"))), (fun K => decide (PySem.W.findIn K (.ref (He.ga K "InvalidBranches")) "word" = some none)), (fun K => decide (PySem.W.exmAny K (.ref (He.ga K "InvalidBranches")) [.ref (He.ga K "TradeError"), .ref (He.ga K "Missing")] = some true)), (fun K => decide (PySem.W.typeIn K (.ref (He.ma K (He.ga K "TradeError") "__init__")) = some (.type "function") ∧ PySem.W.fnIn K (He.ma K (He.ga K "TradeError") "__init__") = true)), eqB "Tree", nfB "Tree" (rC "Tree"), nfB "Tree" (fun _ => .type "str"), nfB "Tree" (fun _ => .type "tuple"), kitB (fun _ => .type "NoneType") (rC "Tree") false, kitB (fun _ => .type "bool") (rC "Tree") false, kitB (fun _ => .type "int") (rC "Tree") false, kitB (fun _ => .type "str") (rC "Tree") false, kitB (fun _ => .type "list") (rC "Tree") false, kitB (fun _ => .type "tuple") (rC "Tree") false, (fun K => decide (PySem.W.findIn K (.ref (He.ga K "Tree")) "__str__" = some (some (.ref (He.ma K (He.ga K "Tree") "__str__"))) ∧ PySem.W.isFn K (.ref (He.ma K (He.ga K "Tree") "__str__")) = true)), (fun K => decide (PySem.W.findIn K (.ref (He.ga K "Tree")) "__repr__" = some (some (.ref (He.ma K (He.ga K "Tree") "__repr__"))) ∧ PySem.W.isFn K (.ref (He.ma K (He.ga K "Tree") "__repr__")) = true)), crB "Tree", cvB "Tree" "MOST_BRANCHES" 3]
def loose0 : List Str := ["_wall", "TradeError", "Missing", "InvalidSign", "InvalidBranches", "InvalidText", "NothingLeft", "LETTERS", "MOST_LETTERS", "MOST_BRANCHES_trees", "MOST_NESTED", "is_sign", "Tree", "deepest", "tree_from", "_law_hand", "_law_pick", "_law_of", "_law_same", "_law_field", "_law_why", "_law_words", "_law_text", "_law_tree", "_law_size", "_law_signs", "_law_drawn", "_law_places"]
def loose : List Str := loose0
abbrev R : PySem.W.OpenRow := PySem.W.OpenLaw.row PySem.Challenge.rw_piecetrade_k01_trees_made_and_refused
def fs : List DefS := [ds_TradeError__init, ds_InvalidSign__init, ds_InvalidBranches__init]
def tf : List He.Defn := [("law", none)]
abbrev hk : PySem.W.Hook := hookXU 6 fa fn fs ex tf
def ob (s : PySem.W.SharedT) : AlU := obsXU 6 fa fn fs ex tf (HandSHeadRun.getT s)
theorem ob_eq (s : PySem.W.SharedT) : ob s = hk.obs s.abs := obsXU_eq (HandSHeadRun.getT_eq s)
theorem run (w : World) : HandSHeadRun.RunEq R (PySem.W.view R.prog [31]) hk ob 6000 loose w := by
  intro os
  kernel_rfl
theorem tx_of {K : PySem.W.Frag} {h : Heap} {mg : Str → Option Value} (X : K.In h) (G : h.Ns mainGlobals mg) (c0 : SaysXU fa fn fs ex tf h K) : Tx K mg := by
  have c := c0.s
  exact {
    mg_Tree := He.glo_ok X G (c.fact 0 (f := .glo "Tree") rfl)
    cl_Tree := He.cls_ok (c.fact 1 (f := .cls "Tree") rfl)
    mk_Tree := He.mkr_ok (c.fact 2 (f := .mkr "Tree") rfl)
    in_Tree := insB_ok (c.ex_ 0 (f := insB "Tree") rfl) (He.cls_ok (c.fact 1 (f := .cls "Tree") rfl))
    ki_Tree := kitB_ok (c.ex_ 1 (f := kitB (rC "Tree") (rC "Tree") true) rfl)
    na_Tree_sign := He.noat_ok (c.fact 3 (f := .noat "Tree" "sign") rfl)
    na_Tree_branches := He.noat_ok (c.fact 4 (f := .noat "Tree" "branches") rfl)
    na_Tree_size := He.noat_ok (c.fact 5 (f := .noat "Tree" "size") rfl)
    na_Tree_depth := He.noat_ok (c.fact 6 (f := .noat "Tree" "depth") rfl)
    na_Tree_text := He.noat_ok (c.fact 7 (f := .noat "Tree" "text") rfl)
    na_Tree_inside := He.noat_ok (c.fact 8 (f := .noat "Tree" "inside") rfl)
    na_Tree_key := He.noat_ok (c.fact 9 (f := .noat "Tree" "key") rfl)
    mg_is_sign := He.glo_ok X G (c.fact 10 (f := .glo "is_sign") rfl)
    fd_is_sign := c.def_ 0 (d := d_is_sign) rfl
    kp_is_sign := (c.def_ 0 (d := d_is_sign) rfl).choose_spec.kp
    fd_Tree__init := c.def_ 1 (d := d_Tree__init) rfl
    fd_Tree__eq := c.def_ 2 (d := d_Tree__eq) rfl
    fd_Tree__str := c.def_ 3 (d := d_Tree__str) rfl
    fd_Tree__repr := c.def_ 4 (d := d_Tree__repr) rfl
    mg_law_hand := He.glo_ok X G (c.fact 11 (f := .glo "_law_hand") rfl)
    fd_law_hand := c.def_ 5 (d := d_law_hand) rfl
    kp_law_hand := (c.def_ 5 (d := d_law_hand) rfl).choose_spec.kp
    mg_law_pick := He.glo_ok X G (c.fact 12 (f := .glo "_law_pick") rfl)
    fd_law_pick := c.def_ 6 (d := d_law_pick) rfl
    kp_law_pick := (c.def_ 6 (d := d_law_pick) rfl).choose_spec.kp
    mg_law_of := He.glo_ok X G (c.fact 13 (f := .glo "_law_of") rfl)
    fd_law_of := c.def_ 7 (d := d_law_of) rfl
    kp_law_of := (c.def_ 7 (d := d_law_of) rfl).choose_spec.kp
    mg_law_same := He.glo_ok X G (c.fact 14 (f := .glo "_law_same") rfl)
    fd_law_same := c.def_ 8 (d := d_law_same) rfl
    kp_law_same := (c.def_ 8 (d := d_law_same) rfl).choose_spec.kp
    mg_law_field := He.glo_ok X G (c.fact 15 (f := .glo "_law_field") rfl)
    fd_law_field := c.def_ 9 (d := d_law_field) rfl
    kp_law_field := (c.def_ 9 (d := d_law_field) rfl).choose_spec.kp
    mg_law_why := He.glo_ok X G (c.fact 16 (f := .glo "_law_why") rfl)
    fd_law_why := c.def_ 10 (d := d_law_why) rfl
    kp_law_why := (c.def_ 10 (d := d_law_why) rfl).choose_spec.kp
    mg_law_words := He.glo_ok X G (c.fact 17 (f := .glo "_law_words") rfl)
    fd_law_words := c.def_ 11 (d := d_law_words) rfl
    kp_law_words := (c.def_ 11 (d := d_law_words) rfl).choose_spec.kp
    mg_law_text := He.glo_ok X G (c.fact 18 (f := .glo "_law_text") rfl)
    fd_law_text := c.def_ 12 (d := d_law_text) rfl
    kp_law_text := (c.def_ 12 (d := d_law_text) rfl).choose_spec.kp
    mg_law_tree := He.glo_ok X G (c.fact 19 (f := .glo "_law_tree") rfl)
    fd_law_tree := c.def_ 13 (d := d_law_tree) rfl
    kp_law_tree := (c.def_ 13 (d := d_law_tree) rfl).choose_spec.kp
    mg_law_size := He.glo_ok X G (c.fact 20 (f := .glo "_law_size") rfl)
    fd_law_size := c.def_ 14 (d := d_law_size) rfl
    kp_law_size := (c.def_ 14 (d := d_law_size) rfl).choose_spec.kp
    mg_law_signs := He.glo_ok X G (c.fact 21 (f := .glo "_law_signs") rfl)
    fd_law_signs := c.def_ 15 (d := d_law_signs) rfl
    kp_law_signs := (c.def_ 15 (d := d_law_signs) rfl).choose_spec.kp
    mg_law_drawn := He.glo_ok X G (c.fact 22 (f := .glo "_law_drawn") rfl)
    fd_law_drawn := c.def_ 16 (d := d_law_drawn) rfl
    kp_law_drawn := (c.def_ 16 (d := d_law_drawn) rfl).choose_spec.kp
    mg_law_places := He.glo_ok X G (c.fact 23 (f := .glo "_law_places") rfl)
    fd_law_places := c.def_ 17 (d := d_law_places) rfl
    kp_law_places := (c.def_ 17 (d := d_law_places) rfl).choose_spec.kp
    mg_law := He.glo_ok X G (c.fact 24 (f := .glo "law") rfl)
    fd_law := c.def_ 18 (d := d_law) rfl
    kp_law := (c.def_ 18 (d := d_law) rfl).choose_spec.kp
    no_isinstance := He.free_ok X G (c.fact 25 (f := .free "isinstance") rfl)
    no_str := He.free_ok X G (c.fact 26 (f := .free "str") rfl)
    no_len := He.free_ok X G (c.fact 27 (f := .free "len") rfl)
    no_all := He.free_ok X G (c.fact 28 (f := .free "all") rfl)
    no_int := He.free_ok X G (c.fact 29 (f := .free "int") rfl)
    no_sum := He.free_ok X G (c.fact 30 (f := .free "sum") rfl)
    no_max := He.free_ok X G (c.fact 31 (f := .free "max") rfl)
    no_tuple := He.free_ok X G (c.fact 32 (f := .free "tuple") rfl)
    no_bool := He.free_ok X G (c.fact 33 (f := .free "bool") rfl)
    no_list := He.free_ok X G (c.fact 34 (f := .free "list") rfl)
    no_zip := He.free_ok X G (c.fact 35 (f := .free "zip") rfl)
    no_range := He.free_ok X G (c.fact 36 (f := .free "range") rfl)
    no_super := He.free_ok X G (c.fact 37 (f := .free "super") rfl)
    no_repr := He.free_ok X G (c.fact 38 (f := .free "repr") rfl)
    no_enumerate := He.free_ok X G (c.fact 39 (f := .free "enumerate") rfl)
    mg_MOST_LETTERS := He.int_ok X G (c.fact 40 (f := .int "MOST_LETTERS" 6) rfl)
    mg_MOST_BRANCHES_trees := He.int_ok X G (c.fact 41 (f := .int "MOST_BRANCHES_trees" 3) rfl)
    mg_LETTERS := He.str_ok X G (c.fact 42 (f := .str "LETTERS" "abcdefghijklmnopqrstuvwxyz") rfl)
    mg_TradeError := He.glo_ok X G (c.fact 43 (f := .glo "TradeError") rfl)
    mg_Missing := He.glo_ok X G (c.fact 44 (f := .glo "Missing") rfl)
    mg_NothingLeft := He.glo_ok X G (c.fact 45 (f := .glo "NothingLeft") rfl)
    mg_InvalidSign := He.glo_ok X G (c.fact 46 (f := .glo "InvalidSign") rfl)
    mg_InvalidBranches := He.glo_ok X G (c.fact 47 (f := .glo "InvalidBranches") rfl)
    fs_TradeError__init := c0.def_s 0 (d := ds_TradeError__init) rfl
    fs_InvalidSign__init := c0.def_s 1 (d := ds_InvalidSign__init) rfl
    fs_InvalidBranches__init := c0.def_s 2 (d := ds_InvalidBranches__init) rfl
    xc_InvalidSign := excB_ok bsVE (c.ex_ 2 (f := excB "InvalidSign" "ValueError.__new__" bmVE) rfl)
    xf_InvalidSign := xfB_ok (c.ex_ 3 (f := (fun K => xfB K (He.ga K "InvalidSign"))) rfl)
    nx_InvalidSign := of_decide_eq_true (c.ex_ 4 (f := (fun K => decide (PySem.W.mroIn K (He.ga K "InvalidSign") (.ref (He.ga K "InvalidSign")) = some true ∧ PySem.W.ks_superIn K (He.ga K "InvalidSign") (He.ga K "InvalidSign") "__init__" = some (some (.ref (He.ma K (He.ga K "TradeError") "__init__"))) ∧ PySem.W.nsIn K cStatics "thirdparty.any" = some none))) rfl)
    nxt_InvalidSign := of_decide_eq_true (c.ex_ 5 (f := (fun K => decide (PySem.W.mroIn K (He.ga K "InvalidSign") (.ref (He.ga K "TradeError")) = some true ∧ PySem.W.ks_superIn K (He.ga K "InvalidSign") (He.ga K "TradeError") "__init__" = some (some (.builtin "ValueError.__init__")) ∧ PySem.W.nsIn K cStatics "thirdparty.any" = some none))) rfl)
    sub_InvalidSign := of_decide_eq_true (c.ex_ 6 (f := (fun K => decide (PySem.W.subIn K (.ref (He.ga K "InvalidSign")) (.type "ValueError") = some true))) rfl)
    ic_InvalidSign := of_decide_eq_true (c.ex_ 7 (f := (fun K => decide (PySem.W.findIn K (.ref (He.ga K "InvalidSign")) "__init__" = some (some (.ref (He.ma K (He.ga K "InvalidSign") "__init__"))) ∧ PySem.W.typeIn K (.ref (He.ma K (He.ga K "InvalidSign") "__init__")) = some (.type "function")))) rfl)
    nox_InvalidSign_word := of_decide_eq_true (c.ex_ 8 (f := (fun K => decide (PySem.W.findIn K (.ref (He.ga K "InvalidSign")) "word" = some none))) rfl)
    nox_InvalidSign_given := of_decide_eq_true (c.ex_ 9 (f := (fun K => decide (PySem.W.findIn K (.ref (He.ga K "InvalidSign")) "given" = some none))) rfl)
    em_InvalidSign := of_decide_eq_true (c.ex_ 10 (f := (fun K => decide (PySem.W.exmAny K (.ref (He.ga K "InvalidSign")) [.ref (He.ga K "TradeError"), .ref (He.ga K "Missing")] = some true))) rfl)
    xc_InvalidBranches := excB_ok bsVE (c.ex_ 11 (f := excB "InvalidBranches" "ValueError.__new__" bmVE) rfl)
    xf_InvalidBranches := xfB_ok (c.ex_ 12 (f := (fun K => xfB K (He.ga K "InvalidBranches"))) rfl)
    nx_InvalidBranches := of_decide_eq_true (c.ex_ 13 (f := (fun K => decide (PySem.W.mroIn K (He.ga K "InvalidBranches") (.ref (He.ga K "InvalidBranches")) = some true ∧ PySem.W.ks_superIn K (He.ga K "InvalidBranches") (He.ga K "InvalidBranches") "__init__" = some (some (.ref (He.ma K (He.ga K "TradeError") "__init__"))) ∧ PySem.W.nsIn K cStatics "thirdparty.any" = some none))) rfl)
    nxt_InvalidBranches := of_decide_eq_true (c.ex_ 14 (f := (fun K => decide (PySem.W.mroIn K (He.ga K "InvalidBranches") (.ref (He.ga K "TradeError")) = some true ∧ PySem.W.ks_superIn K (He.ga K "InvalidBranches") (He.ga K "TradeError") "__init__" = some (some (.builtin "ValueError.__init__")) ∧ PySem.W.nsIn K cStatics "thirdparty.any" = some none))) rfl)
    sub_InvalidBranches := of_decide_eq_true (c.ex_ 15 (f := (fun K => decide (PySem.W.subIn K (.ref (He.ga K "InvalidBranches")) (.type "ValueError") = some true))) rfl)
    ic_InvalidBranches := of_decide_eq_true (c.ex_ 16 (f := (fun K => decide (PySem.W.findIn K (.ref (He.ga K "InvalidBranches")) "__init__" = some (some (.ref (He.ma K (He.ga K "InvalidBranches") "__init__"))) ∧ PySem.W.typeIn K (.ref (He.ma K (He.ga K "InvalidBranches") "__init__")) = some (.type "function")))) rfl)
    nox_InvalidBranches_word := of_decide_eq_true (c.ex_ 17 (f := (fun K => decide (PySem.W.findIn K (.ref (He.ga K "InvalidBranches")) "word" = some none))) rfl)
    em_InvalidBranches := of_decide_eq_true (c.ex_ 18 (f := (fun K => decide (PySem.W.exmAny K (.ref (He.ga K "InvalidBranches")) [.ref (He.ga K "TradeError"), .ref (He.ga K "Missing")] = some true))) rfl)
    ty_TE := of_decide_eq_true (c.ex_ 19 (f := (fun K => decide (PySem.W.typeIn K (.ref (He.ma K (He.ga K "TradeError") "__init__")) = some (.type "function") ∧ PySem.W.fnIn K (He.ma K (He.ga K "TradeError") "__init__") = true))) rfl)
    eq_Tree := eqB_ok (c.ex_ 20 (f := eqB "Tree") rfl)
    nf_Tree_Tree := c.ex_ 21 (f := nfB "Tree" (rC "Tree")) rfl
    nf_Tree_str := c.ex_ 22 (f := nfB "Tree" (fun _ => .type "str")) rfl
    nf_Tree_tuple := c.ex_ 23 (f := nfB "Tree" (fun _ => .type "tuple")) rfl
    kis_NoneType := kitB_ok (c.ex_ 24 (f := kitB (fun _ => .type "NoneType") (rC "Tree") false) rfl)
    kis_bool := kitB_ok (c.ex_ 25 (f := kitB (fun _ => .type "bool") (rC "Tree") false) rfl)
    kis_int := kitB_ok (c.ex_ 26 (f := kitB (fun _ => .type "int") (rC "Tree") false) rfl)
    kis_str := kitB_ok (c.ex_ 27 (f := kitB (fun _ => .type "str") (rC "Tree") false) rfl)
    kis_list := kitB_ok (c.ex_ 28 (f := kitB (fun _ => .type "list") (rC "Tree") false) rfl)
    kis_tuple := kitB_ok (c.ex_ 29 (f := kitB (fun _ => .type "tuple") (rC "Tree") false) rfl)
    te_str := of_decide_eq_true (c.ex_ 30 (f := (fun K => decide (PySem.W.findIn K (.ref (He.ga K "Tree")) "__str__" = some (some (.ref (He.ma K (He.ga K "Tree") "__str__"))) ∧ PySem.W.isFn K (.ref (He.ma K (He.ga K "Tree") "__str__")) = true))) rfl)
    te_repr := of_decide_eq_true (c.ex_ 31 (f := (fun K => decide (PySem.W.findIn K (.ref (He.ga K "Tree")) "__repr__" = some (some (.ref (He.ma K (He.ga K "Tree") "__repr__"))) ∧ PySem.W.isFn K (.ref (He.ma K (He.ga K "Tree") "__repr__")) = true))) rfl)
    cv_MOST := cvB_ok (crB_ok (c.ex_ 32 (f := crB "Tree") rfl)) (c.ex_ 33 (f := cvB "Tree" "MOST_BRANCHES" 3) rfl)
  }
end K1
open PySem PySem.W PySem.Calls PyProof.Rows
theorem PySem.Challenge.cw_piecetrade_k01_trees_made_and_refused_holds : PySem.Challenge.rw_piecetrade_k01_trees_made_and_refused.Holds := by
  w_on; o_law
  refine HandSHeadRun.head_any (r := OpenLaw.row PySem.Challenge.rw_piecetrade_k01_trees_made_and_refused) (q := view (OpenLaw.row PySem.Challenge.rw_piecetrade_k01_trees_made_and_refused).prog [31]) (H := K1.hk) (ob := K1.ob) (M := 6000) (loose := K1.loose) (d := HandSHeadRun.topDef (OpenLaw.row PySem.Challenge.rw_piecetrade_k01_trees_made_and_refused).prog 31) (kwd := []) K1.ob_eq
    (by kernel_rfl) (fun s => by kernel_rfl) K1.run (by kernel_rfl) (by kernel_rfl) (by kernel_rfl) (by rfl) (by first | assumption | decide +kernel) (by decide +kernel) ⟨rfl, rfl, rfl, rfl, rfl, by decide +kernel⟩ ?hw ?hc
  case hw => w_witness2
  case hc =>
    refine LamX.walk_ofTsE (l := PySem.Challenge.rw_piecetrade_k01_trees_made_and_refused) (n := 63) (k := 201) (x := "_law_script") (CX := fun w => L2.CX (PySem.Challenge.rw_piecetrade_k01_trees_made_and_refused).prog w) rfl (by decide) (by kernel_rfl) ⟨rfl, by decide, by decide⟩ ?F (fun _ _ _ _ _ z => L3.cx_no z)
    intro w mg fa h Y G hmg0
    obtain ⟨K, KX, c0⟩ := Y
    have tx := K1.tx_of KX G c0
    have hmg : mg ("law" : PySem.Str) = some (.ref fa) := by
      have e : (HandSHeadRun.topDef (OpenLaw.row PySem.Challenge.rw_piecetrade_k01_trees_made_and_refused).prog 31).name = ("law" : PySem.Str) := by kernel_rfl
      rw [← e]
      exact hmg0
    have e := hmg.symm.trans tx.mg_law
    cases e
    obtain ⟨fd, FD⟩ := tx.fd_law
    have b := L2.FunD.bindsA (ps := ["_law_script"]) FD fun _ _ _ _ _ _ us hl => match us, hl with | [_], _ => rfl
    have pf : L3.PrgF (PySem.Challenge.rw_piecetrade_k01_trees_made_and_refused).prog PySem.Challenge.pw_piecetrade_k01_trees_made_and_refused.main.file := ⟨beq_self_eq_true _, by kernel_rfl⟩
    refine ⟨K, KX, fd, [He.cT K ("law", none)], L3.sp_lawT K (K1.TT K), fun p hp => ?_, fun p hp => ?_, fun p hp => ?_, fun s v => b s [v] rfl, fun H a ns hl _ hH hS => ⟨a, ns, rfl, fun p hp => ?_, hS, hl, fun _ => rfl⟩, fun base _ _ tb => K1.ok_law tx pf (tb _ List.mem_cons_self) FD⟩
    · cases List.mem_singleton.mp hp
      exact c0.empty _ List.mem_cons_self
    · cases List.mem_singleton.mp hp
      exact c0.out _ List.mem_cons_self
    · cases List.mem_singleton.mp hp
      exact PySem.W.codeHd_of_K KX (c0.hd _ List.mem_cons_self)
    · cases List.mem_singleton.mp hp
      exact hH _ List.mem_cons_self
