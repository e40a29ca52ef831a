import PyProof.Rows.All
import Wide.All
import OpenK.AllK
import Wide.FinOn
import PyProof.EqAt
import PyProof.EqKinds
import PyProof.TupleCall
import HandS.Base
import HandS.Call
import HandS.Exc
import HandS.ExcOwn
import HandS.TryMany
import HandS.ExcCtx
import HandS.Hot
import HandS.HotCalls
import HandS.RaiseFrom
import HandS.SuiteRaise
import KE.KLam
import KE.KDflt
import HandS.ForMost
import HandS.Lambda
import HandS.WordsExc
import HandS.CallSlots
import HandS.TupAny
import HandS.FStr
import HandS.IsInst
import HandS.Zip
import HandS.Small
import HandS.Defaults
import HandS.Star
import HandS.More
import PyProof.InstEq
import PyProof.InstNe
import HandS.ClsMeth
import KE.DataMinMax
import PyProof.Rows.CallKwBuiltin
import KE.DataCmp
import KE.GoesEnum
import KE.KStateDown
import HandS.Head0
import HandS.Head1
import HandS.Head2
import HandS.HeadEnd
import HandS.HeadHook1
import HandS.HeadHook2
import HandS.HeadNt
import KE.KExcSuper
import KE.KExcInit
import HandS.ExcInit
import KE.KSuper
import HandS.ExcInitHot
import HandS.ExcField
import KE.KTryMore
import KE.KAsSuite
import HandS.HeadHook4
import HandS.HeadWalk
import HandS.EndTab
import HandS.NestedK
import HandS.MakeKwOnly
import KE.KFmtOwn
import PyProof.InstSpecial
import HandS.NoneIn
import HandS.GenList
import HandS.GenCall
import KE.KUnpackStar
import HandS.ExcValue
import KE.SortKeyHeap
import HandS.SortKw
import HandS.DictComp
import HandS.Iter
import HandS.Deep
import HandS.OwnEq
import OpenK.KOps
import HandS.Comp
import HandS.Style
import HandS.Conv
import HandS.ListItems
import HandS.WordsDict
import KE.GoesZip
import KE.GoesMore
import KE.KDictZip
import KE.KItemsList
import PyProof.ListNew
import HandS.BoundDict
import KE.KDictLaws
import KE.KeyNested
import KE.KDictKeyed
import HandS.TupSets
import HandS.SetBool
import PySem.Challenge.RW_piecetrade_k17_machines_made_and_refused
set_option Elab.async false
set_option linter.all false
set_option maxRecDepth 100000
set_option maxHeartbeats 4000000
namespace L2C
open PySem PySem.Spec PyProof.Rows L2
/-- the chain of contexts behind a value: it ends,it stands in the ground,none of it is tracked -/
inductive GC (B:Heap) (H:Hp):Value->Prop
  | nil:GC B H .none
  | link {x:Addr}{o:Obj}{vs:Array Value}{c:Value}:B.get? x=some o->o.data=.fields vs->vs[2]?=some c->H x=none->GC B H c->GC B H (.ref x)
theorem GC.up {B B':Heap}{H:Hp}{c:Value} (h:GC B H c) (k:∀ b o vs,B.get? b=some o->o.data=.fields vs->B'.get? b=some o):GC B' H c:=by
  induction h with
  | nil=>exact .nil
  | link h1 h2 h3 h4 _ ih=>exact .link (k _ _ _ h1 h2) h2 h3 h4 ih
def CtxV(c:Value) (o:Obj):Prop:=∀ vs:Array Value,o.data=.fields vs->vs[2]?=some c
theorem ctxv_steady {c:Value}:PXN.Steady1 (CtxV c):=fun o v h=>by
  rcases o with ⟨k1,k2,dt,k4⟩
  intro vs e
  cases dt with
  | fields w =>
    cases e
    show(w.setIfInBounds 1 v)[2]?=some c
    rw[Array.getElem?_setIfInBounds_ne (by decide)]
    exact h w rfl
  | _=>cases e
/-- what is kept of the exception's object: class,dict,context -/
def Zk(cls:Value) (d:Option Addr) (c:Value):Obj->Prop:=fun o=>o.cls=cls/\o.dict=d/\CtxV c o
theorem Zk.steady {cls:Value}{d:Option Addr}{c:Value}:PXN.Steady1 (Zk cls d c):=fun o v h=>⟨PXN.steady_cls o v h.1,PXN.steady_dict o v h.2.1,ctxv_steady o v h.2.2⟩
theorem Zk.zc {cls:Value}{d:Option Addr}{c:Value}{o:Obj} (h:Zk cls d c o):Zc cls d o:=⟨h.1,h.2.1⟩
theorem zn_zk {cls:Value}{d:Option Addr}{o:Obj} (h:L2N.Zn cls d o):Zk cls d .none o:=⟨h.1,h.2.1,h.2.2⟩
theorem sky_imp {B:Heap}{l:List Env}{a L:Addr}{Z Z':Obj->Prop}{h:Heap} (z:∀ o,Z o->Z' o) (x:Sky B l a Z L h):Sky B l a Z' L h:=by
  rcases x with ⟨x1,x2,x3,oe,vs,x4,x5,x6⟩ | x | ⟨x1,x2,x3,x4⟩
  . exact .inl ⟨x1,x2,x3,oe,vs,x4,z _ x5,x6⟩
  . exact .inr (.inl (L2H.flyingZ_imp z x))
  . exact .inr (.inr ⟨x1,x2,x3,L2H.tracedZ_imp z x4⟩)
/-- an exception in the air of X,with its chain -/
def XE(X:Cx) (W:WX) (u:Value) (t:Shared):Prop :=
  ∃ (a:Addr) (B:Heap) (r:Shared) (pins:List (Addr × Obj)) (σ:L2.St) (H:Hp) (cls:Value) (d:Option Addr) (c:Value),
    u=.ref a/\Inv X pins σ H r/\(∀ b o,r.heap.get? b=some o->b∉frs X.stack->B.get? b=some o)/\r.heap.UpToSlots t.heap /\
      Sky B X.stack a (Zk cls d c) X.env.locals t.heap/\GC B H c/\H a=none/\t.os=r.os/\AllBare t.gens/\W cls d σ H
def Takes(X:Cx) (W:WX):Prop:=∀ u t,XE X W u t->X.xe u t
theorem Takes.imp {X:Cx}{W W':WX} (k:Takes X W) (h:∀ c d σ H,W' c d σ H->W c d σ H):Takes X W':=fun u t ⟨a,B,r,pins,σ,H,cls,d,c,e,I,x1,x2,x3,x4,x5,x6,x7,w⟩ =>
  k u t ⟨a,B,r,pins,σ,H,cls,d,c,e,I,x1,x2,x3,x4,x5,x6,x7,h _ _ _ _ w⟩
theorem Takes.toN {X:Cx}{W:WX} (k:Takes X W):L2N.Takes X W:=fun u t ⟨a,B,r,pins,σ,H,cls,d,e,I,x1,x2,x3,x5,x6,x7,w⟩ =>
  k u t ⟨a,B,r,pins,σ,H,cls,d,.none,e,I,x1,x2,sky_imp (fun _=>zn_zk) x3,.nil,x5,x6,x7,w⟩
/-- behind a call that let an exception out -/
def CX(P:Program) (w:World) (outer:List Env) (H:Hp) (s:Shared) (E:XK) (u:Value) (t:Shared):Prop :=
  ∃ (a:Addr) (B:Heap) (H':Hp) (cls:Value) (d:Option Addr) (c:Value),u=.ref a/\HandSPX.FlyingZ B outer a (Zk cls d c) t.heap/\HOk P w H' B/\UB (frs outer) H H' s.heap B t.heap/\GC B H' c/\H' a=none/\t.os=s.os/\AllBare t.gens/\E cls d H'
theorem CX.ofN {P:Program}{w:World}{outer:List Env}{H:Hp}{s:Shared}{E:XK}{u:Value}{t:Shared} (k:L2N.CX P w outer H s E u t):CX P w outer H s E u t:=by
  obtain⟨a,B,H',cls,d,e,x1,x2,x3,x4⟩:=k
  exact⟨a,B,H',cls,d,.none,e,L2H.flyingZ_imp (fun _=>zn_zk) x1,x2,x3,.nil,x4⟩
theorem CX.old {P:Program}{w:World}{outer:List Env}{H:Hp}{s:Shared}{E:XK}{u:Value}{t:Shared} (k:CX P w outer H s E u t):L2.CX P w outer H s E u t:=by
  obtain⟨a,B,H',cls,d,c,e,x1,x2,x3,_,x4⟩:=k
  exact⟨a,B,H',cls,d,e,L2H.flyingZ_imp (fun _ z=>z.zc) x1,x2,x3,x4⟩
section
variable {X:Cx}{pins:List (Addr × Obj)}{σ:L2.St}{H:Hp}{r s t:Shared}{W:WX}{E:XK}
theorem XE.of_call(I:Inv X pins σ H s) (hW:∀ cls d H',E cls d H'->W cls d σ H') {u:Value} (k:CX X.prog X.w X.stack H s E u t):XE X W u t:=by
  obtain⟨a,B,H1,cls,d,c,eu,fl,hk,ub,gc,na,os,ag,q⟩:=k
  obtain⟨G,in_,out_⟩:=restrict t.heap fun b=>(B.get? b).isSome||decide (b∈frs X.stack)
  have up:∀ b o,B.get? b=some o->G.get? b=some o:=fun b o e=>(in_ b (by simp[e])).trans (fl.1 b o e)
  have fr:∀ b,b∈frs X.stack->G.get? b=t.heap.get? b:=fun b m=>in_ b (by simp[m])
  have of_:∀ b o,G.get? b=some o->t.heap.get? b=some o/\((B.get? b).isSome=true\/b∈frs X.stack):=fun b o e=>by
    by_cases z:((B.get? b).isSome||decide (b∈frs X.stack))=true
    . rw[in_ b z] at e
      exact⟨e,by simpa [Bool.or_eq_true] using z⟩
    . rw[out_ b (by simpa using z)] at e; cases e
  refine⟨a,B,{s with heap:=G,gens:=t.gens,drawn:=t.drawn,toks:=t.toks},pins,σ,H1,cls,d,c,eu,?_,fun b o e m=>?_,Heap.UpToSlots.of_keeps fun b o e=>(of_ b o e).1,.inr (.inl fl),gc,na,os,ag,hW _ _ _ q⟩
  . refine I.call (ch:=[]) ⟨fun b o e n m _=>up b o (ub.keep b o e n m),fun b o e n m _=>?_,fun b o e n _=>ub.free b o e n,fun b o e _=>?_,ub.tups,ub.frzs,ub.tbls⟩ (hk.kept up) ag (fun _ z=>nomatch z)
    . obtain⟨sl,z⟩:=ub.slot b o e m
      exact⟨sl,(fr b m).trans z⟩
    . by_cases m:b∈frs X.stack
      . obtain⟨sl,z⟩:=ub.slot b o e m
        exact⟨_,(fr b m).trans z⟩
      . obtain⟨o',z⟩:=ub.there b o e m
        exact⟨o',up b o' z⟩
  . obtain⟨e1,z | z⟩:=of_ b o e
    . obtain⟨o',y⟩:=Option.isSome_iff_exists.mp z
      have y2:=fl.1 b o' y
      rw[e1] at y2
      cases y2
      exact y
    . exact absurd z m
/-- it leaves the def -/
theorem XE.leave(hs:X.stack=X.env::X.outer) (hf:X.env.frame=some X.env.locals) (hex:X.ex=[]) {E₁:Value->Shared->Prop} (hW:∀ cls d σ H,W cls d σ H->E cls d H) {u:Value} (x:XE X W u t) :
    wpAny (model X.prog X.w) X.A (leaving X.env u) (fun _ t2=>CX X.prog X.w X.outer X.H_0 X.s_0 E u t2) E₁ t:=by
  obtain⟨a,B,r,pins,σ,H,cls,d,c,eu,I,nb,up,sky,gc,na,os,ag,w⟩:=x
  subst eu
  have hA:X.A.frames=some (X.env::X.outer):=by rw[I.ok.frames,hs]
  have off:∀ b o,X.s_0.heap.get? b=some o->b∉X.fs->b∉frs X.stack:=fun b o e m z=>by
    rcases List.mem_cons.mp (I.stkSub b z) with z | z
    . have h1:=Heap.lt_size e
      have h2:=I.ok.above
      rw[z] at h1
      exact Nat.lt_irrefl _ (Nat.lt_of_lt_of_le h1 h2)
    . exact m z
  have nex:∀ b,b∉X.ex:=fun b m=>by rw[hex] at m; cases m
  have fin:∀ h2,HandSPX.FlyingZ B X.outer a (Zk cls d c) h2->t.heap.UpToSlots h2->CX X.prog X.w X.outer X.H_0 X.s_0 E (.ref a) {t with heap:=h2}:=fun h2 fl up2=>by
    refine⟨a,B,H,cls,d,c,rfl,fl,I.inGround nb,⟨fun b o e n m=>nb b o (I.base.keep b o e n m (nex b)) (off b o e m),fun b o e m=>?_,fun b o e n=>I.base.free b o e n (nex b),fun b o e m=>?_,I.base.tups,I.base.frzs,I.base.tbls⟩,
      gc,na,os.trans I.os,ag,hW _ _ _ _ w⟩
    . obtain⟨_,o1,e1,nf⟩:=I.ok.funs.mem m
      rw[e] at e1; cases e1
      obtain⟨sl,z1⟩:=I.base.slot b o e (I.ok.frf b m) m (nex b)
      obtain⟨_,z2⟩:=up b _ z1 nf
      obtain⟨sl3,z3⟩:=up2 b _ z2 nf
      exact⟨sl3,z3⟩
    . obtain⟨o',z⟩:=I.base.there b o e (nex b)
      exact⟨o',nb b o' z (off b o e m)⟩
  rw[hs] at sky
  rcases sky with ⟨k1,k2,k3,oe,vs,k4,k5,k6,k7⟩ | k | k
  . exact PXN.leaving_firstZ Zk.steady hA k3 hf k4 k1 k2 k6 k7 k5 fin
  . exact PXN.leaves_onZ Zk.steady hA hf k fin
  . exact HandSPX.leaves_heldZ hf k fin
theorem takes_of (hs : X.stack = X.env :: X.outer) (hf : X.env.frame = some X.env.locals) (hex : X.ex = []) {E₁ : Value -> Shared -> Prop}
    (hx:X.xe=fun e t=>wpAny (model X.prog X.w) X.A (leaving X.env e) (fun _ t2=>CX X.prog X.w X.outer X.H_0 X.s_0 E e t2) E₁ t):Takes X (fun cls d _ H=>E cls d H):=fun u t x=>by
  rw[hx]
  exact XE.leave (W:=fun cls d _ H=>E cls d H) (E:=E) hs hf hex (fun _ _ _ _ h=>h) x
theorem passAt(tk:Takes X W) (σ:L2.St):PassesAt (CX X.prog X.w) X σ (WE W σ):=fun _ _ _ e t I k=>tk e t (XE.of_call I (fun _ _ _ h=>h) k)
theorem ps_raise {e:Expr}{T:L2.St->Hp->XK->Prop}{pos:Pos} (hc:X.calm=true) (tk:Takes X W) (he:L2N.PMk X e T):PS X (.Raise (some e) none pos) (fun _ σ H=>T σ H fun cls d H'=>W cls d σ H'):=L2N.ps_raise hc tk.toN he
end
section
variable {prog:Program}{w:World}{A:Around}{E:Value->Shared->Prop}{s:Shared}
def Nx(G:Heap) (x:Addr) (c:Value):Prop:=∃ o vs,G.get? x=some o/\o.data=.fields vs/\vs[2]?=some c
inductive Rc (G:Heap):Addr->Addr->Prop
  | refl {x:Addr}:Rc G x x
  | step {x y z:Addr}:Nx G x (.ref y)->Rc G y z->Rc G x z
theorem Rc.snoc {G:Heap}{x y z:Addr} (h:Rc G x y) (n:Nx G y (.ref z)):Rc G x z:=by
  induction h with
  | refl=>exact .step n .refl
  | step n1 _ ih=>exact .step n1 (ih n)
theorem Rc.next {G:Heap}{x y z:Addr} (h:Rc G x y) (n:Nx G y (.ref z)):∃ t,Nx G x (.ref t)/\Rc G t z:=by
  cases h with
  | refl=>exact⟨z,n,.refl⟩
  | step n1 r=>exact⟨_,n1,r.snoc n⟩
end
/-- a chain among what is pinned -/
inductive PC (pn:List (Addr × Obj)):Value->Prop
  | nil:PC pn .none
  | link {p:Addr × Obj}{vs:Array Value}{c:Value}:p∈pn->p.2.data=.fields vs->vs[2]?=some c->PC pn c->PC pn (.ref p.1)
theorem PC.mono {pn pn':List (Addr × Obj)}{c:Value} (h:PC pn c) (k:∀ p∈pn,p∈pn'):PC pn' c:=by
  induction h with
  | nil=>exact .nil
  | link h1 h2 h3 _ ih=>exact .link (k _ h1) h2 h3 ih
end L2C
namespace PySem.W
open PySem
theorem lam_defaultsOf_eq(args:Arguments) (env:Env):defaultsOf args env=(evalEach args.defaults env,evalEachOpt args.kw_defaults env):=by cases args; rfl
end PySem.W
namespace L3
open PySem PySem.Spec PyProof.Rows L2
/-- a lambda's text -/
structure LamC where
  qual:Str
  params:Arguments
  body:Expr
  scope:Scope
/-- a value with all that it holds; exc: an own exception held as a value; clo: a lambda with what it captured; lam: the same within its maker,with the maker's cells; dic: a dict that stays -/
inductive D where
  | non | bl (b:Bool) | int (i:Int) | str (x:Str) | ty (n:String) | ref (a:Addr)
  | tup (ds:List D) | lst (ds:List D) | ins (C:Addr) (fs:List (Str × D))
  | exc (C:Addr) (fs:List (Str × D)) | clo (L:LamC) (ds:List D) | lam (L:LamC) (cl:List (Str × Addr)) | dic (kvs:List (Key × D)) | dicT (kvs:List (List Key × D))
instance:Inhabited D:=⟨.non⟩
/-- the names that a lambda captures,as its closure keeps them -/
def lamN(sc:Scope):List Str:=((sc.names.filter fun y=>y.2==.free).map (·.1)).reverse
theorem defaults_nil {params:Arguments}{env:Env} (h:defaultsOf params env=([],[])):params.defaults=[]:=by
  rw[PySem.W.lam_defaultsOf_eq] at h
  have h1:evalEach params.defaults env=[]:=congrArg Prod.fst h
  cases e:params.defaults with
  | nil=>rfl
  | cons a r =>
    rw[e] at h1
    cases h1
/-- the defaults of a lambda (none,or one),as its function object holds them -/
def DvAt(R:Hp) (ps:Arguments) (dV:Value):Prop:=(ps.defaults=[]/\dV=.none)\/(ps.defaults≠[]/\∃ t v,dV=.ref t/\R t=some (.frz (PySem.W.kdv_tup [v]) (.ext fun _=>True)))
theorem DvAt.mono {R R':Hp} (s:Same R R') {ps:Arguments}{dV:Value} (h:DvAt R ps dV):DvAt R' ps dV:=by
  rcases h with h | ⟨h1,t,v,h2,h3⟩
  . exact .inl h
  . exact .inr ⟨h1,t,v,h2,s _ _ h3⟩
/-- a lambda's function object lies at f -/
def LamAt(R:Hp) (L:LamC) (cl:List (Str × Addr)) (f:Addr):Prop:=∃ (c:Addr) (pm ctv dV doc:Value) (o:HO),R f=some o/\(∀ P w H h,ObjOk P w H h f o->h.get? f=some (PySem.W.kdv_obj "<lambda>" L.qual L.params (.expr L.body) L.scope cl dV doc pm c ctv))/\R c=some (LamX.CodeO c L.qual) /\
  cl.map (·.1)=lamN L.scope/\(∀ x y a,cl.lookup x=some a->cl.lookup y=some a->x=y)/\DvAt R L.params dV
/-- the cells hold these values,tracked for a while -/
def CellsAt(R:Hp):List (Str × Addr)->List V->Prop
  | [],vs=>vs=[]
  | (_,c)::r,vs=>∃ v t x u,vs=v::t/\R c=some (.frz x (.ext fun _=>True))/\x.data=.cell (some u)/\RelV v u/\CellsAt R r t
/-- an exception's object at a,its dict at dx -/
def ExcAt(R:Hp) (C dx a:Addr):Prop:=∃ o:HO,R a=some o/\∀ P w H h,ObjOk P w H h a o->∃ (oe:Obj) (vs:Array Value),h.get? a=some oe/\oe.cls=.ref C/\oe.dict=some dx/\oe.data=.fields vs
theorem LamAt.mono {R R':Hp} (s:Same R R') {L:LamC}{cl:List (Str × Addr)}{f:Addr} (h:LamAt R L cl f):LamAt R' L cl f:=by
  obtain⟨c,pm,ctv,dV,doc,φ,h1,h2,h3,h4,h5,h6⟩:=h
  exact⟨c,pm,ctv,dV,doc,φ,s _ _ h1,h2,s _ _ h3,h4,h5,h6.mono s⟩
theorem CellsAt.mono {R R':Hp} (s:Same R R'):∀ {cl:List (Str × Addr)}{vs:List V},CellsAt R cl vs->CellsAt R' cl vs
  | [],_,h=>h
  | (x,c)::r,vs,h=>by
    obtain⟨v,t,φ,u,e,h1,h2,h3,h4⟩:=h
    exact⟨v,t,φ,u,e,s _ _ h1,h2,h3,CellsAt.mono s h4⟩
theorem ExcAt.mono {R R':Hp} (s:Same R R') {C dx a:Addr} (h:ExcAt R C dx a):ExcAt R' C dx a:=by
  obtain⟨φ,h1,h2⟩:=h
  exact⟨φ,s _ _ h1,h2⟩
mutual
def Rep(K:PySem.W.Frag) (R:Hp):D->V->Prop
  | .non,v=>v=.non
  | .bl b,v=>v=.bl b
  | .int i,v=>v=.int i
  | .str x,v=>v=.str x
  | .ty n,v=>v=.ty n
  | .ref a,v=>v=.ref a
  | .tup ds,v=>∃ p xs,v=.ref p/\R p=some (.tup xs)/\Reps K R ds xs
  | .lst ds,v=>∃ p xs,v=.ref p/\R p=some (.lst xs)/\Reps K R ds xs
  | .ins C fs,v=>∃ p dx fvs,v=.ref p/\R p=some (.ins C dx fvs)/\RepF K R fs fvs
  | .exc C fs,v=>∃ p dx fvs,v=.ref p/\ExcAt R C dx p/\R dx=some (.xd fvs)/\RepF K R fs fvs
  | .clo L ds,v=>∃ f cl xs,v=.ref f/\LamAt R L cl f/\CellsAt R cl xs/\Reps K R ds xs
  | .lam L cl,v=>∃ f,v=.ref f/\LamAt R L cl f
  | .dic kvs,v=>∃ p ob xs,v=.ref p/\R p=some (.frz ob (.dK xs))/\RepK K R kvs xs
  | .dicT kvs,v=>∃ p ob xs,v=.ref p/\R p=some (.frz ob (.dT xs))/\RepT K R kvs xs
def Reps(K:PySem.W.Frag) (R:Hp):List D->List V->Prop
  | [],vs=>vs=[]
  | d::ds,vs=>∃ v r,vs=v::r/\Rep K R d v/\Reps K R ds r
def RepF(K:PySem.W.Frag) (R:Hp):List (Str × D)->List (Str × V)->Prop
  | [],vs=>vs=[]
  | (f,d)::ds,vs=>∃ v r,vs=(f,v)::r/\Rep K R d v/\RepF K R ds r
def RepK(K:PySem.W.Frag) (R:Hp):List (Key × D)->List (Key × V)->Prop
  | [],vs=>vs=[]
  | (f,d)::ds,vs=>∃ v r,vs=(f,v)::r/\Rep K R d v/\RepK K R ds r
def RepT(K:PySem.W.Frag) (R:Hp):List (List Key × D)->List (List Key × V)->Prop
  | [],vs=>vs=[]
  | (f,d)::ds,vs=>∃ v r,vs=(f,v)::r/\Rep K R d v/\RepT K R ds r
end
section
variable {K:PySem.W.Frag}{R R':Hp}
mutual
theorem Rep.mono(s:Same R R'):∀ {d:D}{v:V},Rep K R d v->Rep K R' d v
  | .non,_,h=>h
  | .bl _,_,h=>h
  | .int _,_,h=>h
  | .str _,_,h=>h
  | .ty _,_,h=>h
  | .ref _,_,h=>h
  | .tup ds,v,h=>by
    unfold Rep at h ⊢
    obtain⟨p,xs,e,q,r⟩:=h
    exact⟨p,xs,e,s _ _ q,Reps.mono s r⟩
  | .lst ds,v,h=>by
    unfold Rep at h ⊢
    obtain⟨p,xs,e,q,r⟩:=h
    exact⟨p,xs,e,s _ _ q,Reps.mono s r⟩
  | .ins C fs,v,h=>by
    unfold Rep at h ⊢
    obtain⟨p,dx,xs,e,q,r⟩:=h
    exact⟨p,dx,xs,e,s _ _ q,RepF.mono s r⟩
  | .exc C fs,v,h=>by
    unfold Rep at h ⊢
    obtain⟨p,dx,xs,e,q,q2,r⟩:=h
    exact⟨p,dx,xs,e,q.mono s,s _ _ q2,RepF.mono s r⟩
  | .clo L ds,v,h=>by
    unfold Rep at h ⊢
    obtain⟨f,cl,xs,e,q,q2,r⟩:=h
    exact⟨f,cl,xs,e,q.mono s,q2.mono s,Reps.mono s r⟩
  | .lam L cl,v,h=>by
    unfold Rep at h ⊢
    obtain⟨f,e,q⟩:=h
    exact⟨f,e,q.mono s⟩
  | .dic kvs,v,h=>by
    unfold Rep at h ⊢
    obtain⟨p,ob,xs,e,q,r⟩:=h
    exact⟨p,ob,xs,e,s _ _ q,RepK.mono s r⟩
  | .dicT kvs,v,h=>by
    unfold Rep at h ⊢
    obtain⟨p,ob,xs,e,q,r⟩:=h
    exact⟨p,ob,xs,e,s _ _ q,RepT.mono s r⟩
theorem Reps.mono(s:Same R R'):∀ {ds:List D}{vs:List V},Reps K R ds vs->Reps K R' ds vs
  | [],_,h=>h
  | d::ds,vs,h=>by
    unfold Reps at h ⊢
    obtain⟨v,r,e,h1,h2⟩:=h
    exact⟨v,r,e,Rep.mono s h1,Reps.mono s h2⟩
theorem RepF.mono(s:Same R R'):∀ {ds:List (Str × D)}{vs:List (Str × V)},RepF K R ds vs->RepF K R' ds vs
  | [],_,h=>h
  | (f,d)::ds,vs,h=>by
    unfold RepF at h ⊢
    obtain⟨v,r,e,h1,h2⟩:=h
    exact⟨v,r,e,Rep.mono s h1,RepF.mono s h2⟩
theorem RepK.mono(s:Same R R'):∀ {ds:List (Key × D)}{vs:List (Key × V)},RepK K R ds vs->RepK K R' ds vs
  | [],_,h=>h
  | (f,d)::ds,vs,h=>by
    unfold RepK at h ⊢
    obtain⟨v,r,e,h1,h2⟩:=h
    exact⟨v,r,e,Rep.mono s h1,RepK.mono s h2⟩
theorem RepT.mono(s:Same R R'):∀ {ds:List (List Key × D)}{vs:List (List Key × V)},RepT K R ds vs->RepT K R' ds vs
  | [],_,h=>h
  | (f,d)::ds,vs,h=>by
    unfold RepT at h ⊢
    obtain⟨v,r,e,h1,h2⟩:=h
    exact⟨v,r,e,Rep.mono s h1,RepT.mono s h2⟩
end
theorem Reps.length:∀ {ds:List D}{vs:List V},Reps K R ds vs->vs.length=ds.length
  | [],vs,h=>by
    have e:vs=[]:=h
    rw[e]; rfl
  | d::ds,vs,h=>by
    obtain⟨v,r,e,_,h2⟩:=(show ∃ v r,vs=v::r/\Rep K R d v/\Reps K R ds r from h)
    rw[e,List.length_cons,List.length_cons,Reps.length h2]
theorem Reps.get:∀ {ds:List D}{vs:List V}{i:Nat}{d:D},Reps K R ds vs->ds[i]?=some d->∃ v,vs[i]?=some v/\Rep K R d v
  | [],vs,i,d,h,e=>by simp at e
  | d'::ds,vs,i,d,h,e=>by
    obtain⟨v,r,ev,h1,h2⟩:=(show ∃ v r,vs=v::r/\Rep K R d' v/\Reps K R ds r from h)
    subst ev
    cases i with
    | zero =>
      have:d'=d:=by simpa using e
      subst this
      exact⟨v,rfl,h1⟩
    | succ i =>
      obtain⟨u,q1,q2⟩:=Reps.get h2 (show ds[i]?=some d by simpa using e)
      exact⟨u,by simpa using q1,q2⟩
theorem Reps.append:∀ {ds es:List D}{vs us:List V},Reps K R ds vs->Reps K R es us->Reps K R (ds++es) (vs++us)
  | [],es,vs,us,h,q=>by
    have e:vs=[]:=h
    subst e
    exact q
  | d::ds,es,vs,us,h,q=>by
    obtain⟨v,r,e,h1,h2⟩:=(show ∃ v r,vs=v::r/\Rep K R d v/\Reps K R ds r from h)
    subst e
    exact⟨v,r++us,rfl,h1,Reps.append h2 q⟩
theorem Reps.one {d:D}{v:V} (h:Rep K R d v):Reps K R [d] [v]:=⟨v,[],rfl,h,rfl⟩
theorem Reps.cons {d:D}{v:V}{ds:List D}{vs:List V} (h:Rep K R d v) (q:Reps K R ds vs):Reps K R (d::ds) (v::vs):=⟨v,vs,rfl,h,q⟩
theorem Reps.nil:Reps K R [] []:=rfl
theorem Reps.snoc {d:D}{v:V}{ds:List D}{vs:List V} (q:Reps K R ds vs) (h:Rep K R d v):Reps K R (ds++[d]) (vs++[v]):=q.append (.one h)
theorem Reps.drop:∀ {ds:List D}{vs:List V} (n:Nat),Reps K R ds vs->Reps K R (ds.drop n) (vs.drop n)
  | ds,vs,0,h=>h
  | [],vs,n+1,h=>by
    have e:vs=[]:=h
    subst e
    exact h
  | d::ds,vs,n+1,h=>by
    obtain⟨v,r,e,_,h2⟩:=(show ∃ v r,vs=v::r/\Rep K R d v/\Reps K R ds r from h)
    subst e
    exact Reps.drop n h2
theorem Reps.take:∀ {ds:List D}{vs:List V} (n:Nat),Reps K R ds vs->Reps K R (ds.take n) (vs.take n)
  | ds,vs,0,h=>by
    rw[List.take_zero,List.take_zero]
    exact .nil
  | [],vs,n+1,h=>by
    have e:vs=[]:=h
    subst e
    exact h
  | d::ds,vs,n+1,h=>by
    obtain⟨v,r,e,h1,h2⟩:=(show ∃ v r,vs=v::r/\Rep K R d v/\Reps K R ds r from h)
    subst e
    exact .cons h1 (Reps.take n h2)
theorem Reps.set:∀ {ds:List D}{vs:List V} (n:Nat) {d:D}{v:V},Reps K R ds vs->Rep K R d v->Reps K R (ds.set n d) (vs.set n v)
  | [],vs,n,d,v,h,_=>by
    have e:vs=[]:=h
    subst e
    exact h
  | c::ds,vs,0,d,v,h,q=>by
    obtain⟨u,r,e,h1,h2⟩:=(show ∃ v r,vs=v::r/\Rep K R c v/\Reps K R ds r from h)
    subst e
    exact .cons q h2
  | c::ds,vs,n+1,d,v,h,q=>by
    obtain⟨u,r,e,h1,h2⟩:=(show ∃ v r,vs=v::r/\Rep K R c v/\Reps K R ds r from h)
    subst e
    exact .cons h1 (Reps.set n h2 q)
/-- texts -/
theorem Reps.strs:∀ {xs:List Str}{vs:List V},Reps K R (xs.map D.str) vs->vs=xs.map V.str
  | [],vs,h=>h
  | x::xs,vs,h=>by
    obtain⟨v,r,e,h1,h2⟩:=(show ∃ v r,vs=v::r/\Rep K R (.str x) v/\Reps K R (xs.map D.str) r from h)
    have h3:v=.str x:=h1
    rw[e,h3,Reps.strs h2]
    rfl
theorem Reps.ints:∀ {xs:List Int}{vs:List V},Reps K R (xs.map D.int) vs->vs=xs.map V.int
  | [],vs,h=>h
  | x::xs,vs,h=>by
    obtain⟨v,r,e,h1,h2⟩:=(show ∃ v r,vs=v::r/\Rep K R (.int x) v/\Reps K R (xs.map D.int) r from h)
    have h3:v=.int x:=h1
    rw[e,h3,Reps.ints h2]
    rfl
theorem Reps.bls:∀ {xs:List Bool}{vs:List V},Reps K R (xs.map D.bl) vs->vs=xs.map V.bl
  | [],vs,h=>h
  | x::xs,vs,h=>by
    obtain⟨v,r,e,h1,h2⟩:=(show ∃ v r,vs=v::r/\Rep K R (.bl x) v/\Reps K R (xs.map D.bl) r from h)
    have h3:v=.bl x:=h1
    rw[e,h3,Reps.bls h2]
    rfl
theorem RepF.length:∀ {fs:List (Str × D)}{vs:List (Str × V)},RepF K R fs vs->vs.length=fs.length
  | [],vs,h=>by
    have e:vs=[]:=h
    rw[e]; rfl
  | (f,d)::ds,vs,h=>by
    obtain⟨v,r,e,_,h2⟩:=(show ∃ v r,vs=(f,v)::r/\Rep K R d v/\RepF K R ds r from h)
    rw[e,List.length_cons,List.length_cons,RepF.length h2]
theorem RepF.look:∀ {fs:List (Str × D)}{vs:List (Str × V)}{f:Str}{d:D},RepF K R fs vs->fs.lookup f=some d->∃ v,vs.lookup f=some v/\Rep K R d v
  | [],vs,f,d,h,e=>by cases e
  | (g,c)::ds,vs,f,d,h,e=>by
    obtain⟨v,r,ev,h1,h2⟩:=(show ∃ v r,vs=(g,v)::r/\Rep K R c v/\RepF K R ds r from h)
    subst ev
    by_cases q:(f==g)=true
    . have e2:c=d:=by
        have e3:(match f==g with | true=>some c | false=>ds.lookup f)=some d:=e
        rw[q] at e3
        exact Option.some.inj e3
      subst e2
      refine⟨v,?_,h1⟩
      show(match f==g with | true=>some v | false=>r.lookup f)=some v
      rw[q]
    . have q':(f==g)=false:=by
        cases z:f==g with
        | true=>exact absurd z q
        | false=>rfl
      have e2:ds.lookup f=some d:=by
        have e3:(match f==g with | true=>some c | false=>ds.lookup f)=some d:=e
        rw[q'] at e3
        exact e3
      obtain⟨u,z1,z2⟩:=RepF.look h2 e2
      refine⟨u,?_,z2⟩
      show(match f==g with | true=>some v | false=>r.lookup f)=some u
      rw[q']
      exact z1
theorem RepF.none:∀ {fs:List (Str × D)}{vs:List (Str × V)}{f:Str},RepF K R fs vs->fs.lookup f=Option.none->vs.lookup f=Option.none
  | [],vs,f,h,e=>by
    have e:vs=[]:=h
    subst e
    rfl
  | (g,c)::ds,vs,f,h,e=>by
    obtain⟨v,r,ev,h1,h2⟩:=(show ∃ v r,vs=(g,v)::r/\Rep K R c v/\RepF K R ds r from h)
    subst ev
    have e3:(match f==g with | true=>some c | false=>ds.lookup f)=Option.none:=e
    show(match f==g with | true=>some v | false=>r.lookup f)=Option.none
    cases q:f==g with
    | true =>
      rw[q] at e3
      cases e3
    | false =>
      rw[q] at e3
      exact RepF.none h2 e3
end
/-- a field stored,by what it holds -/
def putD(f:Str) (v:D):List (Str × D)->List (Str × D)
  | []=>[(f,v)]
  | (g,u)::r=>if g=f then (g,v)::r else (g,u)::putD f v r
theorem RepF.put {K:PySem.W.Frag}{R:Hp}{f:Str}{d:D}{v:V} (h:Rep K R d v):∀ {fs:List (Str × D)}{vs:List (Str × V)},RepF K R fs vs->RepF K R (putD f d fs) (putF f v vs)
  | [],vs,q=>by
    have e:vs=[]:=q
    subst e
    exact⟨v,[],rfl,h,rfl⟩
  | (g,c)::ds,vs,q=>by
    obtain⟨u,r,e,h1,h2⟩:=(show ∃ v r,vs=(g,v)::r/\Rep K R c v/\RepF K R ds r from q)
    subst e
    unfold putD putF
    by_cases z:g=f
    . rw[if_pos z,if_pos z]
      exact⟨v,r,rfl,h,h2⟩
    . rw[if_neg z,if_neg z]
      exact⟨u,_,rfl,h1,RepF.put h h2⟩
/-- what is neither a def nor a tuple -/
def NX(o:HO):Prop:=(∀ φ,o≠.ext φ)/\∀ xs,o≠.tup xs
/-- the part of the memory that may change: where it stands,what holds of it -/
structure Wd where
  foot:Addr->Prop
  inv:Hp->Prop
  there:∀ H b,inv H->foot b->∃ o,H b=some o
  ext:∀ H H',inv H->(∀ b o,foot b->H b=some o->H' b=some o)->(∀ b φ,H b=some (.ext φ)->H' b=some (.ext φ))->inv H'
  nt:∀ H b xs,inv H->foot b->H b≠some (.tup xs)
/-- nothing may change -/
def Wd.nil:Wd:=⟨fun _=>False,fun _=>True,fun _ _ _ h=>h.elim,fun _ _ h _ _=>h,fun _ _ _ _ h=>h.elim⟩
/-- a step of the memory: R the part that never changes -/
structure Fin (w:Wd) (R H R' H':Hp):Prop where
  up:Same R R'
  sub:Same R' H'
  keep:∀ b o,H b=some o->¬w.foot b->H' b=some o
  newX:∀ b o,R b=none->H b=some o->NX o->R' b=none
  inv:w.inv H'
  ft:∀ b,w.foot b->R' b=none
structure Bas (w:Wd) (R H:Hp):Prop where
  sub:Same R H
  inv:w.inv H
  ft:∀ b,w.foot b->R b=none
section
variable {w:Wd}{R H R1 H1 R2 H2:Hp}
theorem Fin.new(f:Fin w R H R1 H1) (b:Addr) (o:HO) (h1:R b=none) (h2:H b=some o) (h3:NX o:=by exact And.intro (by intro _ z; cases z) (by intro _ z; cases z)):R1 b=none:=f.newX b o h1 h2 h3
theorem Fin.refl(b:Bas w R H):Fin w R H R H:=⟨fun _ _ h=>h,b.sub,fun _ _ h _=>h,fun _ _ h _ _=>h,b.inv,b.ft⟩
theorem Fin.bas(f:Fin w R H R1 H1):Bas w R1 H1:=⟨f.sub,f.inv,f.ft⟩
theorem Fin.there(f:Fin w R H R1 H1) {b:Addr}{o:HO} (h:H b=some o):∃ u,H1 b=some u:=by
  by_cases q:w.foot b
  . exact w.there _ _ f.inv q
  . exact⟨o,f.keep b o h q⟩
theorem Fin.trans(f:Fin w R H R1 H1) (g:Fin w R1 H1 R2 H2):Fin w R H R2 H2 :=
  ⟨f.up.trans g.up,g.sub,fun b o h q=>g.keep b o (f.keep b o h q) q,fun b o h q n=>by
    by_cases z:w.foot b
    . exact g.ft b z
    . exact g.newX b o (f.newX b o h q n) (f.keep b o q z) n,g.inv,g.ft⟩
/-- a new thing that stays -/
theorem Fin.alloc(b:Bas w R H) {p:Addr}{o:HO} (hp:H p=none):Fin w R H (upd R p o) (upd H p o):=by
  have hn:∀ q,w.foot q->q≠p:=fun q hq e=>by
    obtain⟨u,hu⟩:=w.there _ _ b.inv hq
    rw[e,hp] at hu
    cases hu
  have hR:R p=none:=by
    cases z:R p with
    | none=>rfl
    | some u =>
      rw[b.sub p u z] at hp
      cases hp
  refine⟨fun q u h=>?_,fun q u h=>?_,fun q u h _=>?_,fun q u h1 h2 _=>?_,?_,fun q hq=>?_⟩
  . rw[upd_ne (ne_of_none h hR)]; exact h
  . by_cases e:q=p
    . subst e
      rw[upd_same] at h ⊢
      exact h
    . rw[upd_ne e] at h ⊢
      exact b.sub q u h
  . rw[upd_ne (ne_of_none h hp)]; exact h
  . rw[upd_ne (ne_of_none h2 hp)]; exact h1
  . refine w.ext _ _ b.inv (fun q u hq h=>?_) fun q φ h=>by rw[upd_ne (ne_of_none h hp)]; exact h
    rw[upd_ne (ne_of_none h hp)]; exact h
  . rw[upd_ne (hn q hq)]; exact b.ft q hq
/-- a new thing that may still change -/
theorem Fin.fresh(b:Bas w R H) {p:Addr}{o:HO} (hp:H p=none):Fin w R H R (upd H p o):=by
  refine⟨fun _ _ h=>h,fun q u h=>?_,fun q u h _=>?_,fun _ _ h _ _=>h,?_,b.ft⟩
  . rw[upd_ne (ne_of_none (b.sub q u h) hp)]; exact b.sub q u h
  . rw[upd_ne (ne_of_none h hp)]; exact h
  . refine w.ext _ _ b.inv (fun q u hq h=>?_) fun q φ h=>by rw[upd_ne (ne_of_none h hp)]; exact h
    rw[upd_ne (ne_of_none h hp)]; exact h
end
inductive Sl where
  | no | v (d:D)
  /-- a list,an instance,that this def alone holds: it may change -/
  | ol (p:Addr) (ds:List D) | oi (p:Addr) (C:Addr) (fs:List (Str × D))
def Sl.ad:Sl->Option Addr
  | .ol p _=>some p
  | .oi p _ _=>some p
  | _=>none
def SlOk(K:PySem.W.Frag) (R H:Hp) (o:Option V):Sl->Prop
  | .no=>True
  | .v d=>∃ v,o=some v/\Rep K R d v
  | .ol p ds=>o=some (.ref p)/\∃ xs,H p=some (.lst xs)/\Reps K R ds xs
  | .oi p C fs=>o=some (.ref p)/\∃ dx fvs,H p=some (.ins C dx fvs)/\RepF K R fs fvs
abbrev Ev:=List Sl
/-- an error,by what it holds -/
structure Er where
  C:Addr
  fs:List (Str × D)
/-- what a piece of code runs in: what may change; what is wanted of an error -/
structure Ct where
  wd:Wd
  er:Er->Ev->Prop
structure Sta where
  c:Ct
  R0:Hp
  H0:Hp
  /-- what stays in any case -/
  Rb:Hp
def adAt(env:Ev) (i:Nat):Option Addr:=(env[i]?).bind Sl.ad
structure Ok3 (K:PySem.W.Frag) (S:Sta) (R H:Hp) (σ:L2.St) (env:Ev):Prop where
  fin:Fin S.c.wd S.R0 S.H0 R H
  rb:Same S.Rb R
  sl:Paired (SlOk K R H) σ env
  own:∀ i p,adAt env i=some p->R p=none/\S.H0 p=none/\¬S.c.wd.foot p
  dis:∀ i j p,adAt env i=some p->adAt env j=some p->i=j
section
variable {K:PySem.W.Frag}{S:Sta}{R H R' H':Hp}{σ:L2.St}{env:Ev}
theorem pair_get {α β:Type}{F:α->β->Prop}:∀ {xs:List α}{ys:List β}{i:Nat}{y:β},Paired F xs ys->ys[i]?=some y->∃ x,xs[i]?=some x/\F x y
  | _,_,i,_,.nil,e=>by simp at e
  | _,_,0,_,.cons r _,e=>by
    simp at e
    subst e
    exact⟨_,rfl,r⟩
  | _,_,i+1,_,.cons _ t,e=>by
    obtain⟨x,h1,h2⟩:=pair_get (i:=i) t (by simpa using e)
    exact⟨x,by simpa using h1,h2⟩
theorem pair_set {α β:Type}{F:α->β->Prop}{x:α}{y:β} (h:F x y):∀ {xs:List α}{ys:List β} (i:Nat),Paired F xs ys->Paired F (xs.set i x) (ys.set i y)
  | _,_,_,.nil=>.nil
  | _,_,0,.cons _ t=>.cons h t
  | _,_,i+1,.cons r t=>.cons r (pair_set h i t)
theorem pair_imp {α β:Type}{F G:α->β->Prop}:∀ {xs:List α}{ys:List β},Paired F xs ys->(∀ (i:Nat) (x:α) (y:β),xs[i]?=some x->ys[i]?=some y->F x y->G x y)->Paired G xs ys
  | _,_,.nil,_=>.nil
  | _,_,.cons r t,f=>.cons (f 0 _ _ rfl rfl r) (pair_imp t fun i x y h1 h2=>f (i+1) x y (by simpa using h1) (by simpa using h2))
theorem Ok3.bas(o:Ok3 K S R H σ env):Bas S.c.wd R H:=o.fin.bas
theorem SlOk.through {w:Wd}{o:Option V}{s:Sl} (f:Fin w R H R' H') (h:SlOk K R H o s) (ho:∀ p,s.ad=some p->¬w.foot p):SlOk K R' H' o s:=by
  cases s with
  | no=>trivial
  | v d =>
    obtain⟨v,e,r⟩:=h
    exact⟨v,e,r.mono f.up⟩
  | ol p ds =>
    obtain⟨e,xs,h1,h2⟩:=h
    exact⟨e,xs,f.keep _ _ h1 (ho p rfl),h2.mono f.up⟩
  | oi p C fs =>
    obtain⟨e,dx,xs,h1,h2⟩:=h
    exact⟨e,dx,xs,f.keep _ _ h1 (ho p rfl),h2.mono f.up⟩
/-- a step of the memory that does not touch what the names hold alone -/
theorem Ok3.through(o:Ok3 K S R H σ env) (f:Fin S.c.wd R H R' H'):Ok3 K S R' H' σ env:=by
  have hat:∀ i s p,env[i]?=some s->s.ad=some p->adAt env i=some p:=fun i s p e h=>by
    unfold adAt
    rw[e]
    exact h
  refine⟨o.fin.trans f,o.rb.trans f.up,pair_imp o.sl fun i x y _ h2 h=>h.through f fun p hp=>(o.own i p (hat i y p h2 hp)).2.2,fun i p h=>?_,o.dis⟩
  obtain⟨h1,h2,h3⟩:=o.own i p h
  refine⟨?_,h2,h3⟩
  unfold adAt at h
  cases e:env[i]? with
  | none =>
    rw[e] at h
    cases h
  | some s =>
    rw[e] at h
    obtain⟨x,_,q⟩:=pair_get o.sl e
    have hs:s.ad=some p:=h
    cases s with
    | no=>cases hs
    | v d=>cases hs
    | ol p' ds =>
      have:p'=p:=Option.some.inj hs
      subst this
      obtain⟨_,xs,hh,_⟩:=q
      exact f.new _ _ h1 hh
    | oi p' C fs =>
      have:p'=p:=Option.some.inj hs
      subst this
      obtain⟨_,dx,xs,hh,_⟩:=q
      exact f.new _ _ h1 hh
theorem Ok3.val(o:Ok3 K S R H σ env) {i:Nat}{d:D} (e:env[i]?=some (.v d)):∃ v,σ[i]?=some (some v)/\Rep K R d v:=by
  obtain⟨x,h1,v,h2,h3⟩:=pair_get o.sl e
  subst h2
  exact⟨v,h1,h3⟩
theorem adAt_set {i j:Nat}{s:Sl}{p:Addr} (h:adAt (env.set i s) j=some p):(j=i/\s.ad=some p)\/(j≠i/\adAt env j=some p):=by
  unfold adAt at h ⊢
  by_cases e:j=i
  . subst e
    by_cases hl:j<env.length
    . rw[List.getElem?_set_self hl] at h
      exact .inl ⟨rfl,h⟩
    . rw[List.getElem?_eq_none (by simpa using hl)] at h
      cases h
  . rw[List.getElem?_set_ne (Ne.symm e)] at h
    exact .inr ⟨e,h⟩
/-- a name takes a value -/
theorem Ok3.put(o:Ok3 K S R H σ env) {i:Nat}{d:D}{v:V} (r:Rep K R d v):Ok3 K S R H (σ.set i (some v)) (env.set i (.v d)):=by
  refine⟨o.fin,o.rb,pair_set (F:=SlOk K R H) (show SlOk K R H (some v) (.v d) from⟨v,rfl,r⟩) i o.sl,fun j p h=>?_,fun j k p h1 h2=>?_⟩
  . rcases adAt_set h with ⟨_,z⟩ | ⟨_,z⟩
    . cases z
    . exact o.own j p z
  . rcases adAt_set h1 with ⟨_,z⟩ | ⟨_,z⟩
    . cases z
    . rcases adAt_set h2 with ⟨_,z'⟩ | ⟨_,z'⟩
      . cases z'
      . exact o.dis j k p z z'
/-- a name is forgotten -/
theorem Ok3.drop(o:Ok3 K S R H σ env) {i:Nat}{x:Option V}:Ok3 K S R H (σ.set i x) (env.set i .no):=by
  refine⟨o.fin,o.rb,pair_set (F:=SlOk K R H) (show SlOk K R H x .no from trivial) i o.sl,fun j p h=>?_,fun j k p h1 h2=>?_⟩
  . rcases adAt_set h with ⟨_,z⟩ | ⟨_,z⟩
    . cases z
    . exact o.own j p z
  . rcases adAt_set h1 with ⟨_,z⟩ | ⟨_,z⟩
    . cases z
    . rcases adAt_set h2 with ⟨_,z'⟩ | ⟨_,z'⟩
      . cases z'
      . exact o.dis j k p z z'
abbrev Sta.base (S:Sta) (R:Hp):Sta:=⟨S.c,S.R0,S.H0,R⟩
theorem Ok3.rebase(o:Ok3 K S R H σ env):Ok3 K (S.base R) R H σ env:=⟨o.fin,fun _ _ h=>h,o.sl,o.own,o.dis⟩
theorem Ok3.back {R1:Hp} (o:Ok3 K (S.base R1) R H σ env) (s:Same S.Rb R1):Ok3 K S R H σ env:=⟨o.fin,s.trans o.rb,o.sl,o.own,o.dis⟩
end
open PySem PySem.Spec PyProof.Rows L2
abbrev TD:=Ct->Ev->(D->Prop)->Prop
abbrev TB:=Ct->Ev->(Bool->Prop)->Prop
abbrev TL:=Ct->Ev->(List D->Prop)->Prop
structure EndD where
  nx:Ev->Prop
  rt:D->Ev->Prop
  bk:Ev->Prop:=fun _=>False
  ct:Ev->Prop:=fun _=>False
abbrev TSD:=Ct->EndD->Ev->Prop
/-- an error lies at its class with its own dict -/
def XRep(K:PySem.W.Frag) (R:Hp) (ex:Er) (cls:Value) (od:Option Addr):Prop:=cls=.ref ex.C/\∃ dx fvs,od=some dx/\R dx=some (.xd fvs)/\RepF K R ex.fs fvs
/-- what is wanted of errors is met -/
def Lk(K:PySem.W.Frag) (S:Sta) (W:WX):Prop:=∀ R H σ env cls od ex,Ok3 K S R H σ env->XRep K R ex cls od->S.c.er ex env->W cls od σ H
theorem Lk.base {K:PySem.W.Frag}{S:Sta}{W:WX} (lk:Lk K S W) {R1:Hp} (s:Same S.Rb R1):Lk K (S.base R1) W:=fun R H σ env cls od ex ok xr e=>lk R H σ env cls od ex (ok.back s) xr e
def Pst(K:PySem.W.Frag) (c:Ct) (R H:Hp) (φ:D->Prop):VK:=fun v H'=>∃ R' d,Fin c.wd R H R' H'/\Rep K R' d v/\φ d
def PstL(K:PySem.W.Frag) (c:Ct) (R H:Hp) (φ:List D->Prop):List V->Hp->Prop:=fun v H'=>∃ R' d,Fin c.wd R H R' H'/\Reps K R' d v/\φ d
def PstB(c:Ct) (R H:Hp) (φ:Bool->Prop):Bool->Hp->Prop:=fun b H'=>∃ R',Fin c.wd R H R' H'/\φ b
def tD(K:PySem.W.Frag) (W:WX) (T:TD):TE:=fun σ H Q=>∃ S R env φ,Lk K S W/\Ok3 K S R H σ env/\T S.c env φ/\∀ v H',Pst K S.c R H φ v H'->Q v H'
def tB3(K:PySem.W.Frag) (W:WX) (T:TB):TT:=fun σ H Q=>∃ S R env φ,Lk K S W/\Ok3 K S R H σ env/\T S.c env φ/\∀ v H',PstB S.c R H φ v H'->Q v H'
def tL3(K:PySem.W.Frag) (W:WX) (T:TL):TA:=fun σ H Q=>∃ S R env φ,Lk K S W/\Ok3 K S R H σ env/\T S.c env φ/\∀ v H',PstL K S.c R H φ v H'->Q v H'
structure EndOk (K:PySem.W.Frag) (S:Sta) (D3:EndD) (E:Ends):Prop where
  nx:∀ R H σ env,Ok3 K S R H σ env->D3.nx env->E.nx σ H
  rt:∀ R H σ env d v,Ok3 K S R H σ env->Rep K R d v->D3.rt d env->E.rt v H
  bk:∀ R H σ env,Ok3 K S R H σ env->D3.bk env->E.bk σ H
  ct:∀ R H σ env,Ok3 K S R H σ env->D3.ct env->E.ct σ H
def tS3(K:PySem.W.Frag) (W:WX) (T:TSD):TS:=fun E σ H=>∃ S R env D3,Lk K S W/\Ok3 K S R H σ env/\T S.c D3 env/\EndOk K S D3 E
abbrev DE (X:Cx) (W:WX) (e:Expr) (T:TD):Prop:=PE X e (tD X.K W T)
abbrev DT (X:Cx) (W:WX) (e:Expr) (T:TB):Prop:=PT X e (tB3 X.K W T)
abbrev DW (X:Cx) (W:WX) (e:Expr) (T:TB):Prop:=PW X e (tB3 X.K W T)
abbrev DA (X:Cx) (W:WX) (es:List Expr) (T:TL):Prop:=PA X es (tL3 X.K W T)
abbrev DS (X:Cx) (W:WX) (st:Stmt) (T:TSD):Prop:=PS X st (tS3 X.K W T)
abbrev DSs (X:Cx) (W:WX) (st:List Stmt) (T:TSD):Prop:=PSs X st (tS3 X.K W T)
section
variable {X:Cx}{W:WX}
theorem de_mk {e:Expr}{t:TE}{T:TD} (h:PE X e t) (k:∀ S R H σ env φ,Lk X.K S W->Ok3 X.K S R H σ env->T S.c env φ->t σ H (Pst X.K S.c R H φ)):DE X W e T :=
  ⟨fun pins s σ H Q I ⟨S,R,env,φ,lk,ok,hT,hQ⟩=>thn (h.run pins s σ H _ I (k S R H σ env φ lk ok hT)) fun v s' ⟨x,H',I',r,p⟩=>⟨x,H',I',r,hQ x H' p⟩⟩
theorem dt_mk {e:Expr}{t:TT}{T:TB} (h:PT X e t) (k:∀ S R H σ env φ,Lk X.K S W->Ok3 X.K S R H σ env->T S.c env φ->t σ H (PstB S.c R H φ)):DT X W e T :=
  ⟨fun pins s σ H Q I ⟨S,R,env,φ,lk,ok,hT,hQ⟩=>thn (h.run pins s σ H _ I (k S R H σ env φ lk ok hT)) fun v s' ⟨H',I',p⟩=>⟨H',I',hQ v H' p⟩⟩
theorem dw_mk {e:Expr}{t:TT}{T:TB} (h:PW X e t) (k:∀ S R H σ env φ,Lk X.K S W->Ok3 X.K S R H σ env->T S.c env φ->t σ H (PstB S.c R H φ)):DW X W e T :=
  ⟨fun whole pins s σ H Q I ⟨S,R,env,φ,lk,ok,hT,hQ⟩=>thn (h.run whole pins s σ H _ I (k S R H σ env φ lk ok hT)) fun v s' ⟨H',I',p⟩=>⟨H',I',hQ v H' p⟩⟩
theorem da_mk {e:List Expr}{t:TA}{T:TL} (h:PA X e t) (k:∀ S R H σ env φ,Lk X.K S W->Ok3 X.K S R H σ env->T S.c env φ->t σ H (PstL X.K S.c R H φ)):DA X W e T :=
  ⟨fun pos pins s σ H Q I ⟨S,R,env,φ,lk,ok,hT,hQ⟩=>thn (h.run pos pins s σ H _ I (k S R H σ env φ lk ok hT)) fun v s' ⟨xs,H',I',r,p⟩=>⟨xs,H',I',r,hQ xs H' p⟩⟩
/-- from what follows by what is held -/
def endsOf(K:PySem.W.Frag) (S:Sta) (D3:EndD):Ends where
  nx:=fun σ H=>∃ R env,Ok3 K S R H σ env/\D3.nx env
  rt:=fun v H=>∃ R σ env d,Ok3 K S R H σ env/\Rep K R d v/\D3.rt d env
  bk:=fun σ H=>∃ R env,Ok3 K S R H σ env/\D3.bk env
  ct:=fun σ H=>∃ R env,Ok3 K S R H σ env/\D3.ct env
theorem SP.to {pins:List (Addr × Obj)}{S:Sta}{D3:EndD}{E:Ends}{f:Flow}{s':Shared} (eo:EndOk X.K S D3 E) (h:SP X pins (endsOf X.K S D3) f s'):SP X pins E f s':=by
  cases f with
  | next =>
    obtain⟨σ,H,I,R,env,ok,q⟩:=h
    exact⟨σ,H,I,eo.nx R H σ env ok q⟩
  | brk =>
    obtain⟨σ,H,I,R,env,ok,q⟩:=h
    exact⟨σ,H,I,eo.bk R H σ env ok q⟩
  | cont =>
    obtain⟨σ,H,I,R,env,ok,q⟩:=h
    exact⟨σ,H,I,eo.ct R H σ env ok q⟩
  | ret u =>
    obtain⟨v,σ,H,I,r,R,σ',env,d,ok,rep,q⟩:=h
    exact⟨v,σ,H,I,r,eo.rt R H σ' env d v ok rep q⟩
theorem ds_mk {st:Stmt}{t:TS}{T:TSD} (h:PS X st t) (k:∀ S R H σ env D3,Lk X.K S W->Ok3 X.K S R H σ env->T S.c D3 env->t (endsOf X.K S D3) σ H):DS X W st T :=
  ⟨fun pins s σ H E I ⟨S,R,env,D3,lk,ok,hT,eo⟩=>thn (h.run pins s σ H _ I (k S R H σ env D3 lk ok hT)) fun f s' p=>SP.to eo p⟩
theorem dss_mk {st:List Stmt}{t:TS}{T:TSD} (h:PSs X st t) (k:∀ S R H σ env D3,Lk X.K S W->Ok3 X.K S R H σ env->T S.c D3 env->t (endsOf X.K S D3) σ H):DSs X W st T :=
  ⟨fun pins s σ H E I ⟨S,R,env,D3,lk,ok,hT,eo⟩=>thn (h.run pins s σ H _ I (k S R H σ env D3 lk ok hT)) fun f s' p=>SP.to eo p⟩
end
/-- a subexpression is asked -/
theorem tD.ask {K:PySem.W.Frag}{W:WX}{S:Sta}{R H:Hp}{σ:L2.St}{env:Ev}{T:TD}{φ:D->Prop}{Q:VK} (lk:Lk K S W) (ok:Ok3 K S R H σ env) (h:T S.c env φ) (k:∀ R' H' d v,Fin S.c.wd R H R' H'->Ok3 K S R' H' σ env->Rep K R' d v->φ d->Q v H'):tD K W T σ H Q :=
  ⟨S,R,env,φ,lk,ok,h,fun v H' ⟨R',d,f,r,q⟩=>k R' H' d v f (ok.through f) r q⟩
theorem tB3.ask {K:PySem.W.Frag}{W:WX}{S:Sta}{R H:Hp}{σ:L2.St}{env:Ev}{T:TB}{φ:Bool->Prop}{Q:Bool->Hp->Prop} (lk:Lk K S W) (ok:Ok3 K S R H σ env) (h:T S.c env φ) (k:∀ R' H' b,Fin S.c.wd R H R' H'->Ok3 K S R' H' σ env->φ b->Q b H'):tB3 K W T σ H Q :=
  ⟨S,R,env,φ,lk,ok,h,fun b H' ⟨R',f,q⟩=>k R' H' b f (ok.through f) q⟩
theorem tL3.ask {K:PySem.W.Frag}{W:WX}{S:Sta}{R H:Hp}{σ:L2.St}{env:Ev}{T:TL}{φ:List D->Prop}{Q:List V->Hp->Prop} (lk:Lk K S W) (ok:Ok3 K S R H σ env) (h:T S.c env φ) (k:∀ R' H' ds vs,Fin S.c.wd R H R' H'->Ok3 K S R' H' σ env->Reps K R' ds vs->φ ds->Q vs H'):tL3 K W T σ H Q :=
  ⟨S,R,env,φ,lk,ok,h,fun vs H' ⟨R',ds,f,r,q⟩=>k R' H' ds vs f (ok.through f) r q⟩
theorem tS3.ask {K:PySem.W.Frag}{W:WX}{S:Sta}{R H:Hp}{σ:L2.St}{env:Ev}{T:TSD}{D3:EndD}{E:Ends} (lk:Lk K S W) (ok:Ok3 K S R H σ env) (h:T S.c D3 env) (eo:EndOk K S D3 E):tS3 K W T E σ H:=⟨S,R,env,D3,lk,ok,h,eo⟩
section
variable {K:PySem.W.Frag}{c:Ct}{R H R1 H1:Hp}{φ:D->Prop}{v:V}
theorem Pst.now {d:D} (b:Bas c.wd R H) (r:Rep K R d v) (q:φ d):Pst K c R H φ v H:=⟨R,d,Fin.refl b,r,q⟩
theorem Pst.from(f:Fin c.wd R H R1 H1) {v:V}{H2:Hp} (h:Pst K c R1 H1 φ v H2):Pst K c R H φ v H2:=by
  obtain⟨R2,d,f2,r,q⟩:=h
  exact⟨R2,d,f.trans f2,r,q⟩
/-- a new tuple,a new list -/
theorem Pst.tup {ds:List D}{vs:List V}{p:Addr} (b:Bas c.wd R H) (hp:H p=none) (r:Reps K R ds vs) (q:φ (.tup ds)):Pst K c R H φ (.ref p) (upd H p (.tup vs)) :=
  ⟨_,.tup ds,Fin.alloc b hp,⟨p,vs,rfl,upd_same,r.mono (Fin.alloc (o:=.tup vs) b hp).up⟩,q⟩
theorem Pst.lst {ds:List D}{vs:List V}{p:Addr} (b:Bas c.wd R H) (hp:H p=none) (r:Reps K R ds vs) (q:φ (.lst ds)):Pst K c R H φ (.ref p) (upd H p (.lst vs)) :=
  ⟨_,.lst ds,Fin.alloc b hp,⟨p,vs,rfl,upd_same,r.mono (Fin.alloc (o:=.lst vs) b hp).up⟩,q⟩
end
section
variable {X:Cx}{W:WX}{pos:Pos}
def TVar(i:Nat):TD:=fun _ env φ=>∃ d,env[i]?=some (.v d)/\φ d
def TC(d:D):TD:=fun _ _ φ=>φ d
theorem dv (i : Nat) {x : Str} (hN : X.N[i]? = some x := by rfl) (hv : Vis X.env.scope x := by first | exact Or.inl rfl | exact Or.inr (Or.inl rfl) | exact Or.inr (Or.inr rfl)) (hd : (x == ("__debug__" : Str)) = false := by decide)
    (hcd:(x==("__classdict__":Str))=false:=by decide):DE X W (.Name x pos) (TVar i) :=
  de_mk (pe_var hN hv hd hcd) fun S R H σ env φ _ ok ⟨d,e,q⟩=>by
    obtain⟨v,h1,h2⟩:=ok.val e
    exact⟨v,h1,Pst.now ok.bas h2 q⟩
theorem de_c {e:Expr}{v:V}{d:D} (h:PE X e (tC v)) (r:∀ K R,Rep K R d v:=by intro _ _; rfl):DE X W e (TC d) :=
  de_mk h fun S R H σ env φ _ ok q=>Pst.now ok.bas (r _ _) q
theorem de_int {i j}:DE X W (.Constant (.int i) j pos) (TC (.int i)):=de_c pe_int
theorem de_bl {b j}:DE X W (.Constant (.bool b) j pos) (TC (.bl b)):=de_c pe_bl
theorem de_non {j}:DE X W (.Constant .none j pos) (TC .non):=de_c pe_non
theorem de_str {x j}:DE X W (.Constant (.str x) j pos) (TC (.str x)):=de_c pe_str
theorem de_gref {x:Str}{a:Addr} (hg:Gl X x) (hm:X.mg x=some (.ref a)) (hd:(x==("__debug__":Str))=false:=by decide):DE X W (.Name x pos) (TC (.ref a)):=de_c (pe_glob hg hm (show RelV (.ref a) _ from rfl) hd)
theorem de_gint {x:Str}{i:Int} (hg:Gl X x) (hm:∃ t,X.mg x=some (.int i t)) (hd:(x==("__debug__":Str))=false:=by decide):DE X W (.Name x pos) (TC (.int i)):=by
  obtain⟨t,hm⟩:=hm
  exact de_c (pe_glob hg hm (show RelV (.int i) _ from⟨t,rfl⟩) hd)
theorem de_gstr {x z:Str} (hg:Gl X x) (hm:∃ t,X.mg x=some (.str z t)) (hd:(x==("__debug__":Str))=false:=by decide):DE X W (.Name x pos) (TC (.str z)):=by
  obtain⟨t,hm⟩:=hm
  exact de_c (pe_glob hg hm (show RelV (.str z) _ from⟨t,rfl⟩) hd)
abbrev F2:=D->D->(D->Prop)->Prop
/-- an operator by what its sides hold -/
def OpD(K:PySem.W.Frag) (r:R2) (f:F2):Prop:=∀ (c:Ct) (R H:Hp) (x y:V) (dx dy:D) (φ:D->Prop) (Q:VK),Bas c.wd R H->Rep K R dx x->Rep K R dy y->f dx dy φ->(∀ v H',Pst K c R H φ v H'->Q v H')->r x y H Q
def TOp(f:F2) (Ta Tb:TD):TD:=fun c env φ=>Ta c env fun x=>Tb c env fun y=>f x y φ
variable {a b:Expr}{Ta Tb:TD}
theorem op_ask {r:R2}{f:F2} (k:OpD X.K r f) {S:Sta}{R H:Hp}{σ:L2.St}{env:Ev}{φ:D->Prop}{Q:VK} (lk:Lk X.K S W) (ok:Ok3 X.K S R H σ env) (h:TOp f Ta Tb S.c env φ) (kQ:∀ v H',Pst X.K S.c R H φ v H'->Q v H') :
    tOp r (tD X.K W Ta) (tD X.K W Tb) σ H Q:=by
  refine tD.ask lk ok h fun R1 H1 d1 v1 f1 ok1 r1 q1=>tD.ask lk ok1 q1 fun R2 H2 d2 v2 f2 ok2 r2 q2=>?_
  exact k S.c R2 H2 v1 v2 d1 d2 φ _ ok2.bas (r1.mono f2.up) r2 q2 fun v H' p=>kQ v H' (Pst.from (f1.trans f2) p)
theorem de_op {op:Operator}{r:R2}{f:F2} (ho:OpR X (binaryOp op) r) (k:OpD X.K r f) (ha:DE X W a Ta) (hb:DE X W b Tb):DE X W (.BinOp a op b pos) (TOp f Ta Tb) :=
  de_mk (pe_op ho ha hb) fun S R H σ env φ lk ok h=>op_ask k lk ok h fun _ _ p=>p
theorem de_cmp {op:CmpOp}{r:R2}{f:F2} (ho:OpR X (compareOp op) r) (k:OpD X.K r f) (ha:DE X W a Ta) (hb:DE X W b Tb) (hm:behindInMarks op b=false):DE X W (.Compare a [op] [b] pos) (TOp f Ta Tb) :=
  de_mk (pe_cmpR ho ha hb hm) fun S R H σ env φ lk ok h=>op_ask k lk ok h fun _ _ p=>p
/-- a value that is a bool,as a test -/
def TTst(T:TD):TB:=fun c env φ=>T c env fun d=>∃ k,d=.bl k/\φ k
theorem rep_bl {K:PySem.W.Frag}{R:Hp}{k:Bool}{v:V} (h:Rep K R (.bl k) v):v=.bl k:=h
theorem rep_int {K:PySem.W.Frag}{R:Hp}{k:Int}{v:V} (h:Rep K R (.int k) v):v=.int k:=h
theorem rep_str {K:PySem.W.Frag}{R:Hp}{k:Str}{v:V} (h:Rep K R (.str k) v):v=.str k:=h
theorem tst_ask {T:TD}{S:Sta}{R H:Hp}{σ:L2.St}{env:Ev}{φ:Bool->Prop} (lk:Lk X.K S W) (ok:Ok3 X.K S R H σ env) (h:TTst T S.c env φ):tB (tD X.K W T) σ H (PstB S.c R H φ) :=
  tD.ask lk ok h fun R1 H1 d v f ok1 r ⟨k,e,q⟩=>by
    subst e
    exact⟨k,r,R1,f,q⟩
theorem dt_cmp {op:CmpOp}{r:R2}{f:F2} (ho:OpR X (compareOp op) r) (k:OpD X.K r f) (ha:DE X W a Ta) (hb:DE X W b Tb) (hm:behindInMarks op b=false):DT X W (.Compare a [op] [b] pos) (TTst (TOp f Ta Tb)) :=
  dt_mk (pt_cmpR ho ha hb hm) fun S R H σ env φ lk ok h=>by
    refine op_ask (φ:=fun d=>∃ k,d=.bl k/\φ k) k lk ok h fun v H' ⟨R1,d,f1,rr,k,e,q⟩=>?_
    subst e
    exact⟨k,rr,R1,f1,q⟩
theorem dt_val {e:Expr}{T:TD} (h:DE X W e T) (he:∀ whole,isTrue e X.env whole=(do let v <- whole; standAt e.pos; holding [v] (truthy v)):=by intro _; rfl):DT X W e (TTst T) :=
  dt_mk (pt_val h he) fun S R H σ env φ lk ok h=>tst_ask lk ok h
theorem OpD.or {K:PySem.W.Frag}{r r':R2}{f f':F2} (h:OpD K r f) (h':OpD K r' f'):OpD K (fun x y H Q=>r x y H Q\/r' x y H Q) (fun x y φ=>f x y φ\/f' x y φ):=fun c R H x y dx dy φ Q b r1 r2 q k=>by
  rcases q with q | q
  . exact .inl (h c R H x y dx dy φ Q b r1 r2 q k)
  . exact .inr (h' c R H x y dx dy φ Q b r1 r2 q k)
/-- two ints -/
def fI(C:Int->Int->Prop) (g:Int->Int->D):F2:=fun x y φ=>∃ i j,x=.int i/\y=.int j/\C i j/\φ (g i j)
theorem opd_I {C:Int->Int->Prop}{g:Int->Int->V}{gd:Int->Int->D} (hg:∀ K R i j,Rep K R (gd i j) (g i j)) {K:PySem.W.Frag}:OpD K (rI C g) (fI C gd):=fun c R H x y dx dy φ Q b r1 r2 ⟨i,j,e1,e2,hc,q⟩ k=>by
  subst e1 e2
  exact⟨i,j,r1,r2,hc,k _ _ (Pst.now b (hg _ _ _ _) q)⟩
theorem opd_I0 {g:Int->Int->V}{gd:Int->Int->D} (hg:∀ K R i j,Rep K R (gd i j) (g i j)) {K:PySem.W.Frag}:OpD K (rI0 g) (fI (fun _ _=>True) gd):=fun c R H x y dx dy φ Q b r1 r2 ⟨i,j,e1,e2,_,q⟩ k=>by
  subst e1 e2
  exact⟨i,j,r1,r2,k _ _ (Pst.now b (hg _ _ _ _) q)⟩
/--+of ints,texts,lists,tuples -/
def addF:F2
  | .int i,.int j,φ=>φ (.int (i+j))
  | .str x,.str y,φ=>x.length+y.length<=sizeLine/\φ (.str (x++y))
  | .lst a,.lst b,φ=>a.length+b.length<=sizeLine/\φ (.lst (a++b))
  | .tup a,.tup b,φ=>a.length+b.length<=sizeLine/\φ (.tup (a++b))
  | _,_,_=>False
abbrev rAddS:R2:=fun x y H Q=>∃ i j,x=.str i/\y=.str j/\i.length+j.length<=sizeLine/\Q (.str (i++j)) H
abbrev rAddA (K:PySem.W.Frag):R2:=fun x y H Q=>(fun x y H Q=>rI0 (fun i j=>.int (i+j)) x y H Q\/rAddS x y H Q) x y H Q\/(fun x y H Q=>rCat x y H Q\/rCatA K x y H Q) x y H Q
theorem op_addA:OpR X (binaryOp .Add) (rAddA X.K):=OpR.or (OpR.or op_add op_add_str) (OpR.or op_cat op_catA)
theorem reps_nil {K:PySem.W.Frag}{R:Hp}{ds:List D} (h:Reps K R ds []):ds=[]:=by
  have:=h.length
  cases ds with
  | nil=>rfl
  | cons d r=>simp at this
theorem opd_add {K:PySem.W.Frag}:OpD K (rAddA K) addF:=fun c R H x y dx dy φ Q b r1 r2 q k=>by
  cases dx<;>cases dy<;>try exact q.elim
  case int i j =>
    exact .inl (.inl ⟨i,j,r1,r2,k _ _ (Pst.now b (show Rep K R (.int (i+j)) _ from rfl) q)⟩)
  case str i j =>
    exact .inl (.inr ⟨i,j,r1,r2,q.1,k _ _ (Pst.now b (show Rep K R (.str (i++j)) _ from rfl) q.2)⟩)
  case lst ds es =>
    obtain⟨p,xs,e1,h1,q1⟩:=(show ∃ p xs,x=.ref p/\R p=some (.lst xs)/\Reps K R ds xs from r1)
    obtain⟨p2,ys,e2,h2,q2⟩:=(show ∃ p xs,y=.ref p/\R p=some (.lst xs)/\Reps K R es xs from r2)
    refine .inr (.inl ⟨p,p2,xs,ys,e1,e2,b.sub _ _ h1,b.sub _ _ h2,by rw[q1.length,q2.length]; exact q.1,fun n hn=>k _ _ (Pst.lst b hn (q1.append q2) q.2)⟩)
  case tup ds es =>
    obtain⟨p,xs,e1,h1,q1⟩:=(show ∃ p xs,x=.ref p/\R p=some (.tup xs)/\Reps K R ds xs from r1)
    obtain⟨p2,ys,e2,h2,q2⟩:=(show ∃ p xs,y=.ref p/\R p=some (.tup xs)/\Reps K R es xs from r2)
    refine .inr (.inr ⟨p,p2,xs,ys,e1,e2,SqT.of (b.sub _ _ h1),SqT.of (b.sub _ _ h2),by rw[q1.length,q2.length]; exact q.1,fun e=>?_,fun _ e=>?_,fun _ _ n hn=>k _ _ (Pst.tup b hn (q1.append q2) q.2)⟩)
    . subst e
      refine k _ _ (Pst.now b (d:=.tup (ds++es)) ⟨p2,ys,rfl,h2,?_⟩ q.2)
      rw[reps_nil q1]
      exact q2
    . subst e
      refine k _ _ (Pst.now b (d:=.tup (ds++es)) ⟨p,xs,rfl,h1,?_⟩ q.2)
      rw[reps_nil q2,List.append_nil]
      exact q1
theorem de_add(ha:DE X W a Ta) (hb:DE X W b Tb):DE X W (.BinOp a .Add b pos) (TOp addF Ta Tb):=de_op op_addA opd_add ha hb
abbrev subF:F2:=fI (fun _ _=>True) fun i j=>.int (i - j)
theorem de_sub(ha:DE X W a Ta) (hb:DE X W b Tb):DE X W (.BinOp a .Sub b pos) (TOp subF Ta Tb):=de_op op_sub (opd_I0 (by intros; rfl)) ha hb
abbrev modF:F2:=fI (fun _ j=>0<j) fun i j=>.int (i % j)
theorem de_mod(ha:DE X W a Ta) (hb:DE X W b Tb):DE X W (.BinOp a .Mod b pos) (TOp modF Ta Tb):=de_op op_mod (opd_I (by intros; rfl)) ha hb
abbrev powF:F2:=fI CPow fun i j=>.int (i ^ j.toNat)
theorem de_pow(ha:DE X W a Ta) (hb:DE X W b Tb):DE X W (.BinOp a .Pow b pos) (TOp powF Ta Tb):=de_op op_pow (opd_I (by intros; rfl)) ha hb
/-- * of ints; a text,a list by an int -/
def mulF:F2
  | .int i,.int j,φ=>CMul i j/\φ (.int (i * j))
  | .str x,.int n,φ=>MulOk x n/\φ (.str (Txt.mul x n))
  | .lst ds,.int n,φ => -2 ^ 63<=n/\n<2 ^ 63/\ds.length * n.toNat<=sizeLine/\φ (.lst (List.replicate n.toNat ds).flatten)
  | _,_,_=>False
abbrev rMulS:R2:=fun x y H Q=>∃ i j,x=.str i/\y=.int j/\MulOk i j/\Q (.str (Txt.mul i j)) H
theorem op_mulS:OpR X (binaryOp .Mult) rMulS:=by
  intro pins s σ H x y v u Q I rx ry h
  obtain⟨i,j,rfl,rfl,hm,q⟩:=h
  obtain⟨t,rfl⟩:=rx
  obtain⟨t',rfl⟩:=ry
  exact SB.mul hm fun t' k=>⟨.str _,H,I.tok k,⟨_,rfl⟩,q⟩
abbrev rMulA:R2:=fun x y H Q=>(fun x y H Q=>rI CMul (fun i j=>.int (i * j)) x y H Q\/rMulS x y H Q) x y H Q\/rRep x y H Q
theorem op_mulA:OpR X (binaryOp .Mult) rMulA:=OpR.or (OpR.or op_mul op_mulS) op_rep
theorem Reps.flat {K:PySem.W.Frag}{R:Hp}{ds:List D}{xs:List V} (h:Reps K R ds xs):∀ n:Nat,Reps K R (List.replicate n ds).flatten (List.replicate n xs).flatten
  | 0=>rfl
  | n+1=>by
    rw[List.replicate_succ,List.replicate_succ,List.flatten_cons,List.flatten_cons]
    exact h.append (Reps.flat h n)
theorem opd_mul {K:PySem.W.Frag}:OpD K rMulA mulF:=fun c R H x y dx dy φ Q b r1 r2 q k=>by
  cases dx<;>cases dy<;>try exact q.elim
  case int i j=>exact .inl (.inl ⟨i,j,r1,r2,q.1,k _ _ (Pst.now b (show Rep K R (.int (i * j)) _ from rfl) q.2)⟩)
  case str i j=>exact .inl (.inr ⟨i,j,r1,r2,q.1,k _ _ (Pst.now b (show Rep K R (.str _) _ from rfl) q.2)⟩)
  case lst ds n =>
    obtain⟨p,xs,e1,h1,q1⟩:=(show ∃ p xs,x=.ref p/\R p=some (.lst xs)/\Reps K R ds xs from r1)
    exact .inr ⟨p,n,xs,e1,r2,b.sub _ _ h1,q.1,q.2.1,by rw[q1.length]; exact q.2.2.1,fun m hm=>k _ _ (Pst.lst b hm (q1.flat _) q.2.2.2)⟩
theorem de_mul(ha:DE X W a Ta) (hb:DE X W b Tb):DE X W (.BinOp a .Mult b pos) (TOp mulF Ta Tb):=de_op op_mulA opd_mul ha hb
abbrev ltF:F2:=fI (fun _ _=>True) fun i j=>.bl (decide (i<j))
abbrev leF:F2:=fI (fun _ _=>True) fun i j=>.bl (decide (i<=j))
abbrev gtF:F2:=fI (fun _ _=>True) fun i j=>.bl (decide (j<i))
abbrev geF:F2:=fI (fun _ _=>True) fun i j=>.bl (decide (j<=i))
theorem opd_lt {K:PySem.W.Frag}:OpD K (rI0 fun i j=>.bl (decide (i<j))) ltF:=opd_I0 (by intros; rfl)
theorem opd_le {K:PySem.W.Frag}:OpD K (rI0 fun i j=>.bl (decide (i<=j))) leF:=opd_I0 (by intros; rfl)
theorem opd_gt {K:PySem.W.Frag}:OpD K (rI0 fun i j=>.bl (decide (j<i))) gtF:=opd_I0 (by intros; rfl)
theorem opd_ge {K:PySem.W.Frag}:OpD K (rI0 fun i j=>.bl (decide (j<=i))) geF:=opd_I0 (by intros; rfl)
mutual
def toP:D->PyData
  | .non=>.none
  | .bl b=>.bool b
  | .int i=>.int i
  | .str x=>.str x
  | .tup ds=>.tuple (toPs ds)
  | .lst ds=>.list (toPs ds)
  | _=>.none
def toPs:List D->List PyData
  | []=>[]
  | d::ds=>toP d::toPs ds
end
mutual
def isP:D->Bool
  | .non=>true
  | .bl _=>true
  | .int _=>true
  | .str _=>true
  | .tup ds=>isPs ds
  | .lst ds=>isPs ds
  | _=>false
def isPs:List D->Bool
  | []=>true
  | d::ds=>isP d&&isPs ds
end
mutual
theorem dp_of {K:PySem.W.Frag}{H:Hp}:∀ {d:D}{v:V},isP d=true->Rep K H d v->Dp K H v (toP d)
  | .non,v,_,r=>by
    have e:v=.non:=r
    subst e
    exact .non
  | .bl b,v,_,r=>by
    have e:v=.bl b:=r
    subst e
    exact .bl _
  | .int b,v,_,r=>by
    have e:v=.int b:=r
    subst e
    exact .int _
  | .str b,v,_,r=>by
    have e:v=.str b:=r
    subst e
    exact .str _
  | .tup ds,v,hp,r=>by
    obtain⟨p,xs,e,h,q⟩:=(show ∃ p xs,v=.ref p/\H p=some (.tup xs)/\Reps K H ds xs from r)
    subst e
    exact .tup (SqT.of h) (dps_of hp q)
  | .lst ds,v,hp,r=>by
    obtain⟨p,xs,e,h,q⟩:=(show ∃ p xs,v=.ref p/\H p=some (.lst xs)/\Reps K H ds xs from r)
    subst e
    exact .lst (SqL.of h) (dps_of hp q)
  | .ty n,_,hp,_=>by cases hp
  | .ref n,_,hp,_=>by cases hp
  | .ins n fs,_,hp,_=>by cases hp
  | .exc n fs,_,hp,_=>by cases hp
  | .clo n fs,_,hp,_=>by cases hp
  | .lam n fs,_,hp,_=>by cases hp
  | .dic n,_,hp,_=>by cases hp
  | .dicT n,_,hp,_=>by cases hp
theorem dps_of {K:PySem.W.Frag}{H:Hp}:∀ {ds:List D}{vs:List V},isPs ds=true->Reps K H ds vs->DpAll K H vs (toPs ds)
  | [],vs,_,r=>by
    have e:vs=[]:=r
    subst e
    exact .nil
  | d::ds,vs,hp,r=>by
    obtain⟨v,t,e,h1,h2⟩:=(show ∃ v r,vs=v::r/\Rep K H d v/\Reps K H ds r from r)
    subst e
    obtain⟨p1,p2⟩:=Bool.and_eq_true_iff.mp (show(isP d&&isPs ds)=true from hp)
    exact .cons (dp_of p1 h1) (dps_of p2 h2)
end
/--==and != of plain data -/
def eqF:F2:=fun x y φ=>isP x=true/\isP y=true/\SeqAt.shaped (toP x)=true/\SeqAt.shaped (toP y)=true/\φ (.bl (PyData.eqv (toP x) (toP y)))
def neF:F2:=fun x y φ=>isP x=true/\isP y=true/\SeqAt.shaped (toP x)=true/\SeqAt.shaped (toP y)=true/\φ (.bl (!PyData.eqv (toP x) (toP y)))
theorem opd_eq {K:PySem.W.Frag}:OpD K (rEqD K) eqF:=fun c R H x y dx dy φ Q b r1 r2 ⟨p1,p2,s1,s2,q⟩ k =>
  ⟨_,_,dp_of p1 (r1.mono b.sub),dp_of p2 (r2.mono b.sub),s1,s2,k _ _ (Pst.now b (show Rep K R (.bl _) _ from rfl) q)⟩
theorem opd_ne {K:PySem.W.Frag}:OpD K (rNeD K) neF:=fun c R H x y dx dy φ Q b r1 r2 ⟨p1,p2,s1,s2,q⟩ k =>
  ⟨_,_,dp_of p1 (r1.mono b.sub),dp_of p2 (r2.mono b.sub),s1,s2,k _ _ (Pst.now b (show Rep K R (.bl _) _ from rfl) q)⟩
/-- is None -/
def flatD:D->Bool
  | .non=>true
  | .bl _=>true
  | .int _=>true
  | .str _=>true
  | _=>false
def isND:D->Bool
  | .non=>true
  | _=>false
theorem isN_rep {K:PySem.W.Frag}{R:Hp}{d:D}{v:V} (r:Rep K R d v):decide (v=.non)=isND d:=by
  cases d
  case non=>exact decide_eq_true r
  case bl=>rw[show v=.bl _ from r]; exact decide_eq_false (by intro e; cases e)
  case int=>rw[show v=.int _ from r]; exact decide_eq_false (by intro e; cases e)
  case str=>rw[show v=.str _ from r]; exact decide_eq_false (by intro e; cases e)
  case ty=>rw[show v=.ty _ from r]; exact decide_eq_false (by intro e; cases e)
  case ref=>rw[show v=.ref _ from r]; exact decide_eq_false (by intro e; cases e)
  case tup ds =>
    obtain⟨p,xs,e,_⟩:=(show ∃ p xs,v=.ref p/\R p=some (.tup xs)/\Reps K R ds xs from r)
    rw[e]; exact decide_eq_false (by intro e; cases e)
  case lst ds =>
    obtain⟨p,xs,e,_⟩:=(show ∃ p xs,v=.ref p/\R p=some (.lst xs)/\Reps K R ds xs from r)
    rw[e]; exact decide_eq_false (by intro e; cases e)
  case ins C fs =>
    obtain⟨p,dx,xs,e,_⟩:=(show ∃ p dx fvs,v=.ref p/\R p=some (.ins C dx fvs)/\RepF K R fs fvs from r)
    rw[e]; exact decide_eq_false (by intro e; cases e)
  case exc C fs =>
    obtain⟨p,dx,xs,e,_⟩:=(show ∃ p dx fvs,v=.ref p/\ExcAt R C dx p/\R dx=some (.xd fvs)/\RepF K R fs fvs from r)
    rw[e]; exact decide_eq_false (by intro e; cases e)
  case clo L ds =>
    obtain⟨f,cl,xs,e,_⟩:=(show ∃ f cl xs,v=.ref f/\LamAt R L cl f/\CellsAt R cl xs/\Reps K R ds xs from r)
    rw[e]; exact decide_eq_false (by intro e; cases e)
  case lam L cl =>
    obtain⟨f,e,_⟩:=(show ∃ f,v=.ref f/\LamAt R L cl f from r)
    rw[e]; exact decide_eq_false (by intro e; cases e)
  case dic kvs =>
    obtain⟨p,ob,xs,e,_⟩:=(show ∃ p ob xs,v=.ref p/\R p=some (.frz ob (.dK xs))/\RepK K R kvs xs from r)
    rw[e]; exact decide_eq_false (by intro e; cases e)
  case dicT kvs =>
    obtain⟨p,ob,xs,e,_⟩:=(show ∃ p ob xs,v=.ref p/\R p=some (.frz ob (.dT xs))/\RepT K R kvs xs from r)
    rw[e]; exact decide_eq_false (by intro e; cases e)
def isF:F2:=fun x y φ=>y=.non/\φ (.bl (isND x))
def isntF:F2:=fun x y φ=>y=.non/\φ (.bl (!isND x))
theorem opd_is {K:PySem.W.Frag}:OpD K (fun x y H Q=>y=.non/\Q (.bl (decide (x=.non))) H) isF:=fun c R H x y dx dy φ Q b r1 r2 ⟨e,q⟩ k=>by
  subst e
  exact⟨r2,k _ _ (Pst.now b (d:=.bl (isND dx)) (by rw[isN_rep r1]; rfl) q)⟩
/-- in: a text in a text; a flat value in a tuple,a list of such -/
def flV:D->V
  | .bl b=>.bl b
  | .int i=>.int i
  | .str x=>.str x
  | _=>.non
def occ(x y:Str):Bool:=!(Builtin.Str.occurrences y x 0 y.length 1).isEmpty
def inF(neg:Bool):F2
  | .str x,.str y,φ=>φ (.bl (if neg then !occ x y else occ x y))
  | x,.tup ds,φ=>flatD x=true/\ds.all flatD=true/\φ (.bl (if neg then !inV (flV x) (ds.map flV) else inV (flV x) (ds.map flV)))
  | x,.lst ds,φ=>flatD x=true/\ds.all flatD=true/\φ (.bl (if neg then !inV (flV x) (ds.map flV) else inV (flV x) (ds.map flV)))
  | _,_,_=>False
theorem fl_rep {K:PySem.W.Frag}{R:Hp}{d:D}{v:V} (f:flatD d=true) (r:Rep K R d v):v=flV d/\flatV v=true:=by
  cases d<;>try (exact Bool.noConfusion f)
  case non=>rw[show v=.non from r]; exact⟨rfl,rfl⟩
  case bl=>rw[show v=.bl _ from r]; exact⟨rfl,rfl⟩
  case int=>rw[show v=.int _ from r]; exact⟨rfl,rfl⟩
  case str=>rw[show v=.str _ from r]; exact⟨rfl,rfl⟩
theorem fls_rep {K:PySem.W.Frag}{R:Hp}:∀ {ds:List D}{vs:List V},ds.all flatD=true->Reps K R ds vs->vs=ds.map flV/\vs.all flatV=true
  | [],vs,_,r=>by
    have e:vs=[]:=r
    subst e
    exact⟨rfl,rfl⟩
  | d::ds,vs,f,r=>by
    obtain⟨v,t,e,h1,h2⟩:=(show ∃ v r,vs=v::r/\Rep K R d v/\Reps K R ds r from r)
    subst e
    rw[List.all_cons,Bool.and_eq_true] at f
    obtain⟨e1,g1⟩:=fl_rep f.1 h1
    obtain⟨e2,g2⟩:=fls_rep f.2 h2
    refine⟨by rw[List.map_cons,<- e1,<- e2],by rw[List.all_cons,g1,g2]; rfl⟩
abbrev rInA (K:PySem.W.Frag):R2:=fun x y H Q=>(∃ i j,x=.str i/\y=.str j/\Q (.bl (!(Builtin.Str.occurrences j i 0 j.length 1).isEmpty)) H)\/rIn K false x y H Q
abbrev rNinA (K:PySem.W.Frag):R2:=fun x y H Q=>(∃ i j,x=.str i/\y=.str j/\Q (.bl (!(!(Builtin.Str.occurrences j i 0 j.length 1).isEmpty))) H)\/rIn K true x y H Q
theorem op_inA:OpR X (compareOp .In) (rInA X.K):=OpR.or op_in_str op_in_seq
theorem op_ninA:OpR X (compareOp .NotIn) (rNinA X.K):=OpR.or op_notin_str op_notIn_seq
theorem in_seq {K : PySem.W.Frag} {neg : Bool} {c : Ct} {R H : Hp} {x y : V} {dx : D} {ds : List D} {φ : D -> Prop} {Q : VK} (b : Bas c.wd R H) (r1 : Rep K R dx x) (hy : ∃ p xs, y = .ref p /\ (SqL K H p xs \/ SqT K H p xs) /\ Reps K R ds xs)
    (q:flatD dx=true/\ds.all flatD=true/\φ (.bl (if neg then !inV (flV dx) (ds.map flV) else inV (flV dx) (ds.map flV)))) (k:∀ v H',Pst K c R H φ v H'->Q v H'):rIn K neg x y H Q:=by
  obtain⟨p,xs,e,h,q2⟩:=hy
  obtain⟨f1,f2,q⟩:=q
  obtain⟨e1,g1⟩:=fl_rep f1 r1
  obtain⟨e2,g2⟩:=fls_rep f2 q2
  refine⟨p,xs,e,h,g1,g2,k _ _ (Pst.now b (d:=.bl (if neg then !inV (flV dx) (ds.map flV) else inV (flV dx) (ds.map flV))) ?_ q)⟩
  rw[<- e1,<- e2]
  rfl
theorem rep_seq {K:PySem.W.Frag}{c:Ct}{R H:Hp}{y:V}{ds:List D} (b:Bas c.wd R H) (h:Rep K R (.tup ds) y\/Rep K R (.lst ds) y):∃ p xs,y=.ref p/\(SqL K H p xs\/SqT K H p xs)/\Reps K R ds xs:=by
  rcases h with h | h
  . obtain⟨p,xs,e,h,q⟩:=(show ∃ p xs,y=.ref p/\R p=some (.tup xs)/\Reps K R ds xs from h)
    exact⟨p,xs,e,.inr (SqT.of (b.sub _ _ h)),q⟩
  . obtain⟨p,xs,e,h,q⟩:=(show ∃ p xs,y=.ref p/\R p=some (.lst xs)/\Reps K R ds xs from h)
    exact⟨p,xs,e,.inl (SqL.of (b.sub _ _ h)),q⟩
theorem opd_in {K:PySem.W.Frag}:OpD K (rInA K) (inF false):=fun c R H x y dx dy φ Q b r1 r2 q k=>by
  cases dy
  case str j =>
    cases dx<;>try exact q.elim
    case str i=>exact .inl ⟨i,j,r1,r2,k _ _ (Pst.now b (show Rep K R (.bl _) _ from rfl) q)⟩
  case tup ds=>exact .inr (in_seq (neg:=false) b r1 (rep_seq b (.inl r2)) (by cases dx<;>exact q) k)
  case lst ds=>exact .inr (in_seq (neg:=false) b r1 (rep_seq b (.inr r2)) (by cases dx<;>exact q) k)
  all_goals (exact absurd q (by cases dx<;>exact id))
theorem opd_nin {K:PySem.W.Frag}:OpD K (rNinA K) (inF true):=fun c R H x y dx dy φ Q b r1 r2 q k=>by
  cases dy
  case str j =>
    cases dx<;>try exact q.elim
    case str i=>exact .inl ⟨i,j,r1,r2,k _ _ (Pst.now b (show Rep K R (.bl _) _ from rfl) q)⟩
  case tup ds=>exact .inr (in_seq (neg:=true) b r1 (rep_seq b (.inl r2)) (by cases dx<;>exact q) k)
  case lst ds=>exact .inr (in_seq (neg:=true) b r1 (rep_seq b (.inr r2)) (by cases dx<;>exact q) k)
  all_goals (exact absurd q (by cases dx<;>exact id))
end
open PySem PySem.Spec PyProof.Rows L2
section
variable {X:Cx}{W:WX}{pos:Pos}{a b:Expr}{Ta Tb:TD}{A B:TB}
def TAnd(A B:TB):TB:=fun c env φ=>A c env fun k=>if k=true then B c env φ else φ false
def TOr(A B:TB):TB:=fun c env φ=>A c env fun k=>if k=true then φ true else B c env φ
def TNot(A:TB):TB:=fun c env φ=>A c env fun k=>φ (!k)
theorem PstB.from {c:Ct}{R H R1 H1:Hp}{φ:Bool->Prop} (f:Fin c.wd R H R1 H1) {k:Bool}{H2:Hp} (h:PstB c R1 H1 φ k H2):PstB c R H φ k H2:=by
  obtain⟨R2,f2,q⟩:=h
  exact⟨R2,f.trans f2,q⟩
theorem tB3.go {K:PySem.W.Frag}{W:WX}{S:Sta}{R H R1 H1:Hp}{σ:L2.St}{env:Ev}{T:TB}{φ:Bool->Prop} (lk:Lk K S W) (f:Fin S.c.wd R H R1 H1) (ok:Ok3 K S R1 H1 σ env) (h:T S.c env φ):tB3 K W T σ H1 (PstB S.c R H φ) :=
  tB3.ask lk ok h fun R' H' b f' _ q=>⟨R',f.trans f',q⟩
theorem tD.go {K:PySem.W.Frag}{W:WX}{S:Sta}{R H R1 H1:Hp}{σ:L2.St}{env:Ev}{T:TD}{φ:D->Prop} (lk:Lk K S W) (f:Fin S.c.wd R H R1 H1) (ok:Ok3 K S R1 H1 σ env) (h:T S.c env φ):tD K W T σ H1 (Pst K S.c R H φ) :=
  tD.ask lk ok h fun R' H' d v f' _ r q=>⟨R',d,f.trans f',r,q⟩
theorem dw_and1(ha:DT X W a A):DW X W (.BoolOp .And [a] pos) A:=pw_and1 ha
theorem dw_or1(ha:DT X W a A):DW X W (.BoolOp .Or [a] pos) A:=pw_or1 ha
theorem dw_and {rest:List Expr} (ha:DT X W a A) (hb:DW X W (.BoolOp .And (b::rest) pos) B):DW X W (.BoolOp .And (a::b::rest) pos) (TAnd A B) :=
  dw_mk (pw_and ha hb) fun S R H σ env φ lk ok h=>tB3.ask lk ok h fun R1 H1 k f ok1 q=>by
    cases k with
    | true=>exact iteT (tB3.go lk f ok1 (by rw[if_pos rfl] at q; exact q))
    | false=>exact iteF ⟨R1,f,by rw[if_neg Bool.false_ne_true] at q; exact q⟩
theorem dw_or {rest:List Expr} (ha:DT X W a A) (hb:DW X W (.BoolOp .Or (b::rest) pos) B):DW X W (.BoolOp .Or (a::b::rest) pos) (TOr A B) :=
  dw_mk (pw_or ha hb) fun S R H σ env φ lk ok h=>tB3.ask lk ok h fun R1 H1 k f ok1 q=>by
    cases k with
    | false=>exact iteF (tB3.go lk f ok1 (by rw[if_neg Bool.false_ne_true] at q; exact q))
    | true=>exact iteT ⟨R1,f,by rw[if_pos rfl] at q; exact q⟩
theorem dt_bool {e:Expr} (h:DW X W e A):DT X W e A:=h.pt
theorem dt_not(ha:DT X W a A):DT X W (.UnaryOp .Not a pos) (TNot A) :=
  dt_mk (pt_not ha) fun S R H σ env φ lk ok h=>tB3.ask lk ok h fun R1 H1 k f ok1 q=>⟨R1,f,q⟩
/-- .. as values (bools) -/
def TAndV(Ta Tb:TD):TD:=fun c env φ=>Ta c env fun x=>∃ k,x=.bl k/\if k=true then Tb c env φ else φ (.bl false)
def TOrV(Ta Tb:TD):TD:=fun c env φ=>Ta c env fun x=>∃ k,x=.bl k/\if k=true then φ (.bl true) else Tb c env φ
def TNotV(Ta:TD):TD:=fun c env φ=>Ta c env fun x=>∃ k,x=.bl k/\φ (.bl (!k))
theorem de_one {op}{T:TD} (h:DE X W a T):DE X W (.BoolOp op [a] pos) T:=pe_one h
theorem de_and {rest:List Expr} (ha:DE X W a Ta) (hb:DE X W (.BoolOp .And (b::rest) pos) Tb):DE X W (.BoolOp .And (a::b::rest) pos) (TAndV Ta Tb) :=
  de_mk (pe_and ha hb) fun S R H σ env φ lk ok h=>tD.ask lk ok h fun R1 H1 d v f ok1 r ⟨k,e,q⟩=>by
    subst e
    refine⟨k,r,?_⟩
    cases k with
    | true=>exact iteT (tD.go lk f ok1 (by rw[if_pos rfl] at q; exact q))
    | false=>exact iteF ⟨R1,_,f,(show Rep X.K R1 (.bl false) _ from rfl),by rw[if_neg Bool.false_ne_true] at q; exact q⟩
theorem de_not(ha:DE X W a Ta):DE X W (.UnaryOp .Not a pos) (TNotV Ta) :=
  de_mk (pe_not ha) fun S R H σ env φ lk ok h=>tD.ask lk ok h fun R1 H1 d v f ok1 r ⟨k,e,q⟩=>by
    subst e
    exact⟨k,r,R1,_,f,(show Rep X.K R1 (.bl (!k)) _ from rfl),q⟩
def TIf(A:TB) (Ta Tb:TD):TD:=fun c env φ=>A c env fun k=>if k=true then Ta c env φ else Tb c env φ
theorem de_ifExp {t:Expr} (hc:DT X W t A) (ha:DE X W a Ta) (hb:DE X W b Tb):DE X W (.IfExp t a b pos) (TIf A Ta Tb) :=
  de_mk (pe_ifExp hc ha hb) fun S R H σ env φ lk ok h=>tB3.ask lk ok h fun R1 H1 k f ok1 q=>by
    cases k with
    | true=>exact iteT (tD.go lk f ok1 (by rw[if_pos rfl] at q; exact q))
    | false=>exact iteF (tD.go lk f ok1 (by rw[if_neg Bool.false_ne_true] at q; exact q))
/-- a<b<c -/
def TChain(f g:F2) (Ta Tb Tc:TD):TD:=fun c env φ=>Ta c env fun x=>Tb c env fun y=>f x y fun z=>∃ k,z=.bl k/\if k=true then Tc c env fun w=>g y w φ else φ (.bl false)
theorem tChain_ask {r r' : R2} {f g : F2} {Tc : TD} (k : OpD X.K r f) (k' : OpD X.K r' g) {S : Sta} {R H : Hp} {σ : L2.St} {env : Ev} {φ : D -> Prop} {Q : VK} (lk : Lk X.K S W) (ok : Ok3 X.K S R H σ env) (h : TChain f g Ta Tb Tc S.c env φ)
    (kQ:∀ v H',Pst X.K S.c R H φ v H'->Q v H'):tChain r r' (tD X.K W Ta) (tD X.K W Tb) (tD X.K W Tc) σ H Q:=by
  refine tD.ask lk ok h fun R1 H1 d1 v1 f1 ok1 r1 q1=>tD.ask lk ok1 q1 fun R2 H2 d2 v2 f2 ok2 r2 q2=>?_
  refine k S.c R2 H2 v1 v2 d1 d2 _ _ ok2.bas (r1.mono f2.up) r2 q2 fun z H3 p=>?_
  obtain⟨R3,d3,f3,r3,b,e,q3⟩:=p
  subst e
  refine⟨b,r3,?_⟩
  have ok3:=ok2.through f3
  cases b with
  | true =>
    rw[if_pos rfl] at q3 ⊢
    refine tD.ask lk ok3 q3 fun R4 H4 d4 v4 f4 ok4 r4 q4=>?_
    exact k' S.c R4 H4 v2 v4 d2 d4 φ _ ok4.bas (r2.mono (f3.trans f4).up) r4 q4 fun v H' p=>kQ v H' (Pst.from (((f1.trans f2).trans f3).trans f4) p)
  | false =>
    rw[if_neg Bool.false_ne_true] at q3 ⊢
    exact kQ _ _ ⟨R3,_,(f1.trans f2).trans f3,(show Rep X.K R3 (.bl false) _ from rfl),q3⟩
theorem de_chain {op op' : CmpOp} {r r' : R2} {f g : F2} {cc : Expr} {Tc : TD} (ho : OpR X (compareOp op) r) (k : OpD X.K r f) (ho' : OpR X (compareOp op') r') (k' : OpD X.K r' g) (ha : DE X W a Ta) (hb : DE X W b Tb) (hc : DE X W cc Tc)
    (hm:lastMarks [op,op'] [b,cc]=false:=by rfl):DE X W (.Compare a [op,op'] [b,cc] pos) (TChain f g Ta Tb Tc) :=
  de_mk (pe_chain ho ho' ha hb hc hm) fun S R H σ env φ lk ok h=>tChain_ask k k' lk ok h fun _ _ p=>p
def ixF:F2
  | .lst ds,.int i,φ=>∃ d,atI ds i=some d/\φ d
  | .tup ds,.int i,φ=>∃ d,atI ds i=some d/\φ d
  | .str z,.int i,φ=>z.length<=sizeLine/\∃ c,atI z.cps.toList i=some c/\φ (.str ⟨#[c]⟩)
  | _,_,_=>False
theorem atI_rep {K:PySem.W.Frag}{R:Hp}{ds:List D}{vs:List V}{i:Int}{d:D} (r:Reps K R ds vs) (h:atI ds i=some d):∃ v,atI vs i=some v/\Rep K R d v:=by
  unfold atI at h ⊢
  rw[r.length]
  cases e:ixN ds.length i with
  | none =>
    rw[e] at h
    cases h
  | some j =>
    rw[e] at h
    exact r.get (show ds[j]?=some d from h)
theorem opd_ix {K:PySem.W.Frag}:OpD K (rIx K) ixF:=fun c R H x y dx dy φ Q b r1 r2 q k=>by
  cases dx<;>cases dy<;>try exact q.elim
  case lst ds i =>
    obtain⟨p,xs,e,h,q2⟩:=(show ∃ p xs,x=.ref p/\R p=some (.lst xs)/\Reps K R ds xs from r1)
    obtain⟨d,hd,q⟩:=q
    obtain⟨v,hv,rv⟩:=atI_rep q2 hd
    exact .inl ⟨p,xs,i,v,e,r2,SqL.of (b.sub _ _ h),hv,k _ _ (Pst.now b rv q)⟩
  case tup ds i =>
    obtain⟨p,xs,e,h,q2⟩:=(show ∃ p xs,x=.ref p/\R p=some (.tup xs)/\Reps K R ds xs from r1)
    obtain⟨d,hd,q⟩:=q
    obtain⟨v,hv,rv⟩:=atI_rep q2 hd
    exact .inr (.inl ⟨p,xs,i,v,e,r2,SqT.of (b.sub _ _ h),hv,k _ _ (Pst.now b rv q)⟩)
  case str z i =>
    obtain⟨hz,cc,hc,q⟩:=q
    exact .inr (.inr ⟨z,i,cc,r1,r2,hz,hc,k _ _ (Pst.now b (show Rep K R (.str _) _ from rfl) q)⟩)
theorem de_ix(ha:DE X W a Ta) (hb:DE X W b Tb) (hp:PlainIx b:=by exact fun _ _=>rfl):DE X W (.Subscript a b pos) (TOp ixF Ta Tb) :=
  de_mk (pe_ix ix_seq ha hb hp) fun S R H σ env φ lk ok h=>op_ask opd_ix lk ok h fun _ _ p=>p
/-- the parts of a slice -/
abbrev TPD:=Ct->Ev->(Option Int->Prop)->Prop
def tO3(K:PySem.W.Frag) (W:WX) (T:TPD):TO:=fun σ H Q=>∃ S R env φ,Lk K S W/\Ok3 K S R H σ env/\T S.c env φ/\∀ v H',(∃ R',Fin S.c.wd R H R' H'/\φ v)->Q v H'
abbrev DO (X:Cx) (W:WX) (e:Option Expr) (T:TPD):Prop:=PO X e (tO3 X.K W T)
theorem do_mk {e:Option Expr}{t:TO}{T:TPD} (h:PO X e t) (k:∀ S R H σ env φ,Lk X.K S W->Ok3 X.K S R H σ env->T S.c env φ->t σ H (fun v H'=>∃ R',Fin S.c.wd R H R' H'/\φ v)):DO X W e T :=
  ⟨fun pins s σ H Q I ⟨S,R,env,φ,lk,ok,hT,hQ⟩=>thn (h.run pins s σ H _ I (k S R H σ env φ lk ok hT)) fun v s' ⟨x,H',I',r,p⟩=>⟨x,H',I',r,hQ x H' p⟩⟩
def TNoPart:TPD:=fun _ _ φ=>φ none
def TPart(T:TD):TPD:=fun c env φ=>T c env fun x=>∃ i,x=.int i/\φ (some i)
theorem do_none:DO X W none TNoPart:=do_mk po_none fun S R H σ env φ lk ok h=>⟨R,Fin.refl ok.bas,h⟩
theorem do_some(h:DE X W a Ta):DO X W (some a) (TPart Ta):=do_mk (po_some h) fun S R H σ env φ lk ok q=>tD.ask lk ok q fun R1 H1 d v f ok1 r ⟨i,e,q⟩=>by
  subst e
  exact⟨i,r,R1,f,q⟩
def cutD(xs:List D) (lo hi:Option Int):List D:=List.take (HT.sIx xs.length xs.length hi - HT.sIx xs.length 0 lo) (List.drop (HT.sIx xs.length 0 lo) xs)
def slF:D->Option Int->Option Int->(D->Prop)->Prop
  | .str z,lo,hi,φ=>z.length<=sizeLine/\φ (.str (cutS z lo hi))
  | .lst ds,lo,hi,φ=>φ (.lst (cutD ds lo hi))
  | .tup ds,lo,hi,φ=>φ (.tup (cutD ds lo hi))
  | _,_,_,_=>False
theorem cut_rep {K:PySem.W.Frag}{R:Hp}{ds:List D}{vs:List V}{lo hi:Option Int} (r:Reps K R ds vs):Reps K R (cutD ds lo hi) (cutV vs lo hi):=by
  unfold cutD cutV
  rw[r.length]
  exact(r.drop _).take _
abbrev rSlAll (K:PySem.W.Frag):V->Option Int->Option Int->Hp->VK->Prop:=fun x lo hi H Q=>rSlS x lo hi H Q\/(fun x lo hi H Q=>rSlL K x lo hi H Q\/rSlA K x lo hi H Q) x lo hi H Q
theorem sl_all:SlR X (rSlAll X.K):=SlR.or sl_str (SlR.or sl_list sl_tupA)
def TSl(T:TD) (Tl Th:TPD):TD:=fun c env φ=>T c env fun x=>Tl c env fun lo=>Th c env fun hi=>slF x lo hi φ
theorem tO3.ask {K:PySem.W.Frag}{W:WX}{S:Sta}{R H:Hp}{σ:L2.St}{env:Ev}{T:TPD}{φ:Option Int->Prop}{Q:Option Int->Hp->Prop} (lk:Lk K S W) (ok:Ok3 K S R H σ env) (h:T S.c env φ) (k:∀ R' H' b,Fin S.c.wd R H R' H'->Ok3 K S R' H' σ env->φ b->Q b H'):tO3 K W T σ H Q :=
  ⟨S,R,env,φ,lk,ok,h,fun b H' ⟨R',f,q⟩=>k R' H' b f (ok.through f) q⟩
theorem cutV_all {vs:List V}{lo hi:Option Int} (h:HT.sIx vs.length 0 lo=0/\HT.sIx vs.length vs.length hi=vs.length):cutV vs lo hi=vs:=by
  unfold cutV
  rw[h.1,h.2]
  simp
theorem de_slice {lo hi:Option Expr}{p2:Pos}{Tl Th:TPD} (ha:DE X W a Ta) (hl:DO X W lo Tl) (hu:DO X W hi Th):DE X W (.Subscript a (.Slice lo hi none p2) pos) (TSl Ta Tl Th) :=
  de_mk (pe_slice sl_all ha hl hu) fun S R H σ env φ lk ok h=>by
    refine tD.ask lk ok h fun R1 H1 d v f1 ok1 r1 q1=>tO3.ask lk ok1 q1 fun R2 H2 l f2 ok2 q2=>tO3.ask lk ok2 q2 fun R3 H3 u f3 ok3 q3=>?_
    have r3:=r1.mono (f2.trans f3).up
    have ff:=(f1.trans f2).trans f3
    cases d<;>try exact q3.elim
    case str z=>exact .inl ⟨z,r3,q3.1,R3,_,ff,(show Rep X.K R3 (.str _) _ from rfl),q3.2⟩
    case lst ds =>
      obtain⟨p,xs,e,hh,q⟩:=(show ∃ p xs,v=.ref p/\R3 p=some (.lst xs)/\Reps X.K R3 ds xs from r3)
      exact .inr (.inl ⟨p,xs,e,SqL.of (ok3.bas.sub _ _ hh),fun n hn=>Pst.from ff (Pst.lst ok3.bas hn (cut_rep q) q3)⟩)
    case tup ds =>
      obtain⟨p,xs,e,hh,q⟩:=(show ∃ p xs,v=.ref p/\R3 p=some (.tup xs)/\Reps X.K R3 ds xs from r3)
      refine .inr (.inr ⟨p,xs,e,SqT.of (ok3.bas.sub _ _ hh),fun hw=>?_,fun _ n hn=>Pst.from ff (Pst.tup ok3.bas hn (cut_rep q) q3)⟩)
      have cr:=cut_rep (lo:=l) (hi:=u) q
      rw[cutV_all hw] at cr
      exact Pst.from ff (Pst.now ok3.bas (d:=.tup (cutD ds l u)) ⟨p,xs,rfl,hh,cr⟩ q3)
structure AtK (K:PySem.W.Frag) (C:Addr) (f:Str):Prop where
  cls:Cls K C
  no:NoAttr K C f
def TFld(K:PySem.W.Frag) (T:TD) (f:Str):TD:=fun c env φ=>T c env fun x=>∃ C fs d,x=.ins C fs/\AtK K C f/\fs.lookup f=some d/\φ d
theorem de_fld {f:Str} (ha:DE X W a Ta) (hb:attributeBase a f X.env (eval a X.env)=eval a X.env:=by rfl):DE X W (.Attribute a f pos) (TFld X.K Ta f) :=
  de_mk (pe_fld ha hb) fun S R H σ env φ lk ok h=>tD.ask lk ok h fun R1 H1 d v f1 ok1 r1 ⟨C,fs,d',e,ak,l,q⟩=>by
    subst e
    obtain⟨p,dx,fvs,e2,hh,rf⟩:=(show ∃ p dx fvs,v=.ref p/\R1 p=some (.ins C dx fvs)/\RepF X.K R1 fs fvs from r1)
    obtain⟨u,l2,r2⟩:=rf.look l
    exact⟨p,C,dx,fvs,u,e2,ok1.bas.sub _ _ hh,ak.cls,ak.no,l2,R1,d',f1,r2,q⟩
/-- .. of the instance that this def alone holds -/
def TFldO(K:PySem.W.Frag) (i:Nat) (f:Str):TD:=fun _ env φ=>∃ p C fs d,env[i]?=some (.oi p C fs)/\AtK K C f/\fs.lookup f=some d/\φ d
theorem de_fldO (i : Nat) {x : Str} {p0 : Pos} {f : Str} (hN : X.N[i]? = some x := by rfl) (hv : Vis X.env.scope x := by first | exact Or.inl rfl | exact Or.inr (Or.inl rfl) | exact Or.inr (Or.inr rfl)) (hd : (x == ("__debug__" : Str)) = false := by decide)
    (hcd:(x==("__classdict__":Str))=false:=by decide) (hb:attributeBase (.Name x p0) f X.env (eval (.Name x p0) X.env)=eval (.Name x p0) X.env:=by rfl):DE X W (.Attribute (.Name x p0) f pos) (TFldO X.K i f) :=
  de_mk (pe_fld (pe_var hN hv hd hcd) hb) fun S R H σ env φ lk ok ⟨p,C,fs,d,e,ak,l,q⟩=>by
    obtain⟨o,h1,e1,dx,fvs,h2,rf⟩:=pair_get ok.sl e
    subst e1
    obtain⟨u,l2,r2⟩:=rf.look l
    exact⟨_,h1,p,C,dx,fvs,u,rfl,h2,ak.cls,ak.no,l2,Pst.now ok.bas r2 q⟩
/-- a constant of the class -/
def TCon(K:PySem.W.Frag) (T:TD) (f:Str):TD:=fun c env φ=>T c env fun x=>∃ C fs d u,x=.ins C fs/\Cls K C/\Con K C f (flV d) u/\flatD d=true/\fs.lookup f=none/\φ d
theorem flV_rep {K:PySem.W.Frag}{R:Hp}{d:D} (h:flatD d=true):Rep K R d (flV d):=by
  cases d<;>first | exact Bool.noConfusion h | rfl
def TNil:TL:=fun _ _ φ=>φ []
def TCons(T:TD) (U:TL):TL:=fun c env φ=>T c env fun x=>U c env fun xs=>φ (x::xs)
theorem da_nil:DA X W [] TNil:=da_mk pa_nil fun S R H σ env φ lk ok h=>⟨R,[],Fin.refl ok.bas,rfl,h⟩
theorem da_cons {es:List Expr}{U:TL} (ha:DE X W a Ta) (hr:DA X W es U) (hs:starEach (a::es) X.env=(false,eval a X.env)::starEach es X.env:=by rfl):DA X W (a::es) (TCons Ta U) :=
  da_mk (pa_cons ha hr hs) fun S R H σ env φ lk ok h=>tD.ask lk ok h fun R1 H1 d v f1 ok1 r1 q1=>tL3.ask lk ok1 q1 fun R2 H2 ds vs f2 ok2 r2 q2 =>
    ⟨R2,d::ds,f1.trans f2,⟨v,vs,rfl,r1.mono f2.up,r2⟩,q2⟩
def TTup(U:TL):TD:=fun c env φ=>U c env fun ds=>ds.length<=sizeLine/\φ (.tup ds)
def TLst(U:TL):TD:=fun c env φ=>U c env fun ds=>ds.length<=sizeLine/\φ (.lst ds)
theorem de_tup {es:List Expr}{x1}{U:TL} (h:DA X W es U):DE X W (.Tuple es x1 pos) (TTup U) :=
  de_mk (pe_tup h) fun S R H σ env φ lk ok q=>tL3.ask lk ok q fun R1 H1 ds vs f1 ok1 r1 q1=>⟨by rw[r1.length]; exact q1.1,fun p hp=>Pst.from f1 (Pst.tup ok1.bas hp r1 q1.2)⟩
theorem de_lst {es:List Expr}{U:TL} (h:DA X W es U):DE X W (.List es pos) (TLst U) :=
  de_mk (pe_lst h) fun S R H σ env φ lk ok q=>tL3.ask lk ok q fun R1 H1 ds vs f1 ok1 r1 q1=>⟨by rw[r1.length]; exact q1.1,fun p hp=>Pst.from f1 (Pst.lst ok1.bas hp r1 q1.2)⟩
abbrev F1:=List D->(D->Prop)->Prop
def CallD(K:PySem.W.Frag) (r:List V->Hp->VK->Prop) (f:F1):Prop:=∀ (c:Ct) (R H:Hp) (xs:List V) (ds:List D) (φ:D->Prop) (Q:VK),Bas c.wd R H->Reps K R ds xs->f ds φ->(∀ v H',Pst K c R H φ v H'->Q v H')->r xs H Q
def TCB(f:F1) (U:TL):TD:=fun c env φ=>U c env fun ds=>f ds φ
theorem cb_ask {r:List V->Hp->VK->Prop}{f:F1}{U:TL} (k:CallD X.K r f) {S:Sta}{R H:Hp}{σ:L2.St}{env:Ev}{φ:D->Prop} (lk:Lk X.K S W) (ok:Ok3 X.K S R H σ env) (h:TCB f U S.c env φ):tCB r (tL3 X.K W U) σ H (Pst X.K S.c R H φ) :=
  tL3.ask lk ok h fun R1 H1 ds vs f1 ok1 r1 q1=>k S.c R1 H1 vs ds φ _ ok1.bas r1 q1 fun v H' p=>Pst.from f1 p
theorem de_callB {id : String} {x : Str} {e : Expr} {es : List Expr} {p : Pos} {r : List V -> Hp -> VK -> Prop} {f : F1} {U : TL} (hc : CallR X (.builtin id) r) (k : CallD X.K r f) (hg : Gl X x) (hm : X.mg x = none) (hv : bootBuiltins x = some (.builtin id)) (ha : DA X W (e :: es) U)
    (hn:x≠"__name__":=by decide) (hdb:(x==("__debug__":Str))=false:=by decide) (he:starEach (e::es) X.env=(false,eval e X.env)::starEach es X.env:=by rfl) (hpl:(backTo pos (starEach es X.env)).any (·.1)=false:=by rfl) :
    DE X W (.Call (.Name x p) (e::es) [] pos) (TCB f U) :=
  de_mk (pe_callB hc hg hm hv ha hn hdb he hpl) fun S R H σ env φ lk ok h=>cb_ask k lk ok h
theorem de_callTy {T : String} {x : Str} {e : Expr} {es : List Expr} {p : Pos} {r : List V -> Hp -> VK -> Prop} {f : F1} {U : TL} (hc : CallR X (.type T) r) (k : CallD X.K r f) (hg : Gl X x) (hm : X.mg x = none) (hv : bootBuiltins x = some (.type T)) (ha : DA X W (e :: es) U)
    (hn:x≠"__name__":=by decide) (hdb:(x==("__debug__":Str))=false:=by decide) (he:starEach (e::es) X.env=(false,eval e X.env)::starEach es X.env:=by rfl) (hpl:(backTo pos (starEach es X.env)).any (·.1)=false:=by rfl) :
    DE X W (.Call (.Name x p) (e::es) [] pos) (TCB f U) :=
  de_mk (pe_callTy hc hg hm hv ha hn hdb he hpl) fun S R H σ env φ lk ok h=>cb_ask k lk ok h
def lenF:F1
  | [.str z],φ=>z.length<=sizeLine/\φ (.int (z.length:Nat))
  | [.lst ds],φ=>φ (.int (ds.length:Nat))
  | [.tup ds],φ=>φ (.int (ds.length:Nat))
  | _,_=>False
abbrev rLen3 (K:PySem.W.Frag):List V->Hp->VK->Prop:=fun xs H Q=>∃ (x:V) (n:Nat),xs=[x]/\LenV K x H n/\Q (V.int (n:Int)) H
theorem reps1 {K:PySem.W.Frag}{R:Hp}{d:D}{xs:List V} (h:Reps K R [d] xs):∃ v,xs=[v]/\Rep K R d v:=by
  obtain⟨v,r,e,h1,h2⟩:=(show ∃ v r,xs=v::r/\Rep K R d v/\Reps K R [] r from h)
  have e2:r=[]:=h2
  subst e2
  exact⟨v,e,h1⟩
theorem reps2 {K:PySem.W.Frag}{R:Hp}{d e:D}{xs:List V} (h:Reps K R [d,e] xs):∃ v u,xs=[v,u]/\Rep K R d v/\Rep K R e u:=by
  obtain⟨v,r,e,h1,h2⟩:=(show ∃ v r,xs=v::r/\Rep K R d v/\Reps K R [_] r from h)
  obtain⟨u,e2,h3⟩:=reps1 h2
  subst e2
  exact⟨v,u,e,h1,h3⟩
theorem cd_len {K:PySem.W.Frag}:CallD K (rLen3 K) lenF:=fun c R H xs ds φ Q b r q k=>by
  unfold lenF at q
  split at q
  . obtain⟨v,e,h⟩:=reps1 r
    subst e
    rw[rep_str h]
    exact⟨_,_,rfl,⟨q.1,rfl⟩,k _ _ (Pst.now b (show Rep K R (.int _) _ from rfl) q.2)⟩
  . obtain⟨v,e,h⟩:=reps1 r
    subst e
    obtain⟨p,xs,e,hh,hr⟩:=(show ∃ p xs,v=.ref p/\R p=some (.lst xs)/\Reps K R _ xs from h)
    subst e
    exact⟨_,_,rfl,.inl ⟨xs,SqL.of (b.sub _ _ hh),rfl⟩,k _ _ (Pst.now b (show Rep K R (.int _) _ from rfl) (by rw[hr.length]; exact q))⟩
  . obtain⟨v,e,h⟩:=reps1 r
    subst e
    obtain⟨p,xs,e,hh,hr⟩:=(show ∃ p xs,v=.ref p/\R p=some (.tup xs)/\Reps K R _ xs from h)
    subst e
    exact⟨_,_,rfl,.inr ⟨xs,SqT.of (b.sub _ _ hh),rfl⟩,k _ _ (Pst.now b (show Rep K R (.int _) _ from rfl) (by rw[hr.length]; exact q))⟩
  . exact q.elim
theorem de_len {e:Expr}{p:Pos}{U:TL} (hg:Gl X "len") (hm:X.mg "len"=none) (ha:DA X W [e] U) (he:starEach [e] X.env=(false,eval e X.env)::starEach [] X.env:=by rfl):DE X W (.Call (.Name "len" p) [e] [] pos) (TCB lenF U) :=
  de_callB call_len cd_len hg hm boot_len ha (by decide) (by decide) he rfl
end
open PySem PySem.Spec PyProof.Rows L2
section
variable {X:Cx}{W:WX}{pos:Pos}{a b:Expr}{Ta Tb:TD}{A B:TB}
def intsD:List D->Option (List Int)
  | []=>some []
  | .int i::r=>(intsD r).map (i::·)
  | _=>none
def blsD:List D->Option (List Bool)
  | []=>some []
  | .bl i::r=>(blsD r).map (i::·)
  | _=>none
def strsD:List D->Option (List Str)
  | []=>some []
  | .str i::r=>(strsD r).map (i::·)
  | _=>none
theorem intsD_eq:∀ {ds:List D}{ns:List Int},intsD ds=some ns->ds=ns.map D.int
  | [],ns,h=>by
    cases h
    rfl
  | d::r,ns,h=>by
    cases d<;>try (cases h; done)
    case int i =>
      have h2:(intsD r).map (i::·)=some ns:=h
      obtain⟨ms,h3,h4⟩:=Option.map_eq_some_iff.mp h2
      rw[<- h4,intsD_eq h3]
      rfl
theorem blsD_eq:∀ {ds:List D}{ns:List Bool},blsD ds=some ns->ds=ns.map D.bl
  | [],ns,h=>by
    cases h
    rfl
  | d::r,ns,h=>by
    cases d<;>try (cases h; done)
    case bl i =>
      have h2:(blsD r).map (i::·)=some ns:=h
      obtain⟨ms,h3,h4⟩:=Option.map_eq_some_iff.mp h2
      rw[<- h4,blsD_eq h3]
      rfl
theorem strsD_eq:∀ {ds:List D}{ns:List Str},strsD ds=some ns->ds=ns.map D.str
  | [],ns,h=>by
    cases h
    rfl
  | d::r,ns,h=>by
    cases d<;>try (cases h; done)
    case str i =>
      have h2:(strsD r).map (i::·)=some ns:=h
      obtain⟨ms,h3,h4⟩:=Option.map_eq_some_iff.mp h2
      rw[<- h4,strsD_eq h3]
      rfl
@[simp] theorem intsD_map:∀ ns:List Int,intsD (ns.map D.int)=some ns
  | []=>rfl
  | n::r=>by
    show(intsD (r.map D.int)).map (n::·)=_
    rw[intsD_map r]; rfl
@[simp] theorem blsD_map:∀ ns:List Bool,blsD (ns.map D.bl)=some ns
  | []=>rfl
  | n::r=>by
    show(blsD (r.map D.bl)).map (n::·)=_
    rw[blsD_map r]; rfl
@[simp] theorem strsD_map:∀ ns:List Str,strsD (ns.map D.str)=some ns
  | []=>rfl
  | n::r=>by
    show(strsD (r.map D.str)).map (n::·)=_
    rw[strsD_map r]; rfl
theorem rep_lst {K:PySem.W.Frag}{R:Hp}{ds:List D}{v:V} (h:Rep K R (.lst ds) v):∃ p xs,v=.ref p/\R p=some (.lst xs)/\Reps K R ds xs:=h
theorem rep_tup {K:PySem.W.Frag}{R:Hp}{ds:List D}{v:V} (h:Rep K R (.tup ds) v):∃ p xs,v=.ref p/\R p=some (.tup xs)/\Reps K R ds xs:=h
theorem rep_ins {K:PySem.W.Frag}{R:Hp}{C:Addr}{ds:List (Str × D)}{v:V} (h:Rep K R (.ins C ds) v):∃ p dx fvs,v=.ref p/\R p=some (.ins C dx fvs)/\RepF K R ds fvs:=h
def sumF:F1
  | [.lst ds],φ=>∃ ns,intsD ds=some ns/\φ (.int ns.sum)
  | _,_=>False
theorem cd_sum {K:PySem.W.Frag}:CallD K (rSum K) sumF:=fun c R H xs ds φ Q b r q k=>by
  unfold sumF at q
  split at q
  . obtain⟨v,e,h⟩:=reps1 r
    subst e
    obtain⟨ns,h1,q⟩:=q
    rw[intsD_eq h1] at h
    obtain⟨p,xs,e,hh,hr⟩:=rep_lst h
    subst e
    rw[hr.ints] at hh
    exact⟨p,ns,rfl,SqL.of (b.sub _ _ hh),k _ _ (Pst.now b (show Rep K R (.int _) _ from rfl) q)⟩
  . exact q.elim
def allF:F1
  | [.lst ds],φ=>∃ ns,blsD ds=some ns/\φ (.bl (ns.all id))
  | _,_=>False
theorem cd_all {K:PySem.W.Frag}:CallD K (rAll K) allF:=fun c R H xs ds φ Q b r q k=>by
  unfold allF at q
  split at q
  . obtain⟨v,e,h⟩:=reps1 r
    subst e
    obtain⟨ns,h1,q⟩:=q
    rw[blsD_eq h1] at h
    obtain⟨p,xs,e,hh,hr⟩:=rep_lst h
    subst e
    rw[hr.bls] at hh
    exact⟨p,ns,rfl,SqL.of (b.sub _ _ hh),k _ _ (Pst.now b (show Rep K R (.bl _) _ from rfl) q)⟩
  . exact q.elim
def anyF:F1
  | [.lst ds],φ=>∃ ns,blsD ds=some ns/\φ (.bl (ns.any id))
  | _,_=>False
theorem cd_any {K:PySem.W.Frag}:CallD K (rAny K) anyF:=fun c R H xs ds φ Q b r q k=>by
  unfold anyF at q
  split at q
  . obtain⟨v,e,h⟩:=reps1 r
    subst e
    obtain⟨ns,h1,q⟩:=q
    rw[blsD_eq h1] at h
    obtain⟨p,xs,e,hh,hr⟩:=rep_lst h
    subst e
    rw[hr.bls] at hh
    exact⟨p,ns,rfl,SqL.of (b.sub _ _ hh),k _ _ (Pst.now b (show Rep K R (.bl _) _ from rfl) q)⟩
  . exact q.elim
def max2F:F1
  | [.int i,.int j],φ=>φ (.int (if j>i then j else i))
  | _,_=>False
def int1F:F1
  | [.int i],φ=>φ (.int i)
  | [.bl i],φ=>φ (.int (if i then 1 else 0))
  | _,_=>False
theorem cd_int1 {K:PySem.W.Frag}:CallD K (fun xs H Q=>(∃ i,xs=[.int i]/\Q (.int i) H)\/∃ k,xs=[.bl k]/\Q (.int (if k then 1 else 0)) H) int1F:=fun c R H xs ds φ Q b r q k=>by
  unfold int1F at q
  split at q
  . obtain⟨v,e,h1⟩:=reps1 r
    subst e
    exact .inl ⟨_,by rw[rep_int h1],k _ _ (Pst.now b (show Rep K R (.int _) _ from rfl) q)⟩
  . obtain⟨v,e,h1⟩:=reps1 r
    subst e
    exact .inr ⟨_,by rw[rep_bl h1],k _ _ (Pst.now b (show Rep K R (.int _) _ from rfl) q)⟩
  . exact q.elim
def tupleF:F1
  | [.lst ds],φ=>φ (.tup ds)
  | [.tup ds],φ=>φ (.tup ds)
  | _,_=>False
theorem cd_tuple {K:PySem.W.Frag}:CallD K (fun xs H Q=>∃ p ys,xs=[V.ref p]/\((SqL K H p ys/\∀ (l:Addr),H l=none->Q (V.ref l) (upd H l (HO.tup ys)))\/SqT K H p ys/\Q (V.ref p) H)) tupleF:=fun c R H xs ds φ Q b r q k=>by
  unfold tupleF at q
  split at q
  . obtain⟨v,e,h⟩:=reps1 r
    subst e
    obtain⟨p,xs,e,hh,hr⟩:=rep_lst h
    subst e
    exact⟨p,xs,rfl,.inl ⟨SqL.of (b.sub _ _ hh),fun l hl=>k _ _ (Pst.tup b hl hr q)⟩⟩
  . obtain⟨v,e,h⟩:=reps1 r
    subst e
    obtain⟨p,xs,e,hh,hr⟩:=rep_tup h
    subst e
    exact⟨p,xs,rfl,.inr ⟨SqT.of (b.sub _ _ hh),k _ _ (Pst.now b (d:=.tup _) ⟨p,xs,rfl,hh,hr⟩ q)⟩⟩
  . exact q.elim
def listF:F1
  | [.lst ds],φ=>φ (.lst ds)
  | [.tup ds],φ=>φ (.lst ds)
  | _,_=>False
theorem cd_list {K:PySem.W.Frag}:CallD K (fun xs H Q=>∃ p ys,xs=[V.ref p]/\(SqL K H p ys\/SqT K H p ys)/\∀ (l:Addr),H l=none->Q (V.ref l) (upd H l (HO.lst ys))) listF:=fun c R H xs ds φ Q b r q k=>by
  unfold listF at q
  split at q
  . obtain⟨v,e,h⟩:=reps1 r
    subst e
    obtain⟨p,xs,e,hh,hr⟩:=rep_lst h
    subst e
    exact⟨p,xs,rfl,.inl (SqL.of (b.sub _ _ hh)),fun l hl=>k _ _ (Pst.lst b hl hr q)⟩
  . obtain⟨v,e,h⟩:=reps1 r
    subst e
    obtain⟨p,xs,e,hh,hr⟩:=rep_tup h
    subst e
    exact⟨p,xs,rfl,.inr (SqT.of (b.sub _ _ hh)),fun l hl=>k _ _ (Pst.lst b hl hr q)⟩
  . exact q.elim
def strF:F1
  | [.int i],φ=>i.natAbs.log2<1920/\φ (.str (toString i))
  | _,_=>False
theorem cd_str {K:PySem.W.Frag}:CallD K (fun xs H Q=>∃ i,xs=[.int i]/\i.natAbs.log2<1920/\Q (.str (toString i)) H) strF:=fun c R H xs ds φ Q b r q k=>by
  unfold strF at q
  split at q
  . obtain⟨v,e,h1⟩:=reps1 r
    subst e
    exact⟨_,by rw[rep_int h1],q.1,k _ _ (Pst.now b (show Rep K R (.str _) _ from rfl) q.2)⟩
  . exact q.elim
/-- isinstance -/
structure InsK (K:PySem.W.Frag) (C:Addr):Prop where
  cls:Cls K C
  c1:PySem.W.findIn K (Value.ref C) (Str.ofString "__class__")=some (some (Value.builtin "object.__class__"))
  c2:PySem.W.specialIn K (Value.builtin "object.__class__") (Str.ofString "__get__")=some (some (Value.builtin "getset_descriptor.__get__"))
  c3:PySem.W.takesIn K (Value.builtin "object.__class__")=some true
  c4:PySem.W.mroIn K C (Value.type "object")=some true
def tyOf:D->Value
  | .non=>.type "NoneType"
  | .bl _=>.type "bool"
  | .int _=>.type "int"
  | .str _=>.type "str"
  | .tup _=>.type "tuple"
  | .lst _=>.type "list"
  | .ins C _=>.ref C
  | _=>.none
/-- its class is known there -/
def TyK(K:PySem.W.Frag):D->Prop
  | .ins C _=>InsK K C
  | .ty _=>False
  | .ref _=>False
  | .exc _ _=>False
  | .clo _ _=>False
  | .lam _ _=>False
  | .dic _=>False
  | .dicT _=>False
  | _=>True
theorem ty_rep {K:PySem.W.Frag}{c:Ct}{R H:Hp}{d:D}{v:V} (b:Bas c.wd R H) (r:Rep K R d v) (t:TyK K d):TyX K H v (tyOf d):=by
  cases d
  case non=>rw[show v=.non from r]; exact .base .non
  case bl=>rw[show v=.bl _ from r]; exact .base (.bl _)
  case int=>rw[show v=.int _ from r]; exact .base (.int _)
  case str=>rw[show v=.str _ from r]; exact .base (.str _)
  case ty=>exact t.elim
  case ref=>exact t.elim
  case exc=>exact t.elim
  case clo=>exact t.elim
  case lam=>exact t.elim
  case dic=>exact t.elim
  case dicT=>exact t.elim
  case tup ds =>
    obtain⟨p,xs,e,hh,hr⟩:=rep_tup r
    subst e
    exact .base (.tup (b.sub _ _ hh))
  case lst ds =>
    obtain⟨p,xs,e,hh,hr⟩:=rep_lst r
    subst e
    exact .base (.lst (b.sub _ _ hh))
  case ins C fs =>
    obtain⟨p,dx,xs,e,hh,hr⟩:=rep_ins r
    subst e
    have t':InsK K C:=t
    exact .base (.ins (b.sub _ _ hh) t'.cls t'.c1 t'.c2 t'.c3 t'.c4)
def clsOf:D->Option Value
  | .ty n=>some (.type n)
  | .ref a=>some (.ref a)
  | _=>none
def clsOfs:List D->Option (List Value)
  | []=>some []
  | d::r=>match clsOf d,clsOfs r with
    | some v,some vs=>some (v::vs)
    | _,_=>none
theorem cls_rep {K:PySem.W.Frag}{R:Hp}{d:D}{v:V}{u:Value} (r:Rep K R d v) (h:clsOf d=some u):ClsV v u:=by
  cases d<;>try (cases h; done)
  case ty n =>
    cases h
    rw[show v=.ty n from r]
    exact .ty n
  case ref n =>
    cases h
    rw[show v=.ref n from r]
    exact .own n
theorem clss_rep {K:PySem.W.Frag}{R:Hp}:∀ {ds:List D}{vs:List V}{us:List Value},Reps K R ds vs->clsOfs ds=some us->Paired ClsV vs us
  | [],vs,us,r,h=>by
    have e:vs=[]:=r
    subst e
    cases h
    exact .nil
  | d::ds,vs,us,r,h=>by
    obtain⟨v,t,e,h1,h2⟩:=(show ∃ v r,vs=v::r/\Rep K R d v/\Reps K R ds r from r)
    subst e
    have h3:(match clsOf d,clsOfs ds with
      | some v,some vs=>some (v::vs)
      | _,_=>none)=some us:=h
    cases e1:clsOf d with
    | none =>
      rw[e1] at h3
      cases h3
    | some u =>
      cases e2:clsOfs ds with
      | none =>
        rw[e1,e2] at h3
        cases h3
      | some ws =>
        rw[e1,e2] at h3
        cases h3
        exact .cons (cls_rep h1 e1) (clss_rep h2 e2)
def isiF(K:PySem.W.Frag):F1
  | [x,c],φ=>TyK K x/\∃ u b,clsOf c=some u/\PySem.W.kitOne K (tyOf x) u=some b/\φ (.bl b)
  | _,_=>False
theorem cd_isi {K:PySem.W.Frag}:CallD K (rIsi K) (isiF K):=fun c R H xs ds φ Q b r q k=>by
  unfold isiF at q
  split at q
  . obtain⟨v,u,e,h1,h2⟩:=reps2 r
    subst e
    obtain⟨t,u',bb,e1,e2,q⟩:=q
    exact⟨v,u,_,u',bb,rfl,cls_rep h2 e1,ty_rep b h1 t,e2,k _ _ (Pst.now b (show Rep K R (.bl _) _ from rfl) q)⟩
  . exact q.elim
def isiTF(K:PySem.W.Frag):F1
  | [x,.tup cs],φ=>TyK K x/\∃ us b,clsOfs cs=some us/\PySem.W.kitAny K (tyOf x) us=some b/\φ (.bl b)
  | _,_=>False
theorem cd_isiT {K:PySem.W.Frag}:CallD K (rIsiT K) (isiTF K):=fun c R H xs ds φ Q b r q k=>by
  unfold isiTF at q
  split at q
  . obtain⟨v,u,e,h1,h2⟩:=reps2 r
    subst e
    obtain⟨t,us,bb,e1,e2,q⟩:=q
    obtain⟨p,xs,e3,hh,hr⟩:=rep_tup h2
    subst e3
    exact⟨v,p,xs,_,us,bb,rfl,b.sub _ _ hh,clss_rep hr e1,ty_rep b h1 t,e2,k _ _ (Pst.now b (show Rep K R (.bl _) _ from rfl) q)⟩
  . exact q.elim
theorem CallR.or {f:Value}{r r':List V->Hp->VK->Prop} (h:CallR X f r) (h':CallR X f r'):CallR X f (fun xs H Q=>r xs H Q\/r' xs H Q):=fun pins s σ H xs us Q I v q=>by
  rcases q with q | q
  . exact h pins s σ H xs us Q I v q
  . exact h' pins s σ H xs us Q I v q
/-- isinstance with a class or with a tuple of classes -/
def isiAF(K:PySem.W.Frag):F1
  | [x,.tup cs],φ=>isiTF K [x,.tup cs] φ
  | [x,c],φ=>isiF K [x,c] φ
  | _,_=>False
theorem cd_isiA {K:PySem.W.Frag}:CallD K (fun xs H Q=>rIsi K xs H Q\/rIsiT K xs H Q) (isiAF K):=fun c R H xs ds φ Q b r q k=>by
  unfold isiAF at q
  split at q
  . exact .inr (cd_isiT c R H xs _ φ Q b r q k)
  . exact .inl (cd_isi c R H xs _ φ Q b r q k)
  . exact q.elim
def joinF:D->List D->(D->Prop)->Prop
  | .str a,[.lst ds],φ=>∃ ys,strsD ds=some ys/\(List.map (fun x=>x.length) ys).sum+ys.length * a.length<=16777216/\φ (.str (Txt.join a ys))
  | _,_,_=>False
def TM1(f:D->List D->(D->Prop)->Prop) (To Te:TD):TD:=fun c env φ=>To c env fun x=>(∃ a,x=.str a)/\Te c env fun y=>f x [y] φ
theorem de_join {o e : Expr} {apos : Pos} {To Te : TD} (ho : DE X W o To) (he : DE X W e Te) (hs : starEach [e] X.env = [(false, eval e X.env)] := by rfl) (hb : attributeBase o (Str.ofString "join") X.env (eval o X.env) = eval o X.env := by rfl)
    (hl:(apos.endLine==pos.line)=true:=by rfl):DE X W (.Call (.Attribute o (Str.ofString "join") apos) [e] [] pos) (TM1 joinF To Te) :=
  de_mk (pe_join ho he hs hb hl) fun S R H σ env φ lk ok h=>tD.ask lk ok h fun R1 H1 d v f1 ok1 r1 ⟨⟨a,ea⟩,q1⟩=>by
    subst ea
    refine⟨⟨a,r1⟩,?_⟩
    refine tD.ask lk ok1 q1 fun R2 H2 d2 v2 f2 ok2 r2 q2=>?_
    cases d2<;>try exact q2.elim
    case lst ds =>
      obtain⟨ys,e1,hz,q⟩:=q2
      rw[strsD_eq e1] at r2
      obtain⟨p,xs,e,hh,hr⟩:=rep_lst r2
      subst e
      rw[hr.strs] at hh
      exact⟨a,p,ys,r1,rfl,.inl (SqL.of (ok2.bas.sub _ _ hh)),hz,R2,_,f1.trans f2,(show Rep X.K R2 (.str _) _ from rfl),q⟩
def TFmt(T:TD):TD:=fun c env φ=>T c env fun x=>(∃ y:Str,x=.str y/\y.length<=sizeLine/\φ (.str y))\/∃ i:Int,x=.int i/\i.natAbs.log2<1920/\φ (.str (toString i))
theorem de_fmt {e:Expr}{T:TD} (he:DE X W e T):DE X W (.FormattedValue e (-1) none pos) (TFmt T) :=
  de_mk (pe_fmt he) fun S R H σ env φ lk ok h=>tD.ask lk ok h fun R1 H1 d v f1 ok1 r1 q1=>by
    rcases q1 with ⟨y,e,hz,q⟩ | ⟨y,e,hz,q⟩
    . subst e
      exact .inl ⟨y,r1,hz,R1,_,f1,(show Rep X.K R1 (.str _) _ from rfl),q⟩
    . subst e
      exact .inr ⟨y,r1,hz,R1,_,f1,(show Rep X.K R1 (.str _) _ from rfl),q⟩
inductive DJ (X:Cx) (W:WX):List Expr->List TD->Prop where
  | nil:DJ X W [] []
  | cons {e:Expr}{t:TD}{es:List Expr}{ts:List TD} (h:DE X W e t) (r:DJ X W es ts):DJ X W (e::es) (t::ts)
theorem DJ.pj {es:List Expr}{ts:List TD} (h:DJ X W es ts):PJ X es (ts.map (tD X.K W)):=by
  induction h with
  | nil=>exact .nil
  | cons h _ ih=>exact .cons h ih
def TJs:List TD->Str->Ct->Ev->(Str->Prop)->Prop
  | [],acc,_,_,φ=>φ acc
  | t::ts,acc,c,env,φ=>t c env fun x=>∃ y:Str,x=.str y/\(acc++y).length<=sizeLine/\TJs ts (acc++y) c env φ
theorem tjs_ask {S:Sta}{σ:L2.St}{env:Ev} (lk:Lk X.K S W):∀ {ts:List TD}{acc:Str}{R H:Hp}{φ:Str->Prop}{Q:Str->Hp->Prop},Ok3 X.K S R H σ env->TJs ts acc S.c env φ->(∀ R' H' out,Fin S.c.wd R H R' H'->φ out->Q out H')->tJs (ts.map (tD X.K W)) acc σ H Q
  | [],acc,R,H,φ,Q,ok,h,k=>k R H acc (Fin.refl ok.bas) h
  | t::ts,acc,R,H,φ,Q,ok,h,k=>tD.ask lk ok (show t S.c env _ from h) fun R1 H1 d v f1 ok1 r1 ⟨y,e,hz,q⟩=>by
    subst e
    exact⟨y,r1,hz,tjs_ask lk ok1 q fun R' H' out f q=>k R' H' out (f1.trans f) q⟩
def TJoined(ts:List TD):TD:=fun c env φ=>TJs ts Str.empty c env fun out=>φ (.str out)
theorem de_joined {v1 v2:Expr}{rest:List Expr}{ts:List TD} (h:DJ X W (v1::v2::rest) ts):DE X W (.JoinedStr (v1::v2::rest) pos) (TJoined ts) :=
  de_mk (pe_joined h.pj) fun S R H σ env φ lk ok q=>tjs_ask lk ok q fun R' H' out f q=>⟨R',_,f,(show Rep X.K R' (.str out) _ from rfl),q⟩
end
open PySem PySem.Spec PyProof.Rows L2
section
variable {X:Cx}{W:WX}{pos:Pos}{a b:Expr}{Ta Tb:TD}{A B:TB}
theorem EndOk.self {K:PySem.W.Frag}{S:Sta}{D3:EndD}:EndOk K S D3 (endsOf K S D3) :=
  ⟨fun R H σ env ok q=>⟨R,env,ok,q⟩,fun R H σ env d v ok r q=>⟨R,σ,env,d,ok,r,q⟩,fun R H σ env ok q=>⟨R,env,ok,q⟩,fun R H σ env ok q=>⟨R,env,ok,q⟩⟩
def TNext:TSD:=fun _ D env=>D.nx env
def TSeq(T U:TSD):TSD:=fun c D env=>T c {D with nx:=U c D} env
theorem dss_nil:DSs X W [] TNext:=dss_mk pss_nil fun S R H σ env D3 lk ok h=>⟨R,env,ok,h⟩
theorem dss_one {st:Stmt}{T:TSD} (h:DS X W st T):DSs X W [st] T:=pss_one h
theorem dss_cons {st:Stmt}{rest:List Stmt}{T U:TSD} (h1:DS X W st T) (h2:DSs X W rest U):DSs X W (st::rest) (TSeq T U) :=
  dss_mk (pss_cons h1 h2) fun S R H σ env D3 lk ok h=>by
    refine tS3.ask lk ok h ⟨fun R' H' σ' env' ok' q=>tS3.ask lk ok' q EndOk.self,fun R' H' σ' env' d v ok' r q=>⟨R',σ',env',d,ok',r,q⟩,fun R' H' σ' env' ok' q=>⟨R',env',ok',q⟩,fun R' H' σ' env' ok' q=>⟨R',env',ok',q⟩⟩
def TBreak:TSD:=fun _ D env=>D.bk env
def TCont:TSD:=fun _ D env=>D.ct env
def TNever:TSD:=fun _ _ _=>False
theorem ds_never {st:Stmt}:DS X W st TNever:=ds_mk ps_never fun S R H σ env D3 lk ok h=>h
def TRet(T:TD):TSD:=fun c D env=>T c env fun d=>D.rt d env
def TRetN:TSD:=fun _ D env=>D.rt .non env
theorem ds_ret {e:Expr}{T:TD} (h:DE X W e T):DS X W (.Return (some e) pos) (TRet T) :=
  ds_mk (ps_ret h) fun S R H σ env D3 lk ok q=>tD.ask lk ok q fun R1 H1 d v f1 ok1 r1 q1=>⟨R1,σ,env,d,ok1,r1,q1⟩
def TDrop(T:TD):TSD:=fun c D env=>T c env fun _=>D.nx env
def TIfS(A:TB) (T U:TSD):TSD:=fun c D env=>A c env fun k=>if k=true then T c D env else U c D env
theorem ds_if {c:Expr}{s1 s2:List Stmt}{T U:TSD} (hc:DT X W c A) (h1:DSs X W s1 T) (h2:DSs X W s2 U):DS X W (.If c s1 s2 pos) (TIfS A T U) :=
  ds_mk (ps_if hc h1 h2) fun S R H σ env D3 lk ok q=>tB3.ask lk ok q fun R1 H1 k f1 ok1 q1=>by
    cases k with
    | true=>exact iteT (tS3.ask lk ok1 (by rw[if_pos rfl] at q1; exact q1) EndOk.self)
    | false=>exact iteF (tS3.ask lk ok1 (by rw[if_neg Bool.false_ne_true] at q1; exact q1) EndOk.self)
def TSet(i:Nat) (T:TD):TSD:=fun c D env=>T c env fun d=>D.nx (env.set i (.v d))
theorem ds_set {i : Nat} {x : Str} {e : Expr} {pos' : Pos} {T : TD} (hN : X.N.Nodup) (hi : X.N[i]? = some x) (hx : Loc X.env.scope x) (he : DE X W e T) (hs : swapsWith e (some (.Name x pos')) pos.line X.env = pure false := by rfl)
    (hf:X.fn x=true\/X.env.scope.names.lookup x=some .local:=by first | exact .inl rfl | exact .inr rfl | assumption):DS X W (.Assign [.Name x pos'] e pos) (TSet i T) :=
  ds_mk (ps_set hN hi hx he hs hf) fun S R H σ env D3 lk ok q=>tD.ask lk ok q fun R1 H1 d v f1 ok1 r1 q1=>⟨R1,_,ok1.put r1,q1⟩
/-- name op= e -/
def TAug(i:Nat) (f:F2) (T:TD):TSD:=fun c D env=>∃ x,env[i]?=some (.v x)/\T c env fun y=>f x y fun z=>D.nx (env.set i (.v z))
/-- a,b=e1,e2 (local names) -/
def TPar(i j:Nat) (U:TL):TSD:=fun c D env=>U c env fun ds=>∃ d e,ds=[d,e]/\D.nx ((env.set i (.v d)).set j (.v e))
abbrev TGD:=D->Ev->(Ev->Prop)->Prop
abbrev TGsD:=List D->Ev->(Ev->Prop)->Prop
def gD3(K:PySem.W.Frag) (vs:List Nat) (g:TGD):TG:=fun v σ H Q=>∃ S R env d k,Ok3 K S R H σ env/\Rep K R d v/\g d env k/\∀ env' σ',wipe σ' vs=wipe σ vs->Ok3 K S R H σ' env'->k env'->Q σ' H
def gsD3(K:PySem.W.Frag) (vs:List Nat) (g:TGsD):TGs:=fun v σ H Q=>∃ S R env d k,Ok3 K S R H σ env/\Reps K R d v/\g d env k/\∀ env' σ',wipe σ' vs=wipe σ vs->Ok3 K S R H σ' env'->k env'->Q σ' H
abbrev DG (X:Cx) (vs:List Nat) (e:Expr) (g:TGD):Prop:=PG X e (gD3 X.K vs g)
abbrev DGs (X:Cx) (vs:List Nat) (es:List Expr) (g:TGsD):Prop:=PGs X es (gsD3 X.K vs g)
theorem wipe_set {x:Option V}{i:Nat}{σ:L2.St}:∀ {vs:List Nat},i∈vs->wipe (σ.set i x) vs=wipe σ vs
  | [],h=>by cases h
  | v::vs,h=>by
    unfold wipe
    by_cases e:i∈vs
    . rw[wipe_set e]
    . have ei:i=v:=by
        rcases List.mem_cons.mp h with z | z
        . exact z
        . exact absurd z e
      subst ei
      have key:∀ ws:List Nat,i∉ws->wipe (σ.set i x) ws=(wipe σ ws).set i x:=by
        intro ws
        induction ws with
        | nil=>intro _; rfl
        | cons w ws ih =>
          intro hn
          have h1:w≠i:=fun z=>hn (by rw[z]; exact List.mem_cons_self)
          have h2:i∉ws:=fun z=>hn (List.mem_cons_of_mem _ z)
          show(wipe (σ.set i x) ws).set w none=((wipe σ ws).set w none).set i x
          rw[ih h2,List.set_comm _ _ h1.symm]
      rw[key vs e,List.set_set]
def GName(i:Nat):TGD:=fun d env k=>k (env.set i (.v d))
theorem pg_imp {e:Expr}{g g':TG} (h:PG X e g) (k:∀ v σ H Q,g' v σ H Q->g v σ H Q):PG X e g':=⟨fun pins s σ H v u Q I r q=>h.run pins s σ H v u Q I r (k _ _ _ _ q)⟩
theorem pgs_imp {e:List Expr}{g g':TGs} (h:PGs X e g) (k:∀ v σ H Q,g' v σ H Q->g v σ H Q):PGs X e g':=⟨fun pins s σ H v u Q I r q=>h.run pins s σ H v u Q I r (k _ _ _ _ q)⟩
theorem dg_name {i:Nat}{x:Str}{vs:List Nat} (hN:X.N.Nodup) (hi:X.N[i]?=some x) (hx:Loc X.env.scope x) (hv:i∈vs:=by decide) (hf:X.fn x=true\/X.env.scope.names.lookup x=some .local:=by first | exact .inl rfl | exact .inr rfl | assumption) :
    DG X vs (.Name x pos) (GName i) :=
  pg_imp (pg_name hN hi hx hf) fun v σ H Q ⟨S,R,env,d,k,ok,r,q,hq⟩=>hq _ _ (wipe_set hv) (ok.put r) q
def GNil:TGsD:=fun ds env k=>ds=[]/\k env
def GCons(g:TGD) (u:TGsD):TGsD:=fun ds env k=>∃ d r,ds=d::r/\g d env fun env'=>u r env' k
theorem dgs_nil {vs:List Nat}:DGs X vs [] GNil :=
  pgs_imp pgs_nil fun v σ H Q ⟨S,R,env,d,k,ok,r,⟨e,q⟩,hq⟩=>by
    subst e
    exact⟨r,hq _ _ rfl ok q⟩
theorem dgs_cons {e:Expr}{es:List Expr}{vs:List Nat}{g:TGD}{u:TGsD} (h1:DG X vs e g) (h2:DGs X vs es u) (hs:(assignEach (e::es) X.env).map (·.2)=assign e X.env::(assignEach es X.env).map (·.2):=by rfl):DGs X vs (e::es) (GCons g u) :=
  pgs_imp (pgs_cons h1 h2 hs) fun v σ H Q ⟨S,R,env,ds,k,ok,r,⟨d,rs,e,q⟩,hq⟩=>by
    subst e
    obtain⟨v1,vr,e1,r1,r2⟩:=(show ∃ v' r,v=v'::r/\Rep X.K R d v'/\Reps X.K R rs r from r)
    subst e1
    exact⟨v1,vr,rfl,S,R,env,d,_,ok,r1,q,fun env' σ' hw ok' q'=>⟨S,R,env',rs,k,ok',r2,q',fun env2 σ2 hw2 ok2 q2=>hq _ _ (hw2.trans hw) ok2 q2⟩⟩
def GTup(n:Nat) (u:TGsD):TGD:=fun d env k=>∃ ds,d=.tup ds/\ds.length=n/\u ds env k
theorem dg_tup {es:List Expr}{kk:Nat}{vs:List Nat}{u:TGsD}{n:Nat} (hc:X.calm=true) (h:DGs X vs es u) (hn:(assignEach es X.env).length=n:=by rfl) (hst:(assignEach es X.env).findIdx? (·.1)=none:=by rfl):DG X vs (.Tuple es kk pos) (GTup n u) :=
  pg_imp (pg_tup hc h hn hst) fun v σ H Q ⟨S,R,env,d,k,ok,r,⟨ds,e,hl,q⟩,hq⟩=>by
    subst e
    obtain⟨p,xs,e,hh,hr⟩:=rep_tup r
    subst e
    exact⟨p,xs,rfl,SqT.of (ok.bas.sub _ _ hh),by rw[hr.length]; exact hl,S,R,env,ds,k,ok,hr,q,hq⟩
/-- target=e -/
def TAsg(T:TD) (g:TGD):TSD:=fun c D env=>T c env fun d=>g d env D.nx
theorem ds_asg {tg e:Expr}{vs:List Nat}{T:TD}{g:TGD} (he:DE X W e T) (hg:DG X vs tg g) (hs:swapsWithSole [tg] e pos.line X.env=pure false:=by rfl) (hw:swappedStores [tg] e X.env=pure none:=by rfl) (h1:(assignEach [tg] X.env).map (·.2)=[assign tg X.env]:=by rfl):DS X W (.Assign [tg] e pos) (TAsg T g) :=
  ds_mk (ps_asg he hg hs hw h1) fun S R H σ env D3 lk ok q=>tD.ask lk ok q fun R1 H1 d v f1 ok1 r1 q1=>⟨S,R1,env,d,_,ok1,r1,q1,fun env' σ' _ ok' q'=>⟨R1,env',ok',q'⟩⟩
end
open PySem PySem.Spec PyProof.Rows L2
section
variable {X:Cx}{W:WX}{pos:Pos}{a b tg:Expr}{Ta Tb:TD}{A B:TB}
structure ItOk (K:PySem.W.Frag) (w:Wd) (J:It) (R:Hp) (ds:List D):Prop where
  go:∀ i R1 H d,Same R R1->Bas w R1 H->ds[i]?=some d->J.go i H
  stop:∀ i R1 H,Same R R1->Bas w R1 H->ds.length<=i->J.stop i H
  yld:∀ i R1 H x H' d,Same R R1->Bas w R1 H->ds[i]?=some d->J.yld i H x H'->∃ R',Fin w R1 H R' H'/\Rep K R' d x
def tI3(K:PySem.W.Frag) (W:WX) (T:TL):TI:=fun σ H Q=>∃ S R env φ,Lk K S W/\Ok3 K S R H σ env/\T S.c env φ/\∀ J H' R' ds,Fin S.c.wd R H R' H'->ItOk K S.c.wd J R' ds->φ ds->Q J H'
abbrev DI (X:Cx) (W:WX) (tg iter:Expr) (T:TL):Prop:=PI X tg iter (tI3 X.K W T)
theorem pi_imp {iter:Expr}{w w':TI} (h:PI X tg iter w) (k:∀ σ H Q,w' σ H Q->w σ H Q):PI X tg iter w':=⟨fun pins s σ H Q I q=>h.run pins s σ H Q I (k _ _ _ q)⟩
def TIl(T:TD):TL:=fun c env φ=>T c env fun d=>∃ ds,d=.lst ds/\φ ds
def TIt(T:TD):TL:=fun c env φ=>T c env fun d=>∃ ds,d=.tup ds/\φ ds
def TIs(T:TD):TL:=fun c env φ=>T c env fun d=>∃ z,d=.str z/\φ (z.cps.toList.map fun c=>.str ⟨#[c]⟩)
theorem itok_list {K:PySem.W.Frag}{w:Wd}{R:Hp}{p:Addr}{xs:List V}{ds:List D} (h:R p=some (.lst xs)) (r:Reps K R ds xs):ItOk K w (Itl K p) R ds where
  go:=fun i R1 H d s b e=>by
    obtain⟨v,hv,_⟩:=r.get e
    exact⟨xs,v,SqL.of (b.sub _ _ (s _ _ h)),hv⟩
  stop:=fun i R1 H s b e=>⟨xs,SqL.of (b.sub _ _ (s _ _ h)),by rw[r.length]; exact e⟩
  yld:=fun i R1 H x H' d s b e y=>by
    obtain⟨e1,y⟩:=y
    subst e1
    obtain⟨v,hv,rv⟩:=r.get e
    have:=y xs (SqL.of (b.sub _ _ (s _ _ h)))
    rw[hv] at this
    cases this
    exact⟨R1,Fin.refl b,rv.mono s⟩
theorem itok_tup {K:PySem.W.Frag}{w:Wd}{R:Hp}{p:Addr}{xs:List V}{ds:List D} (h:R p=some (.tup xs)) (r:Reps K R ds xs):ItOk K w (Itt K p) R ds where
  go:=fun i R1 H d s b e=>by
    obtain⟨v,hv,_⟩:=r.get e
    exact⟨xs,v,SqT.of (b.sub _ _ (s _ _ h)),hv⟩
  stop:=fun i R1 H s b e=>⟨xs,SqT.of (b.sub _ _ (s _ _ h)),by rw[r.length]; exact e⟩
  yld:=fun i R1 H x H' d s b e y=>by
    obtain⟨e1,y⟩:=y
    subst e1
    obtain⟨v,hv,rv⟩:=r.get e
    have:=y xs (SqT.of (b.sub _ _ (s _ _ h)))
    rw[hv] at this
    cases this
    exact⟨R1,Fin.refl b,rv.mono s⟩
theorem itok_str {K:PySem.W.Frag}{w:Wd}{R:Hp}{z:Str}:ItOk K w (Its z) R (z.cps.toList.map fun c=>.str ⟨#[c]⟩) where
  go:=fun i R1 H d s b e=>by
    have:=(List.getElem?_eq_some_iff.mp e).1
    show i<z.cps.size
    simpa using this
  stop:=fun i R1 H s b e=>by
    show z.cps.size<=i
    simpa using e
  yld:=fun i R1 H x H' d s b e y=>by
    obtain⟨e1,c,hc,ex⟩:=y
    subst e1 ex
    rw[List.getElem?_map,Array.getElem?_toList,hc] at e
    cases e
    exact⟨R1,Fin.refl b,rfl⟩
theorem itok_range {K:PySem.W.Frag}{w:Wd}{R:Hp}{lo:Int}{n:Nat}:ItOk K w (Itr lo n) R ((List.range n).map fun i=>.int (lo+(i:Nat))) where
  go:=fun i R1 H d s b e=>by
    have:=(List.getElem?_eq_some_iff.mp e).1
    show i<n
    simpa using this
  stop:=fun i R1 H s b e=>by
    show n<=i
    simpa using e
  yld:=fun i R1 H x H' d s b e y=>by
    obtain⟨e1,ex⟩:=y
    subst e1 ex
    have hl:=(List.getElem?_eq_some_iff.mp e).1
    have hl2:i<n:=by simpa using hl
    rw[List.getElem?_map,List.getElem?_range hl2] at e
    cases e
    exact⟨R1,Fin.refl b,rfl⟩
theorem di_list {l:Expr} (h:DE X W l Ta):DI X W tg l (TIl Ta) :=
  pi_imp (pi_list h) fun σ H Q ⟨S,R,env,φ,lk,ok,q,hQ⟩=>tD.ask lk ok q fun R1 H1 d v f1 ok1 r1 ⟨ds,e,q1⟩=>by
    subst e
    obtain⟨p,xs,e,hh,hr⟩:=rep_lst r1
    subst e
    exact⟨p,rfl,⟨xs,SqL.of (ok1.bas.sub _ _ hh)⟩,hQ _ _ R1 ds f1 (itok_list hh hr) q1⟩
theorem di_tup {l:Expr} (h:DE X W l Ta):DI X W tg l (TIt Ta) :=
  pi_imp (pi_tup h) fun σ H Q ⟨S,R,env,φ,lk,ok,q,hQ⟩=>tD.ask lk ok q fun R1 H1 d v f1 ok1 r1 ⟨ds,e,q1⟩=>by
    subst e
    obtain⟨p,xs,e,hh,hr⟩:=rep_tup r1
    subst e
    exact⟨p,rfl,⟨xs,SqT.of (ok1.bas.sub _ _ hh)⟩,hQ _ _ R1 ds f1 (itok_tup hh hr) q1⟩
theorem di_str {l:Expr} (h:DE X W l Ta):DI X W tg l (TIs Ta) :=
  pi_imp (pi_str h) fun σ H Q ⟨S,R,env,φ,lk,ok,q,hQ⟩=>tD.ask lk ok q fun R1 H1 d v f1 ok1 r1 ⟨z,e,q1⟩=>by
    subst e
    exact⟨z,r1,hQ _ _ R1 _ f1 itok_str q1⟩
def TIr1(U:TL):TL:=fun c env φ=>U c env fun ds=>∃ j:Int,ds=[.int j] /\ -(2 ^ 62)<=j/\j<2 ^ 62/\φ ((List.range j.toNat).map fun i=>.int (0+(i:Nat)))
theorem di_range1 {e:Expr}{p:Pos}{U:TL} (hg:Gl X "range") (hm:X.mg "range"=none) (ha:DA X W [e] U) (hs:starEach [e] X.env=[(false,eval e X.env)]:=by rfl):DI X W tg (.Call (.Name "range" p) [e] [] pos) (TIr1 U) :=
  pi_imp (pi_range1 hg hm ha hs) fun σ H Q ⟨S,R,env,φ,lk,ok,q,hQ⟩=>tL3.ask lk ok q fun R1 H1 ds vs f1 ok1 r1 ⟨j,e,h1,h2,q1⟩=>by
    subst e
    obtain⟨v,e,r⟩:=reps1 r1
    subst e
    exact⟨j,by rw[rep_int r],h1,h2,hQ _ _ R1 _ f1 itok_range q1⟩
def TIr2(U:TL):TL:=fun c env φ=>U c env fun ds=>∃ i j:Int,ds=[.int i,.int j]/\(-(2 ^ 62)<=i/\i<2 ^ 62 /\ -(2 ^ 62)<=j/\j<2 ^ 62)/\φ ((List.range (j - i).toNat).map fun k=>.int (i+(k:Nat)))
/-- zip of two lists,of two tuples -/
def zipD:List D->List D->List D
  | d::ds,e::es=>.tup [d,e]::zipD ds es
  | _,_=>[]
theorem zipD_len:∀ {ds es:List D},(zipD ds es).length=min ds.length es.length
  | [],_=>by simp[zipD]
  | d::ds,[]=>by simp[zipD]
  | d::ds,e::es=>by
    show(zipD ds es).length+1=_
    rw[zipD_len,List.length_cons,List.length_cons]
    omega
theorem zipD_get:∀ {ds es:List D}{i:Nat}{d:D},(zipD ds es)[i]?=some d->∃ x y,ds[i]?=some x/\es[i]?=some y/\d=.tup [x,y]
  | [],_,i,d,h=>by simp[zipD] at h
  | x::ds,[],i,d,h=>by simp[zipD] at h
  | x::ds,y::es,0,d,h=>by
    have h2:some (D.tup [x,y])=some d:=by simpa [zipD] using h
    cases h2
    exact⟨x,y,rfl,rfl,rfl⟩
  | x::ds,y::es,i+1,d,h=>by
    obtain⟨u,w,h1,h2,h3⟩:=zipD_get (ds:=ds) (es:=es) (i:=i) (d:=d) (by simpa [zipD] using h)
    exact⟨u,w,by simpa using h1,by simpa using h2,h3⟩
theorem itok_zipL {K:PySem.W.Frag}{w:Wd}{R:Hp}{p q:Addr}{xs ys:List V}{ds es:List D} (h:R p=some (.lst xs)) (r:Reps K R ds xs) (h':R q=some (.lst ys)) (r':Reps K R es ys):ItOk K w (Itz K p q) R (zipD ds es) where
  go:=fun i R1 H d s b e=>by
    obtain⟨x,y,e1,e2,_⟩:=zipD_get e
    obtain⟨v,hv,_⟩:=r.get e1
    obtain⟨u,hu,_⟩:=r'.get e2
    exact⟨xs,ys,v,u,SqL.of (b.sub _ _ (s _ _ h)),SqL.of (b.sub _ _ (s _ _ h')),hv,hu⟩
  stop:=fun i R1 H s b e=>by
    rw[zipD_len] at e
    exact⟨xs,ys,SqL.of (b.sub _ _ (s _ _ h)),SqL.of (b.sub _ _ (s _ _ h')),by rw[r.length,r'.length]; omega⟩
  yld:=fun i R1 H x H' d s b e y=>by
    obtain⟨T,x1,y1,ex,hT,eH,k1,k2⟩:=y
    subst ex eH
    obtain⟨dx,dy,e1,e2,e3⟩:=zipD_get e
    subst e3
    obtain⟨v,hv,rv⟩:=r.get e1
    obtain⟨u,hu,ru⟩:=r'.get e2
    have a1:=k1 xs (SqL.of (b.sub _ _ (s _ _ h)))
    have a2:=k2 ys (SqL.of (b.sub _ _ (s _ _ h')))
    rw[hv] at a1
    rw[hu] at a2
    have z1:=Option.some.inj a1
    have z2:=Option.some.inj a2
    subst z1 z2
    have f:=Fin.alloc (o:=.tup [v,u]) b hT
    exact⟨_,f,T,[v,u],rfl,upd_same,⟨v,[u],rfl,(rv.mono s).mono f.up,u,[],rfl,(ru.mono s).mono f.up,rfl⟩⟩
theorem itok_zipT {K:PySem.W.Frag}{w:Wd}{R:Hp}{p q:Addr}{xs ys:List V}{ds es:List D} (h:R p=some (.tup xs)) (r:Reps K R ds xs) (h':R q=some (.tup ys)) (r':Reps K R es ys):ItOk K w (RZ.ItzT K p q) R (zipD ds es) where
  go:=fun i R1 H d s b e=>by
    obtain⟨x,y,e1,e2,_⟩:=zipD_get e
    obtain⟨v,hv,_⟩:=r.get e1
    obtain⟨u,hu,_⟩:=r'.get e2
    exact⟨xs,ys,v,u,SqT.of (b.sub _ _ (s _ _ h)),SqT.of (b.sub _ _ (s _ _ h')),hv,hu⟩
  stop:=fun i R1 H s b e=>by
    rw[zipD_len] at e
    exact⟨xs,ys,SqT.of (b.sub _ _ (s _ _ h)),SqT.of (b.sub _ _ (s _ _ h')),by rw[r.length,r'.length]; omega⟩
  yld:=fun i R1 H x H' d s b e y=>by
    obtain⟨T,x1,y1,ex,hT,eH,k1,k2⟩:=y
    subst ex eH
    obtain⟨dx,dy,e1,e2,e3⟩:=zipD_get e
    subst e3
    obtain⟨v,hv,rv⟩:=r.get e1
    obtain⟨u,hu,ru⟩:=r'.get e2
    have a1:=k1 xs (SqT.of (b.sub _ _ (s _ _ h)))
    have a2:=k2 ys (SqT.of (b.sub _ _ (s _ _ h')))
    rw[hv] at a1
    rw[hu] at a2
    have z1:=Option.some.inj a1
    have z2:=Option.some.inj a2
    subst z1 z2
    have f:=Fin.alloc (o:=.tup [v,u]) b hT
    exact⟨_,f,T,[v,u],rfl,upd_same,⟨v,[u],rfl,(rv.mono s).mono f.up,u,[],rfl,(ru.mono s).mono f.up,rfl⟩⟩
def zipF:List D->(List D->Prop)->Prop
  | [.lst ds,.lst es],φ=>φ (zipD ds es)
  | [.tup ds,.tup es],φ=>φ (zipD ds es)
  | _,_=>False
def TIz(U:TL):TL:=fun c env φ=>U c env fun ds=>zipF ds φ
theorem di_zip {e e2 : Expr} {p tpos : Pos} {elts : List Expr} {kk : Nat} {U : TL} (hg : Gl X "zip") (hm : X.mg "zip" = none) (ha : DA X W [e, e2] U)
    (hs:starEach [e,e2] X.env=(false,eval e X.env)::starEach [e2] X.env:=by rfl) (hpl:(backTo pos (starEach [e2] X.env)).any (·.1)=false:=by rfl):DI X W (.Tuple elts kk tpos) (.Call (.Name "zip" p) [e,e2] [] pos) (TIz U) :=
  pi_imp (RZ.pi_zipA hg hm ha hs hpl) fun σ H Q ⟨S,R,env,φ,lk,ok,q,hQ⟩=>tL3.ask lk ok q fun R1 H1 ds vs f1 ok1 r1 q1=>by
    unfold zipF at q1
    split at q1
    . obtain⟨v,u,e,h1,h2⟩:=reps2 r1
      subst e
      obtain⟨p1,xs,e,hh,hr⟩:=rep_lst h1
      obtain⟨p2,ys,e',hh',hr'⟩:=rep_lst h2
      subst e e'
      exact⟨p1,p2,xs,ys,rfl,.inl ⟨SqL.of (ok1.bas.sub _ _ hh),SqL.of (ok1.bas.sub _ _ hh'),hQ _ _ R1 _ f1 (itok_zipL hh hr hh' hr') q1⟩⟩
    . obtain⟨v,u,e,h1,h2⟩:=reps2 r1
      subst e
      obtain⟨p1,xs,e,hh,hr⟩:=rep_tup h1
      obtain⟨p2,ys,e',hh',hr'⟩:=rep_tup h2
      subst e e'
      exact⟨p1,p2,xs,ys,rfl,.inr ⟨SqT.of (ok1.bas.sub _ _ hh),SqT.of (ok1.bas.sub _ _ hh'),hQ _ _ R1 _ f1 (itok_zipT hh hr hh' hr') q1⟩⟩
    . exact q1.elim
def ForD(g:TGD) (B:TSD) (c:Ct) (D:EndD):List L3.D->Ev->Prop
  | [],env=>D.nx env
  | d::ds,env=>g d env fun env'=>B c {D with nx:=ForD g B c D ds,ct:=ForD g B c D ds,bk:=D.nx} env'
def TFor(T:TL) (g:TGD) (B:TSD):TSD:=fun c D env=>T c env fun ds=>ForD g B c D ds env
theorem ds_for {iter : Expr} {body : List Stmt} {T : TL} {g : TGD} {Bb : TSD} {vs : List Nat} (hp : PassesOwn (model X.prog X.w) X.A X.env X.xe) (hc : X.calm = true) (hi : DI X W tg iter T) (hg : DG X vs tg g) (hb : DSs X W body Bb)
    (hs:∀ x,foldedSetIterable iter X.env x=pure x:=by intro _; rfl):DS X W (.For tg iter body [] pos) (TFor T g Bb) :=
  ds_mk (ps_for hp hc hi hg hb hs) fun S R H σ env D3 lk ok q=>by
    refine⟨S,R,env,_,lk,ok,q,fun J H1 R1 ds f1 io q1=>?_⟩
    have ok1:=ok.through f1
    refine⟨fun i m σ H=>m=ds.length - i/\∃ R2 env,Ok3 X.K (S.base R1) R2 H σ env/\ForD g Bb S.c D3 (ds.drop i) env,⟨ds.length,by simp,R1,env,ok1.rebase,by rw[List.drop_zero]; exact q1⟩,?_⟩
    rintro i m σ H ⟨rfl,R2,env,ok2,q2⟩
    by_cases hi:i<ds.length
    . have hd:=List.getElem?_eq_getElem hi
      refine .inr ⟨io.go i R2 H _ ok2.rb ok2.bas hd,fun σ H=>∃ R3 env,Ok3 X.K (S.base R1) R3 H σ env/\ForD g Bb S.c D3 (ds.drop (i+1)) env,fun σ' H' ⟨R3,env',h1,h3⟩=>⟨ds.length - (i+1),by omega,rfl,R3,env',h1,h3⟩,fun x H' y=>?_⟩
      obtain⟨R3,f3,r3⟩:=io.yld i R2 H x H' _ ok2.rb ok2.bas hd y
      have ok3:=ok2.through f3
      rw[List.drop_eq_getElem_cons hi] at q2
      refine⟨S.base R1,R3,env,_,_,ok3,r3,q2,fun env' σ' _ ok' q'=>?_⟩
      exact tS3.ask (lk.base ok1.rb) ok' q' ⟨fun R4 H4 σ4 env4 ok4 q4=>⟨R4,env4,ok4,q4⟩,fun R4 H4 σ4 env4 d v ok4 r q=>⟨R4,σ4,env4,d,ok4.back ok1.rb,r,q⟩,fun R4 H4 σ4 env4 ok4 q=>⟨R4,env4,ok4.back ok1.rb,q⟩,fun R4 H4 σ4 env4 ok4 q4=>⟨R4,env4,ok4,q4⟩⟩
    . have e:ds.drop i=[]:=List.drop_eq_nil_of_le (by omega)
      rw[e] at q2
      exact .inl ⟨io.stop i R2 H ok2.rb ok2.bas (by omega),R2,env,ok2.back ok1.rb,q2⟩
theorem Fin.mut {w:Wd}{R H R1 H1:Hp} (f:Fin w R H R1 H1) {p:Addr}{o:HO} (hp:H p=none) (h1:R1 p=none) (hf:¬w.foot p) (hx:∀ φ,H1 p≠some (.ext φ)):Fin w R H R1 (upd H1 p o):=by
  refine⟨f.up,fun b u h=>?_,fun b u h q=>?_,f.newX,?_,f.ft⟩
  . rw[upd_ne (ne_of_none h h1)]; exact f.sub b u h
  . rw[upd_ne (ne_of_none h hp)]; exact f.keep b u h q
  . refine w.ext _ _ f.inv (fun b u hb h=>?_) fun b φ h=>by rw[upd_ne (fun e=>hx φ (by rw[<- e]; exact h))]; exact h
    rw[upd_ne (fun e=>hf (by rw[<- e]; exact hb))]; exact h
theorem Fin.frz {w:Wd}{R H R1 H1:Hp} (f:Fin w R H R1 H1) {p:Addr}{o:HO} (hp:H p=none) (h1:H1 p=some o) (hn:R1 p=none) (hf:¬w.foot p):Fin w R H (upd R1 p o) H1:=by
  refine⟨fun b u h=>?_,fun b u h=>?_,f.keep,fun b u h q n=>?_,f.inv,fun b hb=>?_⟩
  . rw[upd_ne (ne_of_none (f.up b u h) hn)]; exact f.up b u h
  . by_cases e:b=p
    . subst e
      rw[upd_same] at h
      rw[<- h]
      exact h1
    . rw[upd_ne e] at h
      exact f.sub b u h
  . rw[upd_ne (ne_of_none q hp)]; exact f.newX b u h q n
  . rw[upd_ne (fun e=>hf (by rw[<- e]; exact hb))]; exact f.ft b hb
theorem up_upd {R:Hp}{p:Addr}{o:HO} (h:R p=none):Same R (upd R p o):=fun b u q=>by
  rw[upd_ne (ne_of_none q h)]; exact q
section
variable {K:PySem.W.Frag}{S:Sta}{R H:Hp}{σ:L2.St}{env:Ev}
/-- a new list for a name -/
theorem Ok3.newOwn(o:Ok3 K S R H σ env) {i:Nat}{p:Addr}{ds:List L3.D}{xs:List V} (hp:H p=none) (r:Reps K R ds xs):Ok3 K S R (upd H p (.lst xs)) (σ.set i (some (.ref p))) (env.set i (.ol p ds)):=by
  have f:=Fin.fresh (o:=.lst xs) o.bas hp
  have o1:=o.through f
  have hS:S.H0 p=none:=by
    cases q:S.H0 p with
    | none=>rfl
    | some u =>
      obtain⟨z,hz⟩:=o.fin.there q
      rw[hp] at hz
      cases hz
  have hR:R p=none:=by
    cases q:R p with
    | none=>rfl
    | some u =>
      rw[o.bas.sub p u q] at hp
      cases hp
  have hF:¬S.c.wd.foot p:=fun z=>by
    obtain⟨u,hu⟩:=S.c.wd.there _ _ o.bas.inv z
    rw[hp] at hu
    cases hu
  have nope:∀ j,adAt env j≠some p:=fun j z=>by
    unfold adAt at z
    cases e:env[j]? with
    | none =>
      rw[e] at z
      cases z
    | some s =>
      rw[e] at z
      obtain⟨x,_,q⟩:=pair_get o.sl e
      have hs:s.ad=some p:=z
      cases s with
      | no=>cases hs
      | v d=>cases hs
      | ol p' ds =>
        have:p'=p:=Option.some.inj hs
        subst this
        obtain⟨_,xs,hh,_⟩:=q
        rw[hp] at hh
        cases hh
      | oi p' C fs =>
        have:p'=p:=Option.some.inj hs
        subst this
        obtain⟨_,dx,xs,hh,_⟩:=q
        rw[hp] at hh
        cases hh
  refine⟨o1.fin,o1.rb,pair_set (F:=SlOk K R (upd H p (.lst xs))) (show SlOk K R (upd H p (.lst xs)) (some (.ref p)) (.ol p ds) from⟨rfl,xs,upd_same,r⟩) i o1.sl,fun j q h=>?_,fun j k q h1 h2=>?_⟩
  . rcases adAt_set h with ⟨_,z⟩ | ⟨_,z⟩
    . have:p=q:=Option.some.inj z
      subst this
      exact⟨hR,hS,hF⟩
    . exact o1.own j q z
  . rcases adAt_set h1 with ⟨e1,z⟩ | ⟨e1,z⟩
    . have:p=q:=Option.some.inj z
      subst this
      rcases adAt_set h2 with ⟨e2,z'⟩ | ⟨_,z'⟩
      . rw[e1,e2]
      . exact absurd z' (nope k)
    . rcases adAt_set h2 with ⟨_,z'⟩ | ⟨_,z'⟩
      . have:p=q:=Option.some.inj z'
        subst this
        exact absurd z (nope j)
      . exact o1.dis j k q z z'
/-- its own thing changes -/
theorem Ok3.mut(o:Ok3 K S R H σ env) {i:Nat}{p:Addr}{s:Sl}{u:HO} (e:adAt env i=some p) (hs:s.ad=some p) (hx:∀ x,σ[i]?=some x->x=some (.ref p)->SlOk K R (upd H p u) x s):Ok3 K S R (upd H p u) σ (env.set i s):=by
  obtain⟨h1,h2,h3⟩:=o.own i p e
  have h4:∀ φ,H p≠some (.ext φ):=fun φ z=>by
    unfold adAt at e
    cases q:env[i]? with
    | none =>
      rw[q] at e
      cases e
    | some s0 =>
      rw[q] at e
      have e':s0.ad=some p:=e
      obtain⟨x0,_,ok0⟩:=pair_get o.sl q
      cases s0 with
      | no=>cases e'
      | v d=>cases e'
      | ol p' ds =>
        have:p'=p:=Option.some.inj e'
        subst this
        obtain⟨_,xs,hh,_⟩:=ok0
        rw[hh] at z
        cases z
      | oi p' C fs =>
        have:p'=p:=Option.some.inj e'
        subst this
        obtain⟨_,dx,xs,hh,_⟩:=ok0
        rw[hh] at z
        cases z
  refine⟨o.fin.mut h2 h1 h3 h4,o.rb,?_,fun j q h=>?_,fun j k q a1 a2=>?_⟩
  . have hl:σ=σ.set i (σ.getD i none):=by
      by_cases hi:i<σ.length
      . rw[List.getD_eq_getElem?_getD,List.getElem?_eq_getElem hi]
        simp
      . rw[List.set_eq_of_length_le (by omega)]
    have ei:∃ s0,env[i]?=some s0/\s0.ad=some p:=by
      unfold adAt at e
      cases q:env[i]? with
      | none =>
        rw[q] at e
        cases e
      | some s0 =>
        rw[q] at e
        exact⟨s0,rfl,e⟩
    obtain⟨s0,q0,q1⟩:=ei
    obtain⟨x0,hx0,ok0⟩:=pair_get o.sl q0
    have hr:x0=some (.ref p):=by
      cases s0 with
      | no=>cases q1
      | v d=>cases q1
      | ol p' ds =>
        have:p'=p:=Option.some.inj q1
        subst this
        exact ok0.1
      | oi p' C fs =>
        have:p'=p:=Option.some.inj q1
        subst this
        exact ok0.1
    have key:∀ {xs:L2.St}{ys:Ev}{j:Nat},Paired (SlOk K R H) xs ys->(∀ (k:Nat) (s1:Sl) (q:Addr),k≠j->ys[k]?=some s1->s1.ad=some q->q≠p)->xs[j]?=some x0->SlOk K R (upd H p u) x0 s->Paired (SlOk K R (upd H p u)) xs (ys.set j s):=by
      intro xs ys j pr
      induction pr generalizing j with
      | nil=>intro _ h; simp at h
      | @cons x y xs ys r t ih =>
        intro hne hj hs2
        have ch:∀ {x:Option V}{y:Sl},SlOk K R H x y->(∀ q,y.ad=some q->q≠p)->SlOk K R (upd H p u) x y:=by
          intro x y hy hq
          cases y with
          | no=>trivial
          | v d=>exact hy
          | ol q ds =>
            obtain⟨a1,zs,a2,a3⟩:=hy
            exact⟨a1,zs,by rw[upd_ne (hq q rfl)]; exact a2,a3⟩
          | oi q C fs =>
            obtain⟨a1,dx,zs,a2,a3⟩:=hy
            exact⟨a1,dx,zs,by rw[upd_ne (hq q rfl)]; exact a2,a3⟩
        cases j with
        | zero =>
          have:x=x0:=by simpa using hj
          subst this
          refine .cons hs2 ?_
          have go:∀ {xs:L2.St}{ys:Ev},Paired (SlOk K R H) xs ys->(∀ (k:Nat) (s1:Sl) (q:Addr),ys[k]?=some s1->s1.ad=some q->q≠p)->Paired (SlOk K R (upd H p u)) xs ys:=by
            intro xs ys pr
            induction pr with
            | nil=>intro _; exact .nil
            | cons r t ih=>intro hq; exact .cons (ch r fun q hh=>hq 0 _ q rfl hh) (ih fun k s1 q a b=>hq (k+1) s1 q (by simpa using a) b)
          exact go t fun k s1 q a b=>hne (k+1) s1 q (by omega) (by simpa using a) b
        | succ j=>exact .cons (ch r fun q hh=>hne 0 _ q (by omega) rfl hh) (ih (fun k s1 q hk a b=>hne (k+1) s1 q (by omega) (by simpa using a) b) (by simpa using hj) hs2)
    refine key o.sl (fun k s1 q hk a b z=>hk ?_) hx0 (hx x0 hx0 hr)
    subst z
    exact o.dis k i q (by unfold adAt; rw[a]; exact b) e
  . rcases adAt_set h with ⟨_,z⟩ | ⟨_,z⟩
    . rw[hs] at z
      have:p=q:=Option.some.inj z
      subst this
      exact⟨h1,h2,h3⟩
    . exact o.own j q z
  . rcases adAt_set a1 with ⟨e1,z⟩ | ⟨e1,z⟩
    . rw[hs] at z
      have:p=q:=Option.some.inj z
      subst this
      rcases adAt_set a2 with ⟨e2,z'⟩ | ⟨e2,z'⟩
      . rw[e1,e2]
      . exact absurd (o.dis k i p z' e) e2
    . rcases adAt_set a2 with ⟨e2,z'⟩ | ⟨_,z'⟩
      . rw[hs] at z'
        have:p=q:=Option.some.inj z'
        subst this
        exact absurd (o.dis j i p z e) e1
      . exact o.dis j k q z z'
/-- from now on it stays -/
theorem Ok3.freezeP(o:Ok3 K S R H σ env) {i:Nat}{p:Addr}{ds:List L3.D} (e:env[i]?=some (.ol p ds)):∃ xs,R p=none/\Ok3 K S (upd R p (.lst xs)) H σ (env.set i (.v (.lst ds))):=by
  have ea:adAt env i=some p:=by
    unfold adAt
    rw[e]
    rfl
  obtain⟨h1,h2,h3⟩:=o.own i p ea
  obtain⟨x0,hx0,ex,xs,hh,hr⟩:=pair_get o.sl e
  subst ex
  refine⟨xs,h1,o.fin.frz h2 hh h1 h3,o.rb.trans (up_upd h1),?_,fun j q h=>?_,fun j k q a1 a2=>?_⟩
  . have hl:σ=σ.set i (some (.ref p)):=by
      apply List.ext_getElem?
      intro j
      by_cases ej:j=i
      . subst ej
        rw[List.getElem?_set_self (List.getElem?_eq_some_iff.mp hx0).1]
        exact hx0
      . rw[List.getElem?_set_ne (Ne.symm ej)]
    rw[hl]
    refine pair_set (F:=SlOk K (upd R p (.lst xs)) H) (show SlOk K (upd R p (.lst xs)) H (some (.ref p)) (.v (.lst ds)) from⟨.ref p,rfl,p,xs,rfl,upd_same,hr.mono (up_upd h1)⟩) i ?_
    refine pair_imp o.sl fun j x y _ _ h=>?_
    cases y with
    | no=>trivial
    | v d =>
      obtain⟨v,a,b⟩:=h
      exact⟨v,a,b.mono (up_upd h1)⟩
    | ol q ds =>
      obtain⟨a1,zs,a2,a3⟩:=h
      exact⟨a1,zs,a2,a3.mono (up_upd h1)⟩
    | oi q C fs =>
      obtain⟨a1,dx,zs,a2,a3⟩:=h
      exact⟨a1,dx,zs,a2,a3.mono (up_upd h1)⟩
  . rcases adAt_set h with ⟨_,z⟩ | ⟨ej,z⟩
    . cases z
    . obtain⟨b1,b2,b3⟩:=o.own j q z
      have hq:q≠p:=fun z2=>ej (o.dis j i p (by rw[<- z2]; exact z) ea)
      exact⟨by rw[upd_ne hq]; exact b1,b2,b3⟩
  . rcases adAt_set a1 with ⟨_,z⟩ | ⟨_,z⟩
    . cases z
    . rcases adAt_set a2 with ⟨_,z'⟩ | ⟨_,z'⟩
      . cases z'
      . exact o.dis j k q z z'
theorem Ok3.freeze(o:Ok3 K S R H σ env) {i:Nat}{p:Addr}{ds:List L3.D} (e:env[i]?=some (.ol p ds)):∃ R',Ok3 K S R' H σ (env.set i (.v (.lst ds))):=let ⟨_,_,h⟩:=o.freezeP e; ⟨_,h⟩
end
end
open PySem PySem.Spec PyProof.Rows L2
section
variable {X:Cx}{W:WX}{pos:Pos}{a b tg e:Expr}{Ta Tb T:TD}{A B:TB}
theorem ad_of {env:Ev}{i:Nat}{s:Sl}{p:Addr} (e:env[i]?=some s) (h:s.ad=some p):adAt env i=some p:=by
  unfold adAt
  rw[e]
  exact h
/-- x=[..] -/
def TOwn(i:Nat) (U:TL):TSD:=fun c D env=>U c env fun ds=>ds.length<=sizeLine/\∀ p,D.nx (env.set i (.ol p ds))
theorem ds_own {i : Nat} {x : Str} {es : List Expr} {pos' p2 : Pos} {U : TL} (hN : X.N.Nodup) (hi : X.N[i]? = some x) (hx : Loc X.env.scope x) (he : DA X W es U) (hs : swapsWith (.List es p2) (some (.Name x pos')) pos.line X.env = pure false := by rfl)
    (hf:X.fn x=true\/X.env.scope.names.lookup x=some .local:=by first | exact .inl rfl | exact .inr rfl | assumption):DS X W (.Assign [.Name x pos'] (.List es p2) pos) (TOwn i U) :=
  ds_mk (ps_set hN hi hx (pe_lst he) hs hf) fun S R H σ env D3 lk ok q=>tL3.ask lk ok q fun R1 H1 ds vs f1 ok1 r1 q1=>⟨by rw[r1.length]; exact q1.1,fun p hp=>⟨R1,_,ok1.newOwn hp r1,q1.2 p⟩⟩
/-- x=list(..) -/
def TOwnL(i:Nat) (T:TD):TSD:=fun c D env=>T c env fun d=>∃ ds,(d=.lst ds\/d=.tup ds)/\∀ p,D.nx (env.set i (.ol p ds))
/-- x.append(e) -/
def TApp(i:Nat) (T:TD):TSD:=fun c D env=>∃ p ds,env[i]?=some (.ol p ds)/\T c env fun d=>ds.length<sizeLine/\D.nx (env.set i (.ol p (ds++[d])))
theorem ol_mut {K:PySem.W.Frag}{S:Sta}{R H:Hp}{σ:L2.St}{env:Ev} (o:Ok3 K S R H σ env) {i:Nat}{p:Addr}{ds es:List L3.D}{xs:List V} (e:env[i]?=some (.ol p ds)) (r:Reps K R es xs):Ok3 K S R (upd H p (.lst xs)) σ (env.set i (.ol p es)) :=
  o.mut (ad_of e rfl) rfl fun x _ hx=>⟨hx,xs,upd_same,r⟩
theorem ol_at {K:PySem.W.Frag}{S:Sta}{R H:Hp}{σ:L2.St}{env:Ev} (o:Ok3 K S R H σ env) {i:Nat}{p:Addr}{ds:List L3.D} (e:env[i]?=some (.ol p ds)):σ[i]?=some (some (.ref p))/\∃ xs,H p=some (.lst xs)/\Reps K R ds xs:=by
  obtain⟨x,h1,h2,h3⟩:=pair_get o.sl e
  subst h2
  exact⟨h1,h3⟩
theorem ds_append (i : Nat) {x : Str} {p0 apos cpos : Pos} (he : DE X W e T) (hN : X.N[i]? = some x := by rfl) (hv : Vis X.env.scope x := by first | exact Or.inl rfl | exact Or.inr (Or.inl rfl) | exact Or.inr (Or.inr rfl))
    (hd:(x==("__debug__":Str))=false:=by decide) (hcd:(x==("__classdict__":Str))=false:=by decide) (hbase:attributeBase (.Name x p0) ("append":Str) X.env (eval (.Name x p0) X.env)=eval (.Name x p0) X.env:=by rfl)
    (hfew:((backTo cpos (starEach (e::[]) X.env)).all (fun x=>!x.1)&&(backToKw cpos (keywordEach [] X.env)).all (fun x=>x.1.isSome)&&decide ((e::[]).length+([]:List Keyword).length+(if ([]:List Keyword).isEmpty then 0 else 1)<30))=true:=by rfl)
    (hline:(apos.endLine==cpos.line)=true:=by rfl) (hs:starEach (e::[]) X.env=(false,eval e X.env)::starEach [] X.env:=by rfl) (hsw:swapsWith (.Call (.Attribute (.Name x p0) ("append":Str) apos) [e] [] cpos) none pos.line X.env=pure false:=by rfl) :
    DS X W (.Expr (.Call (.Attribute (.Name x p0) ("append":Str) apos) [e] [] cpos) pos) (TApp i T) :=
  ds_mk (ps_expr (pe_bm PySem.F.plainAttrs_list PySem.F.slot_list_append PySem.F.type_list_append mt_append (pe_var hN hv hd hcd) (pa_cons he pa_nil hs) hbase hfew hline hs rfl) hsw) fun S R H σ env D3 lk ok ⟨p,ds,e0,q⟩=>by
    obtain⟨h1,xs,h2,h3⟩:=ol_at ok e0
    refine⟨_,h1,.inl ⟨rfl,xs,SqL.of h2⟩,tD.ask lk ok q fun R1 H1 d v f1 ok1 r1 q1=>?_⟩
    obtain⟨_,ys,h4,h5⟩:=ol_at ok1 e0
    exact⟨p,ys,v,rfl,rfl,h4,by rw[h5.length]; exact q1.1,R1,_,ol_mut ok1 e0 (h5.snoc r1),q1.2⟩
/-- x.extend(e) -/
def TExt(i:Nat) (T:TD):TSD:=fun c D env=>∃ p ds,env[i]?=some (.ol p ds)/\T c env fun d=>∃ es,d=.lst es/\ds.length+es.length<=sizeLine/\D.nx (env.set i (.ol p (ds++es)))
/-- read as it stands: a flat answer -/
def TBor(i:Nat) (T:TD):TD:=fun c env φ=>∃ p ds,env[i]?=some (.ol p ds)/\T c (env.set i (.v (.lst ds))) fun d=>flatD d=true/\φ d
def TBorB(i:Nat) (T:TB):TB:=fun c env φ=>∃ p ds,env[i]?=some (.ol p ds)/\T c (env.set i (.v (.lst ds))) φ
theorem Fin.under {w:Wd}{R R' H R1 H1:Hp} (b:Bas w R H) (s:Same R R') (f:Fin w R' H R1 H1):Fin w R H R H1 :=
  ⟨fun _ _ h=>h,fun c o h=>f.sub c o (f.up c o (s c o h)),f.keep,fun _ _ h _ _=>h,f.inv,b.ft⟩
theorem Ok3.borrow {K:PySem.W.Frag}{S:Sta}{R H:Hp}{σ:L2.St}{env:Ev} (o:Ok3 K S R H σ env) {i:Nat}{p:Addr}{ds:List L3.D} (e:env[i]?=some (.ol p ds)):∃ R',Same R R'/\Ok3 K S R' H σ (env.set i (.v (.lst ds))):=by
  obtain⟨R',o'⟩:=(o.rebase).freeze e
  exact⟨R',o'.rb,o'.back o.rb⟩
theorem dt_bor(i:Nat) (he:DT X W e A):DT X W e (TBorB i A) :=
  ⟨fun pins s σ H Q I ⟨S,R,env,φ,lk,ok,⟨p,ds,e0,q⟩,hQ⟩=>by
    obtain⟨R',sm,ok'⟩:=ok.borrow e0
    exact he.run pins s σ H Q I ⟨S,R',_,_,lk,ok',q,fun v H' ⟨R2,f,q2⟩=>hQ v H' ⟨R,Fin.under ok.bas sm f,q2⟩⟩⟩
/-- from here on it stays -/
def TFrz(i:Nat) (T:TSD):TSD:=fun c D env=>∃ p ds,env[i]?=some (.ol p ds)/\T c D (env.set i (.v (.lst ds)))
theorem dss_frz(i:Nat) {st:List Stmt}{U:TSD} (h:DSs X W st U):DSs X W st (TFrz i U) :=
  ⟨fun pins s σ H E I ⟨S,R,env,D3,lk,ok,⟨p,ds,e0,q⟩,eo⟩=>by
    obtain⟨R',ok'⟩:=ok.freeze e0
    exact h.run pins s σ H E I ⟨S,R',_,D3,lk,ok',q,eo⟩⟩
def TPutF(K:PySem.W.Frag) (i:Nat) (f:Str) (T:TD):TSD:=fun c D env=>T c env fun d=>∃ p C fs,env[i]?=some (.oi p C fs)/\AtK K C f/\fs.length<1000/\D.nx (env.set i (.oi p C (putD f d fs)))
theorem oi_at {K:PySem.W.Frag}{S:Sta}{R H:Hp}{σ:L2.St}{env:Ev} (o:Ok3 K S R H σ env) {i:Nat}{p C:Addr}{fs:List (Str × L3.D)} (e:env[i]?=some (.oi p C fs)):σ[i]?=some (some (.ref p))/\∃ dx fvs,H p=some (.ins C dx fvs)/\RepF K R fs fvs:=by
  obtain⟨x,h1,h2,h3⟩:=pair_get o.sl e
  subst h2
  exact⟨h1,h3⟩
theorem ds_putF (i : Nat) {x f : Str} {p0 pos' : Pos} (he : DE X W e T) (hN : X.N[i]? = some x := by rfl) (hv : Vis X.env.scope x := by first | exact Or.inl rfl | exact Or.inr (Or.inl rfl) | exact Or.inr (Or.inr rfl))
    (hd:(x==("__debug__":Str))=false:=by decide) (hcd:(x==("__classdict__":Str))=false:=by decide) (hs:swapsWith e (some (.Attribute (.Name x p0) f pos')) pos.line X.env=pure false:=by rfl) :
    DS X W (.Assign [.Attribute (.Name x p0) f pos'] e pos) (TPutF X.K i f T) :=
  ds_mk (ps_fld (pe_var hN hv hd hcd) he hs) fun S R H σ env D3 lk ok q=>tD.ask lk ok q fun R1 H1 d v f1 ok1 r1 ⟨p,C,fs,e0,ak,hl,q1⟩=>by
    obtain⟨h1,dx,fvs,h2,h3⟩:=oi_at ok1 e0
    exact⟨_,h1,p,C,dx,fvs,rfl,h2,ak.cls,ak.no,by rw[h3.length]; exact hl,R1,_,ok1.mut (s:=.oi p C (putD f d fs)) (ad_of e0 rfl) rfl fun x _ hx=>⟨hx,dx,_,upd_same,h3.put r1⟩,q1⟩
end
open PySem PySem.Spec PyProof.Rows L2
/-- nothing is let out -/
abbrev WF:WX:=fun _ _ _ _=>False
section
variable {X:Cx}{W:WX}{pos:Pos}{a b tg e elt iter:Expr}{Ta Tb T:TD}{A B:TB}
def hideS:Sl->Sl
  | .v d=>.v d
  | _=>.no
def wipeD(env:Ev):List Nat->Ev
  | []=>env.map hideS
  | v::vs=>(wipeD env vs).set v .no
def TYes:TB:=fun _ _ φ=>φ true
theorem dts_nil:PTs X [] (tB3 X.K W TYes):=⟨fun pins s σ H Q I ⟨S,R,env,φ,lk,ok,hT,hQ⟩=>(pts_nil (X:=X)).run pins s σ H Q I (hQ true H ⟨R,Fin.refl ok.bas,hT⟩)⟩
theorem dts_one {c:Expr} (h:DT X W c A):PTs X [c] (tB3 X.K W A):=pts_one h
def CompD(g:TGD) (A:TB) (T:TD) (c:Ct) (env:Ev):List L3.D->List L3.D->(List L3.D->Prop)->Prop
  | [],acc,φ=>φ acc
  | d::ds,acc,φ=>g d env fun env'=>A c env' fun k=>if k=true then T c env' fun y=>acc.length<sizeLine/\CompD g A T c env ds (acc++[y]) φ else CompD g A T c env ds acc φ
/-- what runs in a comprehension -/
abbrev Ct.in (c:Ct):Ct:=⟨c.wd,fun _ _=>False⟩
def TLc(U:TL) (g:TGD) (A:TB) (T:TD) (vs:List Nat):TD:=fun c env φ=>U c env fun ds=>CompD g A T c.in (wipeD env vs) ds [] fun out=>φ (.lst out)
theorem wipe_wipe {σ:L2.St}:∀ {vs:List Nat},wipe (wipe σ vs) vs=wipe σ vs:=by
  have key:∀ (ws vs:List Nat),(∀ x∈ws,x∈vs)->wipe (wipe σ vs) ws=wipe σ vs:=by
    intro ws vs
    induction ws with
    | nil=>intro _; rfl
    | cons w ws ih =>
      intro h
      show(wipe (wipe σ vs) ws).set w none=wipe σ vs
      rw[ih fun x hx=>h x (List.mem_cons_of_mem _ hx)]
      have hw:=h w List.mem_cons_self
      clear ih h
      induction vs with
      | nil=>cases hw
      | cons v vs ih =>
        show((wipe σ vs).set v none).set w none=(wipe σ vs).set v none
        by_cases e:w=v
        . subst e
          rw[List.set_set]
        . rw[List.set_comm _ _ (Ne.symm e)]
          rcases List.mem_cons.mp hw with z | z
          . exact absurd z e
          . rw[ih z]
  intro vs
  exact key _ _ fun x hx=>hx
theorem pair_map {α β γ:Type}{F:α->β->Prop}{G:α->γ->Prop}{f:β->γ}:∀ {xs:List α}{ys:List β},Paired F xs ys->(∀ x y,F x y->G x (f y))->Paired G xs (ys.map f)
  | _,_,.nil,_=>.nil
  | _,_,.cons r t,h=>.cons (h _ _ r) (pair_map t h)
theorem wipe_ok {K:PySem.W.Frag}{R R' H H':Hp}{σ:L2.St}{env:Ev} (s:Same R R') (h:Paired (SlOk K R H) σ env):∀ vs:List Nat,Paired (SlOk K R' H') (wipe σ vs) (wipeD env vs)
  | []=>pair_map h fun x y hy=>by
    cases y with
    | no=>trivial
    | v d =>
      obtain⟨v,e,r⟩:=hy
      exact⟨v,e,r.mono s⟩
    | ol p ds=>trivial
    | oi p C fs=>trivial
  | v::vs=>pair_set (F:=SlOk K R' H') (show SlOk K R' H' none .no from trivial) v (wipe_ok s h vs)
theorem wipeD_ad {env:Ev}:∀ {vs:List Nat}{i:Nat},adAt (wipeD env vs) i=none
  | [],i=>by
    unfold adAt wipeD
    rw[List.getElem?_map]
    cases e:env[i]? with
    | none=>rfl
    | some s=>cases s<;>rfl
  | v::vs,i=>by
    cases z:adAt (wipeD env (v::vs)) i with
    | none=>rfl
    | some p =>
      rcases adAt_set (show adAt ((wipeD env vs).set v .no) i=some p from z) with ⟨_,q⟩ | ⟨_,q⟩
      . cases q
      . rw[wipeD_ad] at q
        cases q
/-- the state of a comprehension's turn -/
theorem Ok3.block {K:PySem.W.Frag}{S:Sta}{R H R' H':Hp}{σ:L2.St}{env:Ev} (o:Ok3 K S R H σ env) (f:Fin S.c.wd R H R' H') (vs:List Nat):Ok3 K ⟨S.c.in,R',H',R'⟩ R' H' (wipe σ vs) (wipeD env vs) :=
  ⟨Fin.refl f.bas,fun _ _ h=>h,wipe_ok f.up o.sl vs,fun i p h=>(by rw[wipeD_ad] at h; cases h),fun i j p h _=>(by rw[wipeD_ad] at h; cases h)⟩
theorem lk_in {K:PySem.W.Frag}{c:Ct}{R H Rb:Hp}{W:WX}:Lk K ⟨c.in,R,H,Rb⟩ W:=fun _ _ _ _ _ _ _ _ _ h=>h.elim
theorem Fin.kept {w:Wd}{R H R1 H1:Hp} (f:Fin w R H R1 H1) {p:Addr}{o:HO} (h:H p=some o) (hf:¬w.foot p):H1 p=some o:=f.keep p o h hf
theorem not_foot {w:Wd}{R H:Hp} (b:Bas w R H) {p:Addr} (h:H p=none):¬w.foot p:=fun z=>by
  obtain⟨u,hu⟩:=w.there _ _ b.inv z
  rw[h] at hu
  cases hu
theorem not_R {w:Wd}{R H:Hp} (b:Bas w R H) {p:Addr} (h:H p=none):R p=none:=by
  cases q:R p with
  | none=>rfl
  | some u =>
    rw[b.sub p u q] at h
    cases h
theorem lc_ask {S:Sta}{R H:Hp}{σ:L2.St}{env:Ev}{U:TL}{g:TGD}{vs:List Nat}{φ:L3.D->Prop} (lk:Lk X.K S W) (ok:Ok3 X.K S R H σ env) {Q:VK} (q:TLc U g A T vs S.c env φ) (kQ:∀ v H',Pst X.K S.c R H φ v H'->Q v H') :
    tLc (tI3 X.K W U) (gD3 X.K vs g) (tB3 X.K WF A) (tD X.K WF T) vs σ H Q:=by
  refine⟨S,R,env,_,lk,ok,q,fun J H1 R1 ds f1 io q1 D hD=>?_⟩
  have nf:=not_foot f1.bas hD
  have nR:=not_R f1.bas hD
  refine⟨fun i m Hh=>m=ds.length - i/\∃ R2 acc accV,Fin S.c.wd R1 H1 R2 Hh/\R2 D=none/\Hh D=some (.lst accV)/\Reps X.K R2 acc accV/\CompD g A T S.c.in (wipeD env vs) (ds.drop i) acc fun out=>φ (.lst out),
    ⟨ds.length,by simp,R1,[],[],Fin.fresh f1.bas hD,nR,upd_same,rfl,by rw[List.drop_zero]; exact q1⟩,?_⟩
  rintro i m Hh ⟨rfl,R2,acc,accV,f2,n2,h2,r2,q2⟩
  by_cases hi:i<ds.length
  . have hd:=List.getElem?_eq_getElem hi
    refine .inr ⟨io.go i R2 Hh _ f2.up f2.bas hd,fun H'=>∃ R3 acc accV,Fin S.c.wd R1 H1 R3 H'/\R3 D=none/\H' D=some (.lst accV)/\Reps X.K R3 acc accV/\CompD g A T S.c.in (wipeD env vs) (ds.drop (i+1)) acc fun out=>φ (.lst out),
      fun H' ⟨R3,ac,av,h1,h2,h3,h4,h5⟩=>⟨ds.length - (i+1),by omega,rfl,R3,ac,av,h1,h2,h3,h4,h5⟩,fun x H' y=>?_⟩
    obtain⟨R3,f3,r3⟩:=io.yld i R2 Hh x H' _ f2.up f2.bas hd y
    have f03:=(f1.trans f2).trans f3
    have ok3:=ok.block f03 vs
    rw[List.drop_eq_getElem_cons hi] at q2
    have n3:=f3.new D _ n2 h2
    have h3:=f3.kept h2 nf
    refine⟨⟨S.c.in,R3,H',R3⟩,R3,wipeD env vs,_,_,ok3,r3,q2,fun env' σ' hw ok' q'=>⟨hw.trans wipe_wipe,?_⟩⟩
    refine tB3.ask lk_in ok' q' fun R4 H4 k f4 ok4 q4=>?_
    have f34:=ok4.fin
    cases k with
    | true =>
      rw[if_pos rfl] at q4
      refine iteT (tD.ask lk_in ok4 q4 fun R5 H5 dy y f5 ok5 ry q5=>?_)
      have f35:=ok5.fin
      have h5:=f35.kept h3 nf
      have n5:=f35.new D _ n3 h3
      refine⟨accV,h5,by rw[r2.length]; exact q5.1,R5,acc++[dy],accV++[y],((f2.trans f3).trans f35).mut hD n5 nf (fun φ z=>by rw[h5] at z; cases z),n5,upd_same,((r2.mono f3.up).mono f35.up).snoc ry,q5.2⟩
    | false =>
      rw[if_neg Bool.false_ne_true] at q4
      refine iteF ⟨R4,acc,accV,(f2.trans f3).trans f34,f34.new D _ n3 h3,f34.kept h3 nf,(r2.mono f3.up).mono f34.up,q4⟩
  . have e:ds.drop i=[]:=List.drop_eq_nil_of_le (by omega)
    rw[e] at q2
    have fz:=f2.frz hD h2 n2 nf
    exact .inl ⟨io.stop i R2 Hh f2.up f2.bas (by omega),kQ _ _ ⟨_,.lst acc,f1.trans fz,⟨D,accV,rfl,upd_same,r2.mono (up_upd n2)⟩,q2⟩⟩
theorem de_lc {ifs : List Expr} {scope : Scope} {own : List (Str × Nat)} {U : TL} {g : TGD} (hc : X.calm = true) (hN : X.N.Nodup) (hi : DI X W tg iter U) (ok : BlkOk X.N X.env.scope scope own)
    (hg:∀ (s:Shared) (H:Hp) (C:Addr) (cl:List (Str × Addr)) (fp:List Addr),DG (X.blk s H scope (compEnvC scope cl C X.env) fp) (own.map (·.2)) tg g)
    (ht:∀ (s:Shared) (H:Hp) (C:Addr) (cl:List (Str × Addr)) (fp:List Addr),PTs (X.blk s H scope (compEnvC scope cl C X.env) fp) ifs (tB3 X.K WF A))
    (he:∀ (s:Shared) (H:Hp) (C:Addr) (cl:List (Str × Addr)) (fp:List Addr),DE (X.blk s H scope (compEnvC scope cl C X.env) fp) WF elt T)
    (hs:∀ x,foldedSetIterable iter X.env x=pure x:=by intro _; rfl) :
    DE X W (.ListComp elt [{target:=tg,iter:=iter,ifs:=ifs,is_async:=0}] scope pos) (TLc U g A T (own.map (·.2))) :=
  de_mk (pe_lc hc hN hi ok hg ht he hs) fun S R H σ env φ lk ok q=>lc_ask lk ok q fun _ _ p=>p
theorem ds_setLc {i : Nat} {y : Str} {py spos : Pos} {ifs : List Expr} {scope : Scope} {own : List (Str × Nat)} {U : TL} {g : TGD} (hc : X.calm = true) (hN : X.N.Nodup) (hy : X.N[i]? = some y) (hyl : X.env.scope.names.lookup y = some .local)
    (hsw:swapsWith (.ListComp elt [⟨tg,iter,ifs,0⟩] scope pos) (some (.Name y py)) spos.line X.env=pure true) (hi:DI X W tg iter U) (ok:BlkOk X.N X.env.scope scope own)
    (hg:∀ (s:Shared) (H:Hp) (C:Addr) (cl:List (Str × Addr)) (fp:List Addr),DG (X.blk s H scope (compEnvC scope cl C X.env) fp) (own.map (·.2)) tg g)
    (ht:∀ (s:Shared) (H:Hp) (C:Addr) (cl:List (Str × Addr)) (fp:List Addr),PTs (X.blk s H scope (compEnvC scope cl C X.env) fp) ifs (tB3 X.K WF A))
    (he:∀ (s:Shared) (H:Hp) (C:Addr) (cl:List (Str × Addr)) (fp:List Addr),DE (X.blk s H scope (compEnvC scope cl C X.env) fp) WF elt T)
    (hs:∀ x,foldedSetIterable iter X.env x=pure x:=by intro _; rfl) :
    DS X W (.Assign [.Name y py] (.ListComp elt [⟨tg,iter,ifs,0⟩] scope pos) spos) (TSet i (TLc U g A T (own.map (·.2)))) :=
  ds_mk (ps_setLc hc hN hy hyl hsw hi ok hg ht he hs) fun S R H σ env D3 lk ok q=>lc_ask lk ok q fun v H' ⟨R',d,f,r,q'⟩=>⟨R',_,(ok.through f).put r,q'⟩
def CompD1(g:TGD) (A:TB) (T:TD) (c:Ct) (env:Ev):List L3.D->List L3.D->(List L3.D->Prop)->Prop
  | [],acc,φ=>φ acc
  | d::ds,acc,φ=>g d env fun env'=>A c env' fun k=>if k=true then T c env' fun y=>acc.length<sizeLine/\CompD1 g A T c env ds (acc++[y]) φ else CompD1 g A T c env ds acc φ
def CompD2(g:TGD) (A:TB) (U1:TL) (g1:TGD) (A1:TB) (T:TD) (vs1:List Nat) (c:Ct) (env:Ev):List L3.D->List L3.D->(List L3.D->Prop)->Prop
  | [],acc,φ=>φ acc
  | d::ds,acc,φ=>g d env fun env'=>A c env' fun k=>if k=true then U1 c env' fun es=>CompD1 g1 A1 T c (wipeD env' vs1) es acc fun out=>CompD2 g A U1 g1 A1 T vs1 c env ds out φ else CompD2 g A U1 g1 A1 T vs1 c env ds acc φ
def TLc2(U:TL) (g:TGD) (A:TB) (U1:TL) (g1:TGD) (A1:TB) (T:TD) (vs vs1:List Nat):TD:=fun c env φ=>U c env fun ds=>CompD2 g A U1 g1 A1 T vs1 c.in (wipeD env vs) ds [] fun out=>φ (.lst out)
theorem lc2_ask {S:Sta}{R H:Hp}{σ:L2.St}{env:Ev}{U U1:TL}{g g1:TGD}{A1:TB}{vs vs1:List Nat}{φ:L3.D->Prop} (lk:Lk X.K S W) (ok:Ok3 X.K S R H σ env) {Q:VK} (q:TLc2 U g A U1 g1 A1 T vs vs1 S.c env φ) (kQ:∀ v H',Pst X.K S.c R H φ v H'->Q v H') :
    tLc2 (tI3 X.K W U) (gD3 X.K vs g) (tB3 X.K WF A) (tI3 X.K WF U1) (gD3 X.K vs1 g1) (tB3 X.K WF A1) (tD X.K WF T) vs vs1 σ H Q:=by
  refine⟨S,R,env,_,lk,ok,q,fun J H1 R1 ds f1 io q1 D hD=>?_⟩
  have nf:=not_foot f1.bas hD
  have nR:=not_R f1.bas hD
  refine⟨fun i m Hh=>m=ds.length - i/\∃ R2 acc accV,Fin S.c.wd R1 H1 R2 Hh/\R2 D=none/\Hh D=some (.lst accV)/\Reps X.K R2 acc accV/\CompD2 g A U1 g1 A1 T vs1 S.c.in (wipeD env vs) (ds.drop i) acc fun out=>φ (.lst out),
    ⟨ds.length,by simp,R1,[],[],Fin.fresh f1.bas hD,nR,upd_same,rfl,by rw[List.drop_zero]; exact q1⟩,?_⟩
  rintro i m Hh ⟨rfl,R2,acc,accV,f2,n2,h2,r2,q2⟩
  by_cases hi:i<ds.length
  . have hd:=List.getElem?_eq_getElem hi
    refine .inr ⟨io.go i R2 Hh _ f2.up f2.bas hd,fun H'=>∃ R3 acc accV,Fin S.c.wd R1 H1 R3 H'/\R3 D=none/\H' D=some (.lst accV)/\Reps X.K R3 acc accV/\CompD2 g A U1 g1 A1 T vs1 S.c.in (wipeD env vs) (ds.drop (i+1)) acc fun out=>φ (.lst out),
      fun H' ⟨R3,ac,av,h1,h2,h3,h4,h5⟩=>⟨ds.length - (i+1),by omega,rfl,R3,ac,av,h1,h2,h3,h4,h5⟩,fun x H' y=>?_⟩
    obtain⟨R3,f3,r3⟩:=io.yld i R2 Hh x H' _ f2.up f2.bas hd y
    have f03:=(f1.trans f2).trans f3
    have ok3:=ok.block f03 vs
    rw[List.drop_eq_getElem_cons hi] at q2
    have n3:=f3.new D _ n2 h2
    have h3:=f3.kept h2 nf
    refine⟨⟨S.c.in,R3,H',R3⟩,R3,wipeD env vs,_,_,ok3,r3,q2,fun env' σ' hw ok' q'=>⟨hw.trans wipe_wipe,?_⟩⟩
    refine tB3.ask lk_in ok' q' fun R4 H4 k f4 ok4 q4=>?_
    have f34:=ok4.fin
    have n4:=f34.new D _ n3 h3
    have h4:=f34.kept h3 nf
    cases k with
    | true =>
      rw[if_pos rfl] at q4
      refine iteT ⟨_,R4,env',_,lk_in,ok4,q4,fun J1 H5 R5 es f5 io1 q5=>?_⟩
      have f45:=f5
      refine⟨fun j m Hh=>m=es.length - j/\∃ R6 acc accV,Fin S.c.wd R1 H1 R6 Hh/\Same R5 R6/\R6 D=none/\Hh D=some (.lst accV)/\Reps X.K R6 acc accV/\CompD1 g1 A1 T S.c.in (wipeD env' vs1) (es.drop j) acc fun out=>CompD2 g A U1 g1 A1 T vs1 S.c.in (wipeD env vs) (ds.drop (i+1)) out fun out=>φ (.lst out),
        ⟨es.length,by simp,R5,acc,accV,((f2.trans f3).trans f34).trans f45,fun _ _ h=>h,f45.new D _ n4 h4,f45.kept h4 nf,((r2.mono f3.up).mono f34.up).mono f45.up,by rw[List.drop_zero]; exact q5⟩,?_⟩
      rintro j m Hk ⟨rfl,R6,ac6,av6,g6,s6,n6,h6,r6,q6⟩
      by_cases hj:j<es.length
      . have hdj:=List.getElem?_eq_getElem hj
        refine .inr ⟨io1.go j R6 Hk _ s6 g6.bas hdj,fun H'=>∃ R7 acc accV,Fin S.c.wd R1 H1 R7 H'/\Same R5 R7/\R7 D=none/\H' D=some (.lst accV)/\Reps X.K R7 acc accV/\CompD1 g1 A1 T S.c.in (wipeD env' vs1) (es.drop (j+1)) acc fun out=>CompD2 g A U1 g1 A1 T vs1 S.c.in (wipeD env vs) (ds.drop (i+1)) out fun out=>φ (.lst out),
          fun H' ⟨R7,ac,av,z1,z2,z3,z4,z5,z6⟩=>⟨es.length - (j+1),by omega,rfl,R7,ac,av,z1,z2,z3,z4,z5,z6⟩,fun x H' y=>?_⟩
        obtain⟨R7,f7,r7⟩:=io1.yld j R6 Hk x H' _ s6 g6.bas hdj y
        have ok7:Ok3 X.K ⟨S.c.in,R7,H',R7⟩ R7 H' (wipe σ' vs1) (wipeD env' vs1) :=
          ⟨Fin.refl f7.bas,fun _ _ h=>h,wipe_ok ((f45.up.trans s6).trans f7.up) ok4.sl vs1,fun i p h=>(by rw[wipeD_ad] at h; cases h),fun i j p h _=>(by rw[wipeD_ad] at h; cases h)⟩
        rw[List.drop_eq_getElem_cons hj] at q6
        have n7:=f7.new D _ n6 h6
        have h7:=f7.kept h6 nf
        refine⟨⟨S.c.in,R7,H',R7⟩,R7,wipeD env' vs1,_,_,ok7,r7,q6,fun env2 σ2 hw2 ok2 q7=>⟨hw2.trans wipe_wipe,?_⟩⟩
        refine tB3.ask lk_in ok2 q7 fun R8 H8 k8 f8 ok8 q8=>?_
        have f78:=ok8.fin
        cases k8 with
        | true =>
          rw[if_pos rfl] at q8
          refine iteT (tD.ask lk_in ok8 q8 fun R9 H9 dy y f9 ok9 ry q9=>?_)
          have f79:=ok9.fin
          have h9:=f79.kept h7 nf
          have n9:=f79.new D _ n7 h7
          exact⟨av6,h9,by rw[r6.length]; exact q9.1,R9,ac6++[dy],av6++[y],((g6.trans f7).trans f79).mut hD n9 nf (fun φ z=>by rw[h9] at z; cases z),(s6.trans f7.up).trans f79.up,n9,upd_same,((r6.mono f7.up).mono f79.up).snoc ry,q9.2⟩
        | false =>
          rw[if_neg Bool.false_ne_true] at q8
          exact iteF ⟨R8,ac6,av6,(g6.trans f7).trans f78,(s6.trans f7.up).trans f78.up,f78.new D _ n7 h7,f78.kept h7 nf,(r6.mono f7.up).mono f78.up,q8⟩
      . have e:es.drop j=[]:=List.drop_eq_nil_of_le (by omega)
        rw[e] at q6
        exact .inl ⟨io1.stop j R6 Hk s6 g6.bas (by omega),R6,ac6,av6,g6,n6,h6,r6,q6⟩
    | false =>
      rw[if_neg Bool.false_ne_true] at q4
      exact iteF ⟨R4,acc,accV,(f2.trans f3).trans f34,n4,h4,(r2.mono f3.up).mono f34.up,q4⟩
  . have e:ds.drop i=[]:=List.drop_eq_nil_of_le (by omega)
    rw[e] at q2
    have fz:=f2.frz hD h2 n2 nf
    exact .inl ⟨io.stop i R2 Hh f2.up f2.bas (by omega),kQ _ _ ⟨_,.lst acc,f1.trans fz,⟨D,accV,rfl,upd_same,r2.mono (up_upd n2)⟩,q2⟩⟩
theorem de_lc2 {tg1 iter1 : Expr} {ifs ifs1 : List Expr} {scope : Scope} {own : List (Str × Nat)} {vs1 : List Nat} {U U1 : TL} {g g1 : TGD} {A1 : TB} (hc : X.calm = true) (hN : X.N.Nodup) (hi : DI X W tg iter U) (ok : BlkOk X.N X.env.scope scope own) (hv : ∀ i ∈ vs1, i ∈ own.map (·.2))
    (hg:∀ (s:Shared) (H:Hp) (C:Addr) (cl:List (Str × Addr)) (fp:List Addr),DG (X.blk s H scope (compEnvC scope cl C X.env) fp) (own.map (·.2)) tg g)
    (ht:∀ (s:Shared) (H:Hp) (C:Addr) (cl:List (Str × Addr)) (fp:List Addr),PTs (X.blk s H scope (compEnvC scope cl C X.env) fp) ifs (tB3 X.K WF A))
    (hi1:∀ (s:Shared) (H:Hp) (C:Addr) (cl:List (Str × Addr)) (fp:List Addr),DI (X.blk s H scope (compEnvC scope cl C X.env) fp) WF tg1 iter1 U1)
    (hg1:∀ (s:Shared) (H:Hp) (C:Addr) (cl:List (Str × Addr)) (fp:List Addr),DG (X.blk s H scope (compEnvC scope cl C X.env) fp) vs1 tg1 g1)
    (ht1:∀ (s:Shared) (H:Hp) (C:Addr) (cl:List (Str × Addr)) (fp:List Addr),PTs (X.blk s H scope (compEnvC scope cl C X.env) fp) ifs1 (tB3 X.K WF A1))
    (he:∀ (s:Shared) (H:Hp) (C:Addr) (cl:List (Str × Addr)) (fp:List Addr),DE (X.blk s H scope (compEnvC scope cl C X.env) fp) WF elt T)
    (hs:∀ x,foldedSetIterable iter X.env x=pure x:=by intro _; rfl) (hs1:∀ env x,foldedSetIterable iter1 env x=pure x:=by intro _ _; rfl) :
    DE X W (.ListComp elt [⟨tg,iter,ifs,0⟩,⟨tg1,iter1,ifs1,0⟩] scope pos) (TLc2 U g A U1 g1 A1 T (own.map (·.2)) vs1) :=
  de_mk (pe_lc2 hc hN hi ok hv hg ht hi1 hg1 ht1 he hs hs1) fun S R H σ env φ lk ok q=>lc2_ask lk ok q fun _ _ p=>p
end
open PySem PySem.Spec PyProof.Rows L2
theorem cxUpN {P:Program}{w:World}:StX.CXUp (L2C.CX P w):=by
  rintro outer s H s2 H2 E e s' un kp ho ⟨a,B,H',cls,d,ck,ea,fl,hok,ub,gc,na,os,ag,he⟩
  refine⟨a,B,H',cls,d,ck,ea,fl,hok,⟨fun b o q n hb=>ub.keep b o (kp b o q) (un.free b o q n (by simp)) hb,fun b o q hb=>ub.slot b o (kp b o q) hb,fun b o q n=>ub.free b o (kp b o q) (un.free b o q n (by simp)),
    fun b o q hb=>ub.there b o (kp b o q) hb,fun b xs q=>ub.tups b xs (un.tups b xs q),fun b o xs q=>ub.frzs b o xs (un.frzs b o xs q),fun b ps q=>?_⟩,gc,na,os.trans ho,ag,he⟩
  obtain⟨m1,e1⟩:=un.tbls b ps q
  obtain⟨m2,e2⟩:=ub.tbls b _ e1
  exact⟨m1++m2,by rw[e2,Array.append_assoc]⟩
abbrev TF:=Wd->List D->(D->Prop)->(Er->Prop)->Prop
def spW(K:PySem.W.Frag) (F:TF):Sp:=fun vs H Q E=>∃ (wd:Wd) (R:Hp) (ds:List D) (φ:D->Prop) (ε:Er->Prop),Bas wd R H/\Reps K R ds vs/\F wd ds φ ε /\
  (∀ v R' H' d,Fin wd R H R' H'->Rep K R' d v->φ d->Q v H')/\∀ cls od R' H' ex,Fin wd R H R' H'->XRep K R' ex cls od->ε ex->E cls od H'
/-- a def that keeps it,called by values -/
abbrev Fn3 (P:Program) (w:World) (K:PySem.W.Frag) (mg:Str->Option Value) (base:Heap) (k:Nat) (f:Addr) (F:TF):Prop:=FnR P w K mg base (L2C.CX P w) k f (spW K F)
theorem Fn3.mono {P:Program}{w:World}{K:PySem.W.Frag}{mg:Str->Option Value}{base:Heap}{j k:Nat}{f:Addr}{F:TF} (h:Fn3 P w K mg base j f F) (q:j<=k):Fn3 P w K mg base k f F:=FnR.mono h q
theorem Fn3.imp {P:Program}{w:World}{K:PySem.W.Frag}{mg:Str->Option Value}{base:Heap}{k:Nat}{f:Addr}{F G:TF} (h:Fn3 P w K mg base k f F) (q:∀ wd ds φ ε,G wd ds φ ε->F wd ds φ ε):Fn3 P w K mg base k f G :=
  FnR.imp h fun vs H Q E ⟨wd,R,ds,φ,ε,b,r,g,z⟩=>⟨wd,R,ds,φ,ε,b,r,q _ _ _ _ g,z⟩
section
variable {X:Cx}{W:WX}{pos:Pos}{e:Expr}{es:List Expr}{U:TL}{F:TF}{k:Nat}{f:Addr}{x:Str}{p0:Pos}
/-- a callee,at the names as they stand -/
theorem call_at {sp : Sp} {pins : List (Addr × Obj)} {σ : L2.St} {H : Hp} {s : Shared} {Q : VK} {us : List Value} {vs : List V} (F : FnR X.prog X.w X.K X.mg X.base (L2C.CX X.prog X.w) k f sp) (hr : Room k X.A) (tk : L2C.Takes X W)
    (I:Inv X pins σ H s) (r:Vals vs us) (h:sp vs H Q (WE W σ)):wpAny (model X.prog X.w) X.A (call (.ref f) us) (EP X pins σ Q) X.xe s :=
  wpAny_call (codeAny_mono (F X.A X.stack s H us vs Q _ hr I.env0 r h) fun res s' hres=>match res,hres with
    | .error er,hres=>L2C.passAt tk σ pins H s er s' I hres
    | .ok (.ret u),hres=>I.after hres)
/-- a new instance by its __init__,at the names as they stand -/
theorem make_at {sp : Sp} {C : Addr} {pins : List (Addr × Obj)} {σ : L2.St} {H : Hp} {s : Shared} {Q : VK} {us : List Value} {vs : List V} (M : Mk X.K C f) (F : FnR X.prog X.w X.K X.mg X.base (L2C.CX X.prog X.w) k f sp) (hr : Room (k + 1) X.A) (tk : L2C.Takes X W)
    (I:Inv X pins σ H s) (r:Vals vs us) (h:∀ a dx,H a=none->H dx=none->dx≠a->sp (.ref a::vs) (upd (upd H dx (.own a)) a (.ins C dx [])) (fun v H2=>v=.non/\Q (.ref a) H2) fun cls od H2=>WE W σ cls od H2) :
    wpAny (model X.prog X.w) X.A (call (.ref C) us) (EP X pins σ Q) X.xe s:=by
  have J:=Inv.made (C:=C) I
  refine wpAny_call (make_map (f:=f) I.kIn M.makes M.init (beq_iff_eq.mp M.fn) (codeAny_mono (F _ X.stack _ _ (.ref (s.heap.objs.size+1)::us) (.ref (s.heap.objs.size+1)::vs) _ _ (hr.make C us []) (J.env0.make C us []) (.cons rfl r)
    (h (s.heap.objs.size+1) s.heap.objs.size (I.hok.fresh (Nat.le_succ _)) (I.hok.fresh (Nat.le_refl _)) (Nat.ne_of_lt (Nat.lt_succ_self _)))) fun res s' hres=>?_))
  match res,hres with
  | .error er,hres=>exact L2C.passAt tk σ pins _ _ er s' J hres
  | .ok (.ret u),hres =>
    obtain⟨v,H',J2,rv,ev,q⟩:=J.after hres
    subst ev
    exact⟨rv,V.ref (s.heap.objs.size+1),H',J2,rfl,q⟩
/-- the call of a def,by what is held -/
def TCall(F:TF) (U:TL):TD:=fun c env φ=>U c env fun ds=>F c.wd ds φ fun ex=>c.er ex env
theorem spW_ask {S : Sta} {R H : Hp} {σ : L2.St} {env : Ev} {φ : D -> Prop} {Q : VK} {vs : List V} {ds : List D} (lk : Lk X.K S W) (ok : Ok3 X.K S R H σ env) (r : Reps X.K R ds vs) (h : F S.c.wd ds φ fun ex => S.c.er ex env)
    (kQ:∀ v H',Pst X.K S.c R H φ v H'->Q v H'):spW X.K F vs H Q (WE W σ) :=
  ⟨S.c.wd,R,ds,φ,_,ok.bas,r,h,fun v R' H' d f rv q=>kQ v H' ⟨R',d,f,rv,q⟩,fun cls od R' H' ex f xr q=>lk R' H' σ env cls od ex (ok.through f) xr q⟩
theorem tcall_ask {S:Sta}{R H:Hp}{σ:L2.St}{env:Ev}{φ:D->Prop} (lk:Lk X.K S W) (ok:Ok3 X.K S R H σ env) (h:TCall F U S.c env φ):tL3 X.K W U σ H fun vs H1=>spW X.K F vs H1 (Pst X.K S.c R H φ) (WE W σ) :=
  tL3.ask lk ok h fun R1 H1 ds vs f1 ok1 r1 q1=>spW_ask lk ok1 r1 q1 fun v H' p=>Pst.from f1 p
theorem de_call (G : Fn3 X.prog X.w X.K X.mg X.base k f F) (hr : Room k X.A) (hG : Gl X x) (hM : X.mg x = some (.ref f)) (hK : PySem.W.keepIn X.K (.ref f) = true) (tk : L2C.Takes X W) (ha : DA X W (e :: es) U)
    (hD:(x==("__debug__":Str))=false:=by decide) (hS:starEach (e::es) X.env=(false,eval e X.env)::starEach es X.env:=by rfl) (hP:(backTo pos (starEach es X.env)).any (·.1)=false:=by rfl):DE X W (.Call (.Name x p0) (e::es) [] pos) (TCall F U) :=
  de_mk (t:=fun σ H Q=>tL3 X.K W U σ H fun vs H1=>spW X.K F vs H1 Q (WE W σ)) ⟨fun pins s σ H Q I h=>wpAny_Call_Name_kw (ld_glob I hG hM (PySem.W.callWith_K (h₀:=X.base) I.ok.mod.kin hK (thn (ha.run pos pins s σ H _ I h)
    fun us s1 ⟨vs,H1,I1,r,q⟩=>⟨I1.kIn,call_at G hr tk I1 r q⟩) hS hP) hD)⟩ fun S R H σ env φ lk ok h=>tcall_ask lk ok h
theorem de_call0 (G : Fn3 X.prog X.w X.K X.mg X.base k f F) (hr : Room k X.A) (hG : Gl X x) (hM : X.mg x = some (.ref f)) (hK : PySem.W.keepIn X.K (.ref f) = true) (tk : L2C.Takes X W)
    (hD:(x==("__debug__":Str))=false:=by decide):DE X W (.Call (.Name x p0) [] [] pos) (TCall F TNil) :=
  de_mk (t:=fun σ H Q=>spW X.K F [] H Q (WE W σ)) ⟨fun pins s σ H Q I h=>wpAny_Call_Name_kw (ld_glob I hG hM (PySem.W.callWith_K0 I.kIn hK (call_at (us:=[]) G hr tk I .nil h)) hD)⟩ fun S R H σ env φ lk ok h=>spW_ask lk ok (show Reps X.K R [] [] from rfl) h fun _ _ p=>p
/-- *xs among the arguments -/
def TStar(T:TD) (U:TL):TL:=fun c env φ=>T c env fun x=>∃ xs,(x=.tup xs\/x=.lst xs)/\U c env fun ys=>φ (xs++ys)
theorem da_star {T:TD}{p:Pos} (he:DE X W e T) (hr:DA X W es U) (hs:starEach (.Starred e p::es) X.env=(true,eval e X.env)::starEach es X.env:=by rfl):DA X W (.Starred e p::es) (TStar T U) :=
  da_mk (StX.pa_star he hr hs) fun S R H σ env φ lk ok h=>tD.ask lk ok h fun R1 H1 d v f1 ok1 r1 ⟨xs,ed,q1⟩=>by
    rcases ed with ed | ed
    . subst ed
      obtain⟨p,vs,e1,hh,hr1⟩:=rep_tup r1
      subst e1
      exact⟨p,vs,rfl,.inl (SqT.of (ok1.bas.sub _ _ hh)),tL3.ask lk ok1 q1 fun R2 H2 ds us f2 ok2 r2 q2=>⟨R2,xs++ds,f1.trans f2,(hr1.mono f2.up).append r2,q2⟩⟩
    . subst ed
      obtain⟨p,vs,e1,hh,hr1⟩:=rep_lst r1
      subst e1
      exact⟨p,vs,rfl,.inr (SqL.of (ok1.bas.sub _ _ hh)),tL3.ask lk ok1 q1 fun R2 H2 ds us f2 ok2 r2 q2=>⟨R2,xs++ds,f1.trans f2,(hr1.mono f2.up).append r2,q2⟩⟩
end
abbrev TFI:=Wd->List D->(List (Str × D)->Prop)->(Er->Prop)->Prop
def spI(K:PySem.W.Frag) (C:Addr) (F:TFI):Sp:=fun vs H Q E=>∃ (a dx:Addr) (ws:List V) (wd:Wd) (R H1:Hp) (ds:List D) (φ:List (Str × D)->Prop) (ε:Er->Prop),vs=.ref a::ws/\H1 a=none/\H1 dx=none/\dx≠a /\
  H=upd (upd H1 dx (.own a)) a (.ins C dx [])/\Bas wd R H1/\Reps K R ds ws/\F wd ds φ ε /\
  (∀ R' H' fs fvs dx',Fin wd R H1 R' H'->R' a=none->H' a=some (.ins C dx' fvs)->RepF K R' fs fvs->φ fs->Q .non H')/\∀ cls od R' H' ex,Fin wd R H1 R' H'->XRep K R' ex cls od->ε ex->E cls od H'
abbrev FnI (P:Program) (w:World) (K:PySem.W.Frag) (mg:Str->Option Value) (base:Heap) (k:Nat) (C f:Addr) (F:TFI):Prop:=FnR P w K mg base (L2C.CX P w) k f (spI K C F)
section
variable {X:Cx}{W:WX}{pos:Pos}{e:Expr}{es:List Expr}{U:TL}{F:TFI}{k:Nat}{f C:Addr}{x:Str}{p0:Pos}
def TMake(C:Addr) (F:TFI) (U:TL):TD:=fun c env φ=>U c env fun ds=>F c.wd ds (fun fs=>φ (.ins C fs)) fun ex=>c.er ex env
theorem spI_ask {S:Sta}{R H:Hp}{σ:L2.St}{env:Ev}{φ:D->Prop}{vs:List V}{ds:List D}{R0 H0:Hp} (f0:Fin S.c.wd R0 H0 R H) (lk:Lk X.K S W) (ok:Ok3 X.K S R H σ env) (r:Reps X.K R ds vs) (h:F S.c.wd ds (fun fs=>φ (.ins C fs)) fun ex=>S.c.er ex env) {a dx:Addr} (ha:H a=none) (hd:H dx=none) (hne:dx≠a) :
    spI X.K C F (.ref a::vs) (upd (upd H dx (.own a)) a (.ins C dx [])) (fun v H2=>v=.non/\Pst X.K S.c R0 H0 φ (.ref a) H2) fun cls od H2=>WE W σ cls od H2 :=
  ⟨a,dx,vs,S.c.wd,R,H,ds,_,_,rfl,ha,hd,hne,rfl,ok.bas,r,h,fun R' H' fs fvs dx' f hR hH rf q=>⟨rfl,_,.ins C fs,f0.trans (f.frz ha hH hR (not_foot ok.bas ha)),⟨a,dx',fvs,rfl,upd_same,rf.mono (up_upd hR)⟩,q⟩,
    fun cls od R' H' ex f xr q=>lk R' H' σ env cls od ex (ok.through f) xr q⟩
theorem tmake_ask {S:Sta}{R H:Hp}{σ:L2.St}{env:Ev}{φ:D->Prop} (lk:Lk X.K S W) (ok:Ok3 X.K S R H σ env) (h:TMake C F U S.c env φ) :
    tL3 X.K W U σ H fun vs H1=>∀ a dx,H1 a=none->H1 dx=none->dx≠a->spI X.K C F (.ref a::vs) (upd (upd H1 dx (.own a)) a (.ins C dx [])) (fun v H2=>v=.non/\Pst X.K S.c R H φ (.ref a) H2) fun cls od H2=>WE W σ cls od H2 :=
  tL3.ask lk ok h fun R1 H1 ds vs f1 ok1 r1 q1 a dx ha hd hne=>spI_ask f1 lk ok1 r1 q1 ha hd hne
abbrev tMk3 (K:PySem.W.Frag) (W:WX) (C:Addr) (F:TFI) (U:TL):TE:=fun σ H Q=>tL3 K W U σ H fun vs H1=>∀ a dx,H1 a=none->H1 dx=none->dx≠a->spI K C F (.ref a::vs) (upd (upd H1 dx (.own a)) a (.ins C dx [])) (fun v H2=>v=.non/\Q (.ref a) H2) fun cls od H2=>WE W σ cls od H2
theorem de_make (M : Mk X.K C f) (G : FnI X.prog X.w X.K X.mg X.base k C f F) (hr : Room (k + 1) X.A) (hG : Gl X x) (hM : X.mg x = some (.ref C)) (tk : L2C.Takes X W) (ha : DA X W (e :: es) U)
    (hD:(x==("__debug__":Str))=false:=by decide) (hS:starEach (e::es) X.env=(false,eval e X.env)::starEach es X.env:=by rfl) (hP:(backTo pos (starEach es X.env)).any (·.1)=false:=by rfl):DE X W (.Call (.Name x p0) (e::es) [] pos) (TMake C F U) :=
  de_mk (t:=tMk3 X.K W C F U) ⟨fun pins s σ H Q I h=>wpAny_Call_Name_kw (ld_glob I hG hM (PySem.W.callWith_K (h₀:=X.base) I.ok.mod.kin M.kp (thn (ha.run pos pins s σ H _ I h)
    fun us s1 ⟨vs,H1,I1,r,q⟩=>⟨I1.kIn,make_at M G hr tk I1 r q⟩) hS hP) hD)⟩ fun S R H σ env φ lk ok h=>tmake_ask lk ok h
end
open PySem PySem.W PySem.Calls PyProof.Rows
open PySem PySem.Spec PyProof.Rows L2
section
variable {X:Cx}{W:WX}{pos apos:Pos}{o e:Expr}{es:List Expr}{Ta:TD}{U:TL}{F:TF}{k:Nat}{f C:Addr}{m:Str}
def TMeth(C:Addr) (m:Str) (F:TF) (Ta:TD) (U:TL):TD:=fun c env φ=>Ta c env fun x=>∃ fs,x=.ins C fs/\fs.lookup m=none/\U c env fun ds=>F c.wd (x::ds) φ fun ex=>c.er ex env
theorem de_meth {pl : Sem Bool} (he : DE X W o Ta) (hc : Cls X.K C) (hm : Meth X.K C m f) (G : Fn3 X.prog X.w X.K X.mg X.base k f F) (hr : Room k X.A) (tk : L2C.Takes X W) (ha : DA X W (e :: es) U)
    (hS:starEach (e::es) X.env=(false,eval e X.env)::starEach es X.env:=by rfl) (hP:(backTo pos (starEach es X.env)).any (·.1)=false:=by rfl)
    (ht:eval (.Call (.Attribute o m apos) (e::es) [] pos) X.env=(do let ov <- eval o X.env; standAt apos.atName; let (g,first) <- holding [ov] (getMethod ov m pl); callWith pos g first (backTo pos (starEach (e::es) X.env)) (backToKw pos (keywordEach [] X.env))):=by rfl) :
    DE X W (.Call (.Attribute o m apos) (e::es) [] pos) (TMeth C m F Ta U) :=
  de_mk (t:=fun σ H Q=>tD X.K W Ta σ H fun x H1=>∃ a dx fs,x=.ref a/\H1 a=some (.ins C dx fs)/\fs.lookup m=none/\tL3 X.K W U σ H1 fun vs H2=>spW X.K F (x::vs) H2 Q (WE W σ))
    ⟨fun pins s σ H Q I h=>PySem.W.methodCall_KW (pl:=pl) (thn (he.run pins s σ H _ I h) fun u s1 ⟨x,H1,I1,rx,a,dx,fs,ex,ea,l,q⟩=>by
      subst ex
      obtain rfl:u=Value.ref a:=rx
      exact getmeth_ok I1 ea hc hm l (PySem.W.callWith_K (first:=[.ref a]) (h₀:=X.base) I.ok.mod.kin hm.kp (thn (ha.run pos pins s1 σ H1 _ I1 q) fun us s2 ⟨vs,H2,I2,r,q2⟩=>⟨I2.kIn,call_at (us:=.ref a::us) (vs:=.ref a::vs) G hr tk I2 (.cons rfl r) q2⟩) hS hP)) ht⟩
    fun S R H σ env φ lk ok h=>tD.ask lk ok h fun R1 H1 d v f1 ok1 r1 ⟨fs,ed,l,q⟩=>by
      subst ed
      obtain⟨p,dx,fvs,e2,hh,rf⟩:=rep_ins r1
      subst e2
      refine⟨p,dx,fvs,rfl,ok1.bas.sub _ _ hh,rf.none l,tL3.ask lk ok1 q fun R2 H2 ds vs f2 ok2 r2 q2=>?_⟩
      exact spW_ask lk ok2 (.cons (r1.mono f2.up) r2) q2 fun v H' p=>Pst.from (f1.trans f2) p
theorem de_meth0 {pl : Sem Bool} (he : DE X W o Ta) (hc : Cls X.K C) (hm : Meth X.K C m f) (G : Fn3 X.prog X.w X.K X.mg X.base k f F) (hr : Room k X.A) (tk : L2C.Takes X W)
    (ht:eval (.Call (.Attribute o m apos) [] [] pos) X.env=(do let ov <- eval o X.env; standAt apos.atName; let (g,first) <- holding [ov] (getMethod ov m pl); callWith pos g first (backTo pos (starEach [] X.env)) (backToKw pos (keywordEach [] X.env))):=by rfl) :
    DE X W (.Call (.Attribute o m apos) [] [] pos) (TMeth C m F Ta TNil) :=
  de_mk (t:=fun σ H Q=>tD X.K W Ta σ H fun x H1=>∃ a dx fs,x=.ref a/\H1 a=some (.ins C dx fs)/\fs.lookup m=none/\spW X.K F [x] H1 Q (WE W σ))
    ⟨fun pins s σ H Q I h=>PySem.W.methodCall_KW (pl:=pl) (thn (he.run pins s σ H _ I h) fun u s1 ⟨x,H1,I1,rx,a,dx,fs,ex,ea,l,q⟩=>by
      subst ex
      obtain rfl:u=Value.ref a:=rx
      exact getmeth_ok I1 ea hc hm l (PySem.W.callWith_K0 (first:=[.ref a]) I1.kIn hm.kp (call_at (us:=[.ref a]) (vs:=[.ref a]) G hr tk I1 (.cons rfl .nil) q))) ht⟩
    fun S R H σ env φ lk ok h=>tD.ask lk ok h fun R1 H1 d v f1 ok1 r1 ⟨fs,ed,l,q⟩=>by
      subst ed
      obtain⟨p,dx,fvs,e2,hh,rf⟩:=rep_ins r1
      subst e2
      exact⟨p,dx,fvs,rfl,ok1.bas.sub _ _ hh,rf.none l,spW_ask lk ok1 (.one r1) q fun v H' p=>Pst.from f1 p⟩
theorem call_q {sp : Sp} {A : Around} {E' : Value -> Shared -> Prop} {pins : List (Addr × Obj)} {σ : L2.St} {H : Hp} {s : Shared} {Q : VK} {us : List Value} {vs : List V} (G : FnR X.prog X.w X.K X.mg X.base (L2C.CX X.prog X.w) k f sp) (hr : Room k A) (e0 : Env0 X.prog X.w X.K X.mg X.base A X.stack s H)
    (I:Inv X pins σ H s) (r:Vals vs us) (h:sp vs H Q E0):wpAny (model X.prog X.w) A (call (.ref f) us) (EP X pins σ Q) E' s :=
  wpAny_call (codeAny_mono (G A X.stack s H us vs Q _ hr e0 r h) fun res s' hres=>match res,hres with
    | .error er,hres=>by
      obtain⟨_,_,_,_,_,_,_,_,_,_,_,_,_,_,z⟩:=hres
      exact z.elim
    | .ok (.ret u),hres=>I.after hres)
theorem looks_ty {pins:List (Addr × Obj)}{σ:L2.St}{H R:Hp}{s:Shared}{M:Model}{d:D}{v:V}{u:Value}{w:Wd} (I:Inv X pins σ H s) (b:Bas w R H) (r:Rep X.K R d v) (ru:RelV v u) (t:tyOf d≠.none):PySem.W.Looks M s.heap (typeOf u) (tyOf d):=by
  cases d
  case non =>
    rw[show v=.non from r] at ru
    obtain rfl:u=.none:=ru
    exact .of_pure rfl
  case bl =>
    rw[show v=.bl _ from r] at ru
    obtain rfl:u=.bool _:=ru
    exact .of_pure rfl
  case int =>
    rw[show v=.int _ from r] at ru
    obtain⟨t,rfl⟩:=ru
    exact .of_pure rfl
  case str =>
    rw[show v=.str _ from r] at ru
    obtain⟨t,rfl⟩:=ru
    exact .of_pure rfl
  case ty=>exact absurd rfl t
  case ref=>exact absurd rfl t
  case exc=>exact absurd rfl t
  case clo=>exact absurd rfl t
  case lam=>exact absurd rfl t
  case dic=>exact absurd rfl t
  case dicT=>exact absurd rfl t
  case tup ds =>
    obtain⟨p,xs,e,hh,hr⟩:=rep_tup r
    subst e
    obtain rfl:u=Value.ref p:=ru
    obtain⟨_,its,_,ob,ho,hc,_⟩:=I.hok p _ (b.sub _ _ hh)
    intro A Q E s' kk q
    exact wpAny_typeOf_ref (kk _ _ ho) (by rw[hc]; exact q)
  case lst ds =>
    obtain⟨p,xs,e,hh,hr⟩:=rep_lst r
    subst e
    obtain rfl:u=Value.ref p:=ru
    obtain⟨_,its,_,_,ho⟩:=I.hok p _ (b.sub _ _ hh)
    intro A Q E s' kk q
    exact wpAny_typeOf_ref (kk _ _ ho) q
  case ins C fs =>
    obtain⟨p,dx,xs,e,hh,hr⟩:=rep_ins r
    subst e
    obtain rfl:u=Value.ref p:=ru
    obtain⟨mA,J,_⟩:=ins_get I.hok (b.sub _ _ hh)
    obtain⟨od,J,_⟩:=J.look
    exact J.type
/-- what an own==must be -/
structure EqK (K:PySem.W.Frag) (C f:Addr):Prop where
  eq:PySem.W.findIn K (.ref C) "__eq__"=some (some (.ref f))
  fn:PySem.W.isFn K (.ref f)=true
  ne:PySem.W.findIn K (.ref C) "__ne__"=some (some (.builtin "object.__ne__"))
  ob:PySem.W.mroIn K C (.type "object")=some true
def rOwnEq(K:PySem.W.Frag) (C:Addr) (F:TF) (neg:Bool):R2:=fun x y H Q=>∃ wd R dx dy,Bas wd R H/\Rep K R dx x/\Rep K R dy y/\(∃ fs,dx=.ins C fs)/\tyOf dy≠.none/\PySem.W.notFirst K C (tyOf dy)=true /\
  ∃ φ:D->Prop,F wd [dx,dy] (fun d=>∃ b,d=.bl b/\φ (.bl (if neg then !b else b))) (fun _=>False)/\∀ v R' H' d,Fin wd R H R' H'->Rep K R' d v->φ d->Q v H'
def eqOwnF(K:PySem.W.Frag) (C:Addr) (F:TF) (neg:Bool):Ct->F2:=fun c x y φ=>(∃ fs,x=.ins C fs)/\tyOf y≠.none/\PySem.W.notFirst K C (tyOf y)=true/\F c.wd [x,y] (fun d=>∃ b,d=.bl b/\φ (.bl (if neg then !b else b))) (fun _=>False)
theorem op_ownEq(q:EqK X.K C f) (G:Fn3 X.prog X.w X.K X.mg X.base k f F) (hr:Room k X.A):OpR X (compareOp .Eq) (rOwnEq X.K C F false):=by
  intro pins s σ H x y v u Q I rx ry ⟨wd,R,dx,dy,b,r1,r2,⟨fs,e⟩,hty,hnf,φ,hF,hQ⟩
  have hl:=looks_ty (M:=model X.prog X.w) I b r2 ry hty
  subst e
  obtain⟨p,d',fvs,e1,hh,rf⟩:=rep_ins r1
  subst e1
  obtain rfl:v=Value.ref p:=rx
  obtain⟨mA,J,_⟩:=ins_get I.hok (b.sub _ _ hh)
  obtain⟨od,J,_⟩:=J.look
  obtain⟨m,hF0⟩:=I.fr
  show wpAny (model X.prog X.w) X.A (richCompare .Eq (.ref p) u) (EP X pins σ Q) X.xe s
  refine PySem.W.cmp_K (op:=.Eq) hr.units0 hF0 I.ok.mod.kin J hl hnf q.eq q.fn ?_
  refine thn (call_q (us:=[.ref p,u]) (vs:=[.ref p,y]) (Q:=fun v H'=>∃ kk,v=.bl kk/\Q (.bl kk) H') G hr I.env0 I (.cons rfl (.cons ry .nil)) ⟨wd,R,[.ins C fs,dy],_,_,b,⟨_,_,rfl,r1,_,_,rfl,r2,rfl⟩,hF,fun v R' H' d f r z=>?_,fun _ _ _ _ _ _ _ z=>z.elim⟩) fun w s' ⟨z,H',I',rz,kk,ez,qq⟩=>?_
  . obtain⟨kk,ed,hφ⟩:=z
    subst ed
    exact⟨kk,r,hQ _ R' H' (.bl kk) f rfl hφ⟩
  . subst ez
    obtain rfl:w=Value.bool kk:=rz
    exact⟨.bl kk,H',I',rfl,qq⟩
end
open PySem PySem.Spec PyProof.Rows L2
section
variable {X:Cx}{W:WX}{pos:Pos}{a b:Expr}{Ta Tb:TD}
abbrev F2C:=Ct->D->D->(D->Prop)->Prop
def OpDC(K:PySem.W.Frag) (r:R2) (f:F2C):Prop:=∀ (c:Ct) (R H:Hp) (x y:V) (dx dy:D) (φ:D->Prop) (Q:VK),Bas c.wd R H->Rep K R dx x->Rep K R dy y->f c dx dy φ->(∀ v H',Pst K c R H φ v H'->Q v H')->r x y H Q
def TOpC(f:F2C) (Ta Tb:TD):TD:=fun c env φ=>Ta c env fun x=>Tb c env fun y=>f c x y φ
theorem opc_ask {r:R2}{f:F2C} (k:OpDC X.K r f) {S:Sta}{R H:Hp}{σ:L2.St}{env:Ev}{φ:D->Prop}{Q:VK} (lk:Lk X.K S W) (ok:Ok3 X.K S R H σ env) (h:TOpC f Ta Tb S.c env φ) (kQ:∀ v H',Pst X.K S.c R H φ v H'->Q v H') :
    tOp r (tD X.K W Ta) (tD X.K W Tb) σ H Q:=by
  refine tD.ask lk ok h fun R1 H1 d1 v1 f1 ok1 r1 q1=>tD.ask lk ok1 q1 fun R2 H2 d2 v2 f2 ok2 r2 q2=>?_
  exact k S.c R2 H2 v1 v2 d1 d2 φ _ ok2.bas (r1.mono f2.up) r2 q2 fun v H' p=>kQ v H' (Pst.from (f1.trans f2) p)
theorem de_cmpC {op:CmpOp}{r:R2}{f:F2C} (ho:OpR X (compareOp op) r) (k:OpDC X.K r f) (ha:DE X W a Ta) (hb:DE X W b Tb) (hm:behindInMarks op b=false):DE X W (.Compare a [op] [b] pos) (TOpC f Ta Tb) :=
  de_mk (pe_cmpR ho ha hb hm) fun S R H σ env φ lk ok h=>opc_ask k lk ok h fun _ _ p=>p
theorem OpDC.or {K:PySem.W.Frag}{r r':R2}{f f':F2C} (h:OpDC K r f) (h':OpDC K r' f'):OpDC K (fun x y H Q=>r x y H Q\/r' x y H Q) (fun c x y φ=>f c x y φ\/f' c x y φ):=fun c R H x y dx dy φ Q b r1 r2 q k=>by
  rcases q with q | q
  . exact .inl (h c R H x y dx dy φ Q b r1 r2 q k)
  . exact .inr (h' c R H x y dx dy φ Q b r1 r2 q k)
theorem OpD.c {K:PySem.W.Frag}{r:R2}{f:F2} (h:OpD K r f):OpDC K r (fun _=>f):=h
theorem opd_own {K:PySem.W.Frag}{C:Addr}{F:TF}{neg:Bool}:OpDC K (rOwnEq K C F neg) (eqOwnF K C F neg):=fun c R H x y dx dy φ Q b r1 r2 ⟨h1,h2,h3,h4⟩ k =>
  ⟨c.wd,R,dx,dy,b,r1,r2,h1,h2,h3,φ,h4,fun v R' H' d f r q=>k v H' ⟨R',d,f,r,q⟩⟩
end
def startD(N:List Str) (ds:List D):Ev:=ds.map .v++List.replicate (N.length - ds.length) .no
theorem start_ok {K:PySem.W.Frag}{R H:Hp}{N:List Str}:∀ {ds:List D}{vs:List V},Reps K R ds vs->Paired (SlOk K R H) (start N vs) (startD N ds):=by
  have key:∀ {ds:List D}{vs:List V} (n:Nat),Reps K R ds vs->Paired (SlOk K R H) (vs.map some++List.replicate n none) (ds.map Sl.v++List.replicate n Sl.no):=by
    intro ds
    induction ds with
    | nil =>
      intro vs n h
      have e:vs=[]:=h
      subst e
      show Paired (SlOk K R H) (List.replicate n none) (List.replicate n .no)
      induction n with
      | zero=>exact .nil
      | succ n ih=>exact .cons trivial ih
    | cons d ds ih =>
      intro vs n h
      obtain⟨v,r,e,h1,h2⟩:=(show ∃ v r,vs=v::r/\Rep K R d v/\Reps K R ds r from h)
      subst e
      exact .cons ⟨v,rfl,h1⟩ (ih n h2)
  intro ds vs h
  unfold L2.start startD
  rw[h.length]
  exact key _ h
theorem startD_ad {N:List Str}{ds:List D}{i:Nat}:adAt (startD N ds) i=none:=by
  unfold adAt startD
  cases e:(ds.map Sl.v++List.replicate (N.length - ds.length) Sl.no)[i]? with
  | none=>rfl
  | some s =>
    have hm:=List.mem_of_getElem? e
    rcases List.mem_append.mp hm with h | h
    . obtain⟨d,_,rfl⟩:=List.mem_map.mp h
      rfl
    . rw[(List.mem_replicate.mp h).2]
      rfl
section
variable {P:Program}{w:World}{K:PySem.W.Frag}{mg:Str->Option Value}{base:Heap}{x qual:Str}{params:Arguments}{body:List Stmt}{scope:Scope}{dvs:List V}{kws:List (Str × V)}{f:Addr}{fd:FuncData}
/-- the context of a def's body here -/
abbrev cx3 (P:Program) (w:World) (K:PySem.W.Frag) (mg:Str->Option Value) (base:Heap) (N:List Str) (qual:Str) (scope:Scope) (f:Addr) (cdv:Value) (A:Around) (outer:List Env) (s:Shared) (H:Hp) (E:XK):Cx:=cxOf (L2C.CX P w) P w K mg base N qual scope f cdv A outer s H E
/-- its wish about errors -/
abbrev W3 (E:XK):WX:=fun cls d _ H=>E cls d H
theorem tk3 {N:List Str}{cdv:Value}{A:Around}{outer:List Env}{s:Shared}{H:Hp}{E:XK}:L2C.Takes (cx3 P w K mg base N qual scope f cdv A outer s H E) (W3 E):=L2C.takes_of rfl rfl rfl rfl
theorem ps3 {N:List Str}{cdv:Value}{A:Around}{outer:List Env}{s:Shared}{H:Hp}{E:XK}:PassesOwn (model P w) (cx3 P w K mg base N qual scope f cdv A outer s H E).A (cx3 P w K mg base N qual scope f cdv A outer s H E).env (cx3 P w K mg base N qual scope f cdv A outer s H E).xe:=passes_of rfl
abbrev retD (φ:D->Prop):EndD:={nx:=fun _=>φ .non,rt:=fun d _=>φ d}
/-- the reading of a body,from a def's entry -/
theorem body_ok {S:Sta}{R H:Hp}{σ:L2.St}{env:Ev}{W:WX}{T:TSD}{φ:D->Prop}{Q:VK} (lk:Lk K S W) (ok:Ok3 K S R H σ env) (h:T S.c (retD φ) env) (kQ:∀ v R' H' d,Fin S.c.wd S.R0 S.H0 R' H'->Rep K R' d v->φ d->Q v H') :
    tS3 K W T {nx:=fun _ H'=>Q .non H',rt:=Q} σ H :=
  ⟨S,R,env,_,lk,ok,h,⟨fun R H σ env ok q=>kQ _ R H .non ok.fin rfl q,fun R H σ env d v ok r q=>kQ v R H d ok.fin r q,fun _ _ _ _ _ q=>q.elim,fun _ _ _ _ _ q=>q.elim⟩⟩
theorem start_ok3 {R H:Hp}{N:List Str}{ds:List D}{vs:List V}{c:Ct} (b:Bas c.wd R H) (r:Reps K R ds vs):Ok3 K ⟨c,R,H,R⟩ R H (start N vs) (startD N ds) :=
  ⟨Fin.refl b,fun _ _ h=>h,start_ok r,fun i p h=>(by rw[startD_ad] at h; cases h),fun i j p h _=>(by rw[startD_ad] at h; cases h)⟩
/-- a def with plain parameters: n of them -/
theorem fn3 {N ps : List Str} {k : Nat} {F : TF} {T : TSD} (FD : FunD K x qual params body scope [] [] f fd) (Sc : FnScope N ps scope) (hb : Binds K fd ps []) (hn : ∀ wd ds φ ε, F wd ds φ ε -> ds.length = ps.length)
    (hbody:∀ (cdv:Value) (A:Around) (outer:List Env) (s:Shared) (H:Hp) (E:XK),Room k (A.deeper (envOfC qual scope s.heap.objs.size f cdv))->DSs (cx3 P w K mg base N qual scope f cdv A outer s H E) (W3 E) body T)
    (hT:∀ wd ds φ ε,F wd ds φ ε->T ⟨wd,fun ex _=>ε ex⟩ (retD φ) (startD N ds)):Fn3 P w K mg base (k+1) f F:=by
  have G:FnOk P w K mg base (L2C.CX P w) (k+1) f fd ps (spW K F):=by
    refine FD.ok Sc (fun vs H Q E h=>?_) fun cdv A outer s H vs Q E hr h=>?_
    . obtain⟨wd,R,ds,φ,ε,b,r,hf,_⟩:=h
      rw[r.length]
      exact hn _ _ _ _ hf
    . obtain⟨wd,R,ds,φ,ε,b,r,hf,hQ,hE⟩:=h
      exact⟨_,hbody cdv A outer s H E hr,body_ok (S:=⟨⟨wd,fun ex _=>ε ex⟩,R,H,R⟩) (fun R' H' σ env cls od ex ok xr q=>hE cls od R' H' ex ok.fin xr q) (start_ok3 (c:=⟨wd,fun ex _=>ε ex⟩) b r) (hT wd ds φ ε hf) hQ⟩
  have z:=G.raw (ds:=[]) (dvs:=[]) hb .nil
  intro A outer s H us vs Q E hr e0 r hs
  exact z A outer s H us vs Q E hr e0 r (by show spW K F (vs++[]) H Q E; rw[List.append_nil]; exact hs)
abbrev retI (C a:Addr) (φ:List (Str × D)->Prop):EndD:={nx:=fun env=>∃ fs,env[0]?=some (.oi a C fs)/\φ fs,rt:=fun d env=>d=.non/\∃ fs,env[0]?=some (.oi a C fs)/\φ fs}
def startI(N:List Str) (C a:Addr) (ds:List D):Ev:=.oi a C []::startD (N.drop 1) ds
theorem startI_ok {C a dx:Addr}{N:List Str}{ds:List D}{ws:List V}{R H1:Hp}{c:Ct} (hN:N≠[]) (b:Bas c.wd R H1) (r:Reps K R ds ws) (ha:H1 a=none) (hd:H1 dx=none) (hne:dx≠a) :
    Ok3 K ⟨c,R,H1,R⟩ R (upd (upd H1 dx (.own a)) a (.ins C dx [])) (start N (.ref a::ws)) (startI N C a ds):=by
  have f1:=Fin.fresh (o:=.own a) b hd
  have ha2:upd H1 dx (.own a) a=none:=by rw[upd_ne hne.symm]; exact ha
  have f2:=f1.trans (Fin.fresh (o:=.ins C dx []) f1.bas ha2)
  have e1:start N (.ref a::ws)=some (.ref a)::start (N.drop 1) ws:=by
    unfold L2.start
    rw[List.map_cons,List.cons_append,List.length_drop,List.length_cons]
    have:N.length - (ws.length+1)=N.length - 1 - ws.length:=by omega
    rw[this]
  rw[e1]
  refine⟨f2,fun _ _ h=>h,.cons ⟨rfl,dx,[],upd_same,rfl⟩ (start_ok r),fun i p h=>?_,fun i j p h1 h2=>?_⟩
  . have hp:p=a:=by
      cases i with
      | zero=>exact(Option.some.inj h).symm
      | succ i =>
        have h':adAt (startD (N.drop 1) ds) i=some p:=h
        rw[startD_ad] at h'
        cases h'
    subst hp
    exact⟨not_R b ha,ha,not_foot b ha⟩
  . cases i with
    | zero =>
      cases j with
      | zero=>rfl
      | succ j =>
        have h':adAt (startD (N.drop 1) ds) j=some p:=h2
        rw[startD_ad] at h'
        cases h'
    | succ i =>
      have h':adAt (startD (N.drop 1) ds) i=some p:=h1
      rw[startD_ad] at h'
      cases h'
theorem bodyI_ok {C a : Addr} {S : Sta} {R H : Hp} {σ : L2.St} {env : Ev} {W : WX} {T : TSD} {φ : List (Str × D) -> Prop} {Q : VK} (lk : Lk K S W) (ok : Ok3 K S R H σ env) (h : T S.c (retI C a φ) env)
    (kQ:∀ R' H' fs fvs dx',Fin S.c.wd S.R0 S.H0 R' H'->R' a=none->H' a=some (.ins C dx' fvs)->RepF K R' fs fvs->φ fs->Q .non H'):tS3 K W T {nx:=fun _ H'=>Q .non H',rt:=Q} σ H:=by
  have go:∀ R' H' σ' env',Ok3 K S R' H' σ' env'->(∃ fs,env'[0]?=some (.oi a C fs)/\φ fs)->Q .non H':=fun R' H' σ' env' ok' ⟨fs,e,q⟩=>by
    obtain⟨_,dx,fvs,h1,h2⟩:=oi_at ok' e
    exact kQ R' H' fs fvs dx ok'.fin (ok'.own 0 a (ad_of e rfl)).1 h1 h2 q
  exact⟨S,R,env,_,lk,ok,h,⟨fun R H σ env ok q=>go R H σ env ok q,fun R H σ env d v ok r ⟨ed,q⟩=>(by
    subst ed
    obtain rfl:v=.non:=r
    exact go R H σ env ok q),fun _ _ _ _ _ q=>q.elim,fun _ _ _ _ _ q=>q.elim⟩⟩
/-- .. with plain parameters and *rest -/
theorem fnI3star {N ps : List Str} {pv : Str} {k : Nat} {C : Addr} {F : TFI} {T : TSD} (FD : FunD K x qual params body scope [] [] f fd) (Sc : FnScope N (ps ++ [pv]) scope) (hN : N ≠ [])
    (hb:∀ (kV doc pm:Value) (an:Option Addr) (cdv ct:Value) (us rest:List Value),us.length=ps.length->bindArgs (PySem.W.fnOf x qual params body scope .none kV doc pm an cdv ct) ⟨us++rest,[]⟩=(newTuple rest >>= fun t=>pure (ps.zip us++[(pv,t)])))
    (hn:∀ wd ds φ ε,F wd ds φ ε->ps.length<=ds.length+1/\ds.length<=sizeLine) (h1:1<=ps.length)
    (hbody:∀ (cdv:Value) (A:Around) (outer:List Env) (s:Shared) (H:Hp) (E:XK),Room k (A.deeper (envOfC qual scope s.heap.objs.size f cdv))->DSs (cx3 P w K mg base N qual scope f cdv A outer s H E) (W3 E) body T)
    (hT:∀ a wd ds φ ε,F wd ds φ ε->T ⟨wd,fun ex _=>ε ex⟩ (retI C a φ) (startI N C a (ds.take (ps.length - 1)++[.tup (ds.drop (ps.length - 1))]))):FnI P w K mg base (k+1) C f F:=by
  obtain⟨oc,od,dV,kV,doc,pm,an,cdv,ct,osl,rfl,lk,hcd,hD,_⟩:=FD.ex
  have eD:dV=.none:=by
    rcases hD with ⟨_,e⟩ | ⟨e,_⟩
    . exact e
    . exact absurd rfl e
  subst eD
  have G:=StX.fn_star (P:=P) (w:=w) (mg:=mg) (base:=base) (k:=k) (sp:=fun vs H Q E=>∃ (a dx p:Addr) (ws rest:List V) (wd:Wd) (R H1:Hp) (ds:List D) (φ:List (Str × D)->Prop) (ε:Er->Prop),vs=.ref a::(ws++[.ref p])/\H1 a=none/\H1 dx=none/\dx≠a /\
      (upd (upd H1 dx (.own a)) a (.ins C dx [])) p=none/\H=upd (upd (upd H1 dx (.own a)) a (.ins C dx [])) p (.tup rest)/\Bas wd R H1/\Reps K R (ds.take (ps.length - 1)) ws/\Reps K R (ds.drop (ps.length - 1)) rest/\F wd ds φ ε /\
      (∀ R' H' fs fvs dx',Fin wd R H1 R' H'->R' a=none->H' a=some (.ins C dx' fvs)->RepF K R' fs fvs->φ fs->Q .non H')/\∀ cls od R' H' ex,Fin wd R H1 R' H'->XRep K R' ex cls od->ε ex->E cls od H') lk hcd Sc cxUpN (hb kV doc pm an cdv ct) fun A outer s H vs Q E hr h=>by
      obtain⟨a,dx,p,ws,rest,wd,R,H1,ds,φ,ε,e,ha,hd,hne,hp,eH,b,r1,r2,hf,hQ,hE⟩:=h
      subst e eH
      have o0:=startI_ok (K:=K) (C:=C) (c:=⟨wd,fun ex _=>ε ex⟩) (ds:=ds.take (ps.length - 1)) (N:=N) hN b r1 ha hd hne
      have fa:=Fin.alloc (o:=.tup rest) o0.bas hp
      have o1:=o0.through fa
      refine⟨_,hbody cdv A outer s _ E hr,bodyI_ok (S:=⟨⟨wd,fun ex _=>ε ex⟩,R,H1,R⟩) (fun R' H' σ env cls od ex ok xr q=>hE cls od R' H' ex ok.fin xr q) (R:=upd R p (.tup rest)) ?_ (hT a wd ds φ ε hf) hQ⟩
      have f1:=Fin.fresh (o:=.own a) b hd
      have ha2:upd H1 dx (.own a) a=none:=by rw[upd_ne hne.symm]; exact ha
      have f2:=(f1.trans (Fin.fresh (o:=.ins C dx []) f1.bas ha2)).trans fa
      have hpa:p≠a:=fun e=>by
        rw[e,upd_same] at hp
        cases hp
      have rr:Reps K (upd R p (.tup rest)) (ds.take (ps.length - 1)++[.tup (ds.drop (ps.length - 1))]) (ws++[.ref p]):=(r1.mono fa.up).append (.one ⟨p,rest,rfl,upd_same,r2.mono fa.up⟩)
      have e1:L2.start N (.ref a::(ws++[.ref p]))=some (.ref a)::L2.start (N.drop 1) (ws++[.ref p]):=by
        unfold L2.start
        rw[List.map_cons,List.cons_append,List.length_drop,List.length_cons]
        have:N.length - ((ws++[V.ref p]).length+1)=N.length - 1 - (ws++[V.ref p]).length:=by omega
        rw[this]
      rw[e1]
      refine⟨f2,fa.up,.cons ⟨rfl,dx,[],by rw[upd_ne hpa.symm,upd_same],rfl⟩ (start_ok rr),fun i q h=>?_,fun i j q h1 h2=>?_⟩
      . have hq:q=a:=by
          cases i with
          | zero=>exact(Option.some.inj h).symm
          | succ i =>
            have h':adAt (startD (N.drop 1) (ds.take (ps.length - 1)++[.tup (ds.drop (ps.length - 1))])) i=some q:=h
            rw[startD_ad] at h'
            cases h'
        subst hq
        exact⟨by rw[upd_ne hpa.symm]; exact not_R b ha,ha,not_foot b ha⟩
      . cases i with
        | zero =>
          cases j with
          | zero=>rfl
          | succ j =>
            have h':adAt (startD (N.drop 1) (ds.take (ps.length - 1)++[.tup (ds.drop (ps.length - 1))])) j=some q:=h2
            rw[startD_ad] at h'
            cases h'
        | succ i =>
          have h':adAt (startD (N.drop 1) (ds.take (ps.length - 1)++[.tup (ds.drop (ps.length - 1))])) i=some q:=h1
          rw[startD_ad] at h'
          cases h'
  refine FnR.imp G fun vs H Q E ⟨a,dx,ws,wd,R,H1,ds,φ,ε,e,ha,hd,hne,eH,b,r,hf,hQ,hE⟩=>?_
  subst e eH
  obtain⟨l1,l2⟩:=hn _ _ _ _ hf
  have hl:=r.length
  refine⟨.ref a::ws.take (ps.length - 1),ws.drop (ps.length - 1),by rw[List.cons_append,List.take_append_drop],by rw[List.length_cons,List.length_take]; omega,by rw[List.length_drop]; omega,fun p hp=>?_⟩
  exact⟨a,dx,p,ws.take (ps.length - 1),ws.drop (ps.length - 1),wd,R,H1,ds,φ,ε,rfl,ha,hd,hne,hp,rfl,b,r.take _,r.drop _,hf,hQ,hE⟩
end
open PySem PySem.Spec PyProof.Rows L2
section
variable {K:PySem.W.Frag}{S:Sta}{R H R1 H1:Hp}{σ:L2.St}{env:Ev}
/-- a list made ahead,now for a name -/
theorem Ok3.lateOwn(o:Ok3 K S R H σ env) {i:Nat}{p:Addr}{ds:List L3.D}{xs:List V} (hp:H p=some (.lst xs)) (r:Reps K R ds xs) (hR:R p=none) (hS:S.H0 p=none) (hF:¬S.c.wd.foot p) (nope:∀ j,adAt env j≠some p) :
    Ok3 K S R H (σ.set i (some (.ref p))) (env.set i (.ol p ds)):=by
  refine⟨o.fin,o.rb,pair_set (F:=SlOk K R H) (show SlOk K R H (some (.ref p)) (.ol p ds) from⟨rfl,xs,hp,r⟩) i o.sl,fun j q h=>?_,fun j k q h1 h2=>?_⟩
  . rcases adAt_set h with ⟨_,z⟩ | ⟨_,z⟩
    . have:p=q:=Option.some.inj z
      subst this
      exact⟨hR,hS,hF⟩
    . exact o.own j q z
  . rcases adAt_set h1 with ⟨e1,z⟩ | ⟨e1,z⟩
    . have:p=q:=Option.some.inj z
      subst this
      rcases adAt_set h2 with ⟨e2,z'⟩ | ⟨_,z'⟩
      . rw[e1,e2]
      . exact absurd z' (nope k)
    . rcases adAt_set h2 with ⟨_,z'⟩ | ⟨_,z'⟩
      . have:p=q:=Option.some.inj z'
        subst this
        exact absurd z (nope j)
      . exact o.dis j k q z z'
theorem Ok3.fresh_not(o:Ok3 K S R H σ env) {p:Addr} (hp:H p=none):R p=none/\S.H0 p=none/\¬S.c.wd.foot p/\∀ j,adAt env j≠some p:=by
  refine⟨not_R o.bas hp,?_,not_foot o.bas hp,fun j z=>?_⟩
  . cases q:S.H0 p with
    | none=>rfl
    | some u =>
      obtain⟨z,hz⟩:=o.fin.there q
      rw[hp] at hz
      cases hz
  . have h:=o.newOwn (i:=env.length) (p:=p) (ds:=[]) (xs:=[]) hp rfl
    unfold adAt at z
    cases e:env[j]? with
    | none =>
      rw[e] at z
      cases z
    | some s =>
      rw[e] at z
      obtain⟨x,_,q⟩:=pair_get o.sl e
      have hs:s.ad=some p:=z
      cases s with
      | no=>cases hs
      | v d=>cases hs
      | ol p' ds =>
        have:p'=p:=Option.some.inj hs
        subst this
        obtain⟨_,xs,hh,_⟩:=q
        rw[hp] at hh
        cases hh
      | oi p' C fs =>
        have:p'=p:=Option.some.inj hs
        subst this
        obtain⟨_,dx,xs,hh,_⟩:=q
        rw[hp] at hh
        cases hh
end
section
variable {X:Cx}{W:WX}{pos:Pos}{a b:Expr}{Ta Tb:TD}{A B:TB}
/-- a built-in class's name -/
theorem de_bty {x:Str}{n:String} (hg:Gl X x) (hm:X.mg x=none) (hv:bootBuiltins x=some (.type n):=by rfl) (hn:x≠"__name__":=by decide) (hd:(x==("__debug__":Str))=false:=by decide):DE X W (.Name x pos) (TC (.ty n)) :=
  de_c (pe_bltn (v:=.ty n) hg hm hv rfl hn hd)
def TChainB(f g:F2) (Ta Tb Tc:TD):TB:=fun c env φ=>TChain f g Ta Tb Tc c env fun d=>∃ k,d=.bl k/\φ k
/-- a,b=e,[] -/
def TParO1(i j:Nat) (T:TD):TSD:=fun c D env=>T c env fun d=>∀ p,D.nx ((env.set i (.v d)).set j (.ol p []))
def TParO0(i j:Nat) (T:TD):TSD:=fun c D env=>T c env fun d=>∀ p,D.nx ((env.set i (.ol p [])).set j (.v d))
theorem ds_parOwn0 {i j : Nat} {x y : Str} {px py pt pl : Pos} {kt k2 pt2} (hc : X.calm = true) (hN : X.N.Nodup) (hi : X.N[i]? = some x) (hj : X.N[j]? = some y) (hij : i ≠ j)
    (hx:X.env.scope.names.lookup x=some .local) (hy:X.env.scope.names.lookup y=some .local) (ha:DE X W a Ta)
    (hw:swappedStores [.Tuple [.Name x px,.Name y py] kt pt] (.Tuple [.List [] pl,a] k2 pt2) X.env=pure (some [x,y]):=by rfl)
    (hs:swapsWithSole [.Tuple [.Name x px,.Name y py] kt pt] (.Tuple [.List [] pl,a] k2 pt2) pos.line X.env=pure false:=by rfl) (hst:starEach [a] X.env=(false,eval a X.env)::starEach [] X.env:=by rfl) :
    DS X W (.Assign [.Tuple [.Name x px,.Name y py] kt pt] (.Tuple [.List [] pl,a] k2 pt2) pos) (TParO0 i j Ta) :=
  ds_mk (ps_par hc hN hi hj hij hx hy (pa_cons (pe_lst pa_nil) (pa_cons ha pa_nil hst)) hw hs) fun S R H σ env D3 lk ok q=>by
    refine⟨by decide,fun p hp=>?_⟩
    obtain⟨n1,n2,n3,n4⟩:=ok.fresh_not hp
    have ok0:=ok.through (Fin.fresh (o:=.lst []) ok.bas hp)
    refine tD.ask lk ok0 q fun R1 H1 d v f1 ok1 r1 q1=>⟨.ref p,v,rfl,R1,_,?_,q1 p⟩
    have hk:H1 p=some (.lst []):=f1.keep p _ upd_same n3
    have hr:R1 p=none:=f1.new p _ n1 upd_same
    exact(ok1.lateOwn (i:=i) (ds:=[]) (xs:=[]) hk rfl hr n2 n3 n4).put r1
def enumD:Nat->List D->List D
  | _,[]=>[]
  | n,d::ds=>.tup [.int (n:Nat),d]::enumD (n+1) ds
def TPutJ(i:Nat) (Tk T:TD):TSD:=fun c D env=>∃ p ds,env[i]?=some (.ol p ds)/\T c env fun d=>Tk c env fun k=>∃ n j,k=.int n/\ixN ds.length n=some j/\D.nx (env.set i (.ol p (ds.set j d)))
def mxV(d:V):List Int->V
  | []=>d
  | n::r=>.int (r.foldl max n)
def mxD(d:D):List Int->D
  | []=>d
  | n::r=>.int (r.foldl max n)
theorem ints_max {X : Cx} {pins : List (Addr × Obj)} {σ : L2.St} {H : Hp} {s : Shared} {Q : VK} {p : Addr} {ns : List Int} {d : V} {u : Value} (hc : X.calm = true) (hu : X.A.units + 64 < cLine) (I : Inv X pins σ H s) (h : SqL X.K H p (ns.map V.int)) (rd : RelV d u)
    (q:Q (mxV d ns) H):wpAny (model X.prog X.w) X.A (call (.builtin "max") [.ref p] [(Str.ofString "default",u)]) (EP X pins σ Q) X.xe s:=by
  obtain⟨its,rv,hl,_⟩:=I.list h
  have dp:∀ ns:List Int,DpAll X.K H (ns.map V.int) (ns.map PyData.int):=by
    intro ns
    induction ns with
    | nil=>exact .nil
    | cons n r ih=>exact .cons (.int n) ih
  obtain⟨as,ra⟩:=Dp.readsAll I _ _ _ (dp ns) rv
  have hd0:∀ ns:List Int,PyData.depthAll (ns.map PyData.int)<=1:=by
    intro ns
    induction ns with
    | nil=>exact Nat.zero_le _
    | cons n r ih=>exact Nat.max_le.mpr ⟨Nat.zero_le _,ih⟩
  have hal:PySem.W.AlikeAll (ns.map PyData.int):=by
    refine⟨fun x hx y hy=>?_,fun x hx e=>?_⟩
    . obtain⟨i,_,rfl⟩:=List.mem_map.mp hx
      obtain⟨j,_,rfl⟩:=List.mem_map.mp hy
      rfl
    . obtain⟨i,_,rfl⟩:=List.mem_map.mp hx
      cases e
  refine PySem.W.max_list_default (I.ok.hd hc) hl.isList (by simpa using ra) hal (by have:=hd0 ns; omega) (fun e h' tk k=>?_) fun y ys i v h' tk bs e hv hr k=>?_
  . cases ns with
    | nil=>exact⟨_,H,I.kept k,rd,q⟩
    | cons n r=>cases e
  . cases ns with
    | nil=>cases e
    | cons n r =>
      injection e with e1 e2
      subst e1 e2
      rw[PySem.W.maxD_ints] at hr
      cases hr
      exact⟨.int (r.foldl max n),H,I.kept k,⟨_,rfl⟩,q⟩
theorem boot_max':bootBuiltins "max"=some (.builtin "max"):=by rfl
def TMaxd(Ta Tb:TD):TD:=fun c env φ=>Ta c env fun x=>Tb c env fun y=>∃ ns:List Int,x=.lst (ns.map D.int)/\φ (mxD y ns)
theorem de_maxd {e e2 : Expr} {p kp : Pos} {Ta Tb : TD} (hc : X.calm = true) (hu : X.A.units + 64 < cLine) (hg : Gl X "max") (hm : X.mg "max" = none) (ha : DE X W e Ta) (hb : DE X W e2 Tb)
    (he:starEach [e] X.env=(false,eval e X.env)::starEach [] X.env:=by rfl) (he2:backTo pos (starEach [e] X.env)=(false,eval e X.env)::backTo pos (starEach [] X.env):=by rfl) (hpl:(backTo pos (starEach [e] X.env)).any (·.1)=false:=by rfl):DE X W (.Call (.Name "max" p) [e] [⟨some "default",e2,kp⟩] pos) (TMaxd Ta Tb) :=
  de_mk (t:=fun σ H Q=>tCons (tD X.K W Ta) tNil σ H fun vs H1=>tCons (tD X.K W Tb) tNil σ H1 fun zs H2=>∃ (q:Addr) (ns:List Int) (y:V),vs=[.ref q]/\zs=[y]/\SqL X.K H2 q (ns.map V.int)/\Q (mxV y ns) H2)
    ⟨fun pins s σ H Q I h=>wpAny_Call_Name_kw (ld_blt I hg hm boot_max' (callWith_kw (thn ((pa_cons ha pa_nil he).run pos pins s σ H _ I h) fun us s1 ⟨vs,H1,I1,r,q1⟩=>by
      refine thn ((pk_cons (nm:=some "default") (kpos:=kp) hb pk_nil).run pos pins s1 σ H1 _ I1 q1) fun ws s2 ⟨zs,H2,I2,rz,q,ns,y,e1,e2,hq,q2⟩=>?_
      subst e1 e2
      obtain⟨u,rfl,r1⟩:=vals1 r
      obtain⟨w,rfl,r2⟩:=vals1 rz
      cases r1
      exact ints_max hc hu I2 hq r2 q2) he2 hpl))⟩ fun S R H σ env φ lk ok h=>tD.ask lk ok h fun R1 H1 d v f1 ok1 r1 q1=>tD.ask lk ok1 q1 fun R2 H2 d2 v2 f2 ok2 r2 ⟨ns,e,q2⟩=>by
    subst e
    obtain⟨q,xs,e,hh,hr⟩:=rep_lst (r1.mono f2.up)
    subst e
    rw[hr.ints] at hh
    refine⟨q,ns,v2,rfl,rfl,SqL.of (ok2.bas.sub _ _ hh),R2,_,f1.trans f2,?_,q2⟩
    cases ns with
    | nil=>exact r2
    | cons n r=>rfl
def permL {α:Type} (ix:List Nat) (xs:List α):List α:=ix.filterMap (xs[·]?)
theorem vals_perm {vs:List V}{us:List Value} (r:Vals vs us):∀ ix:List Nat,Vals (permL ix vs) (permL ix us)
  | []=>.nil
  | i::ix=>by
    have ih:=vals_perm r ix
    unfold permL at ih ⊢
    rw[List.filterMap_cons,List.filterMap_cons]
    cases e:vs[i]? with
    | none =>
      have hl:=r.length
      have:us[i]?=none:=by
        rw[List.getElem?_eq_none_iff] at e ⊢
        omega
      rw[this]
      exact ih
    | some x =>
      obtain⟨u,hu,ru⟩:=r.get e
      rw[hu]
      exact .cons ru ih
theorem Reps.perm {K:PySem.W.Frag}{R:Hp}{ds:List D}{vs:List V} (r:Reps K R ds vs):∀ ix:List Nat,Reps K R (permL ix ds) (permL ix vs)
  | []=>rfl
  | i::ix=>by
    have ih:=Reps.perm r ix
    unfold permL at ih ⊢
    rw[List.filterMap_cons,List.filterMap_cons]
    cases e:ds[i]? with
    | none =>
      have hl:=r.length
      have:vs[i]?=none:=by
        rw[List.getElem?_eq_none_iff] at e ⊢
        omega
      rw[this]
      exact ih
    | some x =>
      obtain⟨u,hu,ru⟩:=r.get e
      rw[hu]
      exact .cons ru ih
abbrev DK (X:Cx) (W:WX) (kws:List Keyword) (T:TL):Prop:=PK X kws (tL3 X.K W T)
theorem dk_nil:DK X W [] TNil:=⟨fun pos pins s σ H Q I ⟨S,R,env,φ,lk,ok,hT,hQ⟩=>thn (pk_nil.run pos pins s σ H _ I (show tNil σ H _ from hQ [] H ⟨R,[],Fin.refl ok.bas,rfl,hT⟩)) fun us s' p=>p⟩
theorem dk_cons {e:Expr}{T:TD}{U:TL}{kws:List Keyword}{nm:Option Str}{kpos:Pos} (ha:DE X W e T) (hr:DK X W kws U):DK X W (⟨nm,e,kpos⟩::kws) (TCons T U) :=
  ⟨fun pos pins s σ H Q I ⟨S,R,env,φ,lk,ok,hT,hQ⟩=>thn ((pk_cons (nm:=nm) (kpos:=kpos) ha hr).run pos pins s σ H (PstL X.K S.c R H φ) I (tD.ask lk ok hT fun R1 H1 d v f1 ok1 r1 q1=>tL3.ask lk ok1 q1 fun R2 H2 ds vs f2 ok2 r2 q2 =>
    ⟨R2,d::ds,f1.trans f2,.cons (r1.mono f2.up) r2,q2⟩)) fun us s' ⟨vs,H',I',r,p⟩=>⟨vs,H',I',r,hQ vs H' p⟩⟩
/-- a def that keeps it,called in any way -/
abbrev Fn3O (P:Program) (w:World) (K:PySem.W.Frag) (mg:Str->Option Value) (base:Heap) (k:Nat) (f:Addr) (fd:FuncData) (ps:List Str) (F:TF):Prop:=FnOk P w K mg base (L2C.CX P w) k f fd ps (spW K F)
section
variable {F:TF}{U Uk:TL}{k n:Nat}{f C:Addr}{fd:FuncData}{ps ks:List Str}{ix:List Nat}{x m:Str}{p0 apos:Pos}{e:Expr}{es:List Expr}{kws:List Keyword}
theorem call_kw {sp : Sp} {pins : List (Addr × Obj)} {σ : L2.St} {H : Hp} {s : Shared} {Q : VK} {args : Args} {us : List Value} {vs : List V} (G : FnOk X.prog X.w X.K X.mg X.base (L2C.CX X.prog X.w) k f fd ps sp) (hr : Room k X.A) (tk : L2C.Takes X W)
    (I:L2.Inv X pins σ H s) (hb:BindsTo s fd args (ps.zip us)) (r:Vals vs us) (h:sp vs H Q (WE W σ)):wpAny (model X.prog X.w) X.A (call (.ref f) args.pos args.kw) (EP X pins σ Q) X.xe s :=
  wpAny_call (codeAny_mono (G.run X.A X.stack s H args us vs Q _ hr I.env0 hb r h) fun res s' hres=>match res,hres with
    | .error er,hres=>L2C.passAt tk σ pins H s er s' I hres
    | .ok (.ret u),hres=>I.after hres)
/-- f(..,k=v,..) -/
def TCallK(F:TF) (n m:Nat) (ix:List Nat) (U Uk:TL):TD:=fun c env φ=>U c env fun ds=>Uk c env fun zs=>ds.length=n/\zs.length=m/\F c.wd (permL ix (ds++zs)) φ fun ex=>c.er ex env
end
theorem de_fldK {K:PySem.W.Frag}{f:Str}{T:TD} (ha:DE X W a T) (hK:X.K=K:=by rfl) (hb:attributeBase a f X.env (eval a X.env)=eval a X.env:=by rfl):DE X W (.Attribute a f pos) (TFld K T f):=by
  subst hK
  exact de_fld ha hb
theorem de_fldOK {K : PySem.W.Frag} (i : Nat) {x : Str} {p0 : Pos} {f : Str} (hK : X.K = K := by rfl) (hN : X.N[i]? = some x := by rfl) (hv : Vis X.env.scope x := by first | exact Or.inl rfl | exact Or.inr (Or.inl rfl) | exact Or.inr (Or.inr rfl)) (hd : (x == ("__debug__" : Str)) = false := by decide)
    (hcd:(x==("__classdict__":Str))=false:=by decide) (hb:attributeBase (.Name x p0) f X.env (eval (.Name x p0) X.env)=eval (.Name x p0) X.env:=by rfl):DE X W (.Attribute (.Name x p0) f pos) (TFldO K i f):=by
  subst hK
  exact de_fldO i hN hv hd hcd hb
theorem ds_putFK {K : PySem.W.Frag} (i : Nat) {x f : Str} {p0 pos' : Pos} {e : Expr} {T : TD} (he : DE X W e T) (hK : X.K = K := by rfl) (hN : X.N[i]? = some x := by rfl) (hv : Vis X.env.scope x := by first | exact Or.inl rfl | exact Or.inr (Or.inl rfl) | exact Or.inr (Or.inr rfl))
    (hd:(x==("__debug__":Str))=false:=by decide) (hcd:(x==("__classdict__":Str))=false:=by decide) (hs:swapsWith e (some (.Attribute (.Name x p0) f pos')) pos.line X.env=pure false:=by rfl) :
    DS X W (.Assign [.Attribute (.Name x p0) f pos'] e pos) (TPutF K i f T):=by
  subst hK
  exact ds_putF i he hN hv hd hcd hs
end
section
variable {X:Cx}
def neNilF:F2
  | .lst ds,.lst [],φ=>φ (.bl (!ds.isEmpty))
  | _,_,_=>False
end
open PySem PySem.Spec PyProof.Rows L2
section
variable {X:Cx}{W:WX}{pos:Pos}{a b e elt tg iter:Expr}{T Ta Tb:TD}{A:TB}
theorem takesN:L2C.Takes X (fun _ _ _ _=>False):=fun _ _ ⟨_,_,_,_,_,_,_,_,_,_,_,_,_,_,_,_,_,_,h⟩=>h.elim
def TIenT(U:TL):TL:=fun c env φ=>U c env fun ds=>∃ es,ds=[.tup es]/\φ (enumD 0 es)
mutual
def noL:D->Bool
  | .non=>true
  | .bl _=>true
  | .int _=>true
  | .str _=>true
  | .ty _=>true
  | .ref _=>true
  | .tup ds=>noLs ds
  | .ins _ fs=>noLf fs
  | _=>false
def noLs:List D->Bool
  | []=>true
  | d::r=>noL d&&noLs r
def noLf:List (Str × D)->Bool
  | []=>true
  | (_,d)::r=>noL d&&noLf r
end
def TBorN(i:Nat) (T:TD):TD:=fun c env φ=>∃ p ds,env[i]?=some (.ol p ds)/\T c (env.set i (.v (.lst ds))) fun d=>noL d=true/\φ d
def TOwnLc(i:Nat) (U:TL) (g:TGD) (A:TB) (T:TD) (vs:List Nat):TSD:=fun c D env=>U c env fun ds=>CompD g A T c.in (wipeD env vs) ds [] fun out=>∀ p,D.nx (env.set i (.ol p out))
end
open PySem PySem.Spec PyProof.Rows L2
/-- a comprehension that keeps every item -/
theorem compD_map {α:Type}{g:TGD}{A:TB}{T:TD}{c:Ct}{env:Ev}{enc f:α->D}{φ:List D->Prop}:∀ (xs:List α) (acc:List D),
    (∀ x∈xs,∀ (acc:List D) (ψ:List D->Prop),acc.length<sizeLine->ψ (acc++[f x])->g (enc x) env fun env'=>A c env' fun k=>if k=true then T c env' fun y=>acc.length<sizeLine/\ψ (acc++[y]) else ψ acc) ->
    acc.length+xs.length<=sizeLine->φ (acc++xs.map f)->CompD g A T c env (xs.map enc) acc φ
  | [],acc,_,_,q=>show φ acc by simpa using q
  | x::xs,acc,h,hl,q=>by
    refine h x List.mem_cons_self acc (fun out=>CompD g A T c env (xs.map enc) out φ) (by rw[List.length_cons] at hl; omega) ?_
    refine compD_map xs (acc++[f x]) (fun y hy=>h y (List.mem_cons_of_mem _ hy)) (by rw[List.length_append,List.length_singleton]; rw[List.length_cons] at hl; omega) ?_
    simpa using q
/-- one that keeps some -/
theorem compD_fil {α:Type}{g:TGD}{A:TB}{T:TD}{c:Ct}{env:Ev}{enc:α->D}{f:α->Option D}{φ:List D->Prop}:∀ (xs:List α) (acc:List D),
    (∀ x∈xs,∀ (acc:List D) (ψ:List D->Prop),acc.length<sizeLine->ψ (acc++(f x).toList)->g (enc x) env fun env'=>A c env' fun k=>if k=true then T c env' fun y=>acc.length<sizeLine/\ψ (acc++[y]) else ψ acc) ->
    acc.length+xs.length<=sizeLine->φ (acc++xs.filterMap f)->CompD g A T c env (xs.map enc) acc φ
  | [],acc,_,_,q=>show φ acc by simpa using q
  | x::xs,acc,h,hl,q=>by
    refine h x List.mem_cons_self acc (fun out=>CompD g A T c env (xs.map enc) out φ) (by rw[List.length_cons] at hl; omega) ?_
    refine compD_fil xs (acc++(f x).toList) (fun y hy=>h y (List.mem_cons_of_mem _ hy)) ?_ ?_
    . rw[List.length_append]
      rw[List.length_cons] at hl
      cases f x<;>simp<;>omega
    . rw[List.filterMap_cons] at q
      cases e:f x with
      | none =>
        rw[e] at q
        simpa using q
      | some y =>
        rw[e] at q
        simpa using q
theorem compD1_map {α:Type}{g:TGD}{A:TB}{T:TD}{c:Ct}{env:Ev}{enc f:α->D}{φ:List D->Prop}:∀ (xs:List α) (acc:List D),
    (∀ x∈xs,∀ (acc:List D) (ψ:List D->Prop),acc.length<sizeLine->ψ (acc++[f x])->g (enc x) env fun env'=>A c env' fun k=>if k=true then T c env' fun y=>acc.length<sizeLine/\ψ (acc++[y]) else ψ acc) ->
    acc.length+xs.length<=sizeLine->φ (acc++xs.map f)->CompD1 g A T c env (xs.map enc) acc φ
  | [],acc,_,_,q=>show φ acc by simpa using q
  | x::xs,acc,h,hl,q=>by
    refine h x List.mem_cons_self acc (fun out=>CompD1 g A T c env (xs.map enc) out φ) (by rw[List.length_cons] at hl; omega) ?_
    refine compD1_map xs (acc++[f x]) (fun y hy=>h y (List.mem_cons_of_mem _ hy)) (by rw[List.length_append,List.length_singleton]; rw[List.length_cons] at hl; omega) ?_
    simpa using q
theorem compD2_map {α:Type}{g:TGD}{A:TB}{U1:TL}{g1:TGD}{A1:TB}{T:TD}{vs1:List Nat}{c:Ct}{env:Ev}{enc:α->D}{f:α->List D}{φ:List D->Prop}:∀ (xs:List α) (acc:List D),
    (∀ x∈xs,∀ (acc:List D) (ψ:List D->Prop),acc.length+(f x).length<=sizeLine->ψ (acc++f x)->g (enc x) env fun env'=>A c env' fun k=>if k=true then U1 c env' fun es=>CompD1 g1 A1 T c (wipeD env' vs1) es acc ψ else ψ acc) ->
    acc.length+(xs.flatMap f).length<=sizeLine->φ (acc++xs.flatMap f)->CompD2 g A U1 g1 A1 T vs1 c env (xs.map enc) acc φ
  | [],acc,_,_,q=>show φ acc by simpa using q
  | x::xs,acc,h,hl,q=>by
    rw[List.flatMap_cons,List.length_append] at hl
    refine h x List.mem_cons_self acc (fun out=>CompD2 g A U1 g1 A1 T vs1 c env (xs.map enc) out φ) (by omega) ?_
    refine compD2_map xs (acc++f x) (fun y hy=>h y (List.mem_cons_of_mem _ hy)) (by rw[List.length_append]; omega) ?_
    simpa using q
/-- a for over items -/
theorem forD_of {α:Type}{g:TGD}{B:TSD}{c:Ct}{D:EndD}{enc:α->L3.D} (I:List α->Ev->Prop):∀ (xs:List α) (env:Ev),I xs env ->
    (∀ x rest env (D2:EndD),D2.rt=D.rt->(∀ env',I rest env'->D2.nx env')->(∀ env',I rest env'->D2.ct env')->D2.bk=D.nx->I (x::rest) env->g (enc x) env fun env'=>B c D2 env') ->
    (∀ env,I [] env->D.nx env)->ForD g B c D (xs.map enc) env
  | [],env,h,_,k=>k env h
  | x::xs,env,h,s,k=>by
    show g (enc x) env fun env'=>B c {D with nx:=ForD g B c D (xs.map enc),ct:=ForD g B c D (xs.map enc),bk:=D.nx} env'
    exact s x xs env _ rfl (fun env' h'=>forD_of I xs env' h' s k) (fun env' h'=>forD_of I xs env' h' s k) rfl h
@[simp] theorem ko_NoneType_bool {K:PySem.W.Frag}:PySem.W.kitOne K (Value.type "NoneType") (Value.type "bool")=some false:=rfl
@[simp] theorem ko_NoneType_int {K:PySem.W.Frag}:PySem.W.kitOne K (Value.type "NoneType") (Value.type "int")=some false:=rfl
@[simp] theorem ko_NoneType_str {K:PySem.W.Frag}:PySem.W.kitOne K (Value.type "NoneType") (Value.type "str")=some false:=rfl
@[simp] theorem ko_NoneType_tuple {K:PySem.W.Frag}:PySem.W.kitOne K (Value.type "NoneType") (Value.type "tuple")=some false:=rfl
@[simp] theorem ko_NoneType_list {K:PySem.W.Frag}:PySem.W.kitOne K (Value.type "NoneType") (Value.type "list")=some false:=rfl
@[simp] theorem ko_NoneType_dict {K:PySem.W.Frag}:PySem.W.kitOne K (Value.type "NoneType") (Value.type "dict")=some false:=rfl
@[simp] theorem ko_bool_bool {K:PySem.W.Frag}:PySem.W.kitOne K (Value.type "bool") (Value.type "bool")=some true:=rfl
@[simp] theorem ko_bool_int {K:PySem.W.Frag}:PySem.W.kitOne K (Value.type "bool") (Value.type "int")=some true:=rfl
@[simp] theorem ko_bool_str {K:PySem.W.Frag}:PySem.W.kitOne K (Value.type "bool") (Value.type "str")=some false:=rfl
@[simp] theorem ko_bool_tuple {K:PySem.W.Frag}:PySem.W.kitOne K (Value.type "bool") (Value.type "tuple")=some false:=rfl
@[simp] theorem ko_bool_list {K:PySem.W.Frag}:PySem.W.kitOne K (Value.type "bool") (Value.type "list")=some false:=rfl
@[simp] theorem ko_bool_dict {K:PySem.W.Frag}:PySem.W.kitOne K (Value.type "bool") (Value.type "dict")=some false:=rfl
@[simp] theorem ko_int_bool {K:PySem.W.Frag}:PySem.W.kitOne K (Value.type "int") (Value.type "bool")=some false:=rfl
@[simp] theorem ko_int_int {K:PySem.W.Frag}:PySem.W.kitOne K (Value.type "int") (Value.type "int")=some true:=rfl
@[simp] theorem ko_int_str {K:PySem.W.Frag}:PySem.W.kitOne K (Value.type "int") (Value.type "str")=some false:=rfl
@[simp] theorem ko_int_tuple {K:PySem.W.Frag}:PySem.W.kitOne K (Value.type "int") (Value.type "tuple")=some false:=rfl
@[simp] theorem ko_int_list {K:PySem.W.Frag}:PySem.W.kitOne K (Value.type "int") (Value.type "list")=some false:=rfl
@[simp] theorem ko_int_dict {K:PySem.W.Frag}:PySem.W.kitOne K (Value.type "int") (Value.type "dict")=some false:=rfl
@[simp] theorem ko_str_bool {K:PySem.W.Frag}:PySem.W.kitOne K (Value.type "str") (Value.type "bool")=some false:=rfl
@[simp] theorem ko_str_int {K:PySem.W.Frag}:PySem.W.kitOne K (Value.type "str") (Value.type "int")=some false:=rfl
@[simp] theorem ko_str_str {K:PySem.W.Frag}:PySem.W.kitOne K (Value.type "str") (Value.type "str")=some true:=rfl
@[simp] theorem ko_str_tuple {K:PySem.W.Frag}:PySem.W.kitOne K (Value.type "str") (Value.type "tuple")=some false:=rfl
@[simp] theorem ko_str_list {K:PySem.W.Frag}:PySem.W.kitOne K (Value.type "str") (Value.type "list")=some false:=rfl
@[simp] theorem ko_str_dict {K:PySem.W.Frag}:PySem.W.kitOne K (Value.type "str") (Value.type "dict")=some false:=rfl
@[simp] theorem ko_tuple_bool {K:PySem.W.Frag}:PySem.W.kitOne K (Value.type "tuple") (Value.type "bool")=some false:=rfl
@[simp] theorem ko_tuple_int {K:PySem.W.Frag}:PySem.W.kitOne K (Value.type "tuple") (Value.type "int")=some false:=rfl
@[simp] theorem ko_tuple_str {K:PySem.W.Frag}:PySem.W.kitOne K (Value.type "tuple") (Value.type "str")=some false:=rfl
@[simp] theorem ko_tuple_tuple {K:PySem.W.Frag}:PySem.W.kitOne K (Value.type "tuple") (Value.type "tuple")=some true:=rfl
@[simp] theorem ko_tuple_list {K:PySem.W.Frag}:PySem.W.kitOne K (Value.type "tuple") (Value.type "list")=some false:=rfl
@[simp] theorem ko_tuple_dict {K:PySem.W.Frag}:PySem.W.kitOne K (Value.type "tuple") (Value.type "dict")=some false:=rfl
@[simp] theorem ko_list_bool {K:PySem.W.Frag}:PySem.W.kitOne K (Value.type "list") (Value.type "bool")=some false:=rfl
@[simp] theorem ko_list_int {K:PySem.W.Frag}:PySem.W.kitOne K (Value.type "list") (Value.type "int")=some false:=rfl
@[simp] theorem ko_list_str {K:PySem.W.Frag}:PySem.W.kitOne K (Value.type "list") (Value.type "str")=some false:=rfl
@[simp] theorem ko_list_tuple {K:PySem.W.Frag}:PySem.W.kitOne K (Value.type "list") (Value.type "tuple")=some false:=rfl
@[simp] theorem ko_list_list {K:PySem.W.Frag}:PySem.W.kitOne K (Value.type "list") (Value.type "list")=some true:=rfl
@[simp] theorem ko_list_dict {K:PySem.W.Frag}:PySem.W.kitOne K (Value.type "list") (Value.type "dict")=some false:=rfl
@[simp] theorem eqF_int {i j:Int}{φ:D->Prop}:eqF (.int i) (.int j) φ↔φ (.bl (decide (i=j))):=by
  have e:eqF (.int i) (.int j) φ↔(true=true/\true=true/\true=true/\true=true/\φ (.bl ((i==j)))):=Iff.rfl
  have e2:(i==j)=decide (i=j):=by
    by_cases h:i=j
    . rw[decide_eq_true h]; exact beq_iff_eq.mpr h
    . rw[decide_eq_false h]; exact beq_eq_false_iff_ne.mpr h
  rw[e,e2]
  simp
@[simp] theorem eqF_str {i j:Str}{φ:D->Prop}:eqF (.str i) (.str j) φ↔(SeqAt.shaped (.str i)=true/\SeqAt.shaped (.str j)=true/\φ (.bl (decide (i=j)))):=by
  have e:eqF (.str i) (.str j) φ↔(true=true/\true=true/\SeqAt.shaped (.str i)=true/\SeqAt.shaped (.str j)=true/\φ (.bl ((i==j)))):=Iff.rfl
  have e2:(i==j)=decide (i=j):=by
    by_cases h:i=j
    . rw[decide_eq_true h]; exact beq_iff_eq.mpr h
    . rw[decide_eq_false h]; exact beq_eq_false_iff_ne.mpr h
  rw[e,e2]
  simp
@[simp] theorem eqF_bl {i j:Bool}{φ:D->Prop}:eqF (.bl i) (.bl j) φ↔φ (.bl (decide (i=j))):=by
  have e:eqF (.bl i) (.bl j) φ↔(true=true/\true=true/\true=true/\true=true/\φ (.bl ((i==j)))):=Iff.rfl
  have e2:(i==j)=decide (i=j):=by
    by_cases h:i=j
    . rw[decide_eq_true h]; exact beq_iff_eq.mpr h
    . rw[decide_eq_false h]; exact beq_eq_false_iff_ne.mpr h
  rw[e,e2]
  simp
@[simp] theorem neF_int {i j:Int}{φ:D->Prop}:neF (.int i) (.int j) φ↔φ (.bl (!decide (i=j))):=by
  have e:neF (.int i) (.int j) φ↔(true=true/\true=true/\true=true/\true=true/\φ (.bl (!(i==j)))):=Iff.rfl
  have e2:(i==j)=decide (i=j):=by
    by_cases h:i=j
    . rw[decide_eq_true h]; exact beq_iff_eq.mpr h
    . rw[decide_eq_false h]; exact beq_eq_false_iff_ne.mpr h
  rw[e,e2]
  simp
@[simp] theorem neF_str {i j:Str}{φ:D->Prop}:neF (.str i) (.str j) φ↔(SeqAt.shaped (.str i)=true/\SeqAt.shaped (.str j)=true/\φ (.bl (!decide (i=j)))):=by
  have e:neF (.str i) (.str j) φ↔(true=true/\true=true/\SeqAt.shaped (.str i)=true/\SeqAt.shaped (.str j)=true/\φ (.bl (!(i==j)))):=Iff.rfl
  have e2:(i==j)=decide (i=j):=by
    by_cases h:i=j
    . rw[decide_eq_true h]; exact beq_iff_eq.mpr h
    . rw[decide_eq_false h]; exact beq_eq_false_iff_ne.mpr h
  rw[e,e2]
  simp
@[simp] theorem neF_bl {i j:Bool}{φ:D->Prop}:neF (.bl i) (.bl j) φ↔φ (.bl (!decide (i=j))):=by
  have e:neF (.bl i) (.bl j) φ↔(true=true/\true=true/\true=true/\true=true/\φ (.bl (!(i==j)))):=Iff.rfl
  have e2:(i==j)=decide (i=j):=by
    by_cases h:i=j
    . rw[decide_eq_true h]; exact beq_iff_eq.mpr h
    . rw[decide_eq_false h]; exact beq_eq_false_iff_ne.mpr h
  rw[e,e2]
  simp
abbrev lc (z:Str):List Nat:=z.cps.toList
def mks(l:List Nat):Str:=⟨l.toArray⟩
theorem lc_mks(l:List Nat):lc (mks l)=l:=by unfold mks lc; simp
theorem mks_lc(z:Str):mks (lc z)=z:=by unfold mks lc; simp
theorem lc_app(a b:Str):lc (a++b)=lc a++lc b:=by
  show(a.cps++b.cps).toList=_
  rw[Array.toList_append]
theorem mks_app(a b:List Nat):mks a++mks b=mks (a++b):=by
  rw[<- mks_lc (mks a++mks b),lc_app,lc_mks,lc_mks]
theorem len_mks(l:List Nat):(mks l).length=l.length:=by
  show l.toArray.size=_
  simp
theorem mks_inj {a b:List Nat} (h:mks a=mks b):a=b:=by rw[<- lc_mks a,h,lc_mks]
theorem atI_nat {α:Type}{xs:List α}{n:Nat} (h:n<xs.length):atI xs (n:Int)=xs[n]?:=by
  unfold atI ixN
  rw[if_pos (by omega),if_pos (by omega)]
  rfl
@[simp] theorem atI_0 {α:Type}{x:α}{xs:List α}:atI (x::xs) 0=some x:=by
  have:=atI_nat (xs:=x::xs) (n:=0) (by simp)
  simpa using this
@[simp] theorem atI_1 {α:Type}{x y:α}{xs:List α}:atI (x::y::xs) 1=some y:=by
  have:=atI_nat (xs:=x::y::xs) (n:=1) (by simp)
  simpa using this
@[simp] theorem atI_2 {α:Type}{x y z:α}{xs:List α}:atI (x::y::z::xs) 2=some z:=by
  have:=atI_nat (xs:=x::y::z::xs) (n:=2) (by simp)
  simpa using this
@[simp] theorem atI_3 {α:Type}{x y z u:α}{xs:List α}:atI (x::y::z::u::xs) 3=some u:=by
  have:=atI_nat (xs:=x::y::z::u::xs) (n:=3) (by simp)
  simpa using this
theorem go_else {A:TB}{c:Ct}{env:Ev}{X Y:Prop} (hA:∀ ψ:Bool->Prop,ψ false->A c env ψ) (hY:Y):A c env fun k=>if k=true then X else Y:=hA _ (by simpa using hY)
theorem go_then {A:TB}{c:Ct}{env:Ev}{X Y:Prop} (hA:∀ ψ:Bool->Prop,ψ true->A c env ψ) (hX:X):A c env fun k=>if k=true then X else Y:=hA _ (by simpa using hX)
@[simp] theorem sz_1:(1<=sizeLine):=by rw[sizeLine_eq]; decide
@[simp] theorem sz_2:(2<=sizeLine):=by rw[sizeLine_eq]; decide
@[simp] theorem sz_3:(3<=sizeLine):=by rw[sizeLine_eq]; decide
@[simp] theorem sz_4:(4<=sizeLine):=by rw[sizeLine_eq]; decide
@[simp] theorem sz_5:(5<=sizeLine):=by rw[sizeLine_eq]; decide
@[simp] theorem sz_6:(6<=sizeLine):=by rw[sizeLine_eq]; decide
@[simp] theorem sz_7:(7<=sizeLine):=by rw[sizeLine_eq]; decide
@[simp] theorem sz_8:(8<=sizeLine):=by rw[sizeLine_eq]; decide
@[simp] theorem sz_9:(9<=sizeLine):=by rw[sizeLine_eq]; decide
@[simp] theorem sz_10:(10<=sizeLine):=by rw[sizeLine_eq]; decide
@[simp] theorem sz_11:(11<=sizeLine):=by rw[sizeLine_eq]; decide
@[simp] theorem sz_12:(12<=sizeLine):=by rw[sizeLine_eq]; decide
open PySem PySem.Spec PyProof.Rows L2
open PySem PySem.Spec PyProof.Rows L2
def letters:Str:="abcdefghijklmnopqrstuvwxyz"
def isLet(c:Nat):Bool:=occ ⟨#[c]⟩ letters
def isSg(s:List Nat):Bool:=decide (1<=s.length)&&(decide (s.length<=6)&&s.all isLet)
theorem letters_list:lc letters=List.range' 97 26:=by decide +kernel
theorem isLet_iff {c:Nat}:isLet c=true↔97<=c/\c<=122:=by
  have e:isLet c=decide (c∈lc letters):=StrLaws.found_one letters c
  rw[e,letters_list,decide_eq_true_iff,List.mem_range'_1]
  omega
inductive Tr where
  | nd (s:List Nat) (ks:List Tr)
/-- texts with commas between -/
def joinL:List (List Nat)->List Nat
  | []=>[]
  | [x]=>x
  | x::y::r=>x++44::joinL (y::r)
def wrapL(s:List Nat):List (List Nat)->List Nat
  | []=>s
  | x::r=>s++40::(joinL (x::r)++[41])
mutual
def Tr.txt:Tr->List Nat
  | .nd s ks=>wrapL s (txts ks)
def txts:List Tr->List (List Nat)
  | []=>[]
  | t::r=>t.txt::txts r
end
mutual
def Tr.siz:Tr->Nat
  | .nd _ ks=>1+sizs ks
def sizs:List Tr->Nat
  | []=>0
  | t::r=>t.siz+sizs r
end
mutual
def Tr.dep:Tr->Nat
  | .nd _ ks=>1+deps ks
def deps:List Tr->Nat
  | []=>0
  | t::r=>max t.dep (deps r)
end
mutual
def Tr.ins:Tr->List (List Nat)
  | .nd s ks=>inss ks++[(Tr.nd s ks).txt]
def inss:List Tr->List (List Nat)
  | []=>[]
  | t::r=>t.ins++inss r
end
mutual
def Tr.key:Tr->D
  | .nd s ks=>.tup [.int ((1+sizs ks:Nat):Int),.str (mks s),.int (ks.length:Nat),.tup (keys ks)]
def keys:List Tr->List D
  | []=>[]
  | t::r=>t.key::keys r
end
mutual
def Tr.ok:Tr->Prop
  | .nd s ks=>isSg s=true/\ks.length<=3/\oks ks
def oks:List Tr->Prop
  | []=>True
  | t::r=>t.ok/\oks r
end
theorem txts_eq:∀ ks:List Tr,txts ks=ks.map Tr.txt
  | []=>rfl
  | t::r=>congrArg (t.txt::·) (txts_eq r)
theorem inss_eq:∀ ks:List Tr,inss ks=ks.flatMap Tr.ins
  | []=>rfl
  | t::r=>by
    show t.ins++inss r=_
    rw[inss_eq r,List.flatMap_cons]
theorem keys_eq:∀ ks:List Tr,keys ks=ks.map Tr.key
  | []=>rfl
  | t::r=>congrArg (t.key::·) (keys_eq r)
theorem oks_iff:∀ {ks:List Tr},oks ks↔∀ t∈ks,t.ok
  | []=>by simp[oks]
  | t::r=>by
    show t.ok/\oks r↔_
    rw[oks_iff (ks:=r)]
    simp
theorem deps_le:∀ {ks:List Tr}{t:Tr},t∈ks->t.dep<=deps ks
  | u::r,t,h=>by
    show _<=max u.dep (deps r)
    rcases List.mem_cons.mp h with e | e
    . subst e; exact Nat.le_max_left _ _
    . exact Nat.le_trans (deps_le e) (Nat.le_max_right _ _)
theorem deps_fold:∀ (ks:List Tr) (a:Nat),(ks.map fun t=>((t.dep:Nat):Int)).foldl max (a:Int)=((max a (deps ks):Nat):Int)
  | [],a=>by
    show(a:Int)=((max a 0:Nat):Int)
    omega
  | t::r,a=>by
    rw[List.map_cons,List.foldl_cons]
    have e:max (a:Int) (t.dep:Nat)=((max a t.dep:Nat):Int):=by omega
    rw[e,deps_fold r]
    show((max (max a t.dep) (deps r):Nat):Int)=((max a (max t.dep (deps r)):Nat):Int)
    omega
mutual
def trD(C:Addr):Tr->D
  | .nd s ks=>.ins C [("sign",.str (mks s)),("branches",.tup (trDs C ks)),("size",.int ((1+sizs ks:Nat):Int)),("depth",.int ((1+deps ks:Nat):Int)),("text",.str (mks (wrapL s (txts ks)))),
      ("inside",.tup ((inss ks++[wrapL s (txts ks)]).map fun l=>.str (mks l))),("key",Tr.key (.nd s ks))]
def trDs(C:Addr):List Tr->List D
  | []=>[]
  | t::r=>trD C t::trDs C r
end
theorem trDs_eq {C:Addr}:∀ ks:List Tr,trDs C ks=ks.map (trD C)
  | []=>rfl
  | t::r=>congrArg (trD C t::·) (trDs_eq r)
/-- a tree's field -/
def Tr.fld(C:Addr) (t:Tr):List (Str × D):=match trD C t with
  | .ins _ fs=>fs
  | _=>[]
theorem trD_ins {C:Addr} (t:Tr):trD C t=.ins C (t.fld C):=by
  cases t with
  | nd s ks=>rfl
section
variable {C:Addr} (t:Tr)
theorem fld_sign:(t.fld C).lookup ("sign":Str)=some (.str (mks (match t with | .nd s _=>s))):=by cases t; rfl
theorem fld_branches:(t.fld C).lookup ("branches":Str)=some (.tup (match t with | .nd _ ks=>ks.map (trD C))):=by
  cases t with
  | nd s ks =>
    show some (D.tup (trDs C ks))=_
    rw[trDs_eq]
theorem fld_size:(t.fld C).lookup ("size":Str)=some (.int (t.siz:Nat)):=by cases t; rfl
theorem fld_depth:(t.fld C).lookup ("depth":Str)=some (.int (t.dep:Nat)):=by cases t; rfl
theorem fld_text:(t.fld C).lookup ("text":Str)=some (.str (mks t.txt)):=by cases t; rfl
theorem fld_inside:(t.fld C).lookup ("inside":Str)=some (.tup (t.ins.map fun l=>.str (mks l))):=by cases t; rfl
theorem fld_key:(t.fld C).lookup ("key":Str)=some t.key:=by cases t; rfl
end
theorem ok_sg_len {s:List Nat} (h:isSg s=true):1<=s.length/\s.length<=6/\∀ c∈s,isLet c=true:=by
  unfold isSg at h
  simp only[Bool.and_eq_true,decide_eq_true_eq,List.all_eq_true] at h
  exact h
theorem joinL_len:∀ ls:List (List Nat),(ls.map List.length).sum<=(joinL ls).length
  | []=>Nat.le_refl _
  | [x]=>by simp[joinL]
  | x::y::r=>by
    have:=joinL_len (y::r)
    rw[List.map_cons,List.sum_cons]
    show _<=(x++44::joinL (y::r)).length
    rw[List.length_append,List.length_cons]
    omega
theorem joinL_le:∀ ls:List (List Nat),(joinL ls).length<=(ls.map List.length).sum+ls.length
  | []=>Nat.le_refl _
  | [x]=>by simp[joinL]
  | x::y::r=>by
    have:=joinL_le (y::r)
    rw[List.map_cons,List.sum_cons,List.length_cons]
    show(x++44::joinL (y::r)).length<=_
    rw[List.length_append,List.length_cons]
    omega
theorem wrapL_len(s:List Nat) (ls:List (List Nat)):s.length+(ls.map List.length).sum<=(wrapL s ls).length:=by
  cases ls with
  | nil=>simp[wrapL]
  | cons x r =>
    have:=joinL_len (x::r)
    show _<=(s++40::(joinL (x::r)++[41])).length
    rw[List.length_append,List.length_cons,List.length_append]
    omega
mutual
theorem siz_txt:∀ {t:Tr},t.ok->t.siz<=t.txt.length
  | .nd s ks,h=>by
    have h1:=(ok_sg_len h.1).1
    have h2:=sizs_txts h.2.2
    have h3:=wrapL_len s (txts ks)
    show 1+sizs ks<=(wrapL s (txts ks)).length
    omega
theorem sizs_txts:∀ {ks:List Tr},oks ks->sizs ks<=((txts ks).map List.length).sum
  | [],_=>Nat.le_refl _
  | t::r,h=>by
    have h1:=siz_txt h.1
    have h2:=sizs_txts h.2
    show t.siz+sizs r<=((t.txt::txts r).map List.length).sum
    rw[List.map_cons,List.sum_cons]
    omega
end
mutual
theorem ins_len:∀ t:Tr,t.ins.length=t.siz
  | .nd s ks=>by
    show(inss ks++[_]).length=1+sizs ks
    rw[List.length_append,inss_len ks,List.length_singleton]
    omega
theorem inss_len:∀ ks:List Tr,(inss ks).length=sizs ks
  | []=>rfl
  | t::r=>by
    show(t.ins++inss r).length=t.siz+sizs r
    rw[List.length_append,ins_len t,inss_len r]
end
theorem join_mks(ls:List (List Nat)):Txt.join (mks [44]) (ls.map mks)=mks (joinL ls):=by
  have key:∀ ls:List (List Nat),Str.join (mks [44]) (ls.map mks)=mks (joinL ls):=by
    intro ls
    induction ls with
    | nil=>rfl
    | cons x r ih =>
      cases r with
      | nil=>rfl
      | cons y r =>
        show mks x++mks [44]++Str.join (mks [44]) ((y::r).map mks)=_
        rw[ih,mks_app,mks_app]
        show _=mks (x++44::joinL (y::r))
        rw[List.append_assoc]
        rfl
  rw[<- key ls]
  exact StrLaws.glued_eq_join _ _
theorem shaped_mks {l:List Nat} (h:∀ c∈l,c<128):SeqAt.shaped (.str (mks l))=true:=by
  have e:PyData.strOk (mks l)=true:=by
    show l.toArray.all (·<0x110000)=true
    rw[Array.all_eq_true']
    intro c hc
    have:=h c (by simpa using hc)
    exact decide_eq_true (by omega)
  show(PyData.strOk (mks l)&&decide (0<=64))=true
  rw[e]
  rfl
theorem sizs_int(ks:List Tr):((1+sizs ks:Nat):Int)=1+(ks.map fun t=>((t.siz:Nat):Int)).sum:=by
  have key:∀ ks:List Tr,((sizs ks:Nat):Int)=(ks.map fun t=>((t.siz:Nat):Int)).sum:=by
    intro ks
    induction ks with
    | nil=>rfl
    | cons t r ih =>
      rw[List.map_cons,List.sum_cons,<- ih]
      show((t.siz+sizs r:Nat):Int)=_
      omega
  rw[<- key]
  omega
theorem fld_nd {C:Addr}{s:List Nat}{ks:List Tr}:(Tr.nd s ks).fld C=([("sign",.str (mks s)),("branches",.tup (ks.map (trD C))),("size",.int (1+(ks.map fun t=>((t.siz:Nat):Int)).sum)),("depth",.int (1+(deps ks:Nat))),("text",.str (mks (wrapL s (txts ks)))),
    ("inside",.tup ((ks.flatMap fun t=>t.ins.map fun l=>D.str (mks l))++[.str (mks (wrapL s (txts ks)))])),("key",.tup [.int (1+(ks.map fun t=>((t.siz:Nat):Int)).sum),.str (mks s),.int (ks.length:Nat),.tup (ks.map Tr.key)])]:List (Str × D)):=by
  show([("sign",D.str (mks s)),("branches",.tup (trDs C ks)),("size",.int ((1+sizs ks:Nat):Int)),("depth",.int ((1+deps ks:Nat):Int)),("text",.str (mks (wrapL s (txts ks)))),
      ("inside",.tup ((inss ks++[wrapL s (txts ks)]).map fun l=>.str (mks l))),("key",.tup [.int ((1+sizs ks:Nat):Int),.str (mks s),.int (ks.length:Nat),.tup (keys ks)])]:List (Str × D))=_
  have ed:((1+deps ks:Nat):Int)=1+(deps ks:Nat):=by omega
  rw[trDs_eq,sizs_int,ed,keys_eq,List.map_append,inss_eq,List.map_flatMap]
  rfl
theorem mxD_deps(ks:List Tr):mxD (.int 0) (ks.map fun t=>((t.dep:Nat):Int))=.int (deps ks:Nat):=by
  cases ks with
  | nil=>rfl
  | cons t r =>
    show D.int ((r.map fun t=>((t.dep:Nat):Int)).foldl max ((t.dep:Nat):Int))=_
    rw[deps_fold r]
    rfl
theorem inss_map_len(ks:List Tr):(ks.flatMap fun t=>t.ins.map fun l=>D.str (mks l)).length=sizs ks:=by
  rw[<- List.map_flatMap,List.length_map,<- inss_eq,inss_len]
open PySem PySem.Spec PyProof.Rows L2
theorem dep_pos(t:Tr):1<=t.dep:=by
  cases t with
  | nd s ks =>
    show 1<=1+deps ks
    omega
mutual
theorem dep_siz:∀ t:Tr,t.dep<=t.siz
  | .nd s ks=>by
    have:=deps_sizs ks
    show 1+deps ks<=1+sizs ks
    omega
theorem deps_sizs:∀ ks:List Tr,deps ks<=sizs ks
  | []=>Nat.le_refl _
  | t::r=>by
    have h1:=dep_siz t
    have h2:=deps_sizs r
    show max t.dep (deps r)<=t.siz+sizs r
    omega
end
theorem siz_pos(t:Tr):1<=t.siz:=Nat.le_trans (dep_pos t) (dep_siz t)
theorem sizs_snoc:∀ (ks:List Tr) (t:Tr),sizs (ks++[t])=sizs ks+t.siz
  | [],t=>by show t.siz+0=0+t.siz; omega
  | u::r,t=>by
    show u.siz+sizs (r++[t])=u.siz+sizs r+t.siz
    rw[sizs_snoc r t]
    omega
mutual
theorem txt9:∀ {t:Tr},t.ok->t.txt.length+1<=9 * t.siz
  | .nd s [],h=>by
    have:=(ok_sg_len h.1).2.1
    show s.length+1<=9 * (1+0)
    omega
  | .nd s (t::r),h=>by
    have h1:=(ok_sg_len h.1).2.1
    have h2:=txts9 h.2.2
    have h3:=joinL_le (txts (t::r))
    have h4:(txts (t::r)).length=(t::r).length:=by rw[txts_eq,List.length_map]
    show(s++40::(joinL (txts (t::r))++[41])).length+1<=9 * (1+sizs (t::r))
    rw[List.length_append,List.length_cons,List.length_append,List.length_singleton]
    omega
theorem txts9:∀ {ks:List Tr},oks ks->((txts ks).map List.length).sum+ks.length<=9 * sizs ks
  | [],_=>Nat.le_refl _
  | t::r,h=>by
    have h1:=txt9 h.1
    have h2:=txts9 h.2
    show((t.txt::txts r).map List.length).sum+(r.length+1)<=9 * (t.siz+sizs r)
    rw[List.map_cons,List.sum_cons]
    omega
end
open PySem PySem.Spec PyProof.Rows L2
def rHx:R2:=fun x y H Q=>∃ p xs i v,x=.ref p/\y=.int i/\H p=some (.lst xs)/\atI xs i=some v/\Q v H
def rHlen:List V->Hp->VK->Prop:=fun vs H Q=>∃ p xs,vs=[.ref p]/\H p=some (.lst xs)/\Q (.int (xs.length:Nat)) H
section
variable {X:Cx}
theorem ix_h:IxR X rHx:=by
  intro value slice pins s σ H x y v u Q I rx ry ⟨p,xs,i,z,e1,e2,h,ha,q⟩ hs
  exact ix_list value slice pins s σ H x y v u Q I rx ry ⟨p,xs,i,z,e1,e2,SqL.of h,ha,q⟩ hs
theorem call_hlen:CallR X (.builtin "len") rHlen:=by
  intro pins s σ H xs us Q I r ⟨p,ys,e,h,q⟩
  exact call_len pins s σ H xs us Q I r ⟨.ref p,ys.length,e,.inl ⟨ys,SqL.of h,rfl⟩,q⟩
end
/-- the hand at h,its cells at c -/
def hw(h c:Addr) (cells:List Int):Wd where
  foot:=fun b=>b=h\/b=c
  inv:=fun H=>∃ i j m:Int,0<=i/\h≠c/\H h=some (.lst [.ref c,.int i,.int j,.int m])/\H c=some (.lst (cells.map V.int))
  there:=fun H b ⟨i,j,m,_,_,h1,h2⟩ hb=>by
    rcases hb with e | e
    . exact⟨_,by rw[e]; exact h1⟩
    . exact⟨_,by rw[e]; exact h2⟩
  ext:=fun H H' ⟨i,j,m,h0,hn,h1,h2⟩ hk _=>⟨i,j,m,h0,hn,hk _ _ (.inl rfl) h1,hk _ _ (.inr rfl) h2⟩
  nt:=fun H b xs ⟨i,j,m,_,_,h1,h2⟩ hb z=>by
    rcases hb with e | e
    . rw[e,h1] at z; cases z
    . rw[e,h2] at z; cases z
def sp_pick:Sp:=fun vs H Q _=>∃ (h c:Addr) (cells:List Int) (i j m many:Int),vs=[.ref h,.int many]/\0<=i/\h≠c/\H h=some (.lst [.ref c,.int i,.int j,.int m])/\H c=some (.lst (cells.map V.int))/\0<many/\many<1000000 /\
  ∀ i' j' r:Int,0<=i'->0<=r->r<many->Q (.int r) (upd H h (.lst [.ref c,.int i',.int j',.int m]))
def TSlS(K:PySem.W.Frag) (T:TD) (Tl Th:TPD):TD:=fun c env φ=>T c env fun x=>Tl c env fun lo=>Th c env fun hi=>∃ (a:Addr) (ns:List Int),x=.ref a/\(∀ H,c.wd.inv H->SqL K H a (ns.map V.int))/\φ (.lst (L3.cutD (ns.map D.int) lo hi))
theorem reps_ints {K:PySem.W.Frag}{R:Hp}:∀ ns:List Int,Reps K R (ns.map D.int) (ns.map V.int)
  | []=>rfl
  | n::r=>⟨_,_,rfl,rfl,reps_ints r⟩
theorem de_sliceS {X:Cx}{W:WX}{K:PySem.W.Frag}{a:Expr}{pos:Pos}{Ta:TD}{lo hi:Option Expr}{p2:Pos}{Tl Th:TPD} (ha:DE X W a Ta) (hl:DO X W lo Tl) (hu:DO X W hi Th) (hK:X.K=K:=by rfl):DE X W (.Subscript a (.Slice lo hi none p2) pos) (TSlS K Ta Tl Th):=by
  subst hK
  exact de_mk (pe_slice sl_all ha hl hu) fun S R H σ env φ lk ok h=>by
    refine tD.ask lk ok h fun R1 H1 d v f1 ok1 r1 q1=>tO3.ask lk ok1 q1 fun R2 H2 l f2 ok2 q2=>tO3.ask lk ok2 q2 fun R3 H3 u f3 ok3 ⟨b,ns,e,hS,q3⟩=>?_
    subst e
    obtain rfl:v=.ref b:=r1
    have ff:=(f1.trans f2).trans f3
    exact .inr (.inl ⟨b,_,rfl,hS _ ok3.bas.inv,fun n hn=>Pst.from ff (Pst.lst ok3.bas hn (cut_rep (reps_ints ns)) q3)⟩)
def F_hand2(K:PySem.W.Frag):TF:=fun wd ds φ _=>∃ (a:Addr) (ns:List Int),ds=[.ref a]/\(∀ H,wd.inv H->SqL K H a (ns.map V.int))/\ns.length<=63/\∀ m:Int,φ (.lst [.lst (ns.map D.int),.int 0,.int 0,.int m])
theorem fn3O {P : Program} {w : World} {K : PySem.W.Frag} {mg : Str -> Option Value} {base : Heap} {x qual : Str} {params : Arguments} {body : List Stmt} {scope : Scope} {f : Addr} {fd : FuncData} {N ps : List Str} {k : Nat} {F : TF} {T : TSD} (FD : FunD K x qual params body scope [] [] f fd) (Sc : FnScope N ps scope) (hn : ∀ wd ds φ ε, F wd ds φ ε -> ds.length = ps.length)
    (hbody:∀ (cdv:Value) (A:Around) (outer:List Env) (s:Shared) (H:Hp) (E:XK),Room k (A.deeper (envOfC qual scope s.heap.objs.size f cdv))->DSs (cx3 P w K mg base N qual scope f cdv A outer s H E) (W3 E) body T)
    (hT:∀ wd ds φ ε,F wd ds φ ε->T ⟨wd,fun ex _=>ε ex⟩ (retD φ) (startD N ds)):Fn3O P w K mg base (k+1) f fd ps F:=by
  refine FD.ok Sc (fun vs H Q E h=>?_) fun cdv A outer s H vs Q E hr h=>?_
  . obtain⟨wd,R,ds,φ,ε,b,r,hf,_⟩:=h
    rw[r.length]
    exact hn _ _ _ _ hf
  . obtain⟨wd,R,ds,φ,ε,b,r,hf,hQ,hE⟩:=h
    exact⟨_,hbody cdv A outer s H E hr,body_ok (S:=⟨⟨wd,fun ex _=>ε ex⟩,R,H,R⟩) (fun R' H' σ env cls od ex ok xr q=>hE cls od R' H' ex ok.fin xr q) (start_ok3 (c:=⟨wd,fun ex _=>ε ex⟩) b r) (hT wd ds φ ε hf) hQ⟩
theorem Fn3O.fn {P:Program}{w:World}{K:PySem.W.Frag}{mg:Str->Option Value}{base:Heap}{k:Nat}{f:Addr}{fd:FuncData}{ps:List Str}{F:TF} (G:Fn3O P w K mg base k f fd ps F) (hb:Binds K fd ps []):Fn3 P w K mg base k f F:=by
  have z:=FnOk.raw G (ds:=[]) (dvs:=[]) hb .nil
  intro A outer s H us vs Q E hr e0 r hs
  exact z A outer s H us vs Q E hr e0 r (by show spW K F (vs++[]) H Q E; rw[List.append_nil]; exact hs)
open PySem PySem.Spec PyProof.Rows L2
abbrev ExB:=PySem.W.Frag->Bool
def obsX(fa:List He.Fa) (fn:List He5.DefA) (ex:List ExB) (K:PySem.W.Frag):He.AlD:=(((fa.all fun f=>f.ok K)&&fn.all fun d=>d.ok K)&&ex.all fun e=>e K,fn.map fun d=>He5.fnA K (d.at_ K))
def SaysX(fa:List He.Fa) (fn:List He5.DefA) (ex:List ExB) (K:PySem.W.Frag):Prop:=obsX fa fn ex K=He5.valA fn
section
variable {fa:List He.Fa}{fn:List He5.DefA}{ex:List ExB}{K:PySem.W.Frag}
theorem SaysX.fst(c:SaysX fa fn ex K):((((fa.all fun f=>f.ok K)&&fn.all fun d=>d.ok K)&&ex.all fun e=>e K)=true):=congrArg (fun z:He.AlD=>z.1) c
theorem SaysX.fact(c:SaysX fa fn ex K) (i:Nat) {f:He.Fa} (h:fa[i]?=some f:=by rfl):f.ok K=true :=
  List.all_eq_true.mp (He.ba (He.ba c.fst).1).1 f (List.mem_of_getElem? h)
theorem SaysX.ex_(c:SaysX fa fn ex K) (i:Nat) {f:ExB} (h:ex[i]?=some f:=by rfl):f K=true :=
  List.all_eq_true.mp (He.ba c.fst).2 f (List.mem_of_getElem? h)
theorem SaysX.def_(c:SaysX fa fn ex K) (i:Nat) {d:He5.DefA} (h:fn[i]?=some d:=by rfl):∃ fd,L2.FunD K d.name d.qual d.params d.body d.scope (d.dvs K) (d.kws K) (d.at_ K) fd:=by
  have c2:=(He.ba (He.ba c.fst).1).2
  have e:fn.map (fun d=>He5.fnA K (d.at_ K))=fn.map He5.DefA.val:=congrArg (fun z:He.AlD=>z.2) c
  have e2:(fn.map fun d=>He5.fnA K (d.at_ K))[i]?=(fn.map He5.DefA.val)[i]?:=by rw[e]
  rw[List.getElem?_map,List.getElem?_map,h] at e2
  exact He5.DefA.funD (Option.some.inj e2) (List.all_eq_true.mp c2 d (List.mem_of_getElem? h))
end
def insB(C:Str):ExB:=fun K=>He.eqO (PySem.W.findIn K (Value.ref (He.ga K C)) (Str.ofString "__class__")) (some (some (Value.builtin "object.__class__"))) &&
  (He.eqO (PySem.W.specialIn K (Value.builtin "object.__class__") (Str.ofString "__get__")) (some (some (Value.builtin "getset_descriptor.__get__"))) &&
  (decide (PySem.W.takesIn K (Value.builtin "object.__class__")=some true)&&decide (PySem.W.mroIn K (He.ga K C) (Value.type "object")=some true)))
theorem insB_ok {C:Str}{K:PySem.W.Frag} (h:insB C K=true) (hc:Cls K (He.ga K C)):InsK K (He.ga K C):=by
  obtain⟨h1,h⟩:=He.ba h
  obtain⟨h2,h⟩:=He.ba h
  obtain⟨h3,h4⟩:=He.ba h
  exact⟨hc,He.eqO_ok h1,He.eqO_ok h2,of_decide_eq_true h3,of_decide_eq_true h4⟩
def eqB(C:Str):ExB:=fun K=>He.eqO (PySem.W.findIn K (.ref (He.ga K C)) "__eq__") (some (some (.ref (He.ma K (He.ga K C) "__eq__"))))&&(PySem.W.isFn K (.ref (He.ma K (He.ga K C) "__eq__")) &&
  (He.eqO (PySem.W.findIn K (.ref (He.ga K C)) "__ne__") (some (some (.builtin "object.__ne__")))&&decide (PySem.W.mroIn K (He.ga K C) (.type "object")=some true)))
theorem eqB_ok {C:Str}{K:PySem.W.Frag} (h:eqB C K=true):EqK K (He.ga K C) (He.ma K (He.ga K C) "__eq__"):=by
  obtain⟨h1,h⟩:=He.ba h
  obtain⟨h2,h⟩:=He.ba h
  obtain⟨h3,h4⟩:=He.ba h
  exact⟨He.eqO_ok h1,h2,He.eqO_ok h3,of_decide_eq_true h4⟩
def nfB(C:Str) (t:PySem.W.Frag->Value):ExB:=fun K=>PySem.W.notFirst K (He.ga K C) (t K)
def kitB(t u:PySem.W.Frag->Value) (b:Bool):ExB:=fun K=>decide (PySem.W.kitOne K (t K) (u K)=some b)
theorem kitB_ok {t u:PySem.W.Frag->Value}{b:Bool}{K:PySem.W.Frag} (h:kitB t u b K=true):PySem.W.kitOne K (t K) (u K)=some b:=of_decide_eq_true h
abbrev rC (C:Str):PySem.W.Frag->Value:=fun K=>.ref (He.ga K C)
/-- a class is read from -/
def crB(C:Str):ExB:=fun K=>PySem.W.readsIn K (He.ga K C) (.type "type")&&He.eqO (PySem.W.specialIn K (.ref (He.ga K C)) "__getattribute__") (some (some (.builtin "type.__getattribute__")))
theorem crB_ok {C:Str}{K:PySem.W.Frag} (h:crB C K=true):ClX.CRead K (He.ga K C) (.type "type"):=by
  obtain⟨h1,h2⟩:=He.ba h
  exact⟨h1,He.eqO_ok h2⟩
theorem cx_no {P:Program}{w:World}{o:List Env}{H:Hp}{s:Shared}{e:Value}{s':Shared} (h:L2C.CX P w o H s (fun _ _ _=>False) e s'):False:=by
  obtain⟨_,_,_,_,_,_,_,_,_,_,_,_,_,_,z⟩:=h
  exact z
open PySem PySem.Spec PyProof.Rows L2
/-- what is asked of a built-in base -/
structure BsX (B newId initId:String) (bmB:List Value):Prop where
  FB:ExcBaseFacts B newId initId bmB
  KF:PySem.W.KxsFacts B initId
  pass:∀ self:Value,PySem.refuseLoop self "__setattr__" bmB=pure ()
  ob:bmB.contains (.type "object")=true
abbrev bmVE:List Value:=[.type "ValueError",.type "Exception",.type "BaseException",.type "object"]
theorem bsVE:BsX "ValueError" "ValueError.__new__" "ValueError.__init__" bmVE:=⟨F.excBase_ValueError,PySem.W.kxs_ValueError,F.store_ValueError.passes,by decide +kernel⟩
/-- what the written part says of an own exception class -/
structure ExC (K:PySem.W.Frag) (B newId initId:String) (bmB:List Value) (C:Addr):Prop where
  bs:BsX B newId initId bmB
  cls:∃ nm q N bs bm sn sub ab col dd k0 k1 k2 k3 k5,K.lookup C=some (excClassObj nm q C N bs bm true sn sub ab col dd k0 k1 k2 k3 k5 newId)/\PySem.W.excTail bmB bm=true
  sa:PySem.W.findIn K (.ref C) "__setattr__"=some (some (.builtin "object.__setattr__"))
  exC:PySem.W.subIn K (.ref C) (.type "BaseException")=some true
  tyC:PySem.W.typeIn K (.ref C)=some (.type "type")
  kC:PySem.W.keepIn K (.ref C)=true
def excB(C:Str) (newId:String) (bmB:List Value) (K:PySem.W.Frag):Bool:=PySem.W.excInitIn K (He.ga K C) bmB newId&&(PySem.W.hasDictIn K (He.ga K C)&&(He.eqO (PySem.W.findIn K (.ref (He.ga K C)) "__setattr__") (some (some (.builtin "object.__setattr__"))) &&
  (decide (PySem.W.subIn K (.ref (He.ga K C)) (.type "BaseException")=some true)&&(decide (PySem.W.typeIn K (.ref (He.ga K C))=some (.type "type"))&&PySem.W.keepIn K (.ref (He.ga K C))))))
theorem exc_lookup {K:PySem.W.Frag}{C:Addr}{bmB:List Value}{newId:String} (q:PySem.W.excInitIn K C bmB newId=true) (hd:PySem.W.hasDictIn K C=true) :
    ∃ nm qn N bs bm sn sub ab col dd k0 k1 k2 k3 k5,K.lookup C=some (excClassObj nm qn C N bs bm true sn sub ab col dd k0 k1 k2 k3 k5 newId)/\PySem.W.excTail bmB bm=true:=by
  unfold PySem.W.excInitIn at q
  split at q
  . rename_i dd cd sl ho
    split at q
    . rename_i C' bm k0 k1 k2 k3 n k5 hm hs
      simp only[Bool.and_eq_true,beq_iff_eq,Bool.not_eq_true'] at q
      obtain⟨⟨⟨rfl,rfl⟩,hdel⟩,ht⟩:=q
      obtain⟨nm,bs,mro,ns,qn,hdc,sn,sub,ab,col,del⟩:=cd
      dsimp only at hm hdel
      subst hm hdel
      have hsl:sl=#[k0,k1,k2,k3,some (.builtin n),k5]:=by
        obtain⟨l⟩:=sl
        simp only at hs
        rw[hs]
      subst hsl
      have e:hdc=true:=by
        unfold PySem.W.hasDictIn PySem.W.clsIn at hd
        rw[ho] at hd
        simpa using hd
      subst e
      exact⟨nm,qn,ns,bs,bm,sn,sub,ab,col,dd,k0,k1,k2,k3,k5,ho,ht⟩
    . cases q
  . cases q
theorem excB_ok {C:Str}{B newId initId:String}{bmB:List Value}{K:PySem.W.Frag} (b:BsX B newId initId bmB) (h:excB C newId bmB K=true):ExC K B newId initId bmB (He.ga K C):=by
  obtain⟨h1,h⟩:=He.ba h
  obtain⟨h2,h⟩:=He.ba h
  obtain⟨h3,h⟩:=He.ba h
  obtain⟨h4,h⟩:=He.ba h
  obtain⟨h5,h6⟩:=He.ba h
  exact⟨b,exc_lookup h1 h2,He.eqO_ok h3,of_decide_eq_true h4,of_decide_eq_true h5,h6⟩
section
open Builtin Builtin.ObjectAttr
variable {prog:Program}{w:World}{A:Around}{E:Value->Shared->Prop}{R:Result->Shared->Prop}{hp:Heap}{g:Array GenState}{d:Drawn}{t:Nat}{os:OsState}{K:PySem.W.Frag}{name:Str}{tk:Tok}{v:Value}{x C dx:Addr}{fv:Array Value}{cd:ClassData}{bmB:List Value}
/-- up to the own dict -/
theorem osaX {ox : Obj} {od : Option Obj} (X : K.In hp) (I : PySem.W.InstAt hp x ox C od) (hcd : PySem.W.clsIn K C = some cd) (hm : PySem.W.excTail bmB cd.mro = true) (hpass : ∀ self : Value, refuseLoop self "__setattr__" bmB = pure ()) (hob : bmB.contains (.type "object") = true)
    (ha:PySem.W.findIn K (.ref C) name=some none)
    (hq:wpAny (model prog w) A.in1 (storeInOwnDict (.ref x) (.ref C) (.str name tk) name v false)
      (fun fin s'=>match fin with | .done f=>R (.ok f) s' | .again c'=>c'.quiet=true/\codeAny (model prog w) A c' R s') (fun e s'=>R (.error e) s') ⟨hp,g,d,t,os⟩) :
    codeAny (model prog w) A (.call (.builtin "object.__setattr__") ⟨[.ref x,.str name tk,v],[]⟩) R ⟨hp,g,d,t,os⟩:=by
  have SF:=F.store_object
  have hob':cd.mro.contains (.type "object")=true:=(PySem.W.excTail_contains "object" _ hm).trans hob
  have ne:cd.mro.isEmpty=false:=by
    cases e:cd.mro with
    | nil =>
      rw[e] at hob'
      cases hob'
    | cons _ _=>rfl
  have sub:PySem.W.Looks (model prog w) hp (isInstance (.ref x) (.type "object")) true:=I.type.andThen (PySem.W.looks_mroIn X (by unfold PySem.W.mroIn; rw[hcd,Option.bind_some,if_neg (by rw[ne]; decide),hob']))
  refine codeAny_call_builtin SF.slot.plain SF.entry (@PySem.W.check_slot (model prog w) _ _ ⟨hp,g,d,t,os⟩ "object.__setattr__" "object" "__setattr__" (.ref x) [.str name tk,v] [] _ SF.kind SF.split sub (SF.args (.ref x) (.str name tk) v) ?_)
  have hmr:PySem.W.Looks (model prog w) hp (mroOf (.ref C)) cd.mro:=(PySem.W.looks_clsIn X hcd).andThen .now
  have L3:PySem.W.Looks (model prog w) hp (storeTaker? none) none:=.now
  rw[PySem.W.osa_eq,refuse_eq]
  refine wpAny_bind (wpAny_bind (I.type.at (wpAny_bind (hmr.at ?_))))
  rw[PySem.W.excTail_pass _ (hpass _) _ hm]
  exact wpAny_pure (wpAny_bind (I.type.at (wpAny_bind ((PySem.W.looks_findIn X ha).at (wpAny_bind (L3.at hq))))))
theorem osaX_new (X : K.In hp) (hx : hp.get? x = some { cls := .ref C, data := .fields fv }) (hcd : PySem.W.clsIn K C = some cd) (hm : PySem.W.excTail bmB cd.mro = true) (hpass : ∀ self : Value, refuseLoop self "__setattr__" bmB = pure ()) (hob : bmB.contains (.type "object") = true) (hh : cd.hasDict = true)
    (ha:PySem.W.findIn K (.ref C) name=some none)
    (hq:∀ h' tk' dx,(∀ b o,b≠x->hp.get? b=some o->h'.get? b=some o)->hp.objs.size<=dx->dx≠x->h'.get? x=some {cls:=.ref C,dict:=some dx,data:=.fields fv} ->
      h'.Ns1 dx (fun y=>if y=name then some v else none)->R (.ok (.ret .none)) ⟨h',g,d,tk',os⟩) :
    codeAny (model prog w) A (.call (.builtin "object.__setattr__") ⟨[.ref x,.str name tk,v],[]⟩) R ⟨hp,g,d,t,os⟩:=by
  have I:PySem.W.InstAt hp x {cls:=.ref C,data:=.fields fv} C none:=⟨hx,rfl,rfl,trivial⟩
  have hxs:x≠hp.objs.size:=Nat.ne_of_lt (Heap.lt_size hx)
  refine osaX X I hcd hm hpass hob ha ?_
  have hcls:PySem.W.Looks (model prog w) hp (classData C) cd:=PySem.W.looks_clsIn X hcd
  obtain⟨nm,bs,mro,ns,qn,hd,sn,sb,ab,col,del⟩:=cd
  dsimp only at hh
  subst hh
  unfold storeInOwnDict ownDictForStores
  repeat (first | with_reducible refine HandSPX.store_in_new ?_ ?_ | with_reducible refine wpAny_loadPart_at hx ?_ | with_reducible refine hcls.at ?_ | wp_step)
  . exact⟨_,#[],_,(Heap.get?_update_ne _ _ _ _ hxs.symm).trans (Heap.get?_push_at rfl rfl),rfl,fun e he=>absurd he (by simp),fun _=>rfl⟩
  . intro h' tk' hn' hs
    have hx₁:(hp.push {cls:=.type "dict",data:=.dict #[]}).get? x=some {cls:=.ref C,data:=.fields fv}:=Heap.get?_push_of_some _ hx
    refine hq h' tk' hp.objs.size (fun b o hb ho=>?_) (Nat.le_refl _) hxs.symm ?_ hn'
    . exact(hs.2 b (Nat.ne_of_lt (Heap.lt_size ho))).trans ((Heap.get?_update_ne _ _ _ _ hb).trans (Heap.get?_push_of_some _ ho))
    . exact(hs.2 x hxs).trans (Heap.get?_update_self _ hx₁ rfl)
theorem osaX_old {m0 : Str -> Option Value} {nl : List Str} (X : K.In hp) (hx : hp.get? x = some { cls := .ref C, dict := some dx, data := .fields fv }) (hns : hp.Ns1 dx m0) (hw : Within m0 nl) (hz : nl.length <= 1000) (hcd : PySem.W.clsIn K C = some cd) (hm : PySem.W.excTail bmB cd.mro = true)
    (hpass:∀ self:Value,refuseLoop self "__setattr__" bmB=pure ()) (hob:bmB.contains (.type "object")=true) (hh:cd.hasDict=true) (ha:PySem.W.findIn K (.ref C) name=some none)
    (hq:∀ h' tk',(∀ b o,b≠dx->hp.get? b=some o->h'.get? b=some o)->h'.Ns1 dx (fun y=>if y=name then some v else m0 y)->R (.ok (.ret .none)) ⟨h',g,d,tk',os⟩) :
    codeAny (model prog w) A (.call (.builtin "object.__setattr__") ⟨[.ref x,.str name tk,v],[]⟩) R ⟨hp,g,d,t,os⟩:=by
  obtain⟨oD,esD,epD,hoD,hdD,_⟩:=hns.count hw
  have I:PySem.W.InstAt hp x {cls:=.ref C,dict:=some dx,data:=.fields fv} C (some oD):=⟨hx,rfl,rfl,hoD⟩
  refine osaX X I hcd hm hpass hob ha ?_
  have hcls:PySem.W.Looks (model prog w) hp (classData C) cd:=PySem.W.looks_clsIn X hcd
  obtain⟨nm,bs,mro,ns,qn,hd,sn,sb,ab,col,del⟩:=cd
  dsimp only at hh
  subst hh
  unfold storeInOwnDict ownDictForStores
  repeat (first | with_reducible refine OEX.store_in_old hns hw hz ?_ | with_reducible refine wpAny_loadPart_at hx ?_ | with_reducible refine hcls.at ?_ | wp_step)
  intro h' tk' hn' hs
  exact hq h' tk' (fun b o hb ho=>(hs.2 b hb).trans ho) hn'
end
section
variable {X:Cx}{pins:List (Addr × Obj)}{σ:L2.St}{H:Hp}{s:Shared}{a C dx:Addr}{f:Str}{y:V}{u:Value}{fs:List (Str × V)}{Q:Unit->Shared->Prop}{E:Value->Shared->Prop}{A:Around}{B newId initId:String}{bmB:List Value}
theorem ostX_new (T : ExC X.K B newId initId bmB C) (I : L2.Inv X pins σ H s) (e : H a = some (exo a C none)) (hno : PySem.W.findIn X.K (.ref C) f = some none) (ry : RelV y u)
    (h:∀ dx s',H dx=none->dx≠a->L2.Inv X pins σ (upd (upd H dx (exd dx [(f,y)])) a (exo a C (some dx))) s'->Q () s'):wpAny (model X.prog X.w) A (setAttr (.ref a) f u) Q E s:=by
  obtain⟨nm,q,N,bs,bm,sn,sub,ab,col,dd,k0,k1,k2,k3,k5,hC,hbm⟩:=T.cls
  have hcl:PySem.W.clsIn X.K C=some {name:=nm,bases:=bs,mro:=.ref C::bm,ns:=N,qualname:=q,hasDict:=true,slotNames:=sn,subclasses:=sub,abstract:=ab,collection:=col,hasDel:=false}:=by unfold PySem.W.clsIn; rw[hC]<;>rfl
  obtain⟨t1,ho⟩:=exo_at I.hok e
  obtain⟨hp,g,d,t,os⟩:=s
  refine PySem.W.set_plain I.kIn (ox:={cls:=.ref C,dict:=none,data:=.fields #[.ref t1,.none,.none,.none,.bool false,.none]}) (od:=none) ⟨ho,rfl,rfl,trivial⟩ T.sa ?_
  refine osaX_new I.kIn ho hcl (show PySem.W.excTail bmB (.ref C::bm)=true from hbm) T.bs.pass T.bs.ob rfl hno (fun h' tk' dx k dn dne hx hn=>?_)
  have hnd:H dx=none:=I.hok.fresh dn
  have nd:∀ {b:Addr}{o:Obj},hp.get? b=some o->b≠dx:=fun {b o} q=>Nat.ne_of_lt (Nat.lt_of_lt_of_le (Heap.lt_size q) dn)
  have na:∀ {b:Addr},H b=none->b≠a:=fun {b} n z=>by
    rw[z,e] at n
    cases n
  have Un1:Un X.fs [] H (upd (upd H dx (exd dx [(f,y)])) a (exo a C (some dx))) hp h':={
    keep:=fun b o q n _ _=>k b o (na n) q
    slot:=fun b o q n _ _=>⟨o.slots,k b o (na n) q⟩
    free:=fun b o q n _=>by rw[upd_ne (na n),upd_ne (nd q)]; exact n
    there:=fun b o q _=>by
      by_cases hb:b=a
      . exact⟨_,by rw[hb]; exact hx⟩
      . exact⟨o,k b o hb q⟩
    tups:=fun b xs q=>by rw[upd_ne (at_ne e q exo_tup),upd_ne (ne_of_none q hnd)]; exact q
    frzs:=fun b o v q=>by rw[upd_ne (at_ne e q exo_frz),upd_ne (ne_of_none q hnd)]; exact q
    tbls:=fun b ps q=>⟨#[],by rw[upd_ne (at_ne e q exo_tbl),upd_ne (ne_of_none q hnd),q]; simp⟩}
  refine h dx _ hnd dne (I.un (t':=tk') Un1 fun b o q=>?_)
  by_cases hb:b=a
  . subst hb
    rw[upd_same] at q
    cases q
    exact exo_ok hx
  . rw[upd_ne hb] at q
    by_cases hd:b=dx
    . subst hd
      rw[upd_same] at q
      cases q
      exact exd_ok hn (relO_put (fs:=[]) ry fun g=>True.intro)
    . rw[upd_ne hd] at q
      exact(I.hok b o q).stay (fun c v hc z=>k c v (by
          rcases hc with hc | hc
          . rw[hc]
            exact hb
          . exact at_ne e hc exo_own) z)
        (fun c hc=>by rw[upd_ne (at_ne e hc exo_own),upd_ne (ne_of_none hc hnd)]; exact hc) (fun c xs hc=>by rw[upd_ne (at_ne e hc exo_tup),upd_ne (ne_of_none hc hnd)]; exact hc)
theorem ostX_old (T : ExC X.K B newId initId bmB C) (I : L2.Inv X pins σ H s) (e : H a = some (exo a C (some dx))) (ed : H dx = some (exd dx fs)) (hl : fs.length <= 900) (hno : PySem.W.findIn X.K (.ref C) f = some none) (ry : RelV y u)
    (h:∀ s',L2.Inv X pins σ (upd H dx (exd dx ((f,y)::fs))) s'->Q () s'):wpAny (model X.prog X.w) A (setAttr (.ref a) f u) Q E s:=by
  obtain⟨nm,q,N,bs,bm,sn,sub,ab,col,dd,k0,k1,k2,k3,k5,hC,hbm⟩:=T.cls
  have hcl:PySem.W.clsIn X.K C=some {name:=nm,bases:=bs,mro:=.ref C::bm,ns:=N,qualname:=q,hasDict:=true,slotNames:=sn,subclasses:=sub,abstract:=ab,collection:=col,hasDel:=false}:=by unfold PySem.W.clsIn; rw[hC]<;>rfl
  obtain⟨t1,ho⟩:=exo_at I.hok e
  obtain⟨mA,hns,rel⟩:=exd_at I.hok ed
  have hw:=within_of rel
  obtain⟨hp,g,d,t,os⟩:=s
  obtain⟨oD,_,_,hoD,_,_⟩:=hns.count hw
  refine PySem.W.set_plain I.kIn (ox:={cls:=.ref C,dict:=some dx,data:=.fields #[.ref t1,.none,.none,.none,.bool false,.none]}) (od:=some oD) ⟨ho,rfl,rfl,hoD⟩ T.sa ?_
  refine osaX_old I.kIn ho hns hw (by rw[List.length_map]; omega) hcl (show PySem.W.excTail bmB (.ref C::bm)=true from hbm) T.bs.pass T.bs.ob rfl hno (fun h' tk' k hn=>?_)
  have hd:∃ o,h'.get? dx=some o:=by
    obtain⟨o,_,_,e',_⟩:=hn
    exact⟨o,e'⟩
  exact h _ (I.write (t':=tk') (x:=dx) (e:=dx) (o:=exd dx ((f,y)::fs)) (by rw[ed]; exact True.intro) (.inl rfl) k hd (exd_ok hn (relO_put ry rel)))
/-- the built-in __init__,bound to the object,called: the args are laid anew -/
theorem bound_init {u:Addr}{us:List Value}{Q:Value->Shared->Prop} (T:ExC X.K B newId initId bmB C) (I:L2.Inv X pins σ H s) (e:H a=some (exo a C none)) (hu:s.heap.get? u=some (PySem.W.kxs_mw initId a)) (hl:us.length<=sizeLine) (h:∀ s',L2.Inv X pins σ H s'->Q .none s') :
    wpAny (model X.prog X.w) A (call (.ref u) us) Q E s:=by
  obtain⟨nm,q,N,bs,bm,sn,sub,ab,col,dd,k0,k1,k2,k3,k5,hC,hbm⟩:=T.cls
  obtain⟨t1,ho⟩:=exo_at I.hok e
  have hC':=I.kIn _ _ hC
  obtain⟨hp,g,d,t,os⟩:=s
  refine wpAny_call (codeAny_of_tree ?_)
  show wpAny _ A.in1 (callAny (.ref u) ⟨us,[]⟩) _ _ _
  simp only[callAny]
  refine wpAny_bind (wpAny_load hu ?_)
  simp only[PySem.W.kxs_mw,show(Value.type "method-wrapper"==Value.type "method"||Value.type "method-wrapper"==Value.type "builtin_function_or_method"||Value.type "method-wrapper"==Value.type "method-wrapper")=true by decide,if_true]
  refine PySem.W.KFB.if_so (by decide) ?_
  refine wpAny_bind (PySem.W.check_bound_init T.bs.FB.toExcCallFacts hC' ho rfl ?_)
  refine wpAny_bind (wpAny_pure (wpAny_pure ?_))
  refine⟨plainId_quiet T.bs.FB.init.plain _,codeAny_builtin T.bs.FB.initEntry ?_⟩
  refine PySem.W.exc_init_tree (cls:=.ref C) (t0:=t1) (dv:=none) (c2:=.none) (c3:=.none) (b4:=.bool false) ho hl fun h' k hx ht=>?_
  have J:=I.write (t':=t) (x:=a) (e:=a) (o:=exo a C none) (by rw[e]; exact True.intro) (.inl rfl) k ⟨_,hx⟩ (exo_ok hx)
  have eu:upd H a (exo a C none)=H:=by
    funext b
    by_cases hb:b=a
    . rw[hb,upd_same,e]
    . rw[upd_ne hb]
  rw[eu] at J
  exact h _ J
end
open PySem PySem.Spec PyProof.Rows L2
def plO(o:Expr) (env:Env):Sem Bool:=do return (<- importBound o env).getD true
/-- what super() asks of the def's context -/
structure SupX (X:Cx) (D f:Addr) (sn:Str):Prop where
  kd:X.env.scope.kind=.function
  ks:X.env.kindOf "super"=some .globalImplicit
  kc:X.env.kindOf "__class__"=some .free
  fu:X.env.func=some f
  ar:∃ oc od fd osl ar,X.K.lookup f=some ⟨oc,od,.func fd,osl⟩/\(fd.params.posonlyargs++fd.params.args).head?=some ar/\ar.arg=sn
  n0:X.N[0]?=some sn
  ka:X.env.kindOf sn=some .local
  co:∃ cda ccl cdd vs ccs file tf,X.env.code=.ref cda/\X.K.lookup cda=some ⟨ccl,cdd,.fields vs,ccs⟩/\vs[2]?=some (.str file tf)/\((X.prog.main.file:Str)==file)=true
  top:(X.prog.main.scope.names.lookup ("super":Str)).isSome=false
  ce:∃ cc cl cld csl,X.env.cells.lookup ("__class__":Str)=some cc/\X.K.lookup cc=some ⟨cl,cld,.cell (some (.ref D)),csl⟩
  cd:∃ cdD,PySem.W.clsIn X.K D=some cdD
  mg:X.mg "super"=none
section
variable {X:Cx}{pins:List (Addr × Obj)}{σ:L2.St}{H:Hp}{s:Shared}{a C D f:Addr}{sn:Str}{d:Option Addr}{Q:Value->Shared->Prop}{E:Value->Shared->Prop}{body:List Stmt}{p0 p1:Pos}{attr:Str}{whole:Sem Value}
theorem super_obj (U : SupX X D f sn) (I : L2.Inv X pins σ H s) (h0 : σ[0]? = some (some (.ref a))) (e : H a = some (exo a C d)) (hsub : PySem.W.mroIn X.K C (.ref D) = some true) (hat : (attr == ("__class__" : Str)) = false)
    (h:∀ h',(∀ b o,s.heap.get? b=some o->h'.get? b=some o)->h'.get? s.heap.objs.size=some (PySem.W.ks_superObj D a C)->Q (.ref s.heap.objs.size) {s with heap:=h'}) :
    _root_.PySem.wpAt (model X.prog X.w) X.A (.func body X.env) (attributeBase (.Call (.Name "super" p0) [] [] p1) attr X.env whole) Q E s:=by
  obtain⟨oc,od,fd,osl,ar,hf,hp,har⟩:=U.ar
  obtain⟨cda,ccl,cdd,vs,ccs,file,tf,hco,hcode,hvs,hfile⟩:=U.co
  obtain⟨cc,cl,cld,csl,hce,hcell⟩:=U.ce
  obtain⟨cdD,hD⟩:=U.cd
  have KX:=I.kIn
  obtain⟨m,hn,hl⟩:=I.loc
  obtain⟨u,ru,lk⟩:=hl 0 sn (.ref a) U.n0 h0 (.inl (by have:=U.ka; exact this))
  obtain rfl:u=Value.ref a:=ru
  have hv:m sn=some (.ref a):=by
    rcases lk with ⟨_,z⟩ | ⟨k,_⟩
    . exact z
    . have:=U.ka
      rcases k with k | k<;>(rw[this] at k; cases k)
  obtain⟨t1,ho⟩:=exo_at I.hok e
  obtain⟨mb,hb1,hb2⟩:=I.mod.blt
  obtain⟨oD,hD1,hD2⟩:∃ oD,s.heap.get? D=some oD/\oD.data=.cls cdD:=by
    unfold PySem.W.clsIn at hD
    split at hD
    . rename_i c d cd' sl ho
      cases hD
      exact⟨_,KX _ _ ho,rfl⟩
    . cases hD
  refine ks_wpAt_super_base (env:=X.env) U.ks U.kc hat U.fu (KX _ _ hf) rfl hp hco (KX _ _ hcode) rfl hvs hfile U.top ?_
  refine PySem.W.ks_loadName_global U.kd U.ks (Calls.loadGlobal_builtin (by rw[I.ok.glob]; exact I.mod.glob.keeps I.bk) U.mg (by rw[I.ok.blt]; exact hb1.keeps I.bk) ((hb2 _ (by decide)).trans (show bootBuiltins "super"=some (.type "super") by rfl)) ⟨rfl,?_⟩)
  refine wpAny_loadName_free U.kd U.kc hce ⟨_,KX _ _ hcell,rfl⟩ ?_
  rw[har]
  refine wpAny_loadName_local U.kd U.ka hn hv ?_
  obtain⟨hh,g,dr,t,os⟩:=s
  refine ks_wpAny_isType_cls hD1 hD2 ⟨rfl,?_⟩
  exact ks_wpAny_call_super hD1 hD2 ho rfl (fun c e=>by cases e) (PySem.W.looks_mroIn KX hsub) (fun h' e k=>h h' k e)
end
/-- the next __init__ along the mro -/
structure NxtI (K:PySem.W.Frag) (C D:Addr) (v:Value):Prop where
  mro:PySem.W.mroIn K C (.ref D)=some true
  nx:PySem.W.ks_superIn K C D "__init__"=some (some v)
  no:PySem.W.nsIn K cStatics "thirdparty.any"=some none
section
variable {X:Cx}{pins:List (Addr × Obj)}{σ:L2.St}{H:Hp}{s:Shared}{a C D f f2:Addr}{sn:Str}{body:List Stmt}{p0 p1 p2 p3 p4:Pos}{e:Expr}{es:List Expr}{ta:TA}{k:Nat}{sp2:Sp}{K2:Hp->Prop}
theorem pins_new(I:L2.Inv X pins σ H s) {h':Heap}{t':Nat}{q:Addr}{o:Obj} (k:∀ b o,s.heap.get? b=some o->h'.get? b=some o) (hq:s.heap.objs.size<=q) (ho:h'.get? q=some o) (hc:∀ v,o.data≠.cell v):L2.Inv X ((q,o)::pins) σ H {s with heap:=h',toks:=t'}:=by
  have I1:=I.kept (t':=t') k
  refine I1.pins_of fun p hp=>?_
  rcases List.mem_cons.mp hp with hp | hp
  . subst hp
    exact⟨ho,I.hok.fresh hq,fun z=>by
      have:=I.lt
      have z':q=X.env.locals:=z
      rw[z'] at hq
      exact absurd this (Nat.not_lt.mpr hq),I.nofs hq,hc⟩
  . exact I1.pin p (List.mem_append_right _ hp)
theorem sup_bas {B newId initId : String} {bmB : List Value} (U : SupX X D f sn) (T : ExC X.K B newId initId bmB C) (N : NxtI X.K C D (.builtin initId)) (hB : PySem.W.subIn X.K (.ref C) (.type B) = some true) (ha : PA X (e :: es) ta)
    (I:L2.Inv X pins σ H s) (h0:σ[0]?=some (some (.ref a))) (he:H a=some (exo a C none))
    (hcall:eval (.Call (.Attribute (.Call (.Name "super" p0) [] [] p1) "__init__" p2) (e::es) [] p3) X.env=(do
      let ov <- attributeBase (.Call (.Name "super" p0) [] [] p1) "__init__" X.env (eval (.Call (.Name "super" p0) [] [] p1) X.env)
      standAt p2.atName
      let (f,first) <- holding [ov] (getMethod ov "__init__" (plO (.Call (.Name "super" p0) [] [] p1) X.env))
      callWith p3 f first (backTo p3 (starEach (e::es) X.env)) []))
    (hS:starEach (e::es) X.env=(false,eval e X.env)::starEach es X.env) (hP:(backTo p3 (starEach es X.env)).any (·.1)=false) (hsw:swapsWith (.Call (.Attribute (.Call (.Name "super" p0) [] [] p1) "__init__" p2) (e::es) [] p3) none p4.line X.env=pure false)
    (h:ta σ H fun vs H1=>vs.length<=1000/\H1 a=some (exo a C none)/\K2 H1) :
    _root_.PySem.wpAt (model X.prog X.w) X.A (.func body X.env) (exec (.Expr (.Call (.Attribute (.Call (.Name "super" p0) [] [] p1) "__init__" p2) (e::es) [] p3) p4) X.env) (fun fl s'=>fl=.next/\∃ H2,L2.Inv X pins σ H2 s'/\K2 H2) X.xe s:=by
  refine ks_wpAt_Expr_any ?_ (by simp[interactive,I.ok.kind]) hsw
  refine ks_wpAt_MethodCall (pl:=plO (.Call (.Name "super" p0) [] [] p1) X.env) ?_ hcall
  refine super_obj U I h0 he N.mro (by decide) fun h1 k1 e1=>?_
  have I1:=I.kept (t':=s.toks) k1
  have KX:=I1.kIn
  obtain⟨t1,ho⟩:=exo_at I1.hok he
  have J:PySem.W.InstAt h1 a {cls:=.ref C,dict:=none,data:=.fields #[.ref t1,.none,.none,.none,.bool false,.none]} C none:=⟨ho,rfl,rfl,trivial⟩
  obtain⟨cd,hcd,hal⟩:∃ cd,PySem.W.clsIn X.K C=some cd/\PySem.W.alongIn X.K "__init__" ((cd.mro.dropWhile (· != .ref D)).drop 1)=some (some (.builtin initId)):=by
    have:=N.nx
    unfold PySem.W.ks_superIn at this
    cases hc:PySem.W.clsIn X.K C with
    | none=>rw[hc] at this; cases this
    | some cd=>rw[hc] at this; exact⟨cd,rfl,this⟩
  have KX':X.K.In h1:=KX
  have hsz1:s.heap.objs.size<=h1.objs.size:=Nat.le_of_lt (Heap.lt_size e1)
  obtain⟨hh,g,dr,t,os⟩:=s
  refine PySem.W.kxs_getMethod T.bs.KF e1 (PySem.W.looks_opaque KX' N.no) (l₀:=cd.mro) (fun A Q E s k q=>wpAny_bind ((PySem.W.looks_clsIn KX' hcd) A _ E s k (wpAny_pure q))) rfl KX' hal (J.type.andThen (PySem.W.looks_subIn KX' hB)) (PySem.W.ks_ne KX' J hcd) (by decide) ?_
  have I2:L2.Inv X ((h1.objs.size,PySem.W.kxs_mw initId a)::pins) σ H ⟨h1.push (PySem.W.kxs_mw initId a),g,dr,t+1,os⟩ :=
    pins_new (t':=t+1) I (fun b o z=>Heap.get?_push_of_some _ (k1 b o z)) hsz1 (Heap.get?_push_size _ rfl) (fun v z=>by cases z)
  show wpAny _ _ (callWith p3 (.ref h1.objs.size) [] (backTo p3 (starEach (e::es) X.env)) []) _ _ _
  have hrun:wpAny (model X.prog X.w) X.A (spliced (backTo p3 (starEach (e::es) X.env))) (fun us s2=>PySem.W.KxsAt initId h1.objs.size a s2.heap/\wpAny (model X.prog X.w) X.A (call (.ref h1.objs.size) ([]++us)) (fun _ s'=>Flow.next=.next/\∃ H2,L2.Inv X pins σ H2 s'/\K2 H2) X.xe s2) X.xe ⟨h1.push (PySem.W.kxs_mw initId a),g,dr,t+1,os⟩:=by
    refine thn (ha.run p3 _ _ σ H _ I2 h) fun us s2 ⟨vs,H2,I3,rv,hl,he2,q⟩=>?_
    obtain⟨pq,_⟩:=I3.pin _ (List.mem_append_right _ List.mem_cons_self)
    refine⟨pq,?_⟩
    exact bound_init (us:=us) T I3 he2 pq (by rw[<- rv.length,sizeLine_eq]; omega) fun s' I4=>⟨rfl,H2,I4.pins_of fun p hp=>I4.pin p (List.mem_append_right _ (List.mem_cons_of_mem _ hp)),q⟩
  rw[hS] at hrun ⊢
  exact PySem.W.kxs_callWith (i:=initId) (x:=a) (by show(false||(backTo p3 (starEach es X.env)).any (·.1))=false; rw[hP]; rfl) (Calls.evalArgs_plain hrun)
end
open PySem PySem.Spec PyProof.Rows L2
/-- a method that closes over __class__ -/
structure FunS (K:PySem.W.Frag) (x qual:Str) (params:Arguments) (body:List Stmt) (scope:Scope) (file:Str) (D f:Addr) (fd:FuncData):Prop where
  ex:∃ (oc:Value) (od:Option Addr) (kV doc pm:Value) (an:Option Addr) (cda cc:Addr) (ct:Value) (osl:Array (Option Value)),
    fd=PySem.W.fnX x qual params body scope [("__class__",cc)] .none kV doc pm an (.ref cda) ct/\K.lookup f=some ⟨oc,od,.func fd,osl⟩/\PySem.W.codeIn K (.ref cda) qual=true /\
    (∃ ccl cdd vs ccs tf,K.lookup cda=some ⟨ccl,cdd,.fields vs,ccs⟩/\vs[2]?=some (.str file tf))/\∃ cl cld csl,K.lookup cc=some ⟨cl,cld,.cell (some (.ref D)),csl⟩
  cd:∃ cdD,PySem.W.clsIn K D=some cdD
  kp:PySem.W.keepIn K (.ref f)=true
structure FnScopeS (N P:List Str) (sc:Scope):Prop where
  kind:sc.kind=.function
  co:sc.isCoroutine=false
  gen:sc.isGenerator=false
  nd:N.Nodup
  pre:N.take P.length=P
  par:∀ x∈P,sc.names.lookup x=some .local
  nocell:∀ y∈sc.names,y.2≠.cell
  free:∀ y∈sc.names,y.2=.free->y.1="__class__"
  cls:sc.names.lookup ("__class__":Str)=some .free
  sup:sc.names.lookup ("super":Str)=some .globalImplicit
/-- the program's file,super not its own name -/
structure PrgF (P:Program) (file:Str):Prop where
  file:((P.main.file:Str)==file)=true
  sup:(P.main.scope.names.lookup ("super":Str)).isSome=false
abbrev envS (qual:Str) (scope:Scope) (L f:Addr) (cd:Value) (cc:Addr):Env:=PySem.W.envX qual scope L f cd [("__class__",cc)]
theorem zip_sub:∀ {ps:List Str}{us:List Value},List.Sublist ((ps.zip us).map (·.1)) ps
  | [],_=>by simp
  | p::ps,[]=>by simp
  | p::ps,u::us=>by
    show List.Sublist (p::(ps.zip us).map (·.1)) (p::ps)
    exact(zip_sub (ps:=ps) (us:=us)).cons₂ p
theorem look_rev {ps:List Str}{us:List Value} (nd:ps.Nodup):∀ {i:Nat}{x:Str}{u:Value},ps[i]?=some x->us[i]?=some u->(ps.zip us).reverse.lookup x=some u:=by
  intro i x u hx hu
  have hm:(x,u)∈(ps.zip us).reverse:=by
    rw[List.mem_reverse]
    refine List.mem_of_getElem? (i:=i) ?_
    rw[List.getElem?_zip_eq_some]
    exact⟨hx,hu⟩
  have key:∀ {l:List (Str × Value)},(l.map (·.1)).Nodup->(x,u)∈l->l.lookup x=some u:=by
    intro l
    induction l with
    | nil=>intro _ h; cases h
    | cons p r ih =>
      intro hn h
      rw[List.map_cons,List.nodup_cons] at hn
      rcases List.mem_cons.mp h with e | e
      . subst e
        simp[List.lookup]
      . have hne:(x==p.1)=false:=by
          have:x≠p.1:=fun z=>hn.1 (by rw[<- z]; exact List.mem_map.mpr ⟨_,e,rfl⟩)
          simpa using this
        show(match x==p.1 with | true=>some p.2 | false=>r.lookup x)=some u
        rw[hne]
        exact ih hn.2 e
  refine key ?_ hm
  have hs:((ps.zip us).map (·.1)).Nodup:=nd.sublist zip_sub
  rw[List.map_reverse]
  exact List.pairwise_reverse.mpr (hs.imp Ne.symm)
def tOstX(K:PySem.W.Frag) (f:Str) (to te:TE):TS:=fun D σ H=>te σ H fun y H1=>to σ H1 fun x H2=>∃ (a C:Addr) (B n i:String) (bm:List Value),x=.ref a/\ExC K B n i bm C/\PySem.W.findIn K (.ref C) f=some none /\
  ((H2 a=some (exo a C none)/\∀ dx,H2 dx=none->dx≠a->D.nx σ (upd (upd H2 dx (exd dx [(f,y)])) a (exo a C (some dx)))) \/
    ∃ (dx:Addr) (fs:List (Str × V)),H2 a=some (exo a C (some dx))/\H2 dx=some (exd dx fs)/\fs.length<=900/\D.nx σ (upd H2 dx (exd dx ((f,y)::fs))))
section
variable {X:Cx}{o e:Expr}{es:List Expr}{to te:TE}{ta:TA}{f:Str}{p p' p1 p2 pos:Pos}
theorem ps_ostX(ho:PE X o to) (he:PE X e te) (hs:swapsWith e (some (.Attribute o f p')) pos.line X.env=pure false:=by rfl):PS X (.Assign [.Attribute o f p'] e pos) (tOstX X.K f to te):=by
  refine⟨fun pins s σ H D I h=>?_⟩
  refine plainObj_wpAny_Assign_Attribute (thn (he.run pins s σ H _ I h) fun v s1 ⟨y,H1,I1,r1,q1⟩=>thn (ho.run pins s1 σ H1 _ I1 q1) fun u s2 ⟨x,H2,I2,r2,a,C,B,n,i,bm,ex,T,hno,q⟩=>?_) hs
  subst ex
  obtain rfl:u=Value.ref a:=r2
  rcases q with ⟨ea,q⟩ | ⟨dx,fs,ea,ed,hl,q⟩
  . exact ostX_new T I2 ea hno r1 fun dx s' n ne J=>⟨σ,_,J,q dx n ne⟩
  . exact ostX_old T I2 ea ed hl hno r1 fun s' J=>⟨σ,_,J,q⟩
end
/-- what such an __init__ leaves: ok: for objects of these classes; mk: the fields,the last stored first -/
def spX(ok:Addr->Prop) (mk:List V->Option (List (Str × V))):Sp:=fun vs H Q E=>∃ (a C:Addr) (ws:List V) (fs:List (Str × V)),vs=.ref a::ws/\ok C/\H a=some (exo a C none)/\mk ws=some fs/\∀ dx,H dx=none->dx≠a->Q .non (upd (upd H dx (exd dx fs)) a (exo a C (some dx)))
open PySem PySem.Spec PyProof.Rows L2
abbrev MkV:=List V->Option (List (Str × V))
abbrev MkD:=List D->Option (List (Str × D))
/-- an own exception class: what its making leaves -/
structure ExcK (P:Program) (w:World) (K:PySem.W.Frag) (mg:Str->Option Value) (base:Heap) (k:Nat) (C fI:Addr) (mk:MkV) (mkD:MkD):Prop where
  T:∃ B n i bm,ExC K B n i bm C
  iC:PySem.W.findIn K (.ref C) "__init__"=some (some (.ref fI))
  tI:PySem.W.typeIn K (.ref fI)=some (.type "function")
  G:FnR P w K mg base (L2C.CX P w) k fI (spX (fun c=>c=C) mk)
  rel:∀ (R:Hp) (ds:List D) (vs:List V) (fs:List (Str × D)),Reps K R ds vs->mkD ds=some fs->∃ fvs,mk vs=some fvs/\RepF K R fs fvs
theorem ExcK.mono {P:Program}{w:World}{K:PySem.W.Frag}{mg:Str->Option Value}{base:Heap}{j k:Nat}{C fI:Addr}{mk:MkV}{mkD:MkD} (h:ExcK P w K mg base j C fI mk mkD) (q:j<=k):ExcK P w K mg base k C fI mk mkD :=
  ⟨h.T,h.iC,h.tI,FnR.mono h.G q,h.rel⟩
section
variable {X:Cx}{W:WX}{pos p pos':Pos}{e:Expr}{es:List Expr}{U:TL}{k:Nat}{C fI:Addr}{x:Str}{mk:MkV}{mkD:MkD}{ta:TA}
theorem del_back {H1:Hp}{a dx C:Addr}{fs:List (Str × V)} (ha:H1 a=none) (hne:dx≠a):upd (del (upd (upd (upd H1 a (exo a C none)) dx (exd dx fs)) a (exo a C (some dx))) a) dx (.xd fs)=upd H1 dx (.xd fs):=by
  funext b
  by_cases h1:b=dx
  . rw[h1,upd_same,upd_same]
  . rw[upd_ne h1,upd_ne h1]
    by_cases h2:b=a
    . rw[h2,del_same,ha]
    . rw[del_ne h2,upd_ne h2,upd_ne h1,upd_ne h2]
end
open PySem PySem.Spec PyProof.Rows L2
def trk(l:List (Addr × Obj)) (H:Hp):Hp:=fun b=>match l.lookup b with
  | some o=>some (.frz o (.ext fun _=>True))
  | none=>H b
def untrk(l:List (Addr × Obj)) (H:Hp):Hp:=fun b=>match l.lookup b with
  | some _=>none
  | none=>H b
theorem trk_in {l:List (Addr × Obj)}{H:Hp}{b:Addr}{o:Obj} (h:l.lookup b=some o):trk l H b=some (.frz o (.ext fun _=>True)):=by unfold trk; rw[h]
theorem trk_out {l:List (Addr × Obj)}{H:Hp}{b:Addr} (h:l.lookup b=none):trk l H b=H b:=by unfold trk; rw[h]
theorem untrk_in {l:List (Addr × Obj)}{H:Hp}{b:Addr}{o:Obj} (h:l.lookup b=some o):untrk l H b=none:=by unfold untrk; rw[h]
theorem untrk_out {l:List (Addr × Obj)}{H:Hp}{b:Addr} (h:l.lookup b=none):untrk l H b=H b:=by unfold untrk; rw[h]
structure TrkOk (base:Heap) (outer:List Env) (H:Hp) (s:Shared) (l:List (Addr × Obj)):Prop where
  at_:∀ b o,l.lookup b=some o->s.heap.get? b=some o/\H b=none/\base.get? b=none/\b∉frs outer
section
variable {P:Program}{w:World}{K:PySem.W.Frag}{mg:Str->Option Value}{base:Heap}{A:Around}{outer:List Env}{s s':Shared}{H H':Hp}{l:List (Addr × Obj)}{Q:VK}{u:Value}
theorem TrkOk.out(t:TrkOk base outer H s l) {b:Addr}{o:HO} (h:H b=some o):l.lookup b=none:=by
  cases e:l.lookup b with
  | none=>rfl
  | some x =>
    have:=(t.at_ b x e).2.1
    rw[h] at this
    cases this
theorem env0_trk(t:TrkOk base outer H s l) (e0:Env0 P w K mg base A outer s H):Env0 P w K mg base A outer s (trk l H):=by
  refine⟨e0.frames,e0.mod,fun b o e=>⟨(e0.bs b o e).1,?_⟩,e0.bsz,e0.funs,fun b hb=>?_,fun b o e=>?_,e0.bare⟩
  . cases q:l.lookup b with
    | none=>rw[trk_out q]; exact(e0.bs b o e).2
    | some x =>
      have:=(t.at_ b x q).2.2.1
      rw[e] at this
      cases this
  . cases q:l.lookup b with
    | none=>rw[trk_out q]; exact e0.frf b hb
    | some x=>exact absurd hb (t.at_ b x q).2.2.2
  . cases q:l.lookup b with
    | none =>
      rw[trk_out q] at e
      exact(e0.hok b o e).stay (fun c v _ z=>z) (fun c z=>by rw[trk_out (t.out z)]; exact z) fun c xs z=>by rw[trk_out (t.out z)]; exact z
    | some x =>
      rw[trk_in q] at e
      cases e
      exact⟨(t.at_ b x q).1,trivial,⟨x,(t.at_ b x q).1⟩,fun _ _ _ _=>trivial⟩
theorem ce_untrk(t:TrkOk base outer H s l) (h:CE outer P w (trk l H) s (fun v H'=>(∀ b o,l.lookup b=some o->H' b=some (.frz o (.ext fun _=>True)))/\Q v (untrk l H')) u s'):CE outer P w H s Q u s':=by
  obtain⟨v,H',os,bare,un,hok,rv,still,q⟩:=h
  have at':∀ b o,l.lookup b=some o->s'.heap.get? b=some o:=fun b o e=>by
    have x:ObjOk P w H' s'.heap b (.frz o (.ext fun _=>True)):=hok b _ (still b o e)
    exact x.1
  have nx:∀ {b:Addr}{o:HO},H' b=some o->(∀ x φ,o≠.frz x φ)->l.lookup b=none:=fun {b o} e n=>by
    cases z:l.lookup b with
    | none=>rfl
    | some x =>
      rw[still b x z] at e
      exact absurd (Option.some.inj e).symm (n _ _)
  refine⟨v,untrk l H',os,bare,⟨fun b o e n hf hx=>?_,fun b o e n hf hx=>?_,fun b o e n hx=>?_,un.there,fun b xs e=>?_,fun b o u e=>?_,fun b ps e=>?_⟩,fun b o e=>?_,rv,q⟩
  . cases z:l.lookup b with
    | none=>exact un.keep b o e (by rw[trk_out z]; exact n) hf hx
    | some x =>
      have:=(t.at_ b x z).1
      rw[e] at this
      cases this
      exact at' b o z
  . cases z:l.lookup b with
    | none=>exact un.slot b o e (by rw[trk_out z]; exact n) hf hx
    | some x=>exact absurd hf (t.at_ b x z).2.2.2
  . cases z:l.lookup b with
    | none=>rw[untrk_out z]; exact un.free b o e (by rw[trk_out z]; exact n) hx
    | some x=>exact untrk_in z
  . have z:=t.out e
    rw[untrk_out z]
    exact un.tups b xs (by rw[trk_out z]; exact e)
  . have z:=t.out e
    rw[untrk_out z]
    exact un.frzs b o u (by rw[trk_out z]; exact e)
  . have z:=t.out e
    rw[untrk_out z]
    exact un.tbls b ps (by rw[trk_out z]; exact e)
  . cases z:l.lookup b with
    | none =>
      rw[untrk_out z] at e
      exact(hok b o e).stay (fun c v _ z=>z) (fun c z=>by rw[untrk_out (nx z (fun x φ y=>by cases y))]; exact z) fun c xs z=>by rw[untrk_out (nx z (fun x φ y=>by cases y))]; exact z
    | some x =>
      rw[untrk_in z] at e
      cases e
end
section
variable {w:Wd}{R H R1 H1:Hp}{l:List (Addr × Obj)}
theorem out_foot(b:Bas w R H) (t:∀ b o,l.lookup b=some o->H b=none) {a:Addr} (h:w.foot a):l.lookup a=none:=by
  obtain⟨u,hu⟩:=w.there _ _ b.inv h
  cases e:l.lookup a with
  | none=>rfl
  | some x =>
    have:=t a x e
    rw[hu] at this
    cases this
theorem out_some(t:∀ b o,l.lookup b=some o->H b=none) {a:Addr}{o:HO} (h:H a=some o):l.lookup a=none:=by
  cases e:l.lookup a with
  | none=>rfl
  | some x =>
    have:=t a x e
    rw[h] at this
    cases this
theorem same_trk(b:Bas w R H) (t:∀ b o,l.lookup b=some o->H b=none):Same R (trk l R):=fun a o h=>by
  rw[trk_out (out_some t (b.sub a o h))]
  exact h
theorem bas_trk(b:Bas w R H) (t:∀ b o,l.lookup b=some o->H b=none):Bas w (trk l R) (trk l H):=by
  refine⟨fun a o h=>?_,w.ext _ _ b.inv (fun a o hf h=>by rw[trk_out (out_foot b t hf)]; exact h) (fun a φ h=>by rw[trk_out (out_some t h)]; exact h),fun a hf=>by rw[trk_out (out_foot b t hf)]; exact b.ft a hf⟩
  cases e:l.lookup a with
  | none =>
    rw[trk_out e] at h ⊢
    exact b.sub a o h
  | some x =>
    rw[trk_in e] at h ⊢
    exact h
theorem fin_untrk(b:Bas w R H) (t:∀ b o,l.lookup b=some o->H b=none) (f:Fin w (trk l R) (trk l H) R1 H1):Fin w R H (untrk l R1) (untrk l H1):=by
  refine⟨fun a o h=>?_,fun a o h=>?_,fun a o h hf=>?_,fun a o h1 h2 h3=>?_,w.ext _ _ f.inv (fun a o hf h=>by rw[untrk_out (out_foot b t hf)]; exact h) (fun a φ h=>?_),fun a hf=>by rw[untrk_out (out_foot b t hf)]; exact f.ft a hf⟩
  . have z:=out_some t (b.sub a o h)
    rw[untrk_out z]
    exact f.up a o (by rw[trk_out z]; exact h)
  . cases e:l.lookup a with
    | none =>
      rw[untrk_out e] at h ⊢
      exact f.sub a o h
    | some x =>
      rw[untrk_in e] at h
      cases h
  . have z:=out_some t h
    rw[untrk_out z]
    exact f.keep a o (by rw[trk_out z]; exact h) hf
  . have z:=out_some t h2
    rw[untrk_out z]
    exact f.newX a o (by rw[trk_out z]; exact h1) (by rw[trk_out z]; exact h2) h3
  . cases e:l.lookup a with
    | none=>rw[untrk_out e]; exact h
    | some x =>
      have:=f.sub a _ (f.up a _ (trk_in e))
      rw[h] at this
      cases this
end
mutual
def plainD:D->Bool
  | .tup ds=>plainDs ds
  | .lst ds=>plainDs ds
  | .ins _ fs=>plainF fs
  | .dic kvs=>plainK kvs
  | .dicT kvs=>plainT kvs
  | .exc _ _=>false
  | .clo _ _=>false
  | .lam _ _=>false
  | _=>true
def plainDs:List D->Bool
  | []=>true
  | d::ds=>plainD d&&plainDs ds
def plainF:List (Str × D)->Bool
  | []=>true
  | (_,d)::ds=>plainD d&&plainF ds
def plainK:List (Key × D)->Bool
  | []=>true
  | (_,d)::ds=>plainD d&&plainK ds
def plainT:List (List Key × D)->Bool
  | []=>true
  | (_,d)::ds=>plainD d&&plainT ds
end
theorem plainDs_iff:∀ {ds:List D},plainDs ds=true↔∀ d∈ds,plainD d=true
  | []=>by simp[plainDs]
  | d::ds=>by
    show(plainD d&&plainDs ds)=true↔_
    rw[Bool.and_eq_true,plainDs_iff (ds:=ds)]
    simp
section
variable {K:PySem.W.Frag}{R:Hp}{l:List (Addr × Obj)}
mutual
theorem rep_untrk(still:∀ b o,l.lookup b=some o->∃ x φ,R b=some (.frz x (.ext φ))):∀ {d:D}{v:V},plainD d=true->Rep K R d v->Rep K (untrk l R) d v
  | .non,_,_,h=>h
  | .bl _,_,_,h=>h
  | .int _,_,_,h=>h
  | .str _,_,_,h=>h
  | .ty _,_,_,h=>h
  | .ref _,_,_,h=>h
  | .tup ds,v,p,h=>by
    unfold Rep at h ⊢
    obtain⟨q,xs,e,g,r⟩:=h
    exact⟨q,xs,e,by rw[untrk_out (no_ext still g (by intro x φ z; cases z))]; exact g,reps_untrk still p r⟩
  | .lst ds,v,p,h=>by
    unfold Rep at h ⊢
    obtain⟨q,xs,e,g,r⟩:=h
    exact⟨q,xs,e,by rw[untrk_out (no_ext still g (by intro x φ z; cases z))]; exact g,reps_untrk still p r⟩
  | .ins C fs,v,p,h=>by
    unfold Rep at h ⊢
    obtain⟨q,dx,xs,e,g,r⟩:=h
    exact⟨q,dx,xs,e,by rw[untrk_out (no_ext still g (by intro x φ z; cases z))]; exact g,repf_untrk still p r⟩
  | .dic kvs,v,p,h=>by
    unfold Rep at h ⊢
    obtain⟨q,ob,xs,e,g,r⟩:=h
    exact⟨q,ob,xs,e,by rw[untrk_out (no_ext still g (by intro x φ z; cases z))]; exact g,repk_untrk still p r⟩
  | .dicT kvs,v,p,h=>by
    unfold Rep at h ⊢
    obtain⟨q,ob,xs,e,g,r⟩:=h
    exact⟨q,ob,xs,e,by rw[untrk_out (no_ext still g (by intro x φ z; cases z))]; exact g,rept_untrk still p r⟩
  | .exc _ _,_,p,_=>by cases p
  | .clo _ _,_,p,_=>by cases p
  | .lam _ _,_,p,_=>by cases p
theorem reps_untrk(still:∀ b o,l.lookup b=some o->∃ x φ,R b=some (.frz x (.ext φ))):∀ {ds:List D}{vs:List V},plainDs ds=true->Reps K R ds vs->Reps K (untrk l R) ds vs
  | [],_,_,h=>h
  | d::ds,vs,p,h=>by
    unfold Reps at h ⊢
    obtain⟨v,r,e,h1,h2⟩:=h
    obtain⟨p1,p2⟩:=Bool.and_eq_true_iff.mp (show(plainD d&&plainDs ds)=true from p)
    exact⟨v,r,e,rep_untrk still p1 h1,reps_untrk still p2 h2⟩
theorem repf_untrk(still:∀ b o,l.lookup b=some o->∃ x φ,R b=some (.frz x (.ext φ))):∀ {ds:List (Str × D)}{vs:List (Str × V)},plainF ds=true->RepF K R ds vs->RepF K (untrk l R) ds vs
  | [],_,_,h=>h
  | (f,d)::ds,vs,p,h=>by
    unfold RepF at h ⊢
    obtain⟨v,r,e,h1,h2⟩:=h
    obtain⟨p1,p2⟩:=Bool.and_eq_true_iff.mp (show(plainD d&&plainF ds)=true from p)
    exact⟨v,r,e,rep_untrk still p1 h1,repf_untrk still p2 h2⟩
theorem repk_untrk(still:∀ b o,l.lookup b=some o->∃ x φ,R b=some (.frz x (.ext φ))):∀ {ds:List (Key × D)}{vs:List (Key × V)},plainK ds=true->RepK K R ds vs->RepK K (untrk l R) ds vs
  | [],_,_,h=>h
  | (f,d)::ds,vs,p,h=>by
    unfold RepK at h ⊢
    obtain⟨v,r,e,h1,h2⟩:=h
    obtain⟨p1,p2⟩:=Bool.and_eq_true_iff.mp (show(plainD d&&plainK ds)=true from p)
    exact⟨v,r,e,rep_untrk still p1 h1,repk_untrk still p2 h2⟩
theorem rept_untrk(still:∀ b o,l.lookup b=some o->∃ x φ,R b=some (.frz x (.ext φ))):∀ {ds:List (List Key × D)}{vs:List (List Key × V)},plainT ds=true->RepT K R ds vs->RepT K (untrk l R) ds vs
  | [],_,_,h=>h
  | (f,d)::ds,vs,p,h=>by
    unfold RepT at h ⊢
    obtain⟨v,r,e,h1,h2⟩:=h
    obtain⟨p1,p2⟩:=Bool.and_eq_true_iff.mp (show(plainD d&&plainT ds)=true from p)
    exact⟨v,r,e,rep_untrk still p1 h1,rept_untrk still p2 h2⟩
theorem no_ext(still:∀ b o,l.lookup b=some o->∃ x φ,R b=some (.frz x (.ext φ))) {b:Addr}{o:HO} (h:R b=some o) (n:∀ x φ,o≠.frz x (.ext φ)):l.lookup b=none:=by
  cases e:l.lookup b with
  | none=>rfl
  | some x =>
    obtain⟨y,φ,z⟩:=still b x e
    rw[h] at z
    exact absurd (Option.some.inj z) (n y φ)
end
end
/-- what is asked where a callee is run so -/
theorem spW_askX {X : Cx} {W : WX} {F : TF} {S : Sta} {R H : Hp} {σ : L2.St} {env : Ev} {l : List (Addr × Obj)} {φ : D -> Prop} {Q : VK} {vs : List V} {ds : List D} (ok : Ok3 X.K S R H σ env) (t : ∀ b o, l.lookup b = some o -> H b = none) (r : Reps X.K (trk l R) ds vs)
    (h:F S.c.wd ds (fun d=>plainD d=true/\φ d) fun _=>False) (kQ:∀ v H',Pst X.K S.c R H φ v H'->Q v H'):spW X.K F vs (trk l H) (fun v H'=>(∀ b o,l.lookup b=some o->H' b=some (.frz o (.ext fun _=>True)))/\Q v (untrk l H')) (fun _ _ _=>False):=by
  refine⟨S.c.wd,trk l R,ds,_,fun _=>False,bas_trk ok.bas t,r,h,fun v R' H' d f rv q=>?_,fun _ _ _ _ _ _ _ z=>z⟩
  have still:∀ b o,l.lookup b=some o->R' b=some (.frz o (.ext fun _=>True)):=fun b o e=>f.up b _ (trk_in e)
  exact⟨fun b o e=>f.sub b _ (still b o e),kQ v _ ⟨_,d,fin_untrk ok.bas t f,rep_untrk (fun b o e=>⟨_,_,still b o e⟩) q.1 rv,q.2⟩⟩
theorem call_atX {X : Cx} {F : TF} {k : Nat} {f : Addr} {pins : List (Addr × Obj)} {σ : L2.St} {H : Hp} {s : Shared} {l : List (Addr × Obj)} {Q : VK} {us : List Value} {vs : List V} (G : FnR X.prog X.w X.K X.mg X.base (L2C.CX X.prog X.w) k f (spW X.K F)) (hr : Room k X.A)
    (I:L2.Inv X pins σ H s) (t:TrkOk X.base X.stack H s l) (r:Vals vs us) (h:spW X.K F vs (trk l H) (fun v H'=>(∀ b o,l.lookup b=some o->H' b=some (.frz o (.ext fun _=>True)))/\Q v (untrk l H')) (fun _ _ _=>False)) :
    wpAny (model X.prog X.w) X.A (call (.ref f) us) (EP X pins σ Q) X.xe s :=
  wpAny_call (codeAny_mono (G X.A X.stack s (trk l H) us vs _ _ hr (env0_trk t I.env0) r h) fun res s' hres=>match res,hres with
    | .error er,hres=>by
      obtain⟨_,_,_,_,_,_,_,_,_,_,_,_,_,_,z⟩:=hres
      exact z.elim
    | .ok (.ret u),hres=>I.after (ce_untrk t hres))
abbrev FnC (P:Program) (w:World) (K:PySem.W.Frag) (mg:Str->Option Value) (base:Heap) (k:Nat) (f:Addr) (F:TF):Prop:=∀ (A:Around) (outer:List Env) (s:Shared) (H:Hp) (us:List Value) (vs:List V) (Q:VK) (E:XK),L2H.RoomH k A->Env0 P w K mg base A outer s H->Vals vs us->spW K F vs H Q E ->
  codeAny (model P w) A (.call (.ref f) ⟨us,[]⟩) (CR (L2C.CX P w) outer P w H s Q E) s
theorem call_atXC {X : Cx} {F : TF} {k : Nat} {f : Addr} {pins : List (Addr × Obj)} {σ : L2.St} {H : Hp} {s : Shared} {l : List (Addr × Obj)} {Q : VK} {us : List Value} {vs : List V} (G : FnC X.prog X.w X.K X.mg X.base k f F) (hr : L2H.RoomH k X.A)
    (I:L2.Inv X pins σ H s) (t:TrkOk X.base X.stack H s l) (r:Vals vs us) (h:spW X.K F vs (trk l H) (fun v H'=>(∀ b o,l.lookup b=some o->H' b=some (.frz o (.ext fun _=>True)))/\Q v (untrk l H')) (fun _ _ _=>False)) :
    wpAny (model X.prog X.w) X.A (call (.ref f) us) (EP X pins σ Q) X.xe s :=
  wpAny_call (codeAny_mono (G X.A X.stack s (trk l H) us vs _ _ hr (env0_trk t I.env0) r h) fun res s' hres=>match res,hres with
    | .error er,hres=>by
      obtain⟨_,_,_,_,_,_,_,_,_,_,_,_,_,_,z⟩:=hres
      exact z.elim
    | .ok (.ret u),hres=>I.after (ce_untrk t hres))
open PySem PySem.Spec PyProof.Rows L2
abbrev FrzL (H:Hp) (l:List (Addr × Obj)):Prop:=∀ b o,l.lookup b=some o->H b=some (.frz o (.ext fun _=>True))
section
variable {P:Program}{w:World}{K:PySem.W.Frag}{mg:Str->Option Value}{base:Heap}{A:Around}{outer:List Env}{s s':Shared}{H H' R R1 H1:Hp}{l:List (Addr × Obj)}{Q:VK}{E:XK}{u:Value}
theorem FrzL.out(t:FrzL H l) {b:Addr}{o:HO} (h:H b=some o) (n:∀ x φ,o≠.frz x φ):l.lookup b=none:=by
  cases e:l.lookup b with
  | none=>rfl
  | some x =>
    rw[t b x e] at h
    exact absurd (Option.some.inj h).symm (n _ _)
theorem FrzL.outN(t:FrzL H l) {b:Addr} (h:H b=none):l.lookup b=none:=by
  cases e:l.lookup b with
  | none=>rfl
  | some x =>
    rw[t b x e] at h
    cases h
theorem untrk_none(h:H'=untrk l H) {b:Addr} (e:H b=none):untrk l H b=none:=by
  cases z:l.lookup b with
  | none=>rw[untrk_out z]; exact e
  | some x=>exact untrk_in z
theorem hok_untrk(t:FrzL H l) {h:Heap} (hk:HOk P w H h):HOk P w (untrk l H) h:=fun b o e=>by
  cases q:l.lookup b with
  | some x=>rw[untrk_in q] at e; cases e
  | none =>
    rw[untrk_out q] at e
    exact(hk b o e).stay (fun c v _ z=>z) (fun c z=>by rw[untrk_out (t.out z (by intro x φ y; cases y))]; exact z) fun c xs z=>by rw[untrk_out (t.out z (by intro x φ y; cases y))]; exact z
theorem env0_untrk(t:FrzL H l) (e0:Env0 P w K mg base A outer s H):Env0 P w K mg base A outer s (untrk l H) :=
  ⟨e0.frames,e0.mod,fun b o e=>⟨(e0.bs b o e).1,untrk_none rfl (e0.bs b o e).2⟩,e0.bsz,e0.funs,fun b hb=>untrk_none rfl (e0.frf b hb),hok_untrk t e0.hok,e0.bare⟩
theorem hok_trk(hl:∀ b o,l.lookup b=some o->s'.heap.get? b=some o) (hn:∀ b o,l.lookup b=some o->H1 b=none) (hk:HOk P w H1 s'.heap):HOk P w (trk l H1) s'.heap:=fun b o e=>by
  have out:∀ {c:Addr}{x:HO},H1 c=some x->l.lookup c=none:=fun {c x} z=>by
    cases q:l.lookup c with
    | none=>rfl
    | some y=>rw[hn c y q] at z; cases z
  cases q:l.lookup b with
  | none =>
    rw[trk_out q] at e
    exact(hk b o e).stay (fun c v _ z=>z) (fun c z=>by rw[trk_out (out z)]; exact z) fun c xs z=>by rw[trk_out (out z)]; exact z
  | some x =>
    rw[trk_in q] at e
    cases e
    exact⟨hl b x q,trivial,⟨x,hl b x q⟩,fun _ _ _ _=>trivial⟩
theorem ce_trk(t:FrzL H l) (hs:∀ b o,l.lookup b=some o->s.heap.get? b=some o) (hf:∀ b∈frs outer,H b=none) (h:CE outer P w (untrk l H) s (fun v H1=>(∀ b o,l.lookup b=some o->H1 b=none)->Q v (trk l H1)) u s'):CE outer P w H s Q u s':=by
  obtain⟨v,H1,os,bare,un,hok,rv,q⟩:=h
  have lf:∀ b o,l.lookup b=some o->b∉frs outer:=fun b o e z=>by
    have:=hf b z
    rw[t b o e] at this
    cases this
  have hn:∀ b o,l.lookup b=some o->H1 b=none:=fun b o e=>un.free b o (hs b o e) (untrk_in e) (by simp)
  have hl:∀ b o,l.lookup b=some o->s'.heap.get? b=some o:=fun b o e=>un.keep b o (hs b o e) (untrk_in e) (lf b o e) (by simp)
  refine⟨v,trk l H1,os,bare,⟨fun b o e n h1 h2=>un.keep b o e (untrk_none rfl n) h1 h2,fun b o e n h1 h2=>un.slot b o e (untrk_none rfl n) h1 h2,fun b o e n h2=>?_,un.there,fun b xs e=>?_,fun b o u e=>?_,fun b ps e=>?_⟩,hok_trk hl hn hok,rv,q hn⟩
  . rw[trk_out (t.outN n)]
    exact un.free b o e (untrk_none rfl n) h2
  . have z:=t.out e (by intro x φ y; cases y)
    rw[trk_out z]
    exact un.tups b xs (by rw[untrk_out z]; exact e)
  . cases z:l.lookup b with
    | some x =>
      rw[t b x z] at e
      rw[trk_in z]
      exact e
    | none =>
      rw[trk_out z]
      exact un.frzs b o u (by rw[untrk_out z]; exact e)
  . have z:=t.out e (by intro x φ y; cases y)
    rw[trk_out z]
    exact un.tbls b ps (by rw[untrk_out z]; exact e)
theorem cx_trk(t:FrzL H l) (hs:∀ b o,l.lookup b=some o->s.heap.get? b=some o) (l5:∀ b o,l.lookup b=some o->∃ v,o.data=.cell v) (hf:∀ b∈frs outer,H b=none) (h:L2C.CX P w outer (untrk l H) s (fun c d H1=>(∀ b o,l.lookup b=some o->H1 b=none)->E c d (trk l H1)) u s'):L2C.CX P w outer H s E u s':=by
  obtain⟨a,B,H1,cls,d,ck,eu,fl,hok,un,gc,ha,os,bare,q⟩:=h
  have lf:∀ b o,l.lookup b=some o->b∉frs outer:=fun b o e z=>by
    have:=hf b z
    rw[t b o e] at this
    cases this
  have hn:∀ b o,l.lookup b=some o->H1 b=none:=fun b o e=>un.free b o (hs b o e) (untrk_in e)
  have hl:∀ b o,l.lookup b=some o->B.get? b=some o:=fun b o e=>un.keep b o (hs b o e) (untrk_in e) (lf b o e)
  have na:l.lookup a=none:=by
    cases z:l.lookup a with
    | none=>rfl
    | some x =>
      have:=hl a x z
      rw[fl.2.1] at this
      cases this
  have gc2:L2C.GC B (trk l H1) ck:=by
    clear hok un ha q fl
    induction gc with
    | nil=>exact .nil
    | link h1 h2 h3 h4 _ ih =>
      refine .link h1 h2 h3 ?_ ih
      rw[trk_out]
      . exact h4
      . cases z:l.lookup _ with
        | none=>rfl
        | some o =>
          have:=hl _ _ z
          rw[h1] at this
          cases this
          obtain⟨v,y⟩:=l5 _ _ z
          rw[h2] at y
          cases y
  refine⟨a,B,trk l H1,cls,d,ck,eu,fl,hok_trk (s':={s' with heap:=B}) hl hn hok,⟨fun b o e n h1=>un.keep b o e (untrk_none rfl n) h1,un.slot,fun b o e n=>?_,un.there,fun b xs e=>?_,fun b o u e=>?_,fun b ps e=>?_⟩,gc2,by rw[trk_out na]; exact ha,os,bare,q hn⟩
  . rw[trk_out (t.outN n)]
    exact un.free b o e (untrk_none rfl n)
  . have z:=t.out e (by intro x φ y; cases y)
    rw[trk_out z]
    exact un.tups b xs (by rw[untrk_out z]; exact e)
  . cases z:l.lookup b with
    | some x =>
      rw[t b x z] at e
      rw[trk_in z]
      exact e
    | none =>
      rw[trk_out z]
      exact un.frzs b o u (by rw[untrk_out z]; exact e)
  . have z:=t.out e (by intro x φ y; cases y)
    rw[trk_out z]
    exact un.tbls b ps (by rw[untrk_out z]; exact e)
theorem bas_untrk {wd:Wd} (t:FrzL R l) (b:Bas wd R H):Bas wd (untrk l R) (untrk l H):=by
  have tH:FrzL H l:=fun a o e=>b.sub a _ (t a o e)
  have fo:∀ {a},wd.foot a->l.lookup a=none:=fun {a} hf=>t.outN (b.ft a hf)
  refine⟨fun a o h=>?_,wd.ext _ _ b.inv (fun a o hf h=>by rw[untrk_out (fo hf)]; exact h) (fun a φ h=>by rw[untrk_out (tH.out h (by intro x φ y; cases y))]; exact h),fun a hf=>untrk_none rfl (b.ft a hf)⟩
  cases e:l.lookup a with
  | some x=>rw[untrk_in e] at h; cases h
  | none =>
    rw[untrk_out e] at h ⊢
    exact b.sub a o h
theorem same_trk1(hn:∀ b o,l.lookup b=some o->R1 b=none):Same R1 (trk l R1):=fun b o h=>by
  cases e:l.lookup b with
  | none=>rw[trk_out e]; exact h
  | some x=>rw[hn b x e] at h; cases h
theorem fin_trk {wd:Wd} (t:FrzL R l) (b:Bas wd R H) (hn:∀ b o,l.lookup b=some o->H1 b=none) (f:Fin wd (untrk l R) (untrk l H) R1 H1):Fin wd R H (trk l R1) (trk l H1):=by
  have tH:FrzL H l:=fun a o e=>b.sub a _ (t a o e)
  have hn1:∀ {a:Addr}{o:HO},H1 a=some o->l.lookup a=none:=fun {a o} h=>by
    cases e:l.lookup a with
    | none=>rfl
    | some x=>rw[hn a x e] at h; cases h
  refine⟨fun a o h=>?_,fun a o h=>?_,fun a o h hf=>?_,fun a o h1 h2 h3=>?_,wd.ext _ _ f.inv (fun a o hf h=>by rw[trk_out (hn1 h)]; exact h) (fun a φ h=>by rw[trk_out (hn1 h)]; exact h),fun a hf=>by rw[trk_out (t.outN (b.ft a hf))]; exact f.ft a hf⟩
  . cases e:l.lookup a with
    | some x =>
      rw[t a x e] at h
      rw[trk_in e]; exact h
    | none=>rw[trk_out e]; exact f.up a o (by rw[untrk_out e]; exact h)
  . cases e:l.lookup a with
    | some x=>rw[trk_in e] at h ⊢; exact h
    | none=>rw[trk_out e] at h ⊢; exact f.sub a o h
  . cases e:l.lookup a with
    | some x =>
      rw[tH a x e] at h
      rw[trk_in e]; exact h
    | none=>rw[trk_out e]; exact f.keep a o (by rw[untrk_out e]; exact h) hf
  . have e:=t.outN h1
    rw[trk_out e]
    exact f.newX a o (by rw[untrk_out e]; exact h1) (by rw[untrk_out e]; exact h2) h3
/-- the cells as a list -/
theorem cells_list:∀ {cl:List (Str × Addr)}{us:List V},CellsAt R cl us->∃ l:List (Addr × Obj),FrzL R l/\(∀ p∈cl,∃ o v,l.lookup p.2=some o/\o.data=.cell (some v))/\us.length=cl.length /\
    (∀ (i:Nat) (v:V),us[i]?=some v->∃ p o u,cl[i]?=some p/\l.lookup p.2=some o/\o.data=.cell (some u)/\RelV v u)/\∀ b o,l.lookup b=some o->∃ v,o.data=.cell v
  | [],us,h=>by
    have e:us=[]:=h
    subst e
    refine⟨[],?_,?_,rfl,?_,fun b o e=>by cases e⟩
    . intro b o e
      cases e
    . intro p hp
      cases hp
    . intro i v e
      simp at e
  | (x,c)::r,us,h=>by
    obtain⟨v,t,ob,u,e,h1,h2,h3,h4⟩:=h
    subst e
    obtain⟨l,l1,l2,l3,l4,l5⟩:=cells_list h4
    have lk:∀ b,((c,ob)::l).lookup b=if b=c then some ob else l.lookup b:=fun b=>by
      rw[List.lookup_cons]
      by_cases hb:b=c
      . rw[if_pos hb,beq_iff_eq.mpr hb]
      . rw[if_neg hb,beq_eq_false_iff_ne.mpr hb]
    have same:∀ {b o},l.lookup b=some o->((c,ob)::l).lookup b=some o:=fun {b o} e=>by
      rw[lk]
      by_cases hb:b=c
      . rw[if_pos hb]
        have z:=l1 b o e
        rw[hb,h1] at z
        injection z with z
        injection z with z
        rw[z]
      . rw[if_neg hb]; exact e
    refine⟨(c,ob)::l,fun b o e=>?_,fun p hp=>?_,congrArg Nat.succ l3,fun i v' e=>?_,fun b o e=>?_⟩
    . rw[lk] at e
      by_cases hb:b=c
      . rw[if_pos hb] at e
        cases e
        rw[hb]; exact h1
      . rw[if_neg hb] at e
        exact l1 b o e
    . rcases List.mem_cons.mp hp with z | z
      . subst z
        exact⟨ob,u,by rw[lk,if_pos rfl],h2⟩
      . obtain⟨o,v,e1,e2⟩:=l2 p z
        exact⟨o,v,same e1,e2⟩
    . cases i with
      | zero =>
        have:v=v':=by simpa using e
        subst this
        exact⟨(x,c),ob,u,rfl,by rw[lk,if_pos rfl],h2,h3⟩
      | succ i =>
        obtain⟨p,o,u',a1,a2,a3,a4⟩:=l4 i v' (by simpa using e)
        exact⟨p,o,u',by simpa using a1,same a2,a3,a4⟩
    . rw[lk] at e
      by_cases hb:b=c
      . rw[if_pos hb] at e
        cases e
        exact⟨_,h2⟩
      . rw[if_neg hb] at e
        exact l5 b o e
end
/-- no parameter,no name of its own -/
structure LamK (scope:Scope):Prop where
  kind:scope.kind=.function
  co:scope.isCoroutine=false
  gen:scope.isGenerator=false
  own:∀ y∈scope.names,y.2≠.cell
  fr:∀ y∈lamN scope,scope.names.lookup y=some .free
  nd:(lamN scope).Nodup
def lamKB(scope:Scope):Bool:=decide (scope.kind=.function)&&!scope.isCoroutine&&!scope.isGenerator&&(scope.names.all fun y=>!decide (y.2=.cell))&&((lamN scope).all fun y=>decide (scope.names.lookup y=some .free))&&decide (lamN scope).Nodup
theorem lamK_by {scope:Scope} (h:lamKB scope=true):LamK scope:=by
  unfold lamKB at h
  simp only[Bool.and_eq_true,Bool.not_eq_true',decide_eq_true_eq,decide_eq_false_iff_not,List.all_eq_true] at h
  obtain⟨⟨⟨⟨⟨h1,h2⟩,h3⟩,h4⟩,h6⟩,h5⟩:=h
  exact⟨h1,h2,h3,h4,h6,h5⟩
/-- what a lambda's scope must be where it is made -/
structure LamS2 (sc scope:Scope):Prop where
  kind:scope.kind=.function
  co:scope.isCoroutine=false
  gen:scope.isGenerator=false
  own:∀ y∈scope.names,y.2≠.cell
  free:∀ y∈scope.names,y.2=.free->sc.names.lookup y.1=some .cell\/sc.names.lookup y.1=some .free
def lamSB2(sc scope:Scope):Bool :=
  decide (scope.kind=.function)&&!scope.isCoroutine&&!scope.isGenerator&&scope.names.all fun y=>!decide (y.2=.cell)&&(!decide (y.2=.free)||decide (sc.names.lookup y.1=some .cell)||decide (sc.names.lookup y.1=some .free))
theorem lamS2_by {sc scope:Scope} (h:lamSB2 sc scope=true):LamS2 sc scope:=by
  unfold lamSB2 at h
  simp only[Bool.and_eq_true,Bool.or_eq_true,Bool.not_eq_true',decide_eq_true_eq,decide_eq_false_iff_not,List.all_eq_true] at h
  obtain⟨⟨⟨h1,h2⟩,h3⟩,h4⟩:=h
  refine⟨h1,h2,h3,fun y hy=>(h4 y hy).1,fun y hy e=>?_⟩
  rcases (h4 y hy).2 with (z | z) | z
  . exact absurd e z
  . exact .inl z
  . exact .inr z
theorem LamS2.has {X:Cx}{scope:Scope} (L:LamS2 X.env.scope scope) (ok:X.Ok):∀ y∈scope.names,y.2=.free->∃ c,X.env.cells.lookup y.1=some c:=fun y hy e=>by
  rcases L.free y hy e with k | k
  . exact ok.has _ (.inl k)
  . exact ok.has _ (.inr k)
theorem lookup_nd:∀ {cl:List (Str × Addr)}{i:Nat}{p:Str × Addr},(cl.map (·.1)).Nodup->cl[i]?=some p->cl.lookup p.1=some p.2
  | [],i,p,_,h=>by simp at h
  | q::r,0,p,_,h=>by
    have e:q=p:=by simpa using h
    subst e
    rw[List.lookup_cons,beq_self_eq_true]
  | q::r,i+1,p,nd,h=>by
    have h2:r[i]?=some p:=by simpa using h
    rw[List.map_cons,List.nodup_cons] at nd
    have hne:p.1≠q.1:=fun e=>nd.1 (by rw[<- e]; exact List.mem_map.mpr ⟨p,List.mem_of_getElem? h2,rfl⟩)
    rw[List.lookup_cons,beq_eq_false_iff_ne.mpr hne]
    exact lookup_nd nd.2 h2
theorem lamN_mem {scope:Scope}{y:Str} (h:scope.names.lookup y=some .free):y∈lamN scope:=by
  unfold lamN
  rw[List.mem_reverse]
  exact List.mem_map.mpr ⟨(y,.free),List.mem_filter.mpr ⟨PySem.mem_of_lookup h,rfl⟩,rfl⟩
abbrev envL (L:LamC) (cl:List (Str × Addr)) (f c' n:Addr):Env:=PySem.W.envX L.qual L.scope n f (.ref c') cl
/-- the context of a lambda's body -/
def cxL(P:Program) (w:World) (K:PySem.W.Frag) (mg:Str->Option Value) (base:Heap) (L:LamC) (cl:List (Str × Addr)) (f c':Addr) (A:Around) (outer:List Env) (s:Shared) (H:Hp) (E:XK):Cx where
  prog:=P
  w:=w
  K:=K
  mg:=mg
  base:=base
  A:=A.deeper (envL L cl f c' s.heap.objs.size)
  N:=lamN L.scope
  s_0:=s
  H_0:=H
  env:=envL L cl f c' s.heap.objs.size
  outer:=outer
  stack:=envL L cl f c' s.heap.objs.size::outer
  ex:=[]
  fn:=fun _=>false
  calm:=true
  pn:=[]
  xe:=fun e s'=>wpAny (model P w) (A.deeper (envL L cl f c' s.heap.objs.size)) (leaving (envL L cl f c' s.heap.objs.size) e) (fun _ s''=>L2C.CX P w outer H s E e s'') (fun e' s''=>L2C.CX P w outer H s E e' s'') s'
theorem tkL {P:Program}{w:World}{K:PySem.W.Frag}{mg:Str->Option Value}{base:Heap}{L:LamC}{cl:List (Str × Addr)}{f c':Addr}{A:Around}{outer:List Env}{s:Shared}{H:Hp}{E:XK}:L2C.Takes (cxL P w K mg base L cl f c' A outer s H E) (W3 E):=L2C.takes_of rfl rfl rfl rfl
section
variable {P:Program}{w:World}{K:PySem.W.Frag}{mg:Str->Option Value}{base:Heap}{A:Around}{outer:List Env}{s:Shared}{H:Hp}{l:List (Addr × Obj)}{E:XK}
theorem lam_start3 {L : LamC} {cl : List (Str × Addr)} {f c' : Addr} {us : List V} {h₁ : Heap} {tk : Nat} {bd : List (Str × Value)} (LK : LamK L.scope) (hn : cl.map (·.1) = lamN L.scope) (inj : ∀ x y a, cl.lookup x = some a -> cl.lookup y = some a -> x = y)
    (e0:Env0 P w K mg base A outer s H) (hd:A.handled=none) (hs:∀ b o,l.lookup b=some o->s.heap.get? b=some o) (hH:∀ b o,l.lookup b=some o->H b=none)
    (l2:∀ p∈cl,∃ o v,l.lookup p.2=some o/\o.data=.cell (some v)) (l3:us.length=cl.length) (l4:∀ (i:Nat) (v:V),us[i]?=some v->∃ p o u,cl[i]?=some p/\l.lookup p.2=some o/\o.data=.cell (some u)/\RelV v u)
    (hns:h₁.Ns s.heap.objs.size fun y=>bd.reverse.lookup y) (kp:∀ b o,s.heap.get? b=some o->h₁.get? b=some o) :
    Inv (cxL P w K mg base L cl f c' A outer s H E) [] (us.map some) H {s with heap:=h₁,toks:=tk}:=by
  have nd:(cl.map (·.1)).Nodup:=by rw[hn]; exact LK.nd
  have look:∀ {y},L.scope.names.lookup y=some .free->∃ c,cl.lookup y=some c:=fun {y} hl=>by
    have hy:=lamN_mem hl
    rw[<- hn] at hy
    obtain⟨p,hp,e⟩:=List.mem_map.mp hy
    obtain⟨i,hi⟩:=List.getElem?_of_mem hp
    exact⟨p.2,by rw[<- e]; exact lookup_nd nd hi⟩
  have noA:∀ b:Addr,b∉(cxL P w K mg base L cl f c' A outer s H E).ex:=fun b z=>absurd (show b∈([]:List Addr) from z) (by simp)
  have cell2:∀ {y c},cl.lookup y=some c->∃ o v,l.lookup c=some o/\o.data=.cell (some v):=fun {y c} e=>l2 (y,c) (PySem.mem_of_lookup e)
  refine⟨⟨e0.mod,LK.kind,rfl,rfl,Nat.le_refl _,fun y z c e1 e2=>inj y z c e1 e2,fun y hy=>?_,fun y c z _=>?_,fun _=>hd,Around.frames_deeper e0.frames,.inr ⟨rfl,rfl⟩,fun b z=>absurd z (noA b),e0.bs,e0.bsz,fun b _ _=>noA b,
      fun b z=>absurd z (noA b),e0.funs,e0.frf⟩,
    rfl,e0.bare,Un.kept kp,⟨_,hns,fun i y v e1 e2 e3=>?_⟩,fun y c e=>?_,e0.hok.fresh (Nat.le_refl _),fun y c e=>?_,fun q hq=>absurd (show q∈([]:List (Addr × Obj))++[] from hq) (by simp),e0.hok.kept kp,?_⟩
  . have hy:L.scope.names.lookup y=some .cell\/L.scope.names.lookup y=some .free:=hy
    rcases hy with hy | hy
    . exact absurd rfl (LK.own _ (PySem.mem_of_lookup hy))
    . exact look hy
  . have z:false=true:=z
    cases z
  . have e3:Vis L.scope y:=e3
    rcases e3 with k | k | k
    . have q:=LK.fr y (List.mem_of_getElem? (show(lamN L.scope)[i]?=some y from e1))
      rw[k] at q
      cases q
    . exact absurd rfl (LK.own _ (PySem.mem_of_lookup k))
    . have e4:us[i]?=some v:=by
        rw[List.getElem?_map] at e2
        cases z:us[i]? with
        | none=>rw[z] at e2; cases e2
        | some a=>rw[z] at e2; cases e2; rfl
      obtain⟨p,o,u,a1,a2,a3,a4⟩:=l4 i v e4
      have e5:p.1=y:=by
        have e6:(lamN L.scope)[i]?=some y:=e1
        rw[<- hn,List.getElem?_map,a1] at e6
        exact Option.some.inj e6
      refine⟨u,a4,.inr ⟨.inr k,p.2,?_,⟨o,kp _ _ (hs _ _ a2),a3⟩⟩⟩
      rw[<- e5]
      exact lookup_nd nd a1
  . obtain⟨o,v,a1,a2⟩:=cell2 e
    exact⟨some v,o,kp _ _ (hs _ _ a1),a2⟩
  . obtain⟨o,v,a1,a2⟩:=cell2 e
    exact hH _ _ a1
  . show(us.map some).length=(lamN L.scope).length
    rw[List.length_map,l3,<- hn,List.length_map]
end
/-- what a lambda promises to whoever calls it: ds are the values that it captured -/
def LamF(P:Program) (w:World) (K:PySem.W.Frag) (mg:Str->Option Value) (base:Heap) (k:Nat) (L:LamC) (F:TF):Prop:=∀ (A:Around) (outer:List Env) (s:Shared) (H R:Hp) (f:Addr) (cl:List (Str × Addr)) (us:List V) (ds:List D) (wd:Wd) (φ:D->Prop) (ε:Er->Prop) (Q:VK) (E:XK),
  Room k A->Env0 P w K mg base A outer s H->Bas wd R H->LamAt R L cl f->CellsAt R cl us->Reps K R ds us->F wd ds φ ε->(∀ v R' H' d,Fin wd R H R' H'->Rep K R' d v->φ d->Q v H')->(∀ cls od R' H' ex,Fin wd R H R' H'->XRep K R' ex cls od->ε ex->E cls od H') ->
  codeAny (model P w) A (.call (.ref f) ⟨[],[]⟩) (CR (L2C.CX P w) outer P w H s Q E) s
theorem slots_v {K:PySem.W.Frag}{R H:Hp}:∀ {ds:List D}{us:List V},Reps K R ds us->Paired (SlOk K R H) (us.map some) (ds.map Sl.v)
  | [],us,h=>by
    have e:us=[]:=h
    subst e
    exact .nil
  | d::ds,us,h=>by
    obtain⟨v,r,e,h1,h2⟩:=(show ∃ v r,us=v::r/\Rep K R d v/\Reps K R ds r from h)
    subst e
    exact .cons ⟨v,rfl,h1⟩ (slots_v h2)
theorem mapv_ad {ds:List D}{i:Nat}:adAt (ds.map Sl.v) i=none:=by
  unfold adAt
  rw[List.getElem?_map]
  cases ds[i]?<;>rfl
def DvS(h:Heap) (ps:Arguments) (dV:Value):Prop:=(ps.defaults=[]/\dV=.none)\/(ps.defaults≠[]/\∃ t v,dV=.ref t/\h.get? t=some (PySem.W.kdv_tup [v]))
theorem lamF0 {P : Program} {w : World} {K : PySem.W.Frag} {mg : Str -> Option Value} {base : Heap} {k : Nat} {L : LamC} {F : TF} {T : TD} (LK : LamK L.scope)
    (hbind:∀ (s:Shared) (q:Str) (cl:List (Str × Addr)) (dV doc pm cv ctv:Value),DvS s.heap L.params dV->∃ bd,BindsTo s (PySem.W.kdv_fn "<lambda>" q L.params (.expr L.body) L.scope cl dV doc pm cv ctv) ⟨[],[]⟩ bd/\∀ y∈bd,L.scope.names.lookup y.1=some .local)
    (hbody:∀ (cl:List (Str × Addr)) (f c':Addr) (A:Around) (outer:List Env) (s:Shared) (H:Hp) (E:XK),Room k (A.deeper (envL L cl f c' s.heap.objs.size))->DE (cxL P w K mg base L cl f c' A outer s H E) (W3 E) L.body T)
    (hT:∀ wd ds φ ε,F wd ds φ ε->plainDs ds=true/\T ⟨wd,fun ex _=>ε ex⟩ (ds.map .v) φ):LamF P w K mg base (k+1) L F:=by
  intro A outer s H R f cl us ds wd φ ε Q E hr e0 b la ca rr hF hQ hE
  obtain⟨c',pm,ctv,dV,doc,o,hf,hfo,hc,hn,inj,hdv⟩:=la
  obtain⟨l,t,l2,l3,l4,l5⟩:=cells_list ca
  have tH:FrzL H l:=fun a o e=>b.sub a _ (t a o e)
  have hs:∀ b o,l.lookup b=some o->s.heap.get? b=some o:=fun a o e=>(e0.hok a _ (tH a o e)).1
  have of1:=hfo _ _ _ _ (e0.hok f o (b.sub _ _ hf))
  obtain⟨⟨oc,vs,tt,hoc,hdc,hvc⟩,_,_⟩:=e0.hok c' _ (b.sub _ _ hc)
  have lim:s.heap.NoLimit:=e0.mod.nolimit.keeps fun b o e=>(e0.bs b o e).1
  obtain⟨hp,hT⟩:=hT wd ds φ ε hF
  have e1:=env0_untrk tH e0
  refine PySem.W.kla_callFunE hr.depth of1 rfl LK.co LK.gen rfl ⟨c',oc,vs,tt,rfl,hoc,hdc,hvc⟩ ?_
  have hdS:DvS s.heap L.params dV:=by
    rcases hdv with h | ⟨h1,t',v',h2,h3⟩
    . exact .inl h
    . exact .inr ⟨h1,t',v',h2,(e0.hok t' _ (b.sub _ _ h3)).1⟩
  obtain⟨bd,hbd,hloc⟩:=hbind s L.qual cl dV doc pm (.ref c') ctv hdS
  refine hbd _ _ _ _ ?_
  refine wpAny_newFunctionEnv (fun y hy=>LK.own y hy) hloc (fun h₁ hns hsb=>⟨lim.fresh _ hsb,?_⟩) LK.kind
  show codeAny _ _ (.expr L.body (envL L cl f c' s.heap.objs.size)) _ _
  have kp:∀ b o,s.heap.get? b=some o->h₁.get? b=some o:=fun b o e=>hsb.extBut b o (Nat.ne_of_lt (Heap.lt_size e)) (Heap.get?_push_of_some _ e)
  have J:Inv (cxL P w K mg base L cl f c' A outer s (untrk l H) (fun c d H1=>(∀ b o,l.lookup b=some o->H1 b=none)->E c d (trk l H1))) [] (us.map some) (untrk l H) {s with heap:=h₁,toks:=s.toks+bd.length} :=
    lam_start3 LK hn inj e1 hr.hd hs (fun b o e=>untrk_in e) l2 l3 l4 hns kp
  have b1:=bas_untrk t b
  have r1:Reps K (untrk l R) ds us:=reps_untrk (fun b o e=>⟨_,_,t b o e⟩) hp rr
  have ok:Ok3 K ⟨⟨wd,fun ex _=>ε ex⟩,untrk l R,untrk l H,untrk l R⟩ (untrk l R) (untrk l H) (us.map some) (ds.map .v) :=
    ⟨Fin.refl b1,fun _ _ h=>h,slots_v r1,fun i p h=>(by rw[mapv_ad] at h; cases h),fun i j p h _=>(by rw[mapv_ad] at h; cases h)⟩
  have R1n:∀ {R1 H1:Hp},Fin wd (untrk l R) (untrk l H) R1 H1->(∀ b o,l.lookup b=some o->H1 b=none)->∀ b o,l.lookup b=some o->R1 b=none:=fun {R1 H1} f hn b o e=>by
    cases z:R1 b with
    | none=>rfl
    | some x =>
      have:=f.sub b x z
      rw[hn b o e] at this
      cases this
  refine PySem.W.kla_codeExpr (wpAny_mono ((hbody cl f c' A outer s (untrk l H) _ (hr.deeper _)).run [] _ _ (untrk l H) (fun v H1=>(∀ b o,l.lookup b=some o->H1 b=none)->Q v (trk l H1)) J ?_) (fun v s' hq=>?_) fun e s' hq=>?_)
  . refine⟨⟨⟨wd,fun ex _=>ε ex⟩,untrk l R,untrk l H,untrk l R⟩,untrk l R,ds.map .v,φ,?_,ok,hT,?_⟩
    . intro R' H' σ env cls od ex ok' xr q hn
      have f:=ok'.fin
      obtain⟨e1,dx,fvs,e2,e3,e4⟩:=xr
      have sm:=same_trk1 (R1n f hn)
      exact hE cls od _ _ ex (fin_trk t b hn f) ⟨e1,dx,fvs,e2,sm _ _ e3,e4.mono sm⟩ q
    . rintro v H1 ⟨R1,d,f,rv,q⟩ hn
      exact hQ v _ _ d (fin_trk t b hn f) (rv.mono (same_trk1 (R1n f hn))) q
  . obtain⟨w',H',J',rv,q⟩:=hq
    exact ce_trk tH hs e0.frf ⟨w',H',J'.os,J'.bare,J'.base,J'.hok,rv,q⟩
  . exact wpAny_mono hq (fun _ s'' z=>cx_trk tH hs l5 e0.frf z) fun e' s'' z=>cx_trk tH hs l5 e0.frf z
/-- a lambda without parameters -/
theorem lamF {P : Program} {w : World} {K : PySem.W.Frag} {mg : Str -> Option Value} {base : Heap} {k : Nat} {L : LamC} {F : TF} {T : TD} (LK : LamK L.scope)
    (hbind:∀ (q:Str) (cl:List (Str × Addr)) (pm cv ctv:Value),bindArgs (PySem.W.kla_fn "<lambda>" q L.params L.body L.scope cl pm cv ctv) ⟨[],[]⟩=pure [])
    (hbody:∀ (cl:List (Str × Addr)) (f c':Addr) (A:Around) (outer:List Env) (s:Shared) (H:Hp) (E:XK),Room k (A.deeper (envL L cl f c' s.heap.objs.size))->DE (cxL P w K mg base L cl f c' A outer s H E) (W3 E) L.body T)
    (hT:∀ wd ds φ ε,F wd ds φ ε->plainDs ds=true/\T ⟨wd,fun ex _=>ε ex⟩ (ds.map .v) φ) (hd:L.params.defaults=[]:=by rfl) (hd2:∀ (q:Str) (cl:List (Str × Addr)) (doc pm cv ctv:Value),bindArgs (PySem.W.kdv_fn "<lambda>" q L.params (.expr L.body) L.scope cl .none doc pm cv ctv) ⟨[],[]⟩=pure []:=by intro _ _ _ _ _ _; rfl):LamF P w K mg base (k+1) L F :=
  lamF0 LK (fun s q cl dV doc pm cv ctv h=>by
    rcases h with ⟨_,e⟩ | ⟨e,_⟩
    . subst e
      exact⟨[],BindsTo.of_eq (hd2 q cl doc pm cv ctv),fun y hy=>absurd hy (by simp)⟩
    . exact absurd hd e) hbody hT
section
variable {X:Cx}{W:WX}{pos:Pos}
def TClo(P:Program) (w:World) (K:PySem.W.Frag) (mg:Str->Option Value) (base:Heap) (k:Nat) (i:Nat):TD:=fun c env φ=>∃ L ds F,env[i]?=some (.v (.clo L ds))/\LamF P w K mg base k L F/\F c.wd ds φ fun ex=>c.er ex env
theorem de_clo (i : Nat) {x : Str} {p : Pos} {k : Nat} (hr : Room k X.A) (tk : L2C.Takes X W) (hN : X.N[i]? = some x := by rfl) (hv : Vis X.env.scope x := by first | exact Or.inl rfl | exact Or.inr (Or.inl rfl) | exact Or.inr (Or.inr rfl))
    (hd:(x==("__debug__":Str))=false:=by decide) (hcd:(x==("__classdict__":Str))=false:=by decide):DE X W (.Call (.Name x p) [] [] pos) (TClo X.prog X.w X.K X.mg X.base k i):=by
  refine⟨fun pins s σ H Q I ⟨S,R,env,φ,lk,ok,⟨L,ds,F,e0,LF,hF⟩,hQ⟩=>?_⟩
  obtain⟨v,hv1,f,cl,us,ev,la,ca,rr⟩:=ok.val e0
  subst ev
  have la0:=la
  obtain⟨c',pm,ctv,dV,doc,o,hf,hfo,hc,hn,inj,hdv⟩:=la0
  refine wpAny_Call_Name_kw (thn ((pe_var (pos:=p) (i:=i) hN hv hd hcd).run pins s σ H (fun v H1=>v=.ref f/\H1=H) I ⟨.ref f,hv1,rfl,rfl⟩) fun u s1 ⟨v,H1,I1,r1,q1⟩=>?_)
  obtain⟨ev,eH⟩:=q1
  subst ev
  rw[eH] at I1
  obtain rfl:u=Value.ref f:=r1
  have of1:=hfo _ _ _ _ (I1.hok f o (ok.bas.sub _ _ hf))
  refine PySem.W.callWith_F0 ⟨_,_,_,_,of1⟩ ?_
  refine wpAny_call (codeAny_mono (LF X.A X.stack s1 H R f cl us ds S.c.wd φ (fun ex=>S.c.er ex env) Q (WE W σ) hr I1.env0 ok.bas la ca rr hF (fun v R' H' d f' rv q=>hQ v H' ⟨R',d,f',rv,q⟩) ?_) fun res s' hres=>match res,hres with
    | .error er,hres=>L2C.passAt tk σ pins H s1 er s' I1 hres
    | .ok (.ret u),hres=>I1.after hres)
  intro cls od R' H' ex f' xr q
  exact lk R' H' σ env cls od ex (ok.through f') xr q
end
open PySem PySem.Spec PyProof.Rows L2
/-- a world that holds the tables T -/
structure WdT (T:List (Addr × Str)) (wd:Wd):Prop where
  tabs:∀ H,wd.inv H->LamX.Tabs T H
  foot:∀ p∈T,wd.foot p.1
  pres:∀ H H1,wd.inv H->LamX.ExtN H H1->LamX.Tabs T H1->wd.inv H1
  noext:∀ H b φ,wd.inv H->wd.foot b->H b≠some (.ext φ)
def slD(env:Ev):List Nat->List D->Prop
  | [],ds=>ds=[]
  | i::r,ds=>∃ d t,ds=d::t/\env[i]?=some (.v d)/\slD env r t
def TCallLam(T:List (Addr × Str)) (F:TF) (L:LamC) (ix:List Nat):TD:=fun c env φ=>WdT T c.wd/\∃ vals,slD env ix vals/\plainDs vals=true/\F c.wd [.clo L vals] (fun d=>plainD d=true/\φ d) fun _=>False
theorem cloFrom_names {cells:List (Str × Addr)}:∀ (names:List (Str × NameKind)) (acc:List (Str × Addr)),(cloFrom cells names acc).map (·.1)=((names.filter fun y=>y.2==.free).map (·.1)).reverse++acc.map (·.1)
  | [],acc=>rfl
  | (n,k)::r,acc=>by
    unfold cloFrom
    by_cases hk:(k==.free)=true
    . rw[if_pos hk,cloFrom_names r,List.filter_cons,if_pos hk]
      simp
    . rw[if_neg hk,cloFrom_names r,List.filter_cons,if_neg hk]
section
variable {X:Cx}{W:WX}{pos:Pos}{k:Nat}{g:Addr}{F:TF}{T:List (Addr × Str)}
theorem cell_stack {pins:List (Addr × Obj)}{σ:L2.St}{H:Hp}{s:Shared} (I:L2.Inv X pins σ H s) {c:Addr}{o:Obj}{v:Option Value} (h:X.s_0.heap.objs.size<=c) (e:s.heap.get? c=some o) (hd:o.data=.cell v):c∉frs X.stack/\X.base.get? c=none:=by
  refine⟨fun z=>?_,?_⟩
  . rcases List.mem_cons.mp (I.stkSub _ z) with q | q
    . obtain⟨m,⟨ob,es,ep,h1,h2,_⟩,_⟩:=I.loc
      rw[<- q,e] at h1
      cases h1
      rw[hd] at h2
      cases h2
    . obtain⟨_,ob,h1,_⟩:=I.ok.funs.mem q
      exact absurd (Nat.lt_of_lt_of_le (Heap.lt_size h1) h) (Nat.lt_irrefl _)
  . cases z:X.base.get? c with
    | none=>rfl
    | some ob=>exact absurd (Nat.lt_of_lt_of_le (Heap.lt_size z) (Nat.le_trans I.ok.bsz h)) (Nat.lt_irrefl _)
/-- the captured cells,as they stand -/
theorem cells_take {pins:List (Addr × Obj)}{σ:L2.St}{H:Hp}{s:Shared}{S:Sta}{R:Hp}{env:Ev} (I:L2.Inv X pins σ H s) (ok:Ok3 X.K S R H σ env) :
    ∀ {cl:List (Str × Addr)}{ix:List Nat}{vals:List D},(∀ p∈cl,X.env.cells.lookup p.1=some p.2/\(X.env.scope.names.lookup p.1=some .cell\/X.env.scope.names.lookup p.1=some .free)/\X.fn p.1=true)->ix.map (X.N[·]?)=cl.map (fun p=>some p.1)->slD env ix vals ->
      ∃ (l:List (Addr × Obj)) (us:List V),(∀ b o,l.lookup b=some o->s.heap.get? b=some o/\H b=none/\X.base.get? b=none/\b∉frs X.stack)/\(∀ l':List (Addr × Obj),(∀ b o,l.lookup b=some o->l'.lookup b=some o)->CellsAt (trk l' R) cl us)/\Reps X.K R vals us
  | [],ix,vals,_,hx,hs=>by
    have e:ix=[]:=by
      cases ix with
      | nil=>rfl
      | cons i r=>cases hx
    subst e
    have e2:vals=[]:=hs
    subst e2
    exact⟨[],[],fun b o z=>(by cases z),fun _ _=>rfl,rfl⟩
  | p::r,ix,vals,hp,hx,hs=>by
    cases ix with
    | nil=>cases hx
    | cons i ix =>
      rw[List.map_cons,List.map_cons] at hx
      injection hx with hx1 hx2
      obtain⟨d,t,e,hd,ht⟩:=hs
      subst e
      obtain⟨l,us,h1,h2,h3⟩:=cells_take I ok (fun q hq=>hp q (List.mem_cons_of_mem _ hq)) hx2 ht
      obtain⟨hc,hk,hf⟩:=hp p List.mem_cons_self
      obtain⟨v,hv,rv⟩:=ok.val hd
      obtain⟨m,_,hl⟩:=I.loc
      have vis:Vis X.env.scope p.1:=hk.elim (fun z=>.inr (.inl z)) fun z=>.inr (.inr z)
      obtain⟨u,ru,lk⟩:=hl i p.1 v hx1 hv vis
      rcases lk with ⟨z,_⟩ | ⟨_,c,e1,o,e2,e3⟩
      . have z:X.env.scope.names.lookup p.1=some .local:=z
        rcases hk with q | q<;>rw[q] at z<;>cases z
      . rw[hc] at e1
        cases e1
        obtain⟨a1,a2⟩:=cell_stack I (I.ok.cab _ _ hf hc) e2 e3
        have lk:∀ b,((p.2,o)::l).lookup b=if b=p.2 then some o else l.lookup b:=fun b=>by
          rw[List.lookup_cons]
          by_cases hb:b=p.2
          . rw[if_pos hb,beq_iff_eq.mpr hb]
          . rw[if_neg hb,beq_eq_false_iff_ne.mpr hb]
        refine⟨(p.2,o)::l,v::us,fun b ob z=>?_,fun l' hl'=>?_,v,us,rfl,rv,h3⟩
        . rw[lk] at z
          by_cases hb:b=p.2
          . rw[if_pos hb] at z
            cases z
            rw[hb]
            exact⟨e2,I.freeC _ _ hc,a2,a1⟩
          . rw[if_neg hb] at z
            exact h1 b ob z
        . refine⟨v,us,o,u,rfl,trk_in (hl' _ _ (by rw[lk,if_pos rfl])),e3,ru,h2 l' fun b ob z=>?_⟩
          refine hl' b ob ?_
          rw[lk]
          by_cases hb:b=p.2
          . rw[if_pos hb]
            have y:=(h1 b ob z).1
            rw[hb,e2] at y
            exact y
          . rw[if_neg hb]; exact z
end
end L3
namespace L2
open PySem PySem.Spec PyProof.Rows L2
/-- what a clause tests: one class,a written pair of classes -/
inductive TstOk (X:Cx):Expr->List Value->Prop
  | one {x:Str}{c:Value}{np:Pos} (hc:Names X x c):TstOk X (.Name x np) [c]
  | two {x y:Str}{c d:Value}{np np2 tp:Pos}{kk:Nat} (hc:Names X x c) (hd:Names X y d):TstOk X (.Tuple [.Name x np,.Name y np2] kk tp) [c,d]
  | three {x y z:Str}{c d e:Value}{np np2 np3 tp:Pos}{kk:Nat} (hc:Names X x c) (hd:Names X y d) (he:Names X z e):TstOk X (.Tuple [.Name x np,.Name y np2,.Name z np3] kk tp) [c,d,e]
def gone(D:Ends) (i:Nat):Ends:={nx:=fun σ' H'=>D.nx (σ'.set i none) H',rt:=D.rt,bk:=fun σ' H'=>D.bk (σ'.set i none) H',ct:=fun σ' H'=>D.ct (σ'.set i none) H'}
def wAsM(K:PySem.W.Frag) (i:Nat) (Wout:WX) (D:Ends):List (List Value × (Addr->Value->Option Addr->TS))->WX
  | []=>Wout
  | (cs,ts)::r=>fun cls d σ H=>∃ b,PySem.W.exmAny K cls cs=some b/\(b=true->∀ a,H a=none->ts a cls d (gone D i) (σ.set i (some (.ref a))) H)/\(b=false->wAsM K i Wout D r cls d σ H)
inductive HdsAs (X:Cx) (n:Str):List ExceptHandler->List (List Value × (Addr->Value->Option Addr->TS))->Prop
  | nil:HdsAs X n [] []
  | cons {tst : Expr} {cs : List Value} {ts : Addr -> Value -> Option Addr -> TS} {b₀ : Stmt} {suite : List Stmt} {pos' : Pos} {hds : List ExceptHandler} {l : List (List Value × (Addr -> Value -> Option Addr -> TS))} (hc : TstOk X tst cs)
      (hsu:∀ (a:Addr) (oe:Obj) (cls:Value) (d:Option Addr) (pn:List (Addr × Obj)),Zc cls d oe->(∃ vs,oe.data=.fields vs)->X.base.get? a=none->a∉frs X.stack->PSs (X.suite a ((a,oe)::pn)) (b₀::suite) (ts a cls d)) (r:HdsAs X n hds l) :
      HdsAs X n (.ExceptHandler (some tst) (some n) (b₀::suite) pos'::hds) ((cs,ts)::l)
theorem flying_keeps {B h h':Heap}{l:List Env}{e:Addr}{Z:Obj->Prop} (f:HandSPX.FlyingZ B l e Z h) (k:∀ b o,h.get? b=some o->h'.get? b=some o):HandSPX.FlyingZ B l e Z h':=by
  obtain⟨f1,f2,f3,oe,vs,T,oT,ts,h1,h2,h3,h4,h5,h6,h7,h8,h9⟩:=f
  exact⟨fun b o e=>k b o (f1 b o e),f2,f3.of_keeps fun b o e _=>⟨o,k b o e,rfl⟩,oe,vs,T,oT,ts,k _ _ h1,h2,h3,h4,h5,h6,k _ _ h7,h8,h9⟩
theorem exm_one1 {K:PySem.W.Frag}{cls c:Value}{b:Bool} (h:PySem.W.exmAny K cls [c]=some b):PySem.W.exmOne K cls c=some b:=by
  have h2:(match PySem.W.exmOne K cls c,(some false:Option Bool) with | some b,some d=>some (b||d) | _,_=>none)=some b:=h
  cases z:PySem.W.exmOne K cls c with
  | none=>rw[z] at h2; cases h2
  | some x =>
    rw[z] at h2
    have h3:some (x||false)=some b:=h2
    rw[Bool.or_false] at h3
    exact h3
section
variable {X:Cx}
/-- the test of a clause,in the suite's context -/
theorem test_ok {a : Addr} {oe : Obj} {pn : List (Addr × Obj)} {σ : L2.St} {H : Hp} {s : Shared} {tst : Expr} {cs : List Value} {cls : Value} {b : Bool} {E : Value -> Shared -> Prop} {Q : Bool -> Shared -> Prop} {E2 : Value -> Shared -> Prop} (hc : TstOk X tst cs)
    (S:L2.Inv (X.suite a ((a,oe)::pn)) [] σ H s) (he:s.heap.get? a=some oe) (hz:oe.cls=cls) (hx:PySem.W.exmAny X.K cls cs=some b)
    (q:∀ h',(∀ b o,s.heap.get? b=some o->h'.get? b=some o)->Q b {s with heap:=h'}) :
    wpAny (model X.prog X.w) (X.A.mark (some (.ref a))) (eval tst X.env) (fun c s₁=>wpAny (model X.prog X.w) (X.A.mark (some (.ref a))) (excMatches (.ref a) c) Q E2 s₁) E s:=by
  have nm:∀ {x:Str}{c:Value}{np:Pos}{Q:Value->Shared->Prop}{E:Value->Shared->Prop},Names X x c->Q c s->wpAny (model X.prog X.w) (X.A.mark (some (.ref a))) (eval (.Name x np) X.env) Q E s:=fun {x c np Q E} hc q=>by
    obtain⟨hg,hdbg,hm | ⟨hm,hv,hnn⟩⟩:=hc
    . exact ld_glob (X:=X.suite a ((a,oe)::pn)) S hg hm q hdbg
    . exact ld_blt (X:=X.suite a ((a,oe)::pn)) S hg hm hv q hnn hdbg
  cases hc with
  | one hc =>
    have LT:PySem.W.Looks (model X.prog X.w) s.heap (typeOf (.ref a)) cls:=fun A Q E s k q=>wpAny_typeOf_ref (k _ _ he) (by rw[hz]; exact q)
    have LM:=PySem.W.exm_one (M:=model X.prog X.w) S.kIn LT (exm_one1 hx)
    exact nm hc (LM.here (q _ fun _ _ e=>e))
  | @two x y c d np np2 tp kk hc hd =>
    refine wpAny_Tuple_spliced ?_
    refine Calls.spliced_cons (nm hc ?_)
    refine Calls.spliced_cons (nm hd ?_)
    refine Calls.spliced_nil ⟨by show 2<=sizeLine; decide,?_⟩
    have k:∀ b o,s.heap.get? b=some o->(s.heap.push {cls:=.type "tuple",data:=.seq [c,d].toArray}).get? b=some o:=fun b o e=>Heap.get?_push_of_some _ e
    have LT:PySem.W.Looks (model X.prog X.w) (s.heap.push {cls:=.type "tuple",data:=.seq [c,d].toArray}) (typeOf (.ref a)) cls:=fun A Q E s k' q=>wpAny_typeOf_ref (k' _ _ (k _ _ he)) (by rw[hz]; exact q)
    have LM:=PySem.W.exm_tup2 (M:=model X.prog X.w) (S.kIn.keeps k) LT (Heap.get?_push_size _ rfl) hx
    exact LM.here (q _ k)
  | @three x y z c d e np np2 np3 tp kk hc hd hE =>
    refine wpAny_Tuple_spliced ?_
    refine Calls.spliced_cons (nm hc ?_)
    refine Calls.spliced_cons (nm hd ?_)
    refine Calls.spliced_cons (nm hE ?_)
    refine Calls.spliced_nil ⟨by show 3<=sizeLine; decide,?_⟩
    have k:∀ b o,s.heap.get? b=some o->(s.heap.push {cls:=.type "tuple",data:=.seq [c,d,e].toArray}).get? b=some o:=fun b o e=>Heap.get?_push_of_some _ e
    have LT:PySem.W.Looks (model X.prog X.w) (s.heap.push {cls:=.type "tuple",data:=.seq [c,d,e].toArray}) (typeOf (.ref a)) cls:=fun A Q E s k' q=>wpAny_typeOf_ref (k' _ _ (k _ _ he)) (by rw[hz]; exact q)
    have LM:=PySem.W.exm_tup3 (M:=model X.prog X.w) (S.kIn.keeps k) LT (Heap.get?_push_size _ rfl) hx
    exact LM.here (q _ k)
variable {n:Str}{i:Nat}{body:List Stmt}{h₀:ExceptHandler}{hds:List ExceptHandler}{l:List (List Value × (Addr->Value->Option Addr->TS))}{pos:Pos}{tb:WX->TS}{Wout:WX}
theorem ps_try_asM (hs : X.stack = X.env :: X.outer) (hf : X.env.frame = some X.env.locals) (hN : X.N.Nodup) (hi : X.N[i]? = some n) (hln : X.env.kindOf n = some .local) (tk : L2C.Takes X Wout)
    (hb:∀ (W:WX) (pn:List (Addr × Obj)) (xe:Value->Shared->Prop),L2C.Takes (X.tr pn xe) W->PassesOwn (model X.prog X.w) X.A X.env xe->PSs (X.tr pn xe) body (tb W))
    (hh:HdsAs X n (h₀::hds) l):PS X (.Try body (h₀::hds) [] [] pos) (fun D σ H=>tb (wAsM X.K i Wout D l) D σ H):=by
  refine⟨fun pins s σ H D I h=>?_⟩
  have ok:=I.ok
  have hfr:X.A.frames=some (X.env::X.outer):=by rw[ok.frames,hs]
  have hloc:Loc X.env.scope n:=.inl hln
  refine wpAny_Try_except ?_
  refine wpAny_mono ((hb (wAsM X.K i Wout D l) (X.pn++pins) (fun e s₁=>wpAny (model X.prog X.w) X.A (noteFrame e X.env) (fun _ s₂=>wpAny (model X.prog X.w) X.A (setFlight e none) (fun _ s₃ =>
    wpAny (model X.prog X.w) X.A (handleBy e X.env (h₀::hds)) (SP X pins D) X.xe s₃) X.xe s₂) X.xe s₁) (fun u s' xx=>?_) PassesOwn.looking).run [] s σ H D (I.toTry _) h) (fun f s1 hsp=>?_) (fun e s1 he=>he)
  . -- the catch
    obtain⟨a,B,sI,pins',σ',H',cls,d,ck,rfl,J',nb,up,sky,gc,na,os,ag,w⟩:=xx
    have J:Inv X pins σ' H' sI:=J'.ofTry ok
    have sky':Sky B (X.env::X.outer) a (L2C.Zk cls d ck) X.env.locals s'.heap:=by rw[<- hs]; exact sky
    show wpAny (model X.prog X.w) X.A (noteFrame (.ref a) X.env) _ _ _
    refine L2N.Sky.land L2C.Zk.steady hfr hf sky' fun h3 fl3 up3=>?_
    have notFr:∀ {h:Heap}{o:Obj}{vs:Array Value},h.FunFrames B (X.env::X.outer)->h.get? a=some o->o.data=.fields vs->a∉frs (X.env::X.outer):=fun {h o vs} ff e dd hm=>by
      obtain⟨_,o',e',hnf⟩:=ff.mem hm
      rw[e] at e'; cases e'
      exact hnf _ dd
    obtain⟨oe3,vs3,he3,hz3,hd3⟩:=fl3.there
    have nfr:=notFr fl3.2.2.1 he3 hd3
    have nfr':a∉frs X.stack:=by rw[hs]; exact nfr
    have nL:a≠X.env.locals:=fun z=>nfr (List.mem_filterMap.mpr ⟨X.env,List.mem_cons_self,by rw[hf,z]⟩)
    have nF:a∉X.fs:=fun hm=>by
      obtain⟨e,he,q⟩:=List.mem_filterMap.mp hm
      exact nfr (List.mem_filterMap.mpr ⟨e,List.mem_cons_of_mem _ he,q⟩)
    have nB:X.base.get? a=none:=by
      cases z:X.base.get? a with
      | none=>rfl
      | some o =>
        have h1:=nb a o (J.bs a o z).1 nfr'
        rw[fl3.2.1] at h1
        cases h1
    have go:∀ {hds':List ExceptHandler}{l':List (List Value × (Addr->Value->Option Addr->TS))},HdsAs X n hds' l'->wAsM X.K i Wout D l' cls d σ' H'->∀ h3:Heap,HandSPX.FlyingZ B (X.env::X.outer) a (L2C.Zk cls d ck) h3->s'.heap.UpToSlots h3 ->
        wpAny (model X.prog X.w) X.A (handleBy (.ref a) X.env hds') (SP X pins D) X.xe {s' with heap:=h3}:=by
      intro hds' l' hk
      induction hk with
      | nil =>
        intro w h3 fl3 up3
        refine wpAny_handleBy_nil ?_
        obtain⟨k1,k2,k3,oe,vs,T,oT,ts',he,hz,hd,h1,hr⟩:=id fl3
        unfold PySem.passOn
        refine wpAny_bind (wpAny_field he hd h1 ?_)
        rw[if_neg (show ¬((Value.ref T==Value.none)=true) from by simp)]
        have fin:wpAny (model X.prog X.w) X.A (setFlight (.ref a) X.env.frame) (fun _ s4=>wpAny (model X.prog X.w) X.A (throw (.ref a):Sem Flow) (SP X pins D) X.xe s4) X.xe {s' with heap:=h3}:=by
          rw[hf]
          refine HandSPX.setFlight_upZ fl3 fun h4 hh4 up4=>wpAny_throw (tk _ _ ?_)
          exact⟨a,B,sI,pins,σ',H',cls,d,ck,rfl,J,nb,(up.trans up3).trans up4,.inr (.inr (by rw[hs]; exact hh4)),gc,na,os,ag,w⟩
        first
          | exact wpAny_bind (wpAny_pure (wpAny_bind fin))
          | exact wpAny_bind fin
      | @cons tst cs ts b₀ suite pos' hds2 l2 hc hsu r ih =>
        intro w h3 fl3 up3
        obtain⟨b,hb1,hyes,hno⟩:=w
        have J3:Inv X pins σ' H' {s' with heap:=h3}:=J.landed nb fl3.1 (up.trans up3) os ag
        obtain⟨oe3,vs3,he3,hz3,hd3⟩:=fl3.there
        have S3:=J3.suite he3 hd3 na nL nF
        refine wpAny_handleBy_cons (codeAny_handlers_test ?_) (by intro q; cases q)
        refine test_ok hc S3 he3 hz3.1 hb1 fun h5 k5=>?_
        have fl5:=flying_keeps fl3 k5
        have up5:s'.heap.UpToSlots h5:=up3.trans (Heap.UpToSlots.of_keeps k5)
        cases b with
        | true =>
          refine codeAny_handlers_suite_as ?_
          refine HandSPX.lands_againZ (s:={s' with heap:=h5}) fl5 fun h4 fl4 up4=>?_
          have J4:Inv X pins σ' H' {s' with heap:=h4}:=J.landed nb fl4.1 ((up.trans up5).trans up4) os ag
          obtain⟨oe4,vs4,he4,hz4,hd4⟩:=fl4.there
          have S4:=J4.suite he4 hd4 na nL nF
          refine store_ok (X:=X.suite a ((a,oe4)::(X.pn++pins))) (v:=.ref a) S4 hN hi hloc rfl (fun s5 S5=>?_) (.inr hln)
          refine wpAny_mono ((hsu a oe4 cls d (X.pn++pins) hz4.zc ⟨_,hd4⟩ nB nfr').run [] s5 _ H' _ S5 (hyes rfl a na)) (fun f s6 hsp=>?_) (fun _ _ z=>False.elim z)
          have end_:∀ {σ6:St}{H6:Hp}{Q:Shared->Prop},Inv (X.suite a ((a,oe4)::(X.pn++pins))) [] σ6 H6 s6->(∀ s7,Inv X pins (σ6.set i none) H6 s7->Q s7) ->
              wpAny (model X.prog X.w) X.A (do bindName X.env n .none; unbindBehindTheSuite X.env n pos') (fun _ s7=>Q s7) X.xe s6:=fun {σ6 H6 Q} S6 hq=>gone_ok (S6.unsuite ok) hN hi hln hq
          cases f with
          | next =>
            obtain⟨σ6,H6,S6,q6⟩:=hsp
            exact end_ S6 fun s7 J7=>⟨_,_,J7,q6⟩
          | brk =>
            obtain⟨σ6,H6,S6,q6⟩:=hsp
            exact end_ S6 fun s7 J7=>⟨_,_,J7,q6⟩
          | cont =>
            obtain⟨σ6,H6,S6,q6⟩:=hsp
            exact end_ S6 fun s7 J7=>⟨_,_,J7,q6⟩
          | ret u =>
            obtain⟨v6,σ6,H6,S6,r6,q6⟩:=hsp
            exact end_ S6 fun s7 J7=>⟨_,_,_,J7,r6,q6⟩
        | false =>
          show wpAny _ X.A (handleBy (.ref a) X.env hds2) _ _ _
          exact ih (hno rfl) h5 fl5 up5
    exact go hh w h3 fl3 up3
  . cases f with
    | next =>
      obtain⟨σ',H',J',q⟩:=hsp
      exact wpAny_execs_nil ⟨σ',H',J'.ofTry ok,q⟩
    | brk =>
      obtain⟨σ',H',J',q⟩:=hsp
      exact⟨σ',H',J'.ofTry ok,q⟩
    | cont =>
      obtain⟨σ',H',J',q⟩:=hsp
      exact⟨σ',H',J'.ofTry ok,q⟩
    | ret u =>
      obtain⟨v,σ',H',J',r,q⟩:=hsp
      exact⟨v,σ',H',J'.ofTry ok,r,q⟩
end
end L2
namespace L2H
open PySem PySem.Spec PyProof.Rows L2 HotX
theorem RoomH.units {k:Nat}{A:Around} (r:RoomH k A):A.units+64<cLine:=by have:=r.un; omega
def cxC(CX:CXT) (P:Program) (w:World) (K:PySem.W.Frag) (mg:Str->Option Value) (base:Heap) (N:List Str) (qual:Str) (scope:Scope) (f:Addr) (cd:Value) (A:Around) (outer:List Env) (s:Shared) (H:Hp) (E:XK):Cx :=
  {cxOf CX P w K mg base N qual scope f cd A outer s H E with calm:=false}
theorem inv_startC {CX : CXT} {P : Program} {w : World} {K : PySem.W.Frag} {mg : Str -> Option Value} {base : Heap} {N ps : List Str} {qual : Str} {scope : Scope} {f : Addr} {cd : Value} {A : Around} {outer : List Env} {s s1 : Shared} {H : Hp} {E : XK} {us : List Value} {vs : List V}
    (S:FnScope N ps scope) (e0:Env0 P w K mg base A outer s H) (hl:vs.length=ps.length) (r:Vals vs us)
    (x:InCallC s s.heap.objs.size (bindL (envOfC qual scope s.heap.objs.size f cd).kindOf (ps.zip us) fun _=>none) (cellsFrom (s.heap.objs.size+1) scope.names []) (bindC (envOfC qual scope s.heap.objs.size f cd).kindOf (ps.zip us) fun _=>none) s1) :
    Inv (cxC CX P w K mg base N qual scope f cd A outer s H E) [] (L2.start N vs) H s1:=by
  have hpl:ps.length<=N.length:=by have:=congrArg List.length S.pre; rw[List.length_take] at this; omega
  obtain⟨h1,tk,rfl,hk⟩:=x.done
  have noA:∀ b:Addr,b∉(cxC CX P w K mg base N qual scope f cd A outer s H E).ex:=fun b z=>absurd (show b∈([]:List Addr) from z) (by simp)
  refine⟨⟨e0.mod,S.kind,rfl,rfl,Nat.le_refl _,fun y z c h1 h2=>?_,fun y hy=>?_,fun y c _ h=>?_,(fun z=>Bool.noConfusion (show false=true from z)),Around.frames_deeper e0.frames,.inr ⟨rfl,rfl⟩,fun b z=>absurd z (noA b),e0.bs,e0.bsz,fun b _ _=>noA b,fun b z=>absurd z (noA b),e0.funs,e0.frf⟩,
    rfl,e0.bare,Un.kept hk,⟨_,x.toInCall.ns,fun i y v h1 h2 h3=>?_⟩,fun y c h=>⟨_,x.cell y c h⟩,e0.hok.fresh (Nat.le_refl _),fun y c h=>?_,fun q hq=>absurd (show q∈([]:List (Addr × Obj))++[] from hq) (by simp),e0.hok.kept hk,?_⟩
  . exact name_of_addr x.apart (PySem.mem_of_lookup h1) (PySem.mem_of_lookup h2)
  . have hy:scope.names.lookup y=some .cell\/scope.names.lookup y=some .free:=hy
    rcases hy with hy | hy
    . exact cell_has hy
    . exact absurd rfl (S.nofree _ (PySem.mem_of_lookup hy))
  . exact Nat.le_of_lt (x.above y c (PySem.mem_of_lookup h))
  . have hi:i<vs.length:=by
      unfold L2.start at h2
      by_cases hi:i<vs.length
      . exact hi
      . rw[List.getElem?_append_right (by simpa using hi)] at h2
        rw[List.getElem?_replicate] at h2
        split at h2<;>cases h2
    have ha:vs[i]?=some v:=by
      unfold L2.start at h2
      rw[List.getElem?_append_left (by simpa using hi),List.getElem?_map] at h2
      cases e:vs[i]? with
      | none=>rw[e] at h2; cases h2
      | some a=>rw[e] at h2; cases h2; rfl
    obtain⟨u,hu,rv⟩:=r.get ha
    have hp:ps[i]?=some y:=by
      rw[<- S.pre,List.getElem?_take_of_lt (by omega)]; exact h1
    have ndP:ps.Nodup:=by rw[<- S.pre]; exact S.nd.sublist (List.take_sublist _ _)
    refine⟨u,rv,?_⟩
    rcases S.par y (List.mem_of_getElem? hp) with k | k
    . exact .inl ⟨k,bindL_get ndP hp hu k⟩
    . obtain⟨c,e⟩:=cell_has (n:=s.heap.objs.size+1) k
      refine .inr ⟨.inl k,c,e,?_⟩
      have q:=x.cell y c e
      rw[bindC_get ndP hp hu (by show scope.names.lookup y≠_; rw[k]; decide)] at q
      exact q
  . exact e0.hok.fresh (Nat.le_of_lt (x.above y c (PySem.mem_of_lookup h)))
  . unfold L2.start
    show _=N.length
    rw[List.length_append,List.length_map,List.length_replicate]
    omega
end L2H
namespace L3
open PySem PySem.Spec PyProof.Rows L2
abbrev cx3C (P:Program) (w:World) (K:PySem.W.Frag) (mg:Str->Option Value) (base:Heap) (N:List Str) (qual:Str) (scope:Scope) (f:Addr) (cdv:Value) (A:Around) (outer:List Env) (s:Shared) (H:Hp) (E:XK):Cx:=L2H.cxC (L2C.CX P w) P w K mg base N qual scope f cdv A outer s H E
/-- a def that may be called while an error is handled -/
theorem fnC3 {P : Program} {w : World} {K : PySem.W.Frag} {mg : Str -> Option Value} {base : Heap} {x qual : Str} {params : Arguments} {body : List Stmt} {scope : Scope} {f : Addr} {fd : FuncData} {N ps : List Str} {k : Nat} {F : TF} {T : TSD} (FD : FunD K x qual params body scope [] [] f fd) (Sc : FnScope N ps scope) (hb : Binds K fd ps []) (hn : ∀ wd ds φ ε, F wd ds φ ε -> ds.length = ps.length)
    (hbody:∀ (cdv:Value) (A:Around) (outer:List Env) (s:Shared) (H:Hp) (E:XK),L2H.RoomH k (A.deeper (envOfC qual scope s.heap.objs.size f cdv))->DSs (cx3C P w K mg base N qual scope f cdv A outer s H E) (W3 E) body T)
    (hT:∀ wd ds φ ε,F wd ds φ ε->T ⟨wd,fun ex _=>ε ex⟩ (retD φ) (startD N ds)):FnC P w K mg base (k+1) f F:=by
  obtain⟨oc,od,dV,kV,doc,pm,an,cdv,ct,osl,rfl,lk,hcd,_,_⟩:=FD.ex
  intro A outer s H us vs Q E hr e0 r ⟨wd,R,ds,φ,ε,b,rr,hf,hQ,hE⟩
  have hl:vs.length=ps.length:=by rw[rr.length]; exact hn _ _ _ _ hf
  have hlu:us.length=ps.length:=by rw[<- r.length]; exact hl
  have KX:K.In s.heap:=e0.mod.kin.keeps fun b o e=>(e0.bs b o e).1
  have lim:s.heap.NoLimit:=e0.mod.nolimit.keeps fun b o e=>(e0.bs b o e).1
  have hbt:BindsTo s (PySem.W.fnOf x qual params body scope dV kV doc pm an cdv ct) ⟨us,[]⟩ (ps.zip us):=by
    have b:=hb s us KX (by rw[List.append_nil]; exact hlu)
    rw[List.append_nil] at b
    exact b
  have hkind:∀ y∈ps.zip us,scope.names.lookup y.1=some .local\/(scope.names.lookup y.1=some .cell/\((cellsFrom (s.heap.objs.size+1) scope.names []).lookup y.1).isSome=true):=fun⟨n,v⟩ hy=>by
    rcases Sc.par n (List.of_mem_zip hy).1 with q | q
    . exact .inl q
    . exact .inr ⟨q,PySem.W.cellsFrom_some _ _ _ (.inl q)⟩
  refine codeAny_call_function hr.depth (KX _ _ lk) rfl Sc.co Sc.gen rfl (PySem.W.codeRec_of KX hcd) (hbt _ _ _ _ ?_)
  refine wpAny_newFunctionEnv_cells Sc.kind hkind fun env he s1 z=>?_
  subst he
  refine⟨lim.keeps z.toInCall.keep,codeAny_func ?_⟩
  have ht:=hbody cdv A outer s H E (hr.deeper _)
  have hq:tS3 K (W3 E) T {nx:=fun _ H'=>Q .non H',rt:=Q} (L2.start N vs) H:=body_ok (S:=⟨⟨wd,fun ex _=>ε ex⟩,R,H,R⟩) (fun R' H' σ env cls od ex ok xr q=>hE cls od R' H' ex ok.fin xr q) (start_ok3 (c:=⟨wd,fun ex _=>ε ex⟩) b rr) (hT wd ds φ ε hf) hQ
  have I:Inv (cx3C P w K mg base N qual scope f cdv A outer s H E) [] (L2.start N vs) H s1:=L2H.inv_startC Sc e0 hl r z
  refine wpAny_mono (ht.run [] s1 (L2.start N vs) H _ I hq) (fun fl s' hs=>?_) fun e s' hs=>hs
  have fin:∀ {σ':L2.St}{H':Hp}{v:V}{u:Value},Inv (cx3C P w K mg base N qual scope f cdv A outer s H E) [] σ' H' s'->RelV v u->Q v H'->CE outer P w H s Q u s' :=
    fun {σ' H' v u} J rv q=>⟨v,H',J.os,J.bare,J.base,J.hok,rv,q⟩
  cases fl with
  | ret u =>
    obtain⟨v,σ',H',J,rv,q⟩:=hs
    exact fin J rv q
  | next =>
    obtain⟨σ',H',J,q⟩:=hs
    exact fin (v:=V.non) (u:=Value.none) J rfl q
  | brk =>
    obtain⟨_,_,_,q⟩:=hs
    exact False.elim q
  | cont =>
    obtain⟨_,_,_,q⟩:=hs
    exact False.elim q
def NoA(K:PySem.W.Frag) (C:Addr) (n:Str):Prop:=PySem.W.findIn K (.ref C) n=some none
section
variable {X:Cx}{W:WX}{pos:Pos}{e:Expr}{T:TD}{te:TE}{n:Str}
/-- an error held as a value -/
def tXt(K:PySem.W.Frag) (n:Str) (te:TE):TE:=fun σ H Q=>te σ H fun x H1=>∃ (a C dx:Addr) (o:HO) (fvs:List (Str × V)) (v:V),x=.ref a/\H1 a=some o /\
  (∀ P w H h,ObjOk P w H h a o->∃ (oe:Obj) (vs:Array Value),h.get? a=some oe/\oe.cls=.ref C/\oe.dict=some dx/\oe.data=.fields vs)/\XfC K C/\NoA K C n/\H1 dx=some (.xd fvs)/\fvs.lookup n=some v/\Q v H1
theorem pe_xt(he:PE X e te) (hb:attributeBase e n X.env (eval e X.env)=eval e X.env:=by rfl):PE X (.Attribute e n pos) (tXt X.K n te):=by
  refine⟨fun pins s σ H Q I h=>?_⟩
  refine attr_of hb (thn (he.run pins s σ H _ I h) fun u s1 hh=>?_)
  obtain⟨x,H1,I1,rx,a,C,dx,o,fvs,v,ex,ha,ho,xf,hno,hd,l,q⟩:=hh
  subst ex
  obtain rfl:u=Value.ref a:=rx
  obtain⟨oe,vs,h1,h2,h3,h4⟩:=ho _ _ _ _ (I1.hok a o ha)
  have hx:ObjOk X.prog X.w H1 s1.heap dx (.xd fvs):=I1.hok dx _ hd
  obtain⟨mA,hns,hr⟩:=hx
  obtain⟨od,ho,hl⟩:=lookIn_ns hns
  obtain⟨u,hu,ru⟩:=RelO.some_of (v:=v) (o:=mA n) (by rw[<- l]; exact hr n)
  have J:PySem.W.InstAt s1.heap a oe C (some od):=⟨h1,h2,by unfold PySem.W.notCls; rw[h4]<;>rfl,by rw[h3]; exact ho⟩
  exact HandSPX.exc_get I1.kIn J xf.ga xf.gg xf.exC (PySem.W.findObj_own xf.hdC hno rfl (by rw[hl,hu])) (handed_of ru) ⟨v,H1,I1.tok _,ru,q⟩
def TFldX(K:PySem.W.Frag) (n:Str) (T:TD):TD:=fun c env φ=>T c env fun d=>∃ C fs v,d=.exc C fs/\XfC K C/\NoA K C n/\fs.lookup n=some v/\φ v
theorem de_fldX(he:DE X W e T) (hb:attributeBase e n X.env (eval e X.env)=eval e X.env:=by rfl):DE X W (.Attribute e n pos) (TFldX X.K n T) :=
  de_mk (pe_xt he hb) fun S R H σ env φ lk ok h=>tD.ask lk ok h fun R1 H1 d v f1 ok1 r1 ⟨C,fs,w,e1,xf,no,l,q⟩=>by
    subst e1
    obtain⟨a,dx,fvs,ev,⟨o,h1,h2⟩,h3,h4⟩:=(show ∃ p dx fvs,v=.ref p/\ExcAt R1 C dx p/\R1 dx=some (.xd fvs)/\RepF X.K R1 fs fvs from r1)
    obtain⟨v',l',r'⟩:=h4.look l
    exact⟨a,C,dx,o,fvs,v',ev,ok1.bas.sub _ _ h1,h2,xf,no,ok1.bas.sub _ _ h3,l',R1,w,f1,r',q⟩
/-- the caught one -/
def tXa(K:PySem.W.Frag) (a:Addr) (cls:Value) (d:Option Addr) (n:Str) (te:TE):TE:=fun σ H Q=>te σ H fun x H1=>x=.ref a/\∃ (C dx:Addr) (fvs:List (Str × V)) (v:V),cls=.ref C/\d=some dx/\XfC K C/\NoA K C n/\H1 dx=some (.xd fvs)/\fvs.lookup n=some v/\Q v H1
theorem pe_xaK {a:Addr}{oe:Obj}{cls:Value}{d:Option Addr} (hm:(a,oe)∈X.pn) (hz:L2.Zc cls d oe) (hf:∃ vs,oe.data=.fields vs) (he:PE X e te) (hb:attributeBase e n X.env (eval e X.env)=eval e X.env:=by rfl) :
    PE X (.Attribute e n pos) (tXa X.K a cls d n te):=by
  refine⟨fun pins s σ H Q I h=>?_⟩
  refine attr_of hb (thn (he.run pins s σ H _ I h) fun u s1 hh=>?_)
  obtain⟨x,H1,I1,rx,ex,C,dx,fvs,v,ec,ed,xf,hno,ea,l,q⟩:=hh
  subst ex
  obtain rfl:u=Value.ref a:=rx
  subst ec
  subst ed
  obtain⟨ha,_⟩:=I1.pin (a,oe) (List.mem_append_left _ hm)
  obtain⟨vs,hd⟩:=hf
  have hx:ObjOk X.prog X.w H1 s1.heap dx (.xd fvs):=I1.hok dx _ ea
  obtain⟨mA,hns,hr⟩:=hx
  obtain⟨od,ho,hl⟩:=lookIn_ns hns
  obtain⟨u,hu,ru⟩:=RelO.some_of (v:=v) (o:=mA n) (by rw[<- l]; exact hr n)
  have J:PySem.W.InstAt s1.heap a oe C (some od):=⟨ha,hz.1,by unfold PySem.W.notCls; rw[hd]<;>rfl,by rw[hz.2]; exact ho⟩
  exact HandSPX.exc_get I1.kIn J xf.ga xf.gg xf.exC (PySem.W.findObj_own xf.hdC hno rfl (by rw[hl,hu])) (handed_of ru) ⟨v,H1,I1.tok _,ru,q⟩
theorem pe_xa {a:Addr}{oe:Obj}{cls:Value}{d:Option Addr}{pn:List (Addr × Obj)} (hz:L2.Zc cls d oe) (hf:∃ vs,oe.data=.fields vs) (he:PE (X.suite a ((a,oe)::pn)) e te) (hb:attributeBase e n X.env (eval e X.env)=eval e X.env:=by rfl) :
    PE (X.suite a ((a,oe)::pn)) (.Attribute e n pos) (tXa X.K a cls d n te):=pe_xaK (X:=X.suite a ((a,oe)::pn)) List.mem_cons_self hz hf he hb
theorem pe_hotcall {a : Addr} {oe : Obj} {pn : List (Addr × Obj)} {F : TF} {k i : Nat} {g : Addr} {x y : Str} {p p2 : Pos} (G : FnC X.prog X.w X.K X.mg X.base k g F) (hr : L2H.RoomH k (X.A.mark (some (.ref a)))) (hG : Gl X x) (hM : X.mg x = some (.ref g)) (hK : PySem.W.keepIn X.K (.ref g) = true)
    (hba:X.base.get? a=none) (hfa:a∉frs X.stack) (hN:X.N[i]?=some y) (hv:Vis X.env.scope y) (hdb:(x==("__debug__":Str))=false:=by decide) (hd:(y==("__debug__":Str))=false:=by decide) (hcd:(y==("__classdict__":Str))=false:=by decide)
    (he:starEach [.Name y p2] X.env=(false,eval (.Name y p2) X.env)::starEach [] X.env:=by rfl) :
    PE (X.suite a ((a,oe)::pn)) (.Call (.Name x p) [.Name y p2] [] pos) (fun σ H Q=>σ[i]?=some (some (.ref a))/\spW X.K F [.ref a] (trk [(a,oe)] H) (fun v H'=>(∀ b o,[(a,oe)].lookup b=some o->H' b=some (.frz o (.ext fun _=>True)))/\Q v (untrk [(a,oe)] H')) fun _ _ _=>False):=by
  refine⟨fun pins s σ H Q I ⟨h0,h1⟩=>?_⟩
  refine wpAny_Call_Name_kw (ld_glob I hG hM ?_ hdb)
  refine PySem.W.callWith_K (h₀:=X.base) I.ok.mod.kin hK ?_ he (by rfl)
  refine Calls.spliced_cons (thn ((pe_var (X:=X.suite a ((a,oe)::pn)) (pos:=p2) (i:=i) hN hv hd hcd).run pins s σ H (fun v H1=>v=.ref a/\H1=H) I ⟨.ref a,h0,rfl,rfl⟩) fun u s1 ⟨v,H1,I1,r1,q1⟩=>?_)
  obtain⟨ev,eH⟩:=q1
  subst ev
  rw[eH] at I1
  obtain rfl:u=Value.ref a:=r1
  refine Calls.spliced_nil ⟨I1.kIn,?_⟩
  have pin:=I1.pin (a,oe) (List.mem_append_left _ List.mem_cons_self)
  have lk:∀ b o,[(a,oe)].lookup b=some o->b=a/\o=oe:=fun b o e=>by
    rw[List.lookup_cons] at e
    by_cases hb:b=a
    . rw[beq_iff_eq.mpr hb] at e
      exact⟨hb,(Option.some.inj e).symm⟩
    . rw[beq_eq_false_iff_ne.mpr hb] at e
      cases e
  exact call_atXC (us:=[.ref a]) (vs:=[.ref a]) G hr I1 ⟨fun b o e=>by
    obtain⟨e1,e2⟩:=lk b o e
    subst e1 e2
    exact⟨pin.1,pin.2.1,hba,hfa⟩⟩ (.cons (show RelV (.ref a) (.ref a) from rfl) .nil) h1
end
open PySem PySem.Spec PyProof.Rows L2
/-- what is wanted of the body's errors: i e's slot,j said's -/
def erWhy(K:PySem.W.Frag) (i j:Nat) (F:TF) (cs1 cs2:List Value) (c:Ct) (D:EndD):Er->Ev->Prop:=fun ex env=>i<env.length/\∃ b1,PySem.W.exmAny K (.ref ex.C) cs1=some b1 /\
  (b1=true->XfC K ex.C/\NoA K ex.C "word"/\∃ w,ex.fs.lookup ("word":Str)=some w/\F c.wd [.exc ex.C ex.fs] (fun d=>plainD d=true/\D.nx ((env.set j (.v (.tup [w,d]))).set i .no)) fun _=>False) /\
  (b1=false->∃ b2,PySem.W.exmAny K (.ref ex.C) cs2=some b2/\(b2=true->XfC K ex.C/\NoA K ex.C "word"/\∃ w,ex.fs.lookup ("word":Str)=some w/\D.nx ((env.set j (.v (.tup [w,.tup []]))).set i .no))/\(b2=false->c.er ex env))
def TWhy(K:PySem.W.Frag) (i j:Nat) (Tb:TSD) (F:TF) (cs1 cs2:List Value):TSD:=fun c D env=>Tb ⟨c.wd,erWhy K i j F cs1 cs2 c D⟩ D env
theorem set_around {α:Type}{l:List α}{i j:Nat}{a b c:α} (h:i≠j):((l.set i a).set j b).set i c=(l.set j b).set i c:=by
  rw[List.set_comm _ _ h,List.set_set]
section
variable {X:Cx}{W:WX}{pos:Pos}
theorem ds_try_why {e said fld : Str} {i j k : Nat} {g : Addr} {F : TF} {body : List Stmt} {Tb : TSD} {t1 t2 : Expr} {cs1 cs2 : List Value} {p1 p2 p3 p4 p5 p6 p7 p8 p9 q1 q2 q3 q4 q5 q6 q7 : Pos} {k1 k2 k3 : Nat}
    (hs:X.stack=X.env::X.outer) (hf:X.env.frame=some X.env.locals) (hN:X.N.Nodup) (hi:X.N[i]?=some e) (hln:X.env.kindOf e=some .local) (hj:X.N[j]?=some said) (hlj:X.env.scope.names.lookup said=some .local) (hij:i≠j) (tk:L2C.Takes X W)
    (ht1:L2.TstOk X t1 cs1) (ht2:L2.TstOk X t2 cs2) (G:FnC X.prog X.w X.K X.mg X.base k g F) (hr:Room k X.A) (hG:Gl X fld) (hM:X.mg fld=some (.ref g)) (hK:PySem.W.keepIn X.K (.ref g)=true)
    (hb:∀ (W:WX) (pn:List (Addr × Obj)) (xe:Value->Shared->Prop),L2C.Takes (X.tr pn xe) W->PassesOwn (model X.prog X.w) X.A X.env xe->DSs (X.tr pn xe) W body Tb)
    (hdb:(fld==("__debug__":Str))=false:=by decide) (hd:(e==("__debug__":Str))=false:=by decide) (hcd:(e==("__classdict__":Str))=false:=by decide)
    (hba:attributeBase (.Name e p3) "word" X.env (eval (.Name e p3) X.env)=eval (.Name e p3) X.env:=by rfl) (hbb:attributeBase (.Name e q3) "word" X.env (eval (.Name e q3) X.env)=eval (.Name e q3) X.env:=by rfl)
    (hst:starEach [.Name e p6] X.env=(false,eval (.Name e p6) X.env)::starEach [] X.env:=by rfl)
    (hsw1:swapsWith (.Tuple [.Attribute (.Name e p3) "word" p4,.Call (.Name fld p5) [.Name e p6] [] p7] k1 p8) (some (.Name said p2)) p9.line X.env=pure false:=by rfl)
    (hsw2:swapsWith (.Tuple [.Attribute (.Name e q3) "word" q4,.Tuple [] k2 q5] k3 q6) (some (.Name said q2)) q7.line X.env=pure false:=by rfl)
    (hs1:starEach [.Attribute (.Name e p3) "word" p4,.Call (.Name fld p5) [.Name e p6] [] p7] X.env=(false,eval (.Attribute (.Name e p3) "word" p4) X.env)::starEach [.Call (.Name fld p5) [.Name e p6] [] p7] X.env:=by rfl)
    (hs2:starEach [.Call (.Name fld p5) [.Name e p6] [] p7] X.env=(false,eval (.Call (.Name fld p5) [.Name e p6] [] p7) X.env)::starEach [] X.env:=by rfl)
    (hs3:starEach [.Attribute (.Name e q3) "word" q4,.Tuple [] k2 q5] X.env=(false,eval (.Attribute (.Name e q3) "word" q4) X.env)::starEach [.Tuple [] k2 q5] X.env:=by rfl)
    (hs4:starEach [.Tuple [] k2 q5] X.env=(false,eval (.Tuple [] k2 q5) X.env)::starEach [] X.env:=by rfl) :
    DS X W (.Try body [.ExceptHandler (some t1) (some e) [.Assign [.Name said p2] (.Tuple [.Attribute (.Name e p3) "word" p4,.Call (.Name fld p5) [.Name e p6] [] p7] k1 p8) p9] p1,
      .ExceptHandler (some t2) (some e) [.Assign [.Name said q2] (.Tuple [.Attribute (.Name e q3) "word" q4,.Tuple [] k2 q5] k3 q6) q7] q1] [] [] pos) (TWhy X.K i j Tb F cs1 cs2):=by
  have hvi:Vis X.env.scope e:=.inl hln
  let s1:Addr->Obj->Value->Option Addr->TS:=fun a oe cls d=>tAsg (tTup (tCons (tXa X.K a cls d "word" (tVar i)) (tCons (fun σ H Q=>σ[i]?=some (some (.ref a))/\spW X.K F [.ref a] (trk [(a,oe)] H) (fun v H'=>(∀ b o,[(a,oe)].lookup b=some o->H' b=some (.frz o (.ext fun _=>True)))/\Q v (untrk [(a,oe)] H')) fun _ _ _=>False) tNil))) (gName j)
  let ts1:Addr->Value->Option Addr->TS:=fun a cls d D σ H=>∀ oe,L2.Zc cls d oe->(∃ vs,oe.data=.fields vs)->s1 a oe cls d D σ H
  let ts2:Addr->Value->Option Addr->TS:=fun a cls d=>tAsg (tTup (tCons (tXa X.K a cls d "word" (tVar i)) (tCons (tTup tNil) tNil))) (gName j)
  have P:PS X (.Try body [.ExceptHandler (some t1) (some e) [.Assign [.Name said p2] (.Tuple [.Attribute (.Name e p3) "word" p4,.Call (.Name fld p5) [.Name e p6] [] p7] k1 p8) p9] p1,
      .ExceptHandler (some t2) (some e) [.Assign [.Name said q2] (.Tuple [.Attribute (.Name e q3) "word" q4,.Tuple [] k2 q5] k3 q6) q7] q1] [] [] pos) (fun D σ H=>(fun W=>tS3 X.K W Tb) (L2.wAsM X.K i W D [(cs1,ts1),(cs2,ts2)]) D σ H):=by
    refine L2.ps_try_asM (tb:=fun W=>tS3 X.K W Tb) hs hf hN hi hln tk (fun W pn xe tk' po=>hb W pn xe tk' po) (.cons ht1 (fun a oe cls d pn hz hv hba' hfa=>?_) (.cons ht2 (fun a oe cls d pn hz hv hba' hfa=>?_) .nil))
    . have p:=pss_one (ps_set (X:=X.suite a ((a,oe)::pn)) (i:=j) (pos:=p9) hN hj (.inl hlj) (pe_tup (x1:=k1) (pos:=p8) (pa_cons (pe_xa (pos:=p4) hz hv (pe_var (X:=X.suite a ((a,oe)::pn)) (pos:=p3) (i:=i) hi hvi hd hcd) hba) (pa_cons (pe_hotcall (pos:=p7) (p:=p5) (p2:=p6) G (⟨hr.dp,hr.un⟩) hG hM hK hba' hfa hi hvi hdb hd hcd hst) pa_nil hs2) hs1)) hsw1 (.inr hlj))
      exact⟨fun pins s σ H D I h=>p.run pins s σ H D I (h oe hz hv)⟩
    . exact pss_one (ps_set (X:=X.suite a ((a,oe)::pn)) (i:=j) (pos:=q7) hN hj (.inl hlj) (pe_tup (x1:=k3) (pos:=q6) (pa_cons (pe_xa (pos:=q4) hz hv (pe_var (X:=X.suite a ((a,oe)::pn)) (pos:=q3) (i:=i) hi hvi hd hcd) hbb) (pa_cons (pe_tup (x1:=k2) (pos:=q5) pa_nil) pa_nil hs4) hs3)) hsw2 (.inr hlj))
  refine⟨fun pins s σ H E I ⟨S,R,env,D3,lk,ok,hT,eo⟩=>P.run pins s σ H E I ?_⟩
  refine⟨⟨⟨S.c.wd,erWhy X.K i j F cs1 cs2 S.c D3⟩,S.R0,S.H0,S.Rb⟩,R,env,D3,?_,⟨ok.fin,ok.rb,ok.sl,ok.own,ok.dis⟩,hT,⟨fun R H σ env o q=>eo.nx R H σ env ⟨o.fin,o.rb,o.sl,o.own,o.dis⟩ q,fun R H σ env d v o r q=>eo.rt R H σ env d v ⟨o.fin,o.rb,o.sl,o.own,o.dis⟩ r q,fun R H σ env o q=>eo.bk R H σ env ⟨o.fin,o.rb,o.sl,o.own,o.dis⟩ q,fun R H σ env o q=>eo.ct R H σ env ⟨o.fin,o.rb,o.sl,o.own,o.dis⟩ q⟩⟩
  intro R' H' σ' env' cls od ex o' xr er
  have o1:Ok3 X.K S R' H' σ' env':=⟨o'.fin,o'.rb,o'.sl,o'.own,o'.dis⟩
  obtain⟨ec,dx,fvs,ed,hdx,hfs⟩:=xr
  subst ec ed
  obtain⟨hlen,b1,hb1,hy,hn⟩:=er
  have hσ:i<σ'.length:=by rw[o1.sl.length]; exact hlen
  have at_i:∀ a:Addr,(σ'.set i (some (.ref a)))[i]?=some (some (V.ref a)):=fun a=>by rw[List.getElem?_set_self hσ]
  have done:∀ {a p:Addr}{R2 H2:Hp}{w d2:D}{wv v2:V},Fin S.c.wd R' H' R2 H2->Rep X.K R2 w wv->Rep X.K R2 d2 v2->H2 p=none->D3.nx ((env'.set j (.v (.tup [w,d2]))).set i .no) ->
      (L2.gone E i).nx ((σ'.set i (some (.ref a))).set j (some (.ref p))) (upd H2 p (.tup [wv,v2])):=fun {a p R2 H2 w d2 wv v2} f r1 r2 hp q=>by
    have o2:=o1.through f
    have fa:=Fin.alloc (o:=.tup [wv,v2]) o2.bas hp
    have o3:=o2.through fa
    have o4:=o3.put (i:=j) (d:=.tup [w,d2]) (v:=.ref p) ⟨p,[wv,v2],rfl,upd_same,wv,[v2],rfl,r1.mono fa.up,v2,[],rfl,r2.mono fa.up,rfl⟩
    have o5:=o4.drop (i:=i) (x:=none)
    show E.nx (((σ'.set i (some (.ref a))).set j (some (.ref p))).set i none) _
    rw[set_around hij]
    exact eo.nx _ _ _ _ o5 q
  refine⟨b1,hb1,fun e1 a na=>?_,fun e1=>?_⟩
  . obtain⟨xf,no,w,lw,hF⟩:=hy e1
    obtain⟨wv,l',rw'⟩:=hfs.look lw
    intro oe hz ⟨vs,hvs⟩
    have lk1:∀ b o,[(a,oe)].lookup b=some o->b=a/\o=oe:=fun b o e=>by
      rw[List.lookup_cons] at e
      by_cases hb:b=a
      . rw[beq_iff_eq.mpr hb] at e
        exact⟨hb,(Option.some.inj e).symm⟩
      . rw[beq_eq_false_iff_ne.mpr hb] at e
        cases e
    have tn:∀ b o,[(a,oe)].lookup b=some o->H' b=none:=fun b o e=>by rw[(lk1 b o e).1]; exact na
    have sm:=same_trk o1.bas tn
    have self:[(a,oe)].lookup a=some oe:=by rw[List.lookup_cons,beq_self_eq_true]
    refine⟨.ref a,at_i a,rfl,ex.C,dx,fvs,wv,rfl,rfl,xf,no,o1.bas.sub _ _ hdx,l',at_i a,?_⟩
    refine spW_askX (W:=W) (X:=X) o1 tn (ds:=[.exc ex.C ex.fs]) (φ:=fun d=>D3.nx ((env'.set j (.v (.tup [w,d]))).set i .no)) ⟨.ref a,[],rfl,⟨a,dx,fvs,rfl,⟨.frz oe (.ext fun _=>True),trk_in self,fun P w H h z=>⟨oe,vs,z.1,hz.1,hz.2,hvs⟩⟩,sm _ _ hdx,hfs.mono sm⟩,rfl⟩ hF fun v H2 ⟨R2,d,f,r,q⟩=>?_
    refine⟨by show 2<=sizeLine; decide,fun p hp=>?_⟩
    exact done f (rw'.mono f.up) r hp q
  . obtain⟨b2,hb2,hy2,hn2⟩:=hn e1
    refine⟨b2,hb2,fun e2 a na=>?_,fun e2=>lk R' H' σ' env' _ _ ex o1 ⟨rfl,dx,fvs,rfl,hdx,hfs⟩ (hn2 e2)⟩
    obtain⟨xf,no,w,lw,hq⟩:=hy2 e2
    obtain⟨wv,l',rw'⟩:=hfs.look lw
    refine⟨.ref a,at_i a,rfl,ex.C,dx,fvs,wv,rfl,rfl,xf,no,o1.bas.sub _ _ hdx,l',by show 0<=sizeLine; exact Nat.zero_le _,fun p0 hp0=>⟨by show 2<=sizeLine; decide,fun p hp=>?_⟩⟩
    have fa:=Fin.alloc (o:=.tup []) o1.bas hp0
    exact done fa (rw'.mono fa.up) (show Rep X.K _ (.tup []) _ from⟨p0,[],rfl,upd_same,rfl⟩) hp hq
end
open PySem PySem.Spec PyProof.Rows L2
section
variable {X:Cx}{W:WX}{pos:Pos}{e:Expr}{T:TD}{n:Str}
theorem de_fldXK {K:PySem.W.Frag} (he:DE X W e T) (hb:attributeBase e n X.env (eval e X.env)=eval e X.env:=by rfl) (hK:X.K=K:=by rfl):DE X W (.Attribute e n pos) (TFldX K n T):=by
  subst hK
  exact de_fldX he hb
theorem de_cloK {P : Program} {w : World} {K : PySem.W.Frag} {mg : Str -> Option Value} {base : Heap} (i : Nat) {x : Str} {p : Pos} {k : Nat} (hr : Room k X.A) (tk : L2C.Takes X W) (hN : X.N[i]? = some x := by rfl) (hv : Vis X.env.scope x := by first | exact Or.inl rfl | exact Or.inr (Or.inl rfl) | exact Or.inr (Or.inr rfl))
    (hd:(x==("__debug__":Str))=false:=by decide) (hcd:(x==("__classdict__":Str))=false:=by decide) (hP:X.prog=P:=by rfl) (hw:X.w=w:=by rfl) (hK:X.K=K:=by rfl) (hm:X.mg=mg:=by rfl) (hb:X.base=base:=by rfl) :
    DE X W (.Call (.Name x p) [] [] pos) (TClo P w K mg base k i):=by
  subst hP hw hK hm hb
  exact de_clo i hr tk hN hv hd hcd
end
section
variable {X:Cx}{W:WX}{pos:Pos}
theorem ds_try_whyK {K : PySem.W.Frag} {e said fld : Str} {i j k : Nat} {g : Addr} {F : TF} {body : List Stmt} {Tb : TSD} {t1 t2 : Expr} {cs1 cs2 : List Value} {p1 p2 p3 p4 p5 p6 p7 p8 p9 q1 q2 q3 q4 q5 q6 q7 : Pos} {k1 k2 k3 : Nat}
    (hs:X.stack=X.env::X.outer) (hf:X.env.frame=some X.env.locals) (hN:X.N.Nodup) (hi:X.N[i]?=some e) (hln:X.env.kindOf e=some .local) (hj:X.N[j]?=some said) (hlj:X.env.scope.names.lookup said=some .local) (hij:i≠j) (tk:L2C.Takes X W)
    (ht1:L2.TstOk X t1 cs1) (ht2:L2.TstOk X t2 cs2) (G:FnC X.prog X.w X.K X.mg X.base k g F) (hr:Room k X.A) (hG:Gl X fld) (hM:X.mg fld=some (.ref g)) (hK:PySem.W.keepIn X.K (.ref g)=true)
    (hb:∀ (W:WX) (pn:List (Addr × Obj)) (xe:Value->Shared->Prop),L2C.Takes (X.tr pn xe) W->PassesOwn (model X.prog X.w) X.A X.env xe->DSs (X.tr pn xe) W body Tb)
    (hdb:(fld==("__debug__":Str))=false:=by decide) (hd:(e==("__debug__":Str))=false:=by decide) (hcd:(e==("__classdict__":Str))=false:=by decide)
    (hba:attributeBase (.Name e p3) "word" X.env (eval (.Name e p3) X.env)=eval (.Name e p3) X.env:=by rfl) (hbb:attributeBase (.Name e q3) "word" X.env (eval (.Name e q3) X.env)=eval (.Name e q3) X.env:=by rfl)
    (hst:starEach [.Name e p6] X.env=(false,eval (.Name e p6) X.env)::starEach [] X.env:=by rfl)
    (hsw1:swapsWith (.Tuple [.Attribute (.Name e p3) "word" p4,.Call (.Name fld p5) [.Name e p6] [] p7] k1 p8) (some (.Name said p2)) p9.line X.env=pure false:=by rfl)
    (hsw2:swapsWith (.Tuple [.Attribute (.Name e q3) "word" q4,.Tuple [] k2 q5] k3 q6) (some (.Name said q2)) q7.line X.env=pure false:=by rfl)
    (hs1:starEach [.Attribute (.Name e p3) "word" p4,.Call (.Name fld p5) [.Name e p6] [] p7] X.env=(false,eval (.Attribute (.Name e p3) "word" p4) X.env)::starEach [.Call (.Name fld p5) [.Name e p6] [] p7] X.env:=by rfl)
    (hs2:starEach [.Call (.Name fld p5) [.Name e p6] [] p7] X.env=(false,eval (.Call (.Name fld p5) [.Name e p6] [] p7) X.env)::starEach [] X.env:=by rfl)
    (hs3:starEach [.Attribute (.Name e q3) "word" q4,.Tuple [] k2 q5] X.env=(false,eval (.Attribute (.Name e q3) "word" q4) X.env)::starEach [.Tuple [] k2 q5] X.env:=by rfl)
    (hs4:starEach [.Tuple [] k2 q5] X.env=(false,eval (.Tuple [] k2 q5) X.env)::starEach [] X.env:=by rfl)
    (hKK:X.K=K:=by rfl) :
    DS X W (.Try body [.ExceptHandler (some t1) (some e) [.Assign [.Name said p2] (.Tuple [.Attribute (.Name e p3) "word" p4,.Call (.Name fld p5) [.Name e p6] [] p7] k1 p8) p9] p1,
      .ExceptHandler (some t2) (some e) [.Assign [.Name said q2] (.Tuple [.Attribute (.Name e q3) "word" q4,.Tuple [] k2 q5] k3 q6) q7] q1] [] [] pos) (TWhy K i j Tb F cs1 cs2):=by
  subst hKK
  exact ds_try_why hs hf hN hi hln hj hlj hij tk ht1 ht2 G hr hG hM hK hb hdb hd hcd hba hbb hst hsw1 hsw2 hs1 hs2 hs3 hs4
end
open PySem PySem.Spec PyProof.Rows L2
theorem tabs_ext {T:List (Addr × Str)}{H H':Hp} (t:LamX.Tabs T H) (hf:∀ p∈T,∀ o,H p.1=some o->H' p.1=some o) (hx:∀ b φ,H b=some (.ext φ)->H' b=some (.ext φ)):LamX.Tabs T H':=fun p hp=>by
  obtain⟨ps,h1,h2,h3⟩:=t p hp
  exact⟨ps,hf p hp _ h1,h2,fun pos cv hc=>by
    obtain⟨c,e,h4⟩:=h3 pos cv hc
    exact⟨c,e,hx _ _ h4⟩⟩
/-- the hand at h,its cells at c,the tables T -/
def hwT(T:List (Addr × Str)) (h c:Addr) (cells:List Int):Wd where
  foot:=fun b=>(b=h\/b=c)\/∃ p∈T,b=p.1
  inv:=fun H=>(∃ i j m:Int,0<=i/\h≠c/\H h=some (.lst [.ref c,.int i,.int j,.int m])/\H c=some (.lst (cells.map V.int)))/\LamX.Tabs T H
  there:=fun H b ⟨⟨i,j,m,_,_,h1,h2⟩,t⟩ hb=>by
    rcases hb with (e | e) | ⟨p,hp,e⟩
    . exact⟨_,by rw[e]; exact h1⟩
    . exact⟨_,by rw[e]; exact h2⟩
    . obtain⟨ps,h3,_⟩:=t p hp
      exact⟨_,by rw[e]; exact h3⟩
  ext:=fun H H' ⟨⟨i,j,m,h0,hn,h1,h2⟩,t⟩ hk hx=>⟨⟨i,j,m,h0,hn,hk _ _ (.inl (.inl rfl)) h1,hk _ _ (.inl (.inr rfl)) h2⟩,tabs_ext t (fun p hp o e=>hk _ _ (.inr ⟨p,hp,rfl⟩) e) hx⟩
  nt:=fun H b xs ⟨⟨i,j,m,_,_,h1,h2⟩,t⟩ hb z=>by
    rcases hb with (e | e) | ⟨p,hp,e⟩
    . rw[e,h1] at z; cases z
    . rw[e,h2] at z; cases z
    . obtain⟨ps,h3,_⟩:=t p hp
      rw[e,h3] at z; cases z
theorem hwT_wdt {T:List (Addr × Str)}{h c:Addr}{cells:List Int}:WdT T (hwT T h c cells) where
  tabs:=fun H i=>i.2
  foot:=fun p hp=>.inr ⟨p,hp,rfl⟩
  pres:=fun H H1 ⟨⟨i,j,m,h0,hn,h1,h2⟩,_⟩ e t=>⟨⟨i,j,m,h0,hn,e _ _ h1 (by intro ps z; cases z),e _ _ h2 (by intro ps z; cases z)⟩,t⟩
  noext:=fun H b φ ⟨⟨i,j,m,h0,hn,h1,h2⟩,t⟩ hb z=>by
    rcases hb with (e | e) | ⟨p,hp,e⟩
    . rw[e,h1] at z; cases z
    . rw[e,h2] at z; cases z
    . obtain⟨ps,h3,_⟩:=t p hp
      rw[e,h3] at z; cases z
def F_pickT(T:List (Addr × Str)):TF:=fun wd ds φ _=>∃ (h c:Addr) (cells:List Int) (many:Int),wd=hwT T h c cells/\ds=[.ref h,.int many]/\0<many/\many<1000000/\∀ r:Int,0<=r->r<many->φ (.int r)
theorem pick_ofT {T:List (Addr × Str)}{P:Program}{w:World}{K:PySem.W.Frag}{mg:Str->Option Value}{base:Heap}{k:Nat}{f:Addr} (G:FnR P w K mg base (L2C.CX P w) k f sp_pick):Fn3 P w K mg base k f (F_pickT T):=by
  refine FnR.imp G fun vs H Q E ⟨wd,R,ds,φ,ε,b,r,⟨h,c,cells,many,e1,e2,h1,h2,hq⟩,hQ,_⟩=>?_
  subst e1 e2
  obtain⟨v,u,ev,r1,r2⟩:=reps2 r
  subst ev
  obtain rfl:v=.ref h:=r1
  obtain rfl:u=.int many:=r2
  obtain⟨⟨i,j,m,h0,hn,g1,g2⟩,t⟩:=b.inv
  refine⟨h,c,cells,i,j,m,many,rfl,h0,hn,g1,g2,h1,h2,fun i' j' r hi hr1 hr2=>hQ _ R _ (.int r) ⟨fun _ _ h=>h,fun a o q=>?_,fun a o q hf=>?_,fun _ _ q _ _=>q,⟨⟨i',j',m,hi,hn,upd_same,by rw[upd_ne hn.symm]; exact g2⟩,tabs_ext t (fun p hp o e=>?_) fun b φ e=>?_⟩,b.ft⟩ rfl (hq r hr1 hr2)⟩
  . have:a≠h:=fun e=>by
      have:=b.ft a (.inl (.inl e))
      rw[this] at q
      cases q
    rw[upd_ne this]
    exact b.sub a o q
  . rw[upd_ne fun e=>hf (.inl (.inl e))]
    exact q
  . obtain⟨ps,h3,_⟩:=t p hp
    rw[upd_ne fun z=>by rw[z,g1] at h3; cases h3]
    exact e
  . rw[upd_ne fun z=>by rw[z,g1] at e; cases e]
    exact e
/-- a drawn item -/
def F_ofT(T:List (Addr × Str)):TF:=fun wd ds φ _=>∃ (h c:Addr) (cells:List Int) (es:List D),wd=hwT T h c cells/\ds=[.ref h,.lst es]/\es≠[]/\es.length<1000000/\∀ d∈es,φ d
theorem script_worldT {K:PySem.W.Frag}{T:List (Addr × Str)}{H:Hp}{a:Addr}{xs:List V} (hO:∀ p∈T,H p.1=some (.tbl #[])) (h:SqL K H a xs):∃ wd:Wd,Bas wd (fun _=>none) H/\(∀ H',wd.inv H'->SqL K H' a xs)/\∀ H',wd.inv H'->LamX.Tabs T H':=by
  have t0:LamX.Tabs T H:=fun p hp=>LamX.TabS.nil (hO p hp)
  rcases h with h | h
  . obtain⟨o,ho,hs,hk3⟩:∃ o,H a=some o/\(∀ H':Hp,H' a=some o->SqL K H' a xs)/\((∃ xs',o=.lst xs')\/∃ o' xs',o=.frz o' (.lst xs')):=by
      rcases h with h | ⟨o,h⟩
      . exact⟨_,h,fun H' z=>.inl (.inl z),.inl ⟨_,rfl⟩⟩
      . exact⟨_,h,fun H' z=>.inl (.inr ⟨o,z⟩),.inr ⟨_,_,rfl⟩⟩
    refine⟨⟨fun b=>b=a\/∃ p∈T,b=p.1,fun H'=>H' a=some o/\LamX.Tabs T H',fun H b ⟨i1,i2⟩ hb=>?_,fun H H' ⟨i1,i2⟩ k x=>⟨k _ _ (.inl rfl) i1,tabs_ext i2 (fun p hp o e=>k _ _ (.inr ⟨p,hp,rfl⟩) e) x⟩,fun H b ys ⟨i1,i2⟩ hb z=>(by
      rcases hb with e | ⟨p,hp,e⟩
      . subst e
        obtain⟨xs',e1⟩ | ⟨o',xs',e1⟩:(∃ xs',o=.lst xs')\/∃ o' xs',o=.frz o' (.lst xs'):=hk3
        . rw[i1,e1] at z; cases z
        . rw[i1,e1] at z; cases z
      . obtain⟨ps,h3,_⟩:=i2 p hp
        rw[e,h3] at z; cases z)⟩,⟨fun _ _ q=>(by cases q),⟨ho,t0⟩,fun _ _=>rfl⟩,fun H' i=>hs H' i.1,fun H' i=>i.2⟩
    rcases hb with e | ⟨p,hp,e⟩
    . exact⟨_,by rw[e]; exact i1⟩
    . obtain⟨ps,h3,_⟩:=i2 p hp
      exact⟨_,by rw[e]; exact h3⟩
  . refine⟨⟨fun b=>∃ p∈T,b=p.1,fun H'=>LamX.Tabs T H',fun H b i2 ⟨p,hp,e⟩=>?_,fun H H' i2 k x=>tabs_ext i2 (fun p hp o e=>k _ _ ⟨p,hp,rfl⟩ e) x,fun H b ys i2 ⟨p,hp,e⟩ z=>(by
      obtain⟨ps,h3,_⟩:=i2 p hp
      rw[e,h3] at z; cases z)⟩,⟨fun _ _ q=>(by cases q),t0,fun _ _=>rfl⟩,fun H' _=>.inr h,fun H' i=>i⟩
    obtain⟨ps,h3,_⟩:=i2 p hp
    exact⟨_,by rw[e]; exact h3⟩
def sp_lawT(K:PySem.W.Frag) (T:List (Addr × Str)):Sp:=fun vs H Q _=>∃ (a:Addr) (ns:List Int),vs=[.ref a]/\(∀ p∈T,H p.1=some (.tbl #[]))/\SqL K H a (ns.map V.int)/\ns.length<=63/\∀ H',Q (.bl true) H'
theorem law_topT {K : PySem.W.Frag} {W : WX} {N : List Str} {H : Hp} {Q : VK} {vs : List V} {Tb : List (Addr × Str)} {T : TD} {Trest : TSD} (hN : 2 <= N.length) (h : ∃ E, sp_lawT K Tb vs H Q E)
    (hT:∀ (wd:Wd) (a:Addr) (ns:List Int) (φ:D->Prop),(∀ H,wd.inv H->SqL K H a (ns.map V.int))->ns.length<=63->(∀ m:Int,φ (.lst [.lst (ns.map D.int),.int 0,.int 0,.int m]))->T ⟨wd,fun _ _=>False⟩ (.v (.ref a)::List.replicate (N.length - 1) .no) φ)
    (hrest:∀ (p c:Addr) (ns:List Int),Trest ⟨hwT Tb p c ns,fun _ _=>False⟩ {nx:=fun _=>False,rt:=fun d _=>d=.bl true} (.no::.v (.ref p)::List.replicate (N.length - 2) .no)) :
    tSeq (tAsg (tD K W T) (gName 1)) (tS3 K W Trest) {nx:=fun _ H'=>Q .non H',rt:=Q} (L2.start N vs) H:=by
  obtain⟨E,a,ns,rfl,hO,hS,hl,hQ⟩:=h
  obtain⟨wd,b,hw',hwt⟩:=script_worldT hO hS
  obtain⟨n,hn⟩:∃ n,N.length=n+2:=⟨N.length - 2,by omega⟩
  have e1:L2.start N [.ref a]=some (.ref a)::none::List.replicate n none:=by
    unfold L2.start
    rw[hn]
    rfl
  rw[e1]
  have no:∀ (n:Nat) (R H:Hp),Paired (SlOk K R H) (List.replicate n none) (List.replicate n .no):=by
    intro n R H
    induction n with
    | zero=>exact .nil
    | succ n ih=>exact .cons trivial ih
  have nad:∀ (n i:Nat) (p:Addr),adAt (List.replicate n .no) i≠some p:=by
    intro n i p h
    unfold adAt at h
    rw[List.getElem?_replicate] at h
    split at h<;>cases h
  have nad2:∀ (n i:Nat) (s:Sl) (p:Addr),s.ad=none->adAt (s::List.replicate n .no) i≠some p:=by
    intro n i s p hs h
    cases i with
    | zero =>
      have:s.ad=some p:=h
      rw[hs] at this
      cases this
    | succ i=>exact nad n i p h
  refine⟨⟨⟨wd,fun _ _=>False⟩,fun _=>none,H,fun _=>none⟩,fun _=>none,.v (.ref a)::List.replicate (n+1) .no,fun d=>∃ m:Int,d=.lst [.lst (ns.map D.int),.int 0,.int 0,.int m],fun _ _ _ _ _ _ _ _ _ z=>z.elim,⟨Fin.refl b,fun _ _ h=>h,.cons ⟨_,rfl,rfl⟩ (no (n+1) _ _),fun i p h=>absurd h (nad2 _ _ _ _ rfl),fun i j p h _=>absurd h (nad2 _ _ _ _ rfl)⟩,?_,fun v H' ⟨R',d,f,r,m,e⟩=>?_⟩
  . have:=hT wd a ns (fun d=>∃ m:Int,d=.lst [.lst (ns.map D.int),.int 0,.int 0,.int m]) hw' hl (fun m=>⟨m,rfl⟩)
    rw[hn] at this
    exact this
  . subst e
    obtain⟨p,xs,rfl,hp,hr⟩:=rep_lst r
    obtain⟨v1,r1,rfl,q1,hr⟩:=hr
    obtain⟨v2,r2,rfl,q2,hr⟩:=hr
    obtain⟨v3,r3,rfl,q3,hr⟩:=hr
    obtain⟨v4,r4,rfl,q4,hr⟩:=hr
    obtain rfl:r4=[]:=hr
    obtain⟨c,ys,rfl,hc,hy⟩:=rep_lst q1
    obtain rfl:ys=ns.map V.int:=hy.ints
    obtain rfl:v2=.int 0:=q2
    obtain rfl:v3=.int 0:=q3
    obtain rfl:v4=.int m:=q4
    have hpc:p≠c:=fun e=>by
      subst e
      rw[hp] at hc
      have z:=HO.lst.inj (Option.some.inj hc)
      cases ns with
      | nil=>cases z
      | cons n r=>cases z
    refine⟨⟨⟨hwT Tb p c ns,fun _ _=>False⟩,fun _=>none,H',fun _=>none⟩,fun _=>none,.no::.v (.ref p)::List.replicate n .no,{nx:=fun _=>False,rt:=fun d _=>d=.bl true},fun _ _ _ _ _ _ _ _ _ z=>z.elim,
      ⟨Fin.refl ⟨fun _ _ q=>by(cases q),⟨⟨0,0,m,Int.le_refl _,hpc,f.sub _ _ hp,f.sub _ _ hc⟩,hwt _ f.inv⟩,fun _ _=>rfl⟩,fun _ _ h=>h,.cons trivial (.cons ⟨_,rfl,rfl⟩ (no n _ _)),fun i q h=>?_,fun i j q h _=>?_⟩,?_,⟨fun _ _ _ _ _ z=>z.elim,fun R H σ env d v ok r e=>?_,fun _ _ _ _ _ z=>z.elim,fun _ _ _ _ _ z=>z.elim⟩⟩
    . cases i with
      | zero=>cases h
      | succ i=>exact absurd h (nad2 n i _ q rfl)
    . cases i with
      | zero=>cases h
      | succ i=>exact absurd h (nad2 n i _ q rfl)
    . have:=hrest p c ns
      rw[hn] at this
      exact this
    . subst e
      obtain rfl:v=.bl true:=r
      exact hQ H
open PySem PySem.Spec PyProof.Rows L2
def obsXT(n:Nat) (fa:List He.Fa) (fn:List He5.DefA) (ex:List ExB) (tf:List He.Defn) (g:Addr->Option Obj):He.AlD × Bool:=(obsX fa fn ex (He.frT g (He5.asA g n)),He.tabsB g tf (He.frT g (He5.asA g n)))
structure SaysXT (fa:List He.Fa) (fn:List He5.DefA) (ex:List ExB) (tf:List He.Defn) (h:Heap) (K:PySem.W.Frag):Prop where
  s:SaysX fa fn ex K
  hd:∀ p∈tf,PySem.W.codeHdIn K (He.cT K p).1 (He.cT K p).2=true
  out:∀ p∈tf,K.lookup (He.cT K p).2=none
  empty:∀ p∈tf,h.get? (He.cT K p).2=some {cls:=.none,data:=.fields #[]}
theorem saysXT_of {n:Nat}{fa:List He.Fa}{fn:List He5.DefA}{ex:List ExB}{tf:List He.Defn}{h:Heap} (e:obsXT n fa fn ex tf h.get?=(He5.valA fn,true)):SaysXT fa fn ex tf h (He.frT h.get? (He5.asA h.get? n)):=by
  have e1:obsX fa fn ex (He.frT h.get? (He5.asA h.get? n))=He5.valA fn:=congrArg (fun z:He.AlD × Bool=>z.1) e
  have e2:He.tabsB h.get? tf (He.frT h.get? (He5.asA h.get? n))=true:=congrArg (fun z:He.AlD × Bool=>z.2) e
  have key:∀ p∈tf,PySem.W.codeHdIn (He.frT h.get? (He5.asA h.get? n)) (He.cT (He.frT h.get? (He5.asA h.get? n)) p).1 (He.cT (He.frT h.get? (He5.asA h.get? n)) p).2=true/\∃ o,h.get? (He.cT (He.frT h.get? (He5.asA h.get? n)) p).2=some o/\He.emptyTab o=true:=fun p hp=>by
    obtain⟨h3,h4⟩:=He.ba (List.all_eq_true.mp e2 p hp)
    refine⟨h3,?_⟩
    cases q:h.get? (He.cT (He.frT h.get? (He5.asA h.get? n)) p).2 with
    | none =>
      rw[q] at h4
      cases h4
    | some o =>
      rw[q] at h4
      exact⟨o,rfl,h4⟩
  exact⟨e1,fun p hp=>(key p hp).1,fun p hp=>by
    obtain⟨_,o,q,z⟩:=key p hp
    exact He.frT_none q z,fun p hp=>by
    obtain⟨_,o,q,z⟩:=key p hp
    rw[q,He.emptyTab_eq z]⟩
/-- a def whose code object is told -/
theorem FunD.okC {CX : CXT} {P : Program} {w : World} {K : PySem.W.Frag} {mg : Str -> Option Value} {base : Heap} {x qual : Str} {params : Arguments} {body : List Stmt} {scope : Scope} {dvs : List V} {kws : List (Str × V)} {f : Addr} {fd : FuncData} {N ps : List Str} {k : Nat} {sp : Sp} {p : He.Defn}
    (F:FunD K x qual params body scope dvs kws f fd) (hp:He.fAd K p=f) (S:FnScope N ps scope) (len:∀ vs H Q E,sp vs H Q E->vs.length=ps.length)
    (hbody:∀ (A:Around) (outer:List Env) (s:Shared) (H:Hp) (vs:List V) (Q:VK) (E:XK),Room k (A.deeper (envOfC qual scope s.heap.objs.size f (.ref (He.codeOf K p))))->sp vs H Q E ->
      ∃ t,PSs (cxOf CX P w K mg base N qual scope f (.ref (He.codeOf K p)) A outer s H E) body t/\t {nx:=fun _ H'=>Q .non H',rt:=Q} (start N vs) H):FnOk P w K mg base CX (k+1) f fd ps sp:=by
  obtain⟨oc,od,dV,kV,doc,pm,an,cdv,ct,osl,rfl,lk,hcd,_,_⟩:=F.ex
  obtain⟨c,ec⟩:=He.codeIn_ref hcd
  have e:He.codeOf K p=c:=He.codeOf_eq (by rw[hp]; exact lk) ec
  subst ec
  subst e
  exact fn_of lk hcd S len fun A outer s H vs Q E hr hsp=>hbody A outer s H vs Q E hr hsp
open PySem PySem.Spec PyProof.Rows L2
theorem FunS.bindsN {K : PySem.W.Frag} {x qual : Str} {params : Arguments} {body : List Stmt} {scope : Scope} {file : Str} {D f : Addr} {fd : FuncData} {ps : List Str} (F : FunS K x qual params body scope file D f fd)
    (h:∀ (cc:Addr) (kV doc pm:Value) (an:Option Addr) (cdv ct:Value) (us:List Value),us.length=ps.length->bindArgs (PySem.W.fnX x qual params body scope [("__class__",cc)] .none kV doc pm an cdv ct) ⟨us,[]⟩=pure (ps.zip us)):Binds K fd ps []:=by
  obtain⟨oc,od,kV,doc,pm,an,cda,cc,ct,osl,rfl,_⟩:=F.ex
  exact .all (h cc kV doc pm an (.ref cda) ct)
open PySem PySem.Spec PyProof.Rows L2
/-- one such def: D its class -/
structure DefS where
  at_:PySem.W.Frag->Addr
  cls:PySem.W.Frag->Addr
  file:Str
  name:Str
  qual:Str
  params:Arguments
  body:List Stmt
  scope:Scope
def fnS(K:PySem.W.Frag) (a:Addr):He.FnW:=match K.lookup a with
  | some ⟨_,_,.func fd,_⟩=>(match fd.closure with
    | [(n,_)]=>if n=("__class__":Str) then some (fd.name,fd.qualname,fd.params,fd.body,fd.scope,fd.globals,[],fd.builtins) else none
    | _=>none)
  | _=>none
def DefS.val(d:DefS):He.FnW:=some (d.name,d.qual,d.params,.stmts d.body,d.scope,mainGlobals,[],builtinsNs)
def fileB(K:PySem.W.Frag) (file:Str):Value->Bool
  | .ref cda=>(match K.lookup cda with
    | some ⟨_,_,.fields vs,_⟩=>(match (vs[2]?:Option Value) with
      | some (Value.str x _)=>decide (x=file)
      | _=>false)
    | _=>false)
  | _=>false
def cellB(K:PySem.W.Frag) (D:Addr):List (Str × Addr)->Bool
  | [(_,cc)]=>(match K.lookup cc with
    | some ⟨_,_,.cell (some (.ref d)),_⟩=>decide (d=D)
    | _=>false)
  | _=>false
def noneB:Value->Bool
  | .none=>true
  | _=>false
def DefS.ok(K:PySem.W.Frag) (d:DefS):Bool:=PySem.W.keepIn K (.ref (d.at_ K))&&((PySem.W.clsIn K (d.cls K)).isSome&&(match K.lookup (d.at_ K) with
  | some ⟨_,_,.func fd,_⟩=>PySem.W.codeIn K fd.code d.qual&&(fileB K d.file fd.code&&(cellB K (d.cls K) fd.closure&&noneB fd.defaults))
  | _=>false))
theorem DefS.funS {K:PySem.W.Frag}{d:DefS} (e:fnS K (d.at_ K)=d.val) (c:d.ok K=true):∃ fd,FunS K d.name d.qual d.params d.body d.scope d.file (d.cls K) (d.at_ K) fd:=by
  obtain⟨kp,c⟩:=He.ba c
  obtain⟨kc,c2⟩:=He.ba c
  unfold fnS at e
  cases q:K.lookup (d.at_ K) with
  | none =>
    rw[q] at c2
    cases c2
  | some o =>
    obtain⟨oc,od,dt,osl⟩:=o
    rw[q] at c2 e
    cases dt with
    | func fd =>
      obtain⟨h1,c3⟩:=He.ba c2
      obtain⟨h2,c4⟩:=He.ba c3
      obtain⟨h3,h4⟩:=He.ba c4
      obtain⟨nm,qn,pr,bd,sc,gl,cl,df,kd,dc,pm,an,cd,ct,bn⟩:=fd
      dsimp only at h1 h2 h3 h4 e
      have hdf:df=.none:=by
        cases df<;>first | rfl | cases h4
      subst hdf
      cases cl with
      | nil=>cases e
      | cons p r =>
        cases r with
        | cons _ _=>obtain⟨n,cc⟩:=p; cases e
        | nil =>
          obtain⟨n,cc⟩:=p
          dsimp only at e
          by_cases hn:n=("__class__":Str)
          . rw[if_pos hn] at e
            have e2:=Option.some.inj e
            injection e2 with e3 e2
            injection e2 with e4 e2
            injection e2 with e5 e2
            injection e2 with e6 e2
            injection e2 with e7 e2
            injection e2 with e8 e2
            injection e2 with e9 e10
            subst hn
            cases cd with
            | ref cda =>
              unfold fileB at h2
              dsimp only at h2
              cases q2:K.lookup cda with
              | none=>rw[q2] at h2; cases h2
              | some o2 =>
                obtain⟨c1,cdd,dt2,cs⟩:=o2
                rw[q2] at h2
                cases dt2 with
                | fields vs =>
                  dsimp only at h2
                  cases q3:vs[2]? with
                  | none=>rw[q3] at h2; cases h2
                  | some y =>
                    rw[q3] at h2
                    cases y with
                    | str z tf =>
                      have hz:z=d.file:=of_decide_eq_true h2
                      subst hz
                      unfold cellB at h3
                      dsimp only at h3
                      cases q4:K.lookup cc with
                      | none=>rw[q4] at h3; cases h3
                      | some o4 =>
                        obtain⟨l1,l2,l3,l4⟩:=o4
                        rw[q4] at h3
                        cases l3 with
                        | cell v =>
                          cases v with
                          | none=>cases h3
                          | some v =>
                            cases v with
                            | ref dd =>
                              have hdd:dd=d.cls K:=of_decide_eq_true h3
                              subst hdd
                              refine⟨_,⟨⟨oc,od,kd,dc,pm,an,cda,cc,ct,osl,?_,q,h1,⟨c1,cdd,vs,cs,tf,q2,q3⟩,l1,l2,l4,q4⟩,Option.isSome_iff_exists.mp kc,kp⟩⟩
                              subst e3 e4 e5 e6 e7 e8 e10
                              rfl
                            | _=>cases h3
                        | _=>cases h3
                    | _=>cases h2
                | _=>cases h2
            | _=>cases h2
          . rw[if_neg hn] at e
            cases e
    | _=>cases c2
abbrev AlU:Type:=(He.AlD × List He.FnW) × Bool
def obsXU(n:Nat) (fa:List He.Fa) (fn:List He5.DefA) (fs:List DefS) (ex:List ExB) (tf:List He.Defn) (g:Addr->Option Obj):AlU :=
  ((obsX fa fn ex (He.frT g (He5.asA g n)),fs.map fun d=>fnS (He.frT g (He5.asA g n)) (d.at_ (He.frT g (He5.asA g n)))),(fs.all fun d=>d.ok (He.frT g (He5.asA g n)))&&He.tabsB g tf (He.frT g (He5.asA g n)))
def valXU(fn:List He5.DefA) (fs:List DefS):AlU:=((He5.valA fn,fs.map DefS.val),true)
structure SaysXU (fa:List He.Fa) (fn:List He5.DefA) (fs:List DefS) (ex:List ExB) (tf:List He.Defn) (h:Heap) (K:PySem.W.Frag):Prop where
  s:SaysX fa fn ex K
  sf:(fs.map fun d=>fnS K (d.at_ K))=fs.map DefS.val
  so:(fs.all fun d=>d.ok K)=true
  hd:∀ p∈tf,PySem.W.codeHdIn K (He.cT K p).1 (He.cT K p).2=true
  out:∀ p∈tf,K.lookup (He.cT K p).2=none
  empty:∀ p∈tf,h.get? (He.cT K p).2=some {cls:=.none,data:=.fields #[]}
theorem saysXU_of {n:Nat}{fa:List He.Fa}{fn:List He5.DefA}{fs:List DefS}{ex:List ExB}{tf:List He.Defn}{h:Heap} (e:obsXU n fa fn fs ex tf h.get?=valXU fn fs):SaysXU fa fn fs ex tf h (He.frT h.get? (He5.asA h.get? n)):=by
  have e1:obsX fa fn ex (He.frT h.get? (He5.asA h.get? n))=He5.valA fn:=congrArg (fun z:AlU=>z.1.1) e
  have e2:((fs.all fun d=>d.ok (He.frT h.get? (He5.asA h.get? n)))&&He.tabsB h.get? tf (He.frT h.get? (He5.asA h.get? n)))=true:=congrArg (fun z:AlU=>z.2) e
  have e3:(fs.map fun d=>fnS (He.frT h.get? (He5.asA h.get? n)) (d.at_ (He.frT h.get? (He5.asA h.get? n))))=fs.map DefS.val:=congrArg (fun z:AlU=>z.1.2) e
  obtain⟨e4,e5⟩:=He.ba e2
  have t:=saysXT_of (fa:=fa) (fn:=fn) (ex:=ex) (tf:=tf) (n:=n) (h:=h) (by unfold obsXT; rw[e1,e5])
  exact⟨e1,e3,e4,t.hd,t.out,t.empty⟩
def hookXU(n:Nat) (fa:List He.Fa) (fn:List He5.DefA) (fs:List DefS) (ex:List ExB) (tf:List He.Defn):PySem.W.Hook where
  α:=AlU
  obs:=fun s=>obsXU n fa fn fs ex tf s.heap.get?
  val:=fun _=>valXU fn fs
  says:=fun _ h=>∃ K:PySem.W.Frag,K.In h/\SaysXU fa fn fs ex tf h K
  of:=fun _ _ e=>⟨_,He.frT_in,saysXU_of e⟩
  keeps:=fun _ _ _ ⟨K,hK,c⟩ k=>⟨K,PySem.W.Frag.In.keeps hK k,⟨c.s,c.sf,c.so,c.hd,c.out,fun p hp=>k _ _ (c.empty p hp)⟩⟩
theorem obsXU_eq {n:Nat}{fa:List He.Fa}{fn:List He5.DefA}{fs:List DefS}{ex:List ExB}{tf:List He.Defn}{g:Addr->Option Obj}{s:Shared} (h:∀ a,g a=s.heap.get? a):obsXU n fa fn fs ex tf g=(hookXU n fa fn fs ex tf).obs s:=by
  have e:g=s.heap.get?:=funext h
  rw[e]<;>rfl
theorem SaysXU.def_s {fa:List He.Fa}{fn:List He5.DefA}{fs:List DefS}{ex:List ExB}{tf:List He.Defn}{h:Heap}{K:PySem.W.Frag} (c:SaysXU fa fn fs ex tf h K) (i:Nat) {d:DefS} (e:fs[i]?=some d:=by rfl) :
    ∃ fd,FunS K d.name d.qual d.params d.body d.scope d.file (d.cls K) (d.at_ K) fd:=by
  have h1:(fs.map fun d=>fnS K (d.at_ K))[i]?=(fs.map DefS.val)[i]?:=by rw[c.sf]
  rw[List.getElem?_map,List.getElem?_map,e] at h1
  exact DefS.funS (Option.some.inj h1) (List.all_eq_true.mp c.so d (List.mem_of_getElem? e))
open PySem PySem.Spec PyProof.Rows L2
section
variable {X:Cx}{W:WX}{pos:Pos}{e:Expr}{T:TD}{f:Str}
/-- the constant f of the class at C -/
def CConK(K:PySem.W.Frag) (C:Addr) (f:Str) (d:D):Prop:=ClX.CRead K C (.type "type")/\flatD d=true/\∃ u,ClX.CVal K C (.type "type") f (flV d) u
def TCCon(K:PySem.W.Frag) (T:TD) (f:Str):TD:=fun c env φ=>T c env fun x=>∃ C d,x=.ref C/\CConK K C f d/\φ d
theorem de_ccon {K:PySem.W.Frag} (he:DE X W e T) (hb:attributeBase e f X.env (eval e X.env)=eval e X.env:=by rfl) (hK:X.K=K:=by rfl):DE X W (.Attribute e f pos) (TCCon K T f):=by
  subst hK
  exact de_mk (ClX.pe_cval he hb) fun S R H σ env φ lk ok h=>tD.ask lk ok h fun R1 H1 d v f1 ok1 r1 ⟨C,d',e1,⟨cr,fl,u,cv⟩,q⟩=>by
    subst e1
    obtain rfl:v=.ref C:=r1
    exact⟨C,.type "type",flV d',u,rfl,cr,cv,R1,d',f1,flV_rep fl,q⟩
def cvB(C m:Str) (n:Int):ExB:=fun K=>match PySem.W.findCls K (.ref (He.ga K C)) (.type "type") m with
  | some (.val (.int i _))=>decide (i=n)
  | _=>false
theorem cvB_ok {C m:Str}{n:Int}{K:PySem.W.Frag} (hc:ClX.CRead K (He.ga K C) (.type "type")) (h:cvB C m n K=true):CConK K (He.ga K C) m (.int n):=by
  unfold cvB at h
  split at h
  case h_1 i t e =>
    have:=of_decide_eq_true h
    subst this
    exact⟨hc,rfl,_,e,⟨t,rfl⟩⟩
  case h_2=>cases h
end
end L3
namespace K17
open PySem PySem.Spec PyProof.Rows L2 L3
def top(i:Nat):Stmt:=PySem.Challenge.pw_piecetrade_k17_machines_made_and_refused.main.body.getD i (.Pass ⟨0,0,0,0⟩)
abbrev s_is_sign:Stmt:=top 14
abbrev s_Tree__init:Stmt:=inClass (top 15) 1
abbrev s_head_of:Stmt:=top 19
abbrev s_is_room:Stmt:=top 21
abbrev s_is_rule:Stmt:=top 22
abbrev s_Machine__init:Stmt:=inClass (top 23) 0
abbrev s_Machine_rules:Stmt:=inClass (top 23) 1
abbrev s_Machine_goals:Stmt:=inClass (top 23) 2
abbrev s_Machine_rooms_of:Stmt:=inClass (top 23) 3
abbrev s_Machine_rooms_above:Stmt:=inClass (top 23) 4
abbrev s_Machine__contains:Stmt:=inClass (top 23) 7
abbrev s_Machine__eq:Stmt:=inClass (top 23) 8
abbrev s_Machine__repr:Stmt:=inClass (top 23) 9
abbrev s_law_hand:Stmt:=top 25
abbrev s_law_pick:Stmt:=top 26
abbrev s_law_of:Stmt:=top 27
abbrev s_law_same:Stmt:=top 28
abbrev s_law_field:Stmt:=top 29
abbrev s_law_why:Stmt:=top 30
abbrev s_law_words:Stmt:=top 31
abbrev s_law_tree:Stmt:=top 32
abbrev s_law_size:Stmt:=top 33
abbrev s_law_head:Stmt:=top 34
abbrev s_law_signs:Stmt:=top 35
abbrev s_law_drawn:Stmt:=top 36
abbrev s_law_once:Stmt:=top 37
abbrev s_law_rooms:Stmt:=top 38
abbrev s_law_rules:Stmt:=top 39
abbrev s_law:Stmt:=top 40
abbrev s_TradeError__init:Stmt:=inClass (top 2) 0
abbrev s_InvalidRules__init:Stmt:=inClass (top 7) 0
def d_is_sign:He5.DefA:={at_:=fun K=>(He.ga K "is_sign"),name:="is_sign",qual:="is_sign",params:=defArgs s_is_sign,body:=defBody s_is_sign,scope:=defScope s_is_sign}
def d_Tree__init:He5.DefA:={at_:=fun K=>(He.ma K (He.ga K "Tree") "__init__"),name:="__init__",qual:="Tree.__init__",params:=defArgs s_Tree__init,body:=defBody s_Tree__init,scope:=defScope s_Tree__init}
def d_head_of:He5.DefA:={at_:=fun K=>(He.ga K "head_of"),name:="head_of",qual:="head_of",params:=defArgs s_head_of,body:=defBody s_head_of,scope:=defScope s_head_of}
def d_is_room:He5.DefA:={at_:=fun K=>(He.ga K "is_room"),name:="is_room",qual:="is_room",params:=defArgs s_is_room,body:=defBody s_is_room,scope:=defScope s_is_room}
def d_is_rule:He5.DefA:={at_:=fun K=>(He.ga K "is_rule"),name:="is_rule",qual:="is_rule",params:=defArgs s_is_rule,body:=defBody s_is_rule,scope:=defScope s_is_rule}
def d_Machine__init:He5.DefA:={at_:=fun K=>(He.ma K (He.ga K "Machine") "__init__"),name:="__init__",qual:="Machine.__init__",params:=defArgs s_Machine__init,body:=defBody s_Machine__init,scope:=defScope s_Machine__init}
def d_Machine_rules:He5.DefA:={at_:=fun K=>(He.ma K (He.ga K "Machine") "rules"),name:="rules",qual:="Machine.rules",params:=defArgs s_Machine_rules,body:=defBody s_Machine_rules,scope:=defScope s_Machine_rules}
def d_Machine_goals:He5.DefA:={at_:=fun K=>(He.ma K (He.ga K "Machine") "goals"),name:="goals",qual:="Machine.goals",params:=defArgs s_Machine_goals,body:=defBody s_Machine_goals,scope:=defScope s_Machine_goals}
def d_Machine_rooms_of:He5.DefA:={at_:=fun K=>(He.ma K (He.ga K "Machine") "rooms_of"),name:="rooms_of",qual:="Machine.rooms_of",params:=defArgs s_Machine_rooms_of,body:=defBody s_Machine_rooms_of,scope:=defScope s_Machine_rooms_of}
def d_Machine_rooms_above:He5.DefA:={at_:=fun K=>(He.ma K (He.ga K "Machine") "rooms_above"),name:="rooms_above",qual:="Machine.rooms_above",params:=defArgs s_Machine_rooms_above,body:=defBody s_Machine_rooms_above,scope:=defScope s_Machine_rooms_above}
def d_Machine__contains:He5.DefA:={at_:=fun K=>(He.ma K (He.ga K "Machine") "__contains__"),name:="__contains__",qual:="Machine.__contains__",params:=defArgs s_Machine__contains,body:=defBody s_Machine__contains,scope:=defScope s_Machine__contains}
def d_Machine__eq:He5.DefA:={at_:=fun K=>(He.ma K (He.ga K "Machine") "__eq__"),name:="__eq__",qual:="Machine.__eq__",params:=defArgs s_Machine__eq,body:=defBody s_Machine__eq,scope:=defScope s_Machine__eq}
def d_Machine__repr:He5.DefA:={at_:=fun K=>(He.ma K (He.ga K "Machine") "__repr__"),name:="__repr__",qual:="Machine.__repr__",params:=defArgs s_Machine__repr,body:=defBody s_Machine__repr,scope:=defScope s_Machine__repr}
def d_law_hand:He5.DefA:={at_:=fun K=>(He.ga K "_law_hand"),name:="_law_hand",qual:="_law_hand",params:=defArgs s_law_hand,body:=defBody s_law_hand,scope:=defScope s_law_hand}
def d_law_pick:He5.DefA:={at_:=fun K=>(He.ga K "_law_pick"),name:="_law_pick",qual:="_law_pick",params:=defArgs s_law_pick,body:=defBody s_law_pick,scope:=defScope s_law_pick}
def d_law_of:He5.DefA:={at_:=fun K=>(He.ga K "_law_of"),name:="_law_of",qual:="_law_of",params:=defArgs s_law_of,body:=defBody s_law_of,scope:=defScope s_law_of}
def d_law_same:He5.DefA:={at_:=fun K=>(He.ga K "_law_same"),name:="_law_same",qual:="_law_same",params:=defArgs s_law_same,body:=defBody s_law_same,scope:=defScope s_law_same}
def d_law_field:He5.DefA:={at_:=fun K=>(He.ga K "_law_field"),name:="_law_field",qual:="_law_field",params:=defArgs s_law_field,body:=defBody s_law_field,scope:=defScope s_law_field}
def d_law_why:He5.DefA:={at_:=fun K=>(He.ga K "_law_why"),name:="_law_why",qual:="_law_why",params:=defArgs s_law_why,body:=defBody s_law_why,scope:=defScope s_law_why}
def d_law_words:He5.DefA:={at_:=fun K=>(He.ga K "_law_words"),name:="_law_words",qual:="_law_words",params:=defArgs s_law_words,body:=defBody s_law_words,scope:=defScope s_law_words}
def d_law_tree:He5.DefA:={at_:=fun K=>(He.ga K "_law_tree"),name:="_law_tree",qual:="_law_tree",params:=defArgs s_law_tree,body:=defBody s_law_tree,scope:=defScope s_law_tree}
def d_law_size:He5.DefA:={at_:=fun K=>(He.ga K "_law_size"),name:="_law_size",qual:="_law_size",params:=defArgs s_law_size,body:=defBody s_law_size,scope:=defScope s_law_size}
def d_law_head:He5.DefA:={at_:=fun K=>(He.ga K "_law_head"),name:="_law_head",qual:="_law_head",params:=defArgs s_law_head,body:=defBody s_law_head,scope:=defScope s_law_head}
def d_law_signs:He5.DefA:={at_:=fun K=>(He.ga K "_law_signs"),name:="_law_signs",qual:="_law_signs",params:=defArgs s_law_signs,body:=defBody s_law_signs,scope:=defScope s_law_signs}
def d_law_drawn:He5.DefA:={at_:=fun K=>(He.ga K "_law_drawn"),name:="_law_drawn",qual:="_law_drawn",params:=defArgs s_law_drawn,body:=defBody s_law_drawn,scope:=defScope s_law_drawn}
def d_law_once:He5.DefA:={at_:=fun K=>(He.ga K "_law_once"),name:="_law_once",qual:="_law_once",params:=defArgs s_law_once,body:=defBody s_law_once,scope:=defScope s_law_once}
def d_law_rooms:He5.DefA:={at_:=fun K=>(He.ga K "_law_rooms"),name:="_law_rooms",qual:="_law_rooms",params:=defArgs s_law_rooms,body:=defBody s_law_rooms,scope:=defScope s_law_rooms}
def d_law_rules:He5.DefA:={at_:=fun K=>(He.ga K "_law_rules"),name:="_law_rules",qual:="_law_rules",params:=defArgs s_law_rules,body:=defBody s_law_rules,scope:=defScope s_law_rules}
def d_law:He5.DefA:={at_:=fun K=>(He.ga K "law"),name:="law",qual:="law",params:=defArgs s_law,body:=defBody s_law,scope:=defScope s_law}
def fa:List He.Fa:=[.glo "Tree",.cls "Tree",.mkr "Tree",.noat "Tree" "sign",.noat "Tree" "branches",.noat "Tree" "size",.noat "Tree" "depth",.noat "Tree" "text",.noat "Tree" "inside",.noat "Tree" "key",.glo "Machine",.cls "Machine",.mkr "Machine",.noat "Machine" "own_rules",.noat "Machine" "own_goals",.glo "is_sign",.glo "head_of",.glo "is_room",.glo "is_rule",.glo "_law_hand",.glo "_law_pick",.glo "_law_of",.glo "_law_same",.glo "_law_field",.glo "_law_why",.glo "_law_words",.glo "_law_tree",.glo "_law_size",.glo "_law_head",.glo "_law_signs",.glo "_law_drawn",.glo "_law_once",.glo "_law_rooms",.glo "_law_rules",.glo "law",.free "sorted",.free "isinstance",.free "str",.free "len",.free "all",.free "int",.free "sum",.free "max",.free "tuple",.free "bool",.free "list",.free "zip",.free "range",.free "super",.free "repr",.free "enumerate",.free "any",.int "MOST_LETTERS" 6,.int "MOST_BRANCHES_trees" 3,.str "LETTERS" "abcdefghijklmnopqrstuvwxyz",.meth "Machine" "rules",.meth "Machine" "goals",.meth "Machine" "rooms_of",.meth "Machine" "rooms_above",.glo "TradeError",.glo "Missing",.glo "NothingLeft",.glo "InvalidRules"]
def ds_TradeError__init:DefS:={at_:=fun K=>(He.ma K (He.ga K "TradeError") "__init__"),cls:=fun K=>(He.ga K "TradeError"),file:=(PySem.Challenge.pw_piecetrade_k17_machines_made_and_refused.main.file),name:="__init__",qual:="TradeError.__init__",params:=defArgs s_TradeError__init,body:=defBody s_TradeError__init,scope:=defScope s_TradeError__init}
def ds_InvalidRules__init:DefS:={at_:=fun K=>(He.ma K (He.ga K "InvalidRules") "__init__"),cls:=fun K=>(He.ga K "InvalidRules"),file:=(PySem.Challenge.pw_piecetrade_k17_machines_made_and_refused.main.file),name:="__init__",qual:="InvalidRules.__init__",params:=defArgs s_InvalidRules__init,body:=defBody s_InvalidRules__init,scope:=defScope s_InvalidRules__init}
def fn:List He5.DefA:=[d_is_sign,d_Tree__init,d_head_of,d_is_room,d_is_rule,d_Machine__init,d_Machine_rules,d_Machine_goals,d_Machine_rooms_of,d_Machine_rooms_above,d_Machine__contains,d_Machine__eq,d_Machine__repr,d_law_hand,d_law_pick,d_law_of,d_law_same,d_law_field,d_law_why,d_law_words,d_law_tree,d_law_size,d_law_head,d_law_signs,d_law_drawn,d_law_once,d_law_rooms,d_law_rules,d_law]
def ex:List ExB:=[insB "Tree",kitB (rC "Tree") (rC "Tree") true,insB "Machine",kitB (rC "Machine") (rC "Machine") true,eqB "Machine",nfB "Tree" (rC "Tree"),nfB "Machine" (rC "Machine"),excB "InvalidRules" "ValueError.__new__" bmVE,(fun K=>xfB K (He.ga K "InvalidRules")),(fun K=>decide (PySem.W.mroIn K (He.ga K "InvalidRules") (.ref (He.ga K "InvalidRules"))=some true/\PySem.W.ks_superIn K (He.ga K "InvalidRules") (He.ga K "InvalidRules") "__init__"=some (some (.ref (He.ma K (He.ga K "TradeError") "__init__")))/\PySem.W.nsIn K cStatics "thirdparty.any"=some none)),(fun K=>decide (PySem.W.mroIn K (He.ga K "InvalidRules") (.ref (He.ga K "TradeError"))=some true/\PySem.W.ks_superIn K (He.ga K "InvalidRules") (He.ga K "TradeError") "__init__"=some (some (.builtin "ValueError.__init__"))/\PySem.W.nsIn K cStatics "thirdparty.any"=some none)),(fun K=>decide (PySem.W.subIn K (.ref (He.ga K "InvalidRules")) (.type "ValueError")=some true)),(fun K=>decide (PySem.W.findIn K (.ref (He.ga K "InvalidRules")) "__init__"=some (some (.ref (He.ma K (He.ga K "InvalidRules") "__init__")))/\PySem.W.typeIn K (.ref (He.ma K (He.ga K "InvalidRules") "__init__"))=some (.type "function"))),(fun K=>decide (PySem.W.findIn K (.ref (He.ga K "InvalidRules")) "word"=some none)),(fun K=>decide (PySem.W.exmAny K (.ref (He.ga K "InvalidRules")) [.ref (He.ga K "TradeError"),.ref (He.ga K "Missing")]=some true)),(fun K=>decide (PySem.W.typeIn K (.ref (He.ma K (He.ga K "TradeError") "__init__"))=some (.type "function")/\PySem.W.fnIn K (He.ma K (He.ga K "TradeError") "__init__")=true)),(fun K=>decide (PySem.W.findIn K (.ref (He.ga K "Machine")) "__contains__"=some (some (.ref (He.ma K (He.ga K "Machine") "__contains__")))/\PySem.W.isFn K (.ref (He.ma K (He.ga K "Machine") "__contains__"))=true)),(fun K=>decide (PySem.W.findIn K (.ref (He.ga K "Machine")) "__repr__"=some (some (.ref (He.ma K (He.ga K "Machine") "__repr__")))/\PySem.W.isFn K (.ref (He.ma K (He.ga K "Machine") "__repr__"))=true)),crB "Tree",cvB "Tree" "MOST_BRANCHES" 3,kitB (fun _=>.type "list") (rC "Machine") false,nfB "Machine" (fun _=>.type "list")]
def loose0:List Str:=["_wall", "TradeError", "Missing", "InvalidSign", "InvalidBranches", "InvalidText", "InvalidRules", "NothingLeft", "LETTERS", "MOST_LETTERS", "MOST_BRANCHES_trees", "MOST_NESTED", "is_sign", "Tree", "deepest", "tree_from", "head_of", "is_room", "is_rule", "Machine", "_law_hand", "_law_pick", "_law_of", "_law_same", "_law_field"]
def loose1:List Str:=["_law_why", "_law_words", "_law_tree", "_law_size", "_law_head", "_law_signs", "_law_drawn", "_law_once", "_law_rooms", "_law_rules"]
def loose:List Str:=loose0++loose1
abbrev R:PySem.W.OpenRow:=PySem.W.OpenLaw.row PySem.Challenge.rw_piecetrade_k17_machines_made_and_refused
def fs:List DefS:=[ds_TradeError__init,ds_InvalidRules__init]
def tf:List He.Defn:=[("law",none)]
abbrev hk:PySem.W.Hook:=hookXU 5 fa fn fs ex tf
def ob(s:PySem.W.SharedT):AlU:=obsXU 5 fa fn fs ex tf (HandSHeadRun.getT s)
theorem ob_eq(s:PySem.W.SharedT):ob s=hk.obs s.abs:=obsXU_eq (HandSHeadRun.getT_eq s)
def va:List He.FnW:=[d_is_sign.val,d_Tree__init.val,d_head_of.val,d_is_room.val,d_is_rule.val,d_Machine__init.val,d_Machine_rules.val,d_Machine_goals.val,d_Machine_rooms_of.val,d_Machine_rooms_above.val,d_Machine__contains.val,d_Machine__eq.val,d_Machine__repr.val,d_law_hand.val,d_law_pick.val,d_law_of.val,d_law_same.val,d_law_field.val,d_law_why.val,d_law_words.val,d_law_tree.val,d_law_size.val,d_law_head.val,d_law_signs.val,d_law_drawn.val,d_law_once.val,d_law_rooms.val,d_law_rules.val,d_law.val]
def vs:List He.FnW:=[ds_TradeError__init.val,ds_InvalidRules__init.val]
def vl(w:World):AlU:=(((true,va),vs),true)
open PySem PySem.W HandSHeadRun in
theorem val(w:World):vl w=hk.val w:=by kernel_rfl
open PySem PySem.W HandSHeadRun in
theorem go(w:World) (os:OsState):(endF (stepQ (denQ tabQ) R.prog w) 6000 R.prog w os).map (fun s=>(looksF R.prog (boot_heap w.params) s.abs,seenQ (PySem.W.view R.prog [40]) loose (importedModules R.prog.main.body) (fun s=>xlAt (PySem.W.view R.prog [40]) [] s&&recOk R.toRowW.records s) s.abs,ob s))=some (true,openGood (PySem.W.view R.prog [40]) loose,((((true,va),vs),true):AlU)):=by kernel_rfl
open PySem PySem.W HandSHeadRun in
theorem run(w:World):HandSHeadRun.RunEq R (PySem.W.view R.prog [40]) hk ob 6000 loose w:=fun os=>(go w os).trans (congrArg (fun z=>some (true,openGood (PySem.W.view R.prog [40]) loose,z)) (val w))
end K17
namespace L3
open PySem PySem.Spec PyProof.Rows L2
end L3
namespace LamX
open PySem PySem.Spec PyProof.Rows L2
section
variable {X:Cx}{pins:List (Addr × Obj)}{σ:L2.St}{H:Hp}{s:Shared}
theorem lam_make4 {T : List (Addr × Str)} {c P : Addr} {params : Arguments} {body : Expr} {scope : Scope} {pos : Pos} {E : Value -> Shared -> Prop} {Q : Value -> Shared -> Prop} (I : Inv X pins σ H s) (TB : TabB X.base X.mg c P) (hcode : X.env.code = .ref c)
    (hm:(P,X.env.qual++"<lambda>")∈T) (hu:∀ p∈T,p.1=P->p.2=X.env.qual++"<lambda>") (hT:Tabs T H) (hdef:defaultsOf params X.env=([],[])) (hfree:∀ y∈scope.names,y.2=.free->∃ c,X.env.cells.lookup y.1=some c)
    (h:∀ (f c':Addr) (pm ctv:Value) (H1:Hp) (s':Shared),Inv X pins σ (upd H1 f (.frz (PySem.W.kla_obj "<lambda>" (X.env.qual++"<lambda>") params body scope (cloFrom X.env.cells scope.names []) pm c' ctv) (.ext fun _=>True))) s'->ExtN H H1->Tabs T H1 ->
      s'.heap.get? f=some (PySem.W.kla_obj "<lambda>" (X.env.qual++"<lambda>") params body scope (cloFrom X.env.cells scope.names []) pm c' ctv)->H1 f=none->f∉frs X.stack->H1 c'=some (CodeO c' (X.env.qual++"<lambda>"))->(∀ b o,b≠P->H b=some o->H1 b=some o)->X.base.get? f=none->Q (.ref f) s') :
    wpAny (model X.prog X.w) X.A (eval (.Lambda params body scope pos) X.env) Q E s:=by
  obtain⟨ps,hP,ht,ha⟩:=hT _ hm
  refine PySem.W.kla_eval hdef ?_
  have bP:s.heap.BuiltinsAt X.mg P:=TB.bm.keeps I.bk
  have hP':s.heap.get? P=some {cls:=.none,data:=.fields ps}:=I.hok P _ hP
  have nofr:∀ f,s.heap.objs.size<=f->f∉frs X.stack:=fun f hf z=>by
    rcases List.mem_cons.mp (I.stkSub _ z) with e | e
    . have h1:=I.lt
      rw[<- e] at h1
      exact Nat.lt_irrefl _ (Nat.lt_of_lt_of_le h1 hf)
    . exact I.nofs hf e
  have nob:∀ f,s.heap.objs.size<=f->X.base.get? f=none:=fun f hf=>by
    cases z:X.base.get? f with
    | none=>rfl
    | some o=>exact absurd (Nat.lt_of_lt_of_le (Heap.lt_size (I.bk f o z)) hf) (Nat.lt_irrefl _)
  cases hc:codeAmong pos ps.toList with
  | none =>
    refine PySem.W.kla_makeFunction (mg:=X.mg) (c:=c) (P:=P) (ps:=ps) (closure_ok hfree) I.ok.glob (I.mod.glob.keeps I.bk) hcode (TB.code.keeps I.bk) hP' ht hc TB.gP bP fun c' ctv h' tk hx hge hlt hrec htb=>?_
    obtain⟨c2,oc,vs,t,e2,hoc,hd,hv⟩:=hrec
    cases e2
    have hsz:s.heap.objs.size<=h'.objs.size:=Nat.le_trans hge (Nat.le_of_lt hlt)
    have nC:H c'=none:=I.hok.fresh hge
    have I1:=inv_table (t':=tk) (more:=#[rawInt pos.line,rawInt pos.col,.ref c']) (h':=h') I hP (fun b o hb e=>hx b o hb e) htb hge ⟨oc,vs,t,hoc,hd,hv⟩
    have I2:=I1.laid (t':=tk) (h':=h'.push (PySem.W.kla_obj "<lambda>" (X.env.qual++"<lambda>") params body scope (cloFrom X.env.cells scope.names []) ((X.mg "__name__").getD .none) c' ctv)) (a:=h'.objs.size) (o:=.frz (PySem.W.kla_obj "<lambda>" (X.env.qual++"<lambda>") params body scope (cloFrom X.env.cells scope.names []) ((X.mg "__name__").getD .none) c' ctv) (.ext fun _=>True)) (fun b u e=>Heap.get?_push_of_some _ e) (Nat.le_refl _) ⟨Heap.get?_push_size _ rfl,trivial,⟨_,Heap.get?_push_size _ rfl⟩,fun _ _ _ _=>trivial⟩
    have hE:ExtN H (upd (upd H P (.tbl (ps++#[rawInt pos.line,rawInt pos.col,.ref c']))) c' (CodeO c' (X.env.qual++"<lambda>"))):=fun b o e n=>by
      rw[upd_ne (ne_of_none e nC),upd_ne (fun z=>n ps (Option.some.inj (e.symm.trans (by rw[z]; exact hP))))]
      exact e
    have eL:(ps++#[rawInt pos.line,rawInt pos.col,.ref c']).toList=ps.toList++[rawInt pos.line,rawInt pos.col,.ref c']:=by simp
    refine h h'.objs.size c' ((X.mg "__name__").getD .none) ctv _ _ I2 hE (fun p hp=>?_) (Heap.get?_push_size _ rfl) ?_ (nofr _ hsz) upd_same (fun b o hb e=>by rw[upd_ne (ne_of_none e nC),upd_ne hb]; exact e) (nob _ hsz)
    . by_cases hb:p.1=P
      . rw[hu p hp hb,hb]
        refine⟨_,by rw[upd_ne (ne_of_none hP nC),upd_same],by rw[eL]; exact PySem.TriplesOk_snoc _ _ _ _ ht,fun p' cv hcv=>?_⟩
        rw[eL] at hcv
        rcases among_app _ ht hcv with z | z
        . obtain⟨c0,e1,e2⟩:=ha p' cv z
          exact⟨c0,e1,hE _ _ e2 codeO_ne⟩
        . exact⟨c',z,upd_same⟩
      . obtain⟨ps',a1,a2,a3⟩:=hT p hp
        refine⟨ps',by rw[upd_ne (ne_of_none a1 nC),upd_ne hb]; exact a1,a2,fun p' cv hcv=>?_⟩
        obtain⟨c0,e1,e2⟩:=a3 p' cv hcv
        exact⟨c0,e1,hE _ _ e2 codeO_ne⟩
    . have n1:h'.objs.size≠c':=Nat.ne_of_gt hlt
      have n2:h'.objs.size≠P:=Nat.ne_of_gt (Nat.lt_of_lt_of_le (Heap.lt_size hP') hsz)
      rw[upd_ne n1,upd_ne n2]
      exact I.hok.fresh hsz
  | some cv =>
    obtain⟨c',e,hco⟩:=ha pos cv hc
    subst e
    refine PySem.W.kla_makeFunctionHit (mg:=X.mg) (c:=c) (P:=P) (ps:=ps) (closure_ok hfree) I.ok.glob (I.mod.glob.keeps I.bk) hcode (TB.code.keeps I.bk) hP' ht hc bP fun ctv h' tk hx hsz=>?_
    have I1:Inv X pins σ H {s with heap:=h',toks:=tk}:=I.kept fun b o e=>hx b o e
    have I2:=I1.laid (t':=tk) (h':=h'.push (PySem.W.kla_obj "<lambda>" (X.env.qual++"<lambda>") params body scope (cloFrom X.env.cells scope.names []) ((X.mg "__name__").getD .none) c' ctv)) (a:=h'.objs.size) (o:=.frz (PySem.W.kla_obj "<lambda>" (X.env.qual++"<lambda>") params body scope (cloFrom X.env.cells scope.names []) ((X.mg "__name__").getD .none) c' ctv) (.ext fun _=>True)) (fun b u e=>Heap.get?_push_of_some _ e) (Nat.le_refl _) ⟨Heap.get?_push_size _ rfl,trivial,⟨_,Heap.get?_push_size _ rfl⟩,fun _ _ _ _=>trivial⟩
    exact h h'.objs.size c' ((X.mg "__name__").getD .none) ctv H _ I2 (ExtN.refl H) hT (Heap.get?_push_size _ rfl) (I.hok.fresh hsz) (nofr _ hsz) hco (fun b o _ e=>e) (nob _ hsz)
end
end LamX
namespace L3
open PySem PySem.Spec PyProof.Rows L2
section
variable {X:Cx}{W:WX}{pos:Pos}{T:List (Addr × Str)}
/-- lambda: .. ; cells: the maker's -/
def TLam(T:List (Addr × Str)) (L:LamC) (cl:List (Str × Addr)):TD:=fun c _ φ=>WdT T c.wd/\φ (.lam L cl)
theorem de_lam {c P:Addr}{params:Arguments}{body:Expr}{scope:Scope} (TB:LamX.TabB X.base X.mg c P) (hcode:X.env.code=.ref c) (hm:(P,X.env.qual++"<lambda>")∈T) (hu:∀ p∈T,p.1=P->p.2=X.env.qual++"<lambda>") (LS:lamSB2 X.env.scope scope=true) (hdef:defaultsOf params X.env=([],[])) :
    DE X W (.Lambda params body scope pos) (TLam T ⟨X.env.qual++"<lambda>",params,body,scope⟩ (cloFrom X.env.cells scope.names [])):=by
  have LS:=lamS2_by LS
  refine⟨fun pins s σ H Q I ⟨S,R,env,φ,lk,ok,⟨wt,hφ⟩,hQ⟩=>?_⟩
  refine LamX.lam_make4 I TB hcode hm hu (wt.tabs H ok.bas.inv) hdef (LS.has I.ok) fun f c' pm' ctv H1 s' I1 eN T1 hf hfH hfr hco kept hfb=>?_
  have hfoot:∀ {b:Addr},S.c.wd.foot b->b≠c':=fun {b} hb e=>by
    subst e
    exact wt.noext H1 _ _ (wt.pres H H1 ok.bas.inv eN T1) hb hco
  have kp:∀ b o,H b=some o->¬S.c.wd.foot b->H1 b=some o:=fun b o e n=>kept b o (fun z=>n (by rw[z]; exact wt.foot _ hm)) e
  have f1:Fin S.c.wd R H (upd R c' (LamX.CodeO c' (X.env.qual++"<lambda>"))) H1:=by
    refine⟨fun b o e=>?_,fun b o e=>?_,kp,fun b o h1 h2 h3=>?_,wt.pres H H1 ok.bas.inv eN T1,fun b hb=>?_⟩
    . by_cases hb:b=c'
      . subst hb
        have h2:=kp b o (ok.bas.sub _ _ e) (fun z=>hfoot z rfl)
        rw[hco] at h2
        rw[upd_same]
        exact h2
      . rw[upd_ne hb]; exact e
    . by_cases hb:b=c'
      . subst hb
        rw[upd_same] at e
        rw[hco]; exact e
      . rw[upd_ne hb] at e
        exact kp b o (ok.bas.sub _ _ e) fun z=>by
          have:=ok.bas.ft b z
          rw[e] at this
          cases this
    . by_cases hb:b=c'
      . subst hb
        have h4:=kp b o h2 (fun z=>hfoot z rfl)
        rw[hco] at h4
        exact absurd (Option.some.inj h4).symm (h3.1 _)
      . rw[upd_ne hb]; exact h1
    . rw[upd_ne (hfoot hb)]
      exact ok.bas.ft b hb
  have ok1:=ok.through f1
  have f2:=Fin.alloc (o:=.frz (PySem.W.kla_obj "<lambda>" (X.env.qual++"<lambda>") params body scope (cloFrom X.env.cells scope.names []) pm' c' ctv) (.ext fun _=>True)) ok1.bas hfH
  refine⟨.ref f,_,I1,rfl,hQ _ _ ⟨_,.lam ⟨X.env.qual++"<lambda>",params,body,scope⟩ (cloFrom X.env.cells scope.names []),f1.trans f2,⟨f,rfl,c',pm',ctv,.none,.none,_,upd_same,fun P w H h z=>z.1,f2.up _ _ upd_same,?_,fun x y a e1 e2=>?_,.inl ⟨defaults_nil hdef,rfl⟩⟩,hφ⟩⟩
  . rw[cloFrom_names]
    exact List.append_nil _
  . have clm:∀ {q:Str × Addr},q∈cloFrom X.env.cells scope.names []->X.env.cells.lookup q.1=some q.2:=fun {q} hq=>by
      rcases cloFrom_mem hq with z | ⟨z1,z2⟩
      . cases z
      . obtain⟨c1,hc⟩:=LS.has I.ok _ z1 rfl
        have hc:X.env.cells.lookup q.1=some c1:=hc
        have z3:q.2=c1:=by rw[z2,hc]<;>rfl
        rw[z3]; exact hc
    exact I.ok.inj x y a (clm (PySem.mem_of_lookup e1)) (clm (PySem.mem_of_lookup e2))
end
structure Mkr where
  N:List Str
  cells:List (Str × Addr)
  scope:Scope
  fn:Str->Bool
abbrev mkrOf (X:Cx):Mkr:=⟨X.N,X.env.cells,X.env.scope,X.fn⟩
mutual
def CloD(M:Mkr) (env:Ev):D->D->Prop
  | .lam L cl,e=>∃ vals ix,e=.clo L vals/\cl=cloFrom M.cells L.scope.names []/\lamSB2 M.scope L.scope=true/\(lamN L.scope).all M.fn=true/\ix.map (M.N[·]?)=(lamN L.scope).map some/\slD env ix vals/\plainDs vals=true
  | .lst ds,e=>∃ es,e=.lst es/\CloDs M env ds es
  | d,e=>plainD d=true/\e=d
def CloDs(M:Mkr) (env:Ev):List D->List D->Prop
  | [],es=>es=[]
  | d::r,es=>∃ e t,es=e::t/\CloD M env d e/\CloDs M env r t
end
def Held(X:Cx) (H:Hp) (s:Shared) (l:List (Addr × Obj)):Prop:=∀ b o,l.lookup b=some o->s.heap.get? b=some o/\H b=none/\X.base.get? b=none/\b∉frs X.stack
theorem look_app {l l':List (Addr × Obj)}{b:Addr}{o:Obj} (h:(l++l').lookup b=some o):l.lookup b=some o\/l'.lookup b=some o:=by
  induction l with
  | nil=>exact .inr h
  | cons p r ih =>
    obtain⟨a,x⟩:=p
    rw[List.cons_append,List.lookup_cons] at h
    rw[List.lookup_cons]
    cases e:(b==a) with
    | true=>rw[e] at h; exact .inl h
    | false=>rw[e] at h; exact ih h
theorem look_app1 {l l':List (Addr × Obj)}{b:Addr}{o:Obj} (h:l.lookup b=some o):(l++l').lookup b=some o:=by
  induction l with
  | nil=>cases h
  | cons p r ih =>
    obtain⟨a,x⟩:=p
    rw[List.lookup_cons] at h
    rw[List.cons_append,List.lookup_cons]
    cases e:(b==a) with
    | true=>rw[e] at h; exact h
    | false=>rw[e] at h; exact ih h
theorem look_app2 {l l':List (Addr × Obj)}{b:Addr} (h:∃ o,l'.lookup b=some o):∃ o,(l++l').lookup b=some o:=by
  induction l with
  | nil=>exact h
  | cons p r ih =>
    obtain⟨a,x⟩:=p
    rw[List.cons_append,List.lookup_cons]
    cases e:(b==a) with
    | true=>exact⟨x,rfl⟩
    | false=>exact ih
theorem Held.app {X:Cx}{H:Hp}{s:Shared}{l l':List (Addr × Obj)} (h:Held X H s l) (h':Held X H s l'):Held X H s (l++l'):=fun b o e=>(look_app e).elim (h b o) (h' b o)
theorem Held.sub2 {X:Cx}{H:Hp}{s:Shared}{l l':List (Addr × Obj)} (h:Held X H s l) (h':Held X H s l') {b:Addr}{o:Obj} (e:l'.lookup b=some o):(l++l').lookup b=some o:=by
  obtain⟨o2,e2⟩:=look_app2 (l:=l) ⟨o,e⟩
  have h1:=(h.app h' b o2 e2).1
  rw[(h' b o e).1] at h1
  rw[e2,Option.some.inj h1]
section
variable {X:Cx}{pins:List (Addr × Obj)}{σ:L2.St}{H:Hp}{s:Shared}{S:Sta}{R:Hp}{env:Ev}
mutual
theorem clo_rep(I:L2.Inv X pins σ H s) (ok:Ok3 X.K S R H σ env):∀ {d e:D}{v:V},CloD (mkrOf X) env d e->Rep X.K R d v->∃ l,Held X H s l/\∀ l':List (Addr × Obj),(∀ b o,l.lookup b=some o->l'.lookup b=some o)->(∀ b o,l'.lookup b=some o->H b=none)->Rep X.K (trk l' R) e v
  | .lam L cl,e,v,⟨vals,ix,e1,e2,hS,hfn,hix,hs,hp⟩,r=>by
    subst e1 e2
    obtain⟨f,ev,la⟩:=(show ∃ f,v=.ref f/\LamAt R L (cloFrom X.env.cells L.scope.names []) f from r)
    have LS:=lamS2_by hS
    have names:(cloFrom X.env.cells L.scope.names []).map (·.1)=lamN L.scope:=by
      rw[cloFrom_names]
      exact List.append_nil _
    have clm:∀ q∈cloFrom X.env.cells L.scope.names [],X.env.cells.lookup q.1=some q.2/\(X.env.scope.names.lookup q.1=some .cell\/X.env.scope.names.lookup q.1=some .free)/\X.fn q.1=true:=fun q hq=>by
      have hN:q.1∈lamN L.scope:=by rw[<- names]; exact List.mem_map.mpr ⟨q,hq,rfl⟩
      rcases cloFrom_mem hq with z | ⟨z1,z2⟩
      . cases z
      . obtain⟨c1,hc⟩:=LS.has I.ok _ z1 rfl
        have hc:X.env.cells.lookup q.1=some c1:=hc
        have z3:q.2=c1:=by rw[z2,hc]<;>rfl
        exact⟨by rw[z3]; exact hc,LS.free _ z1 rfl,List.all_eq_true.mp hfn _ hN⟩
    obtain⟨l,us,h1,h2,h3⟩:=cells_take I ok clm (by rw[hix,<- names,List.map_map]; rfl) hs
    refine⟨l,h1,fun l' hl tn=>?_⟩
    have sm:=same_trk ok.bas tn
    exact⟨f,_,us,ev,la.mono sm,h2 l' hl,h3.mono sm⟩
  | .lst ds,e,v,⟨es,e1,hc⟩,r=>by
    subst e1
    obtain⟨p,xs,ev,hp,hr⟩:=rep_lst r
    obtain⟨l,h1,h2⟩:=clos_rep I ok hc hr
    refine⟨l,h1,fun l' hl tn=>⟨p,xs,ev,same_trk ok.bas tn _ _ hp,h2 l' hl tn⟩⟩
  | .non,e,v,⟨_,e1⟩,r=>by subst e1; exact⟨[],fun _ _ z=>(by cases z),fun l' _ tn=>Rep.mono (same_trk ok.bas tn) r⟩
  | .bl _,e,v,⟨_,e1⟩,r=>by subst e1; exact⟨[],fun _ _ z=>(by cases z),fun l' _ tn=>Rep.mono (same_trk ok.bas tn) r⟩
  | .int _,e,v,⟨_,e1⟩,r=>by subst e1; exact⟨[],fun _ _ z=>(by cases z),fun l' _ tn=>Rep.mono (same_trk ok.bas tn) r⟩
  | .str _,e,v,⟨_,e1⟩,r=>by subst e1; exact⟨[],fun _ _ z=>(by cases z),fun l' _ tn=>Rep.mono (same_trk ok.bas tn) r⟩
  | .ty _,e,v,⟨_,e1⟩,r=>by subst e1; exact⟨[],fun _ _ z=>(by cases z),fun l' _ tn=>Rep.mono (same_trk ok.bas tn) r⟩
  | .ref _,e,v,⟨_,e1⟩,r=>by subst e1; exact⟨[],fun _ _ z=>(by cases z),fun l' _ tn=>Rep.mono (same_trk ok.bas tn) r⟩
  | .tup _,e,v,⟨_,e1⟩,r=>by subst e1; exact⟨[],fun _ _ z=>(by cases z),fun l' _ tn=>Rep.mono (same_trk ok.bas tn) r⟩
  | .ins _ _,e,v,⟨_,e1⟩,r=>by subst e1; exact⟨[],fun _ _ z=>(by cases z),fun l' _ tn=>Rep.mono (same_trk ok.bas tn) r⟩
  | .exc _ _,e,v,⟨_,e1⟩,r=>by subst e1; exact⟨[],fun _ _ z=>(by cases z),fun l' _ tn=>Rep.mono (same_trk ok.bas tn) r⟩
  | .clo _ _,e,v,⟨_,e1⟩,r=>by subst e1; exact⟨[],fun _ _ z=>(by cases z),fun l' _ tn=>Rep.mono (same_trk ok.bas tn) r⟩
  | .dicT _,e,v,⟨_,e1⟩,r=>by subst e1; exact⟨[],fun _ _ z=>(by cases z),fun l' _ tn=>Rep.mono (same_trk ok.bas tn) r⟩
  | .dic _,e,v,⟨_,e1⟩,r=>by subst e1; exact⟨[],fun _ _ z=>(by cases z),fun l' _ tn=>Rep.mono (same_trk ok.bas tn) r⟩
theorem clos_rep(I:L2.Inv X pins σ H s) (ok:Ok3 X.K S R H σ env):∀ {ds es:List D}{vs:List V},CloDs (mkrOf X) env ds es->Reps X.K R ds vs->∃ l,Held X H s l/\∀ l':List (Addr × Obj),(∀ b o,l.lookup b=some o->l'.lookup b=some o)->(∀ b o,l'.lookup b=some o->H b=none)->Reps X.K (trk l' R) es vs
  | [],es,vs,h,r=>by
    have e:es=[]:=h
    subst e
    exact⟨[],fun _ _ z=>(by cases z),fun _ _ _=>r⟩
  | d::ds,es,vs,h,r=>by
    obtain⟨e,t,e1,c1,c2⟩:=h
    subst e1
    obtain⟨v,u,ev,r1,r2⟩:=(show ∃ v r,vs=v::r/\Rep X.K R d v/\Reps X.K R ds r from r)
    obtain⟨l1,a1,b1⟩:=clo_rep I ok c1 r1
    obtain⟨l2,a2,b2⟩:=clos_rep I ok c2 r2
    exact⟨l1++l2,a1.app a2,fun l' hl tn=>⟨v,u,ev,b1 l' (fun b o z=>hl b o (look_app1 z)) tn,b2 l' (fun b o z=>hl b o (a1.sub2 a2 z)) tn⟩⟩
end
end
section
variable {X:Cx}{W:WX}{pos p0:Pos}{e:Expr}{es:List Expr}{U:TL}{F:TF}{k:Nat}{f:Addr}{x:Str}
def TCallClo(M:Mkr) (F:TF) (U:TL):TD:=fun c env φ=>U c env fun ds=>∃ es,CloDs M env ds es/\F c.wd es (fun d=>plainD d=true/\φ d) fun _=>False
theorem de_callClo (G : Fn3 X.prog X.w X.K X.mg X.base k f F) (hr : Room k X.A) (hG : Gl X x) (hM : X.mg x = some (.ref f)) (hK : PySem.W.keepIn X.K (.ref f) = true) (ha : DA X W (e :: es) U)
    (hD:(x==("__debug__":Str))=false:=by decide) (he:starEach (e::es) X.env=(false,eval e X.env)::starEach es X.env:=by rfl) (hpl:(backTo pos (starEach es X.env)).any (·.1)=false:=by rfl) :
    DE X W (.Call (.Name x p0) (e::es) [] pos) (TCallClo (mkrOf X) F U):=by
  refine⟨fun pins s σ H Q I ⟨S,R,env,φ,lk,ok,hU,hQ⟩=>?_⟩
  refine wpAny_Call_Name_kw (ld_glob I hG hM ?_ hD)
  refine PySem.W.callWith_K (h₀:=X.base) I.ok.mod.kin hK (thn (ha.run pos pins s σ H (fun vs H1=>∃ R1 ds,Fin S.c.wd R H R1 H1/\Reps X.K R1 ds vs/\∃ es,CloDs (mkrOf X) env ds es/\F S.c.wd es (fun d=>plainD d=true/\φ d) fun _=>False) I ⟨S,R,env,_,lk,ok,hU,fun v H' ⟨R',d,f',r,q⟩=>⟨R',d,f',r,q⟩⟩) fun us s1 ⟨vs,H1,I1,r1,R1,ds,f1,rr,es',hc,hF⟩=>⟨I1.kIn,?_⟩) he hpl
  have ok1:=ok.through f1
  obtain⟨l,hl,hrep⟩:=clos_rep I1 ok1 hc rr
  have tn:∀ b o,l.lookup b=some o->H1 b=none:=fun b o z=>(hl b o z).2.1
  exact call_atX G hr I1 ⟨hl⟩ r1 (spW_askX (W:=W) ok1 tn (hrep l (fun _ _ z=>z) tn) hF fun v H' z=>hQ v H' (Pst.from f1 z))
end
open PySem PySem.Spec PyProof.Rows L2
/-- a def,whatever is handled -/
def FnRC(P:Program) (w:World) (K:PySem.W.Frag) (mg:Str->Option Value) (base:Heap) (CX:CXT) (k:Nat) (f:Addr) (sp:Sp):Prop :=
  ∀ (A:Around) (outer:List Env) (s:Shared) (H:Hp) (us:List Value) (vs:List V) (Q:VK) (E:XK),L2H.RoomH k A->Env0 P w K mg base A outer s H->Vals vs us->sp vs H Q E->codeAny (model P w) A (.call (.ref f) ⟨us,[]⟩) (CR CX outer P w H s Q E) s
theorem FnRC.mono {P:Program}{w:World}{K:PySem.W.Frag}{mg:Str->Option Value}{base:Heap}{CX:CXT}{j k:Nat}{f:Addr}{sp:Sp} (F:FnRC P w K mg base CX j f sp) (h:j<=k):FnRC P w K mg base CX k f sp:=fun A outer s H us vs Q E hr=>F A outer s H us vs Q E (hr.mono h)
theorem FnRC.raw {P:Program}{w:World}{K:PySem.W.Frag}{mg:Str->Option Value}{base:Heap}{CX:CXT}{k:Nat}{f:Addr}{sp:Sp} (F:FnRC P w K mg base CX k f sp):FnR P w K mg base CX k f sp:=fun A outer s H us vs Q E hr=>F A outer s H us vs Q E (L2H.roomH_of hr)
structure FnOkC (P:Program) (w:World) (K:PySem.W.Frag) (mg:Str->Option Value) (base:Heap) (CX:CXT) (k:Nat) (f:Addr) (fd:FuncData) (ps:List Str) (sp:Sp):Prop where
  len:∀ vs H Q E,sp vs H Q E->vs.length=ps.length
  run:∀ (A:Around) (outer:List Env) (s:Shared) (H:Hp) (args:Args) (us:List Value) (vs:List V) (Q:VK) (E:XK),L2H.RoomH k A->Env0 P w K mg base A outer s H->BindsTo s fd args (ps.zip us)->Vals vs us->sp vs H Q E ->
    codeAny (model P w) A (.call (.ref f) args) (CR CX outer P w H s Q E) s
theorem FnOkC.raw {P:Program}{w:World}{K:PySem.W.Frag}{mg:Str->Option Value}{base:Heap}{CX:CXT}{k:Nat}{f:Addr}{fd:FuncData}{ps:List Str}{sp:Sp} (F:FnOkC P w K mg base CX k f fd ps sp) (hb:Binds K fd ps []):FnRC P w K mg base CX k f sp:=by
  intro A outer s H us vs Q E hr e0 r hs
  have hl:(us++[]).length=ps.length:=by rw[List.append_nil,<- r.length]; exact F.len _ _ _ _ hs
  have b:=hb s us (e0.mod.kin.keeps fun b o e=>(e0.bs b o e).1) hl
  rw[List.append_nil] at b
  exact F.run A outer s H ⟨us,[]⟩ us vs Q E hr e0 b r hs
def cxSC(CX:CXT) (P:Program) (w:World) (K:PySem.W.Frag) (mg:Str->Option Value) (base:Heap) (N:List Str) (qual:Str) (scope:Scope) (f:Addr) (cd:Value) (cc:Addr) (A:Around) (outer:List Env) (s:Shared) (H:Hp) (E:XK):Cx where
  prog:=P
  w:=w
  K:=K
  mg:=mg
  base:=base
  A:=A.deeper (envS qual scope s.heap.objs.size f cd cc)
  N:=N
  s_0:=s
  H_0:=H
  env:=envS qual scope s.heap.objs.size f cd cc
  outer:=outer
  stack:=envS qual scope s.heap.objs.size f cd cc::outer
  ex:=[]
  calm:=false
  fn:=fun x=>!(x==("__class__":Str))
  pn:=[]
  xe:=fun e s'=>wpAny (model P w) (A.deeper (envS qual scope s.heap.objs.size f cd cc)) (leaving (envS qual scope s.heap.objs.size f cd cc) e) (fun _ s''=>CX outer H s E e s'') (fun e' s''=>CX outer H s E e' s'') s'
theorem fn_ofSC {CX : CXT} {P : Program} {w : World} {K : PySem.W.Frag} {mg : Str -> Option Value} {base : Heap} {k : Nat} {x qual : Str} {params : Arguments} {body : List Stmt} {scope : Scope} {file : Str} {D f : Addr} {fd : FuncData} {N ps : List Str} {sn : Str} {ar : Arg} {sp : Sp}
    (F:FunS K x qual params body scope file D f fd) (S:FnScopeS N ps scope) (pf:PrgF P file) (hsup:mg "super"=none) (hps:ps[0]?=some sn) (har:(params.posonlyargs++params.args).head?=some ar) (hsn:ar.arg=sn) (len:∀ vs H Q E,sp vs H Q E->vs.length=ps.length)
    (hbody:∀ (cd:Value) (cc:Addr) (A:Around) (outer:List Env) (s s1:Shared) (H:Hp) (vs:List V) (Q:VK) (E:XK),L2H.RoomH k (A.deeper (envS qual scope s.heap.objs.size f cd cc))->SupX (cxSC CX P w K mg base N qual scope f cd cc A outer s H E) D f sn->sp vs H Q E ->
      L2.Inv (cxSC CX P w K mg base N qual scope f cd cc A outer s H E) [] (L2.start N vs) H s1 ->
      _root_.PySem.wpAt (model P w) (cxSC CX P w K mg base N qual scope f cd cc A outer s H E).A (.func body (cxSC CX P w K mg base N qual scope f cd cc A outer s H E).env) (execs body (cxSC CX P w K mg base N qual scope f cd cc A outer s H E).env)
        (SP (cxSC CX P w K mg base N qual scope f cd cc A outer s H E) [] {nx:=fun _ H'=>Q .non H',rt:=Q}) (cxSC CX P w K mg base N qual scope f cd cc A outer s H E).xe s1) :
    FnOkC P w K mg base CX (k+1) f fd ps sp:=by
  obtain⟨oc,od,kV,doc,pm,an,cda,cc,ct,osl,rfl,lk,hcd,hcode,hcell⟩:=F.ex
  refine⟨len,fun A outer s H args us vs Q E hr e0 hb r hsp=>?_⟩
  have hl:=len _ _ _ _ hsp
  have KX:K.In s.heap:=e0.mod.kin.keeps fun b o e=>(e0.bs b o e).1
  have lim:s.heap.NoLimit:=e0.mod.nolimit.keeps fun b o e=>(e0.bs b o e).1
  have ndP:ps.Nodup:=by rw[<- S.pre]; exact S.nd.sublist (List.take_sublist _ _)
  have hpl:ps.length<=N.length:=by have:=congrArg List.length S.pre; rw[List.length_take] at this; omega
  have hul:us.length=ps.length:=r.length.symm.trans hl
  refine ks_codeAny_call_defAt (fd:=PySem.W.fnX x qual params body scope [("__class__",cc)] .none kV doc pm an (.ref cda) ct) (body:=body) (binds:=ps.zip us) hr.depth (KX _ _ lk) rfl lim (PySem.W.codeRec_of KX hcd) rfl hb S.nocell (fun y hy=>S.par _ (List.of_mem_zip hy).1) (fun h₀ hns hk=>?_) S.co S.gen S.kind
  obtain⟨cl,cld,csl,hcc⟩:=hcell
  obtain⟨ccl,cdd,vs',ccs,tf,hcda,hfile⟩:=hcode
  have hccb:base.get? cc=some ⟨cl,cld,.cell (some (.ref D)),csl⟩:=e0.mod.kin _ _ hcc
  have noA:∀ b:Addr,b∉(cxSC CX P w K mg base N qual scope f (.ref cda) cc A outer s H E).ex:=fun b z=>absurd (show b∈([]:List Addr) from z) (by simp)
  have cel:∀ y c,(cxSC CX P w K mg base N qual scope f (.ref cda) cc A outer s H E).env.cells.lookup y=some c->y=("__class__":Str)/\c=cc:=fun y c h=>by
    have h2:(match y==("__class__":Str) with | true=>some cc | false=>none)=some c:=h
    cases q:y==("__class__":Str) with
    | true =>
      rw[q] at h2
      exact⟨eq_of_beq q,(Option.some.inj h2).symm⟩
    | false =>
      rw[q] at h2
      cases h2
  have I:L2.Inv (cxSC CX P w K mg base N qual scope f (.ref cda) cc A outer s H E) [] (L2.start N vs) H {s with heap:=h₀,toks:=s.toks+(ps.zip us).length}:=by
    refine⟨⟨e0.mod,S.kind,rfl,rfl,Nat.le_refl _,fun y z c h1 h2=>(cel y c h1).1.trans (cel z c h2).1.symm,fun y hy=>?_,fun y c hf h=>?_,(fun z=>Bool.noConfusion (show false=true from z)),Around.frames_deeper e0.frames,.inr ⟨rfl,rfl⟩,fun b z=>absurd z (noA b),e0.bs,e0.bsz,fun b _ _=>noA b,fun b z=>absurd z (noA b),e0.funs,e0.frf⟩,
      rfl,e0.bare,Un.kept hk,⟨_,hns,fun i y v h1 h2 h3=>?_⟩,fun y c h=>?_,e0.hok.fresh (Nat.le_refl _),fun y c h=>?_,fun p hp=>absurd (show p∈([]:List (Addr × Obj)) from hp) (by simp),e0.hok.kept hk,?_⟩
    . have hy:scope.names.lookup y=some .cell\/scope.names.lookup y=some .free:=hy
      rcases hy with hy | hy
      . exact absurd rfl (S.nocell _ (PySem.mem_of_lookup hy))
      . have:=S.free _ (PySem.mem_of_lookup hy) rfl
        exact⟨cc,by rw[show y=("__class__":Str) from this]; rfl⟩
    . obtain⟨e1,_⟩:=cel y c h
      subst e1
      have:(!(("__class__":Str)==("__class__":Str)))=true:=hf
      simp at this
    . have hi:i<vs.length:=by
        unfold L2.start at h2
        by_cases hi:i<vs.length
        . exact hi
        . rw[List.getElem?_append_right (by simpa using hi)] at h2
          rw[List.getElem?_replicate] at h2
          split at h2<;>cases h2
      have ha:vs[i]?=some v:=by
        unfold L2.start at h2
        rw[List.getElem?_append_left (by simpa using hi),List.getElem?_map] at h2
        cases e:vs[i]? with
        | none=>rw[e] at h2; cases h2
        | some a=>rw[e] at h2; cases h2; rfl
      obtain⟨u,hu,rv⟩:=r.get ha
      have hp:ps[i]?=some y:=by
        rw[<- S.pre,List.getElem?_take_of_lt (by omega)]; exact h1
      exact⟨u,rv,.inl ⟨S.par y (List.mem_of_getElem? hp),look_rev ndP hp hu⟩⟩
    . obtain⟨_,e2⟩:=cel y c h
      subst e2
      exact⟨_,_,hk _ _ (KX _ _ hcc),rfl⟩
    . obtain⟨_,e2⟩:=cel y c h
      subst e2
      exact(e0.bs _ _ hccb).2
    . unfold L2.start
      show _=N.length
      rw[List.length_append,List.length_map,List.length_replicate]
      omega
  have U:SupX (cxSC CX P w K mg base N qual scope f (.ref cda) cc A outer s H E) D f sn:=by
    refine⟨S.kind,S.sup,S.cls,rfl,⟨oc,od,_,osl,ar,lk,har,hsn⟩,?_,S.par _ (List.mem_of_getElem? hps),⟨cda,ccl,cdd,vs',ccs,file,tf,rfl,hcda,hfile,pf.file⟩,pf.sup,⟨cc,cl,cld,csl,rfl,hcc⟩,F.cd,hsup⟩
    show N[0]?=some sn
    have:ps[0]?=N[0]?:=by
      rw[<- S.pre,List.getElem?_take_of_lt]
      have:=(List.getElem?_eq_some_iff.mp hps).1
      omega
    rw[<- this]
    exact hps
  have z:=hbody (.ref cda) cc A outer s _ H vs Q E (hr.deeper _) U hsp I
  have fin:∀ {σ':L2.St}{H':Hp}{v:V}{u:Value}{s':Shared},L2.Inv (cxSC CX P w K mg base N qual scope f (.ref cda) cc A outer s H E) [] σ' H' s'->RelV v u->Q v H'->CE outer P w H s Q u s' :=
    fun {σ' H' v u s'} J rv q=>⟨v,H',J.os,J.bare,J.base,J.hok,rv,q⟩
  refine ks_wpAt_mono z (fun fl s' hs=>?_) fun e s' hs=>hs
  cases fl with
  | ret u =>
    obtain⟨v,σ',H',J,rv,q⟩:=hs
    exact fin J rv q
  | next =>
    obtain⟨σ',H',J,q⟩:=hs
    exact fin (v:=V.non) (u:=Value.none) J rfl q
  | brk =>
    obtain⟨_,_,_,q⟩:=hs
    exact False.elim q
  | cont =>
    obtain⟨_,_,_,q⟩:=hs
    exact False.elim q
section
variable {X:Cx}{pins:List (Addr × Obj)}{σ:L2.St}{H:Hp}{s:Shared}{a C D f f2:Addr}{sn:Str}{body:List Stmt}{p0 p1 p2 p3 p4:Pos}{e:Expr}{es:List Expr}{ta:TA}{k:Nat}{sp2:Sp}{K2:Hp->Prop}
theorem sup_ownC (U : SupX X D f sn) (N : NxtI X.K C D (.ref f2)) (ht : PySem.W.typeIn X.K (.ref f2) = some (.type "function")) (hfn : PySem.W.fnIn X.K f2 = true) (G : FnRC X.prog X.w X.K X.mg X.base (L2C.CX X.prog X.w) k f2 sp2) (hr : L2H.RoomH k X.A) (ha : PA X (e :: es) ta)
    (I:L2.Inv X pins σ H s) (h0:σ[0]?=some (some (.ref a))) (he:H a=some (exo a C none))
    (hcall:eval (.Call (.Attribute (.Call (.Name "super" p0) [] [] p1) "__init__" p2) (e::es) [] p3) X.env=(do
      let ov <- attributeBase (.Call (.Name "super" p0) [] [] p1) "__init__" X.env (eval (.Call (.Name "super" p0) [] [] p1) X.env)
      standAt p2.atName
      let (f,first) <- holding [ov] (getMethod ov "__init__" (plO (.Call (.Name "super" p0) [] [] p1) X.env))
      callWith p3 f first (backTo p3 (starEach (e::es) X.env)) []))
    (hS:starEach (e::es) X.env=(false,eval e X.env)::starEach es X.env) (hP:(backTo p3 (starEach es X.env)).any (·.1)=false) (hsw:swapsWith (.Call (.Attribute (.Call (.Name "super" p0) [] [] p1) "__init__" p2) (e::es) [] p3) none p4.line X.env=pure false)
    (h:ta σ H fun vs H1=>sp2 (.ref a::vs) H1 (fun _ H2=>K2 H2) (fun _ _ _=>False)) :
    _root_.PySem.wpAt (model X.prog X.w) X.A (.func body X.env) (exec (.Expr (.Call (.Attribute (.Call (.Name "super" p0) [] [] p1) "__init__" p2) (e::es) [] p3) p4) X.env) (fun fl s'=>fl=.next/\∃ H2,L2.Inv X pins σ H2 s'/\K2 H2) X.xe s:=by
  refine ks_wpAt_Expr_any ?_ (by simp[interactive,I.ok.kind]) hsw
  refine ks_wpAt_MethodCall (pl:=plO (.Call (.Name "super" p0) [] [] p1) X.env) ?_ hcall
  refine super_obj U I h0 he N.mro (by decide) fun h1 k1 e1=>?_
  have I1:=I.kept (t':=s.toks) k1
  have KX:=I1.kIn
  obtain⟨t1,ho⟩:=exo_at I1.hok he
  have J:PySem.W.InstAt h1 a {cls:=.ref C,dict:=none,data:=.fields #[.ref t1,.none,.none,.none,.bool false,.none]} C none:=⟨ho,rfl,rfl,trivial⟩
  obtain⟨cd,hcd,hal⟩:∃ cd,PySem.W.clsIn X.K C=some cd/\PySem.W.alongIn X.K "__init__" ((cd.mro.dropWhile (· != .ref D)).drop 1)=some (some (.ref f2)):=by
    have:=N.nx
    unfold PySem.W.ks_superIn at this
    cases hc:PySem.W.clsIn X.K C with
    | none=>rw[hc] at this; cases this
    | some cd=>rw[hc] at this; exact⟨cd,rfl,this⟩
  obtain⟨of,hof,hofc⟩:∃ of,h1.get? f2=some of/\of.cls=.type "function":=by
    have ht':(X.K.lookup f2).map (·.cls)=some (.type "function"):=ht
    cases z:X.K.lookup f2 with
    | none=>rw[z] at ht'; cases ht'
    | some of=>rw[z] at ht'; exact⟨of,KX _ _ z,Option.some.inj ht'⟩
  have KX':X.K.In h1:=KX
  have nofs:=fun {b:Addr} (hb:s.heap.objs.size<=b)=>I.nofs hb
  have hsz1:s.heap.objs.size<=h1.objs.size:=Nat.le_of_lt (Heap.lt_size e1)
  obtain⟨hh,g,dr,t,os⟩:=s
  refine ks_wpAny_getMethod_super e1 (PySem.W.looks_opaque KX' N.no) (l₀:=cd.mro) (fun A Q E s k q=>wpAny_bind ((PySem.W.looks_clsIn KX' hcd) A _ E s k (wpAny_pure q))) rfl KX' hal hof hofc (PySem.W.ks_ne KX' J hcd) (by decide) ?_
  have I2:L2.Inv X ((h1.objs.size,PySem.W.methodObj (.ref f2) (.ref a))::pins) σ H ⟨h1.push {cls:=.type "method",data:=.fields #[.ref f2,.ref a]},g,dr,t+1,os⟩ :=
    pins_new (t':=t+1) I (fun b o z=>Heap.get?_push_of_some _ (k1 b o z)) hsz1 (Heap.get?_push_size _ rfl) (fun v z=>by cases z)
  show wpAny _ _ (callWith p3 (.ref h1.objs.size) [] (backTo p3 (starEach (e::es) X.env)) []) _ _ _
  have hrun:wpAny (model X.prog X.w) X.A (spliced (backTo p3 (starEach (e::es) X.env))) (fun us s2=>PySem.W.MethP X.K h1.objs.size f2 (.ref a) s2.heap/\wpAny (model X.prog X.w) X.A (call (.ref h1.objs.size) ([]++us)) (fun _ s'=>Flow.next=.next/\∃ H2,L2.Inv X pins σ H2 s'/\K2 H2) X.xe s2) X.xe ⟨h1.push {cls:=.type "method",data:=.fields #[.ref f2,.ref a]},g,dr,t+1,os⟩:=by
    refine thn (ha.run p3 _ _ σ H _ I2 h) fun us s2 ⟨vs,H2,I3,rv,q⟩=>?_
    obtain⟨pq,_⟩:=I3.pin _ (List.mem_append_right _ List.mem_cons_self)
    refine⟨⟨pq,I3.kIn⟩,?_⟩
    refine wpAny_call (ks_codeAny_call_bound pq ?_)
    refine codeAny_mono (G X.A X.stack s2 H2 (.ref a::us) (.ref a::vs) _ _ hr I3.env0 (.cons rfl rv) q) fun res s' hres=>?_
    match res,hres with
    | .error er,hres =>
      obtain⟨_,_,_,_,_,_,_,_,_,_,_,_,_,_,z⟩:=hres
      exact z.elim
    | .ok (.ret u),hres =>
      obtain⟨v,H3,I4,_,q3⟩:=I3.after hres
      exact⟨rfl,H3,I4.pins_of fun p hp=>I4.pin p (List.mem_append_right _ (List.mem_cons_of_mem _ hp)),q3⟩
  rw[hS] at hrun ⊢
  exact PySem.W.callWith_of (P:=PySem.W.MethP X.K h1.objs.size f2 (.ref a)) (by show((false||(backTo p3 (starEach es X.env)).any (·.1))||false)=false; rw[hP]; rfl) (PySem.W.keeps_M hfn) (Calls.evalArgs_plain hrun)
end
section
variable {P:Program}{w:World}{K:PySem.W.Frag}{mg:Str->Option Value}{base:Heap}{k:Nat}{x qual:Str}{params:Arguments}{rest:List Stmt}{scope:Scope}{file:Str}{D f f2 C:Addr}{fd:FuncData}{N ps:List Str}{sn:Str}{ar:Arg}{e:Expr}{p0 p1 p2 p3 p4:Pos}{mk mk2:MkV}{ta:TA}{tr:TS}{B newId initId:String}{bm:List Value}
theorem exi_basO (F : FunS K x qual params (.Expr (.Call (.Attribute (.Call (.Name "super" p0) [] [] p1) "__init__" p2) [e] [] p3) p4 :: rest) scope file D f fd) (Sc : FnScopeS N ps scope) (pf : PrgF P file) (hsup : mg "super" = none) (hps : ps[0]? = some sn) (har : (params.posonlyargs ++ params.args).head? = some ar) (hsn : ar.arg = sn)
    (T:ExC K B newId initId bm C) (Nx:NxtI K C D (.builtin initId)) (hB:PySem.W.subIn K (.ref C) (.type B)=some true) (len:∀ ws fs,mk ws=some fs->ws.length+1=ps.length)
    (hcall:∀ (L:Addr) (cd:Value) (cc:Addr),eval (.Call (.Attribute (.Call (.Name "super" p0) [] [] p1) "__init__" p2) [e] [] p3) (envS qual scope L f cd cc)=(do
      let ov <- attributeBase (.Call (.Name "super" p0) [] [] p1) "__init__" (envS qual scope L f cd cc) (eval (.Call (.Name "super" p0) [] [] p1) (envS qual scope L f cd cc))
      standAt p2.atName
      let (f',first) <- holding [ov] (getMethod ov "__init__" (plO (.Call (.Name "super" p0) [] [] p1) (envS qual scope L f cd cc)))
      callWith p3 f' first (backTo p3 (starEach [e] (envS qual scope L f cd cc))) []))
    (hS:∀ (L:Addr) (cd:Value) (cc:Addr),starEach [e] (envS qual scope L f cd cc)=(false,eval e (envS qual scope L f cd cc))::starEach [] (envS qual scope L f cd cc)) (hsw:∀ (L:Addr) (cd:Value) (cc:Addr),swapsWith (.Call (.Attribute (.Call (.Name "super" p0) [] [] p1) "__init__" p2) [e] [] p3) none p4.line (envS qual scope L f cd cc)=pure false)
    (ha:∀ (cd:Value) (cc:Addr) (A:Around) (outer:List Env) (s:Shared) (H:Hp) (E:XK),PA (cxSC (L2C.CX P w) P w K mg base N qual scope f cd cc A outer s H E) [e] ta) (hr:∀ (cd:Value) (cc:Addr) (A:Around) (outer:List Env) (s:Shared) (H:Hp) (E:XK),PSs (cxSC (L2C.CX P w) P w K mg base N qual scope f cd cc A outer s H E) rest tr)
    (hmono:∀ (σ:L2.St) {H:Hp}{Q Q':List V->Hp->Prop},ta σ H Q->(∀ vs H1,Q vs H1->Q' vs H1)->ta σ H Q')
    (hta:∀ (a:Addr) (ws:List V) (fs:List (Str × V)) (H:Hp),mk ws=some fs->∃ y,ta (L2.start N (.ref a::ws)) H (fun vs H1=>vs=[y]/\H1=H))
    (htr:∀ (a:Addr) (ws:List V) (fs:List (Str × V)) (H:Hp) (Dn:Ends),mk ws=some fs->H a=some (exo a C none)->(∀ dx,H dx=none->dx≠a->Dn.nx (L2.start N (.ref a::ws)) (upd (upd H dx (exd dx fs)) a (exo a C (some dx))))->tr Dn (L2.start N (.ref a::ws)) H)
    (h0:∀ (a:Addr) (ws:List V),(L2.start N (.ref a::ws))[0]?=some (some (V.ref a)):=by intro _ _; rfl) :
    FnOkC P w K mg base (L2C.CX P w) (k+1) f fd ps (spX (fun c=>c=C) mk):=by
  have G:FnOkC P w K mg base (L2C.CX P w) (k+1) f fd ps (spX (fun c=>c=C) mk):=by
    refine fn_ofSC F Sc pf hsup hps har hsn (fun vs H Q E ⟨a,C',ws,fs,e1,_,_,hm,_⟩=>?_) fun cd cc A outer s s1 H vs Q E hroom U ⟨a,C',ws,fs,e1,e2,hA,hm,hq⟩ I=>?_
    . rw[e1]
      exact len ws fs hm
    . subst e1
      have e2':=e2.symm
      subst e2'
      obtain⟨y,hy⟩:=hta a ws fs H hm
      refine ks_wpAt_execs_cons ?_
      refine ks_wpAt_mono (sup_bas (K2:=fun H2=>H2=H) U T Nx hB (ha cd cc A outer s H E) I (h0 a ws) hA (hcall _ cd cc) (hS _ cd cc) rfl (hsw _ cd cc) (hmono _ hy fun vs H1 ⟨z1,z2⟩=>by subst z1 z2; exact⟨by show 1<=1000; decide,hA,rfl⟩)) (fun fl s' hfl=>?_) fun _ _ z=>z
      obtain⟨e3,H2,I2,e4⟩:=hfl
      subst e3 e4
      exact wpAt_of_wpAny ((hr cd cc A outer s H2 E).run [] s' _ H2 _ I2 (htr a ws fs H2 _ hm hA fun dx n1 n2=>hq dx n1 n2))
  exact G
theorem exi_ownO (F : FunS K x qual params (.Expr (.Call (.Attribute (.Call (.Name "super" p0) [] [] p1) "__init__" p2) [e] [] p3) p4 :: rest) scope file D f fd) (Sc : FnScopeS N ps scope) (pf : PrgF P file) (hsup : mg "super" = none) (hps : ps[0]? = some sn) (har : (params.posonlyargs ++ params.args).head? = some ar) (hsn : ar.arg = sn)
    (Nx:NxtI K C D (.ref f2)) (ht:PySem.W.typeIn K (.ref f2)=some (.type "function")) (hfn:PySem.W.fnIn K f2=true) (G2:FnRC P w K mg base (L2C.CX P w) k f2 (spX (fun c=>c=C) mk2)) (len:∀ ws fs,mk ws=some fs->ws.length+1=ps.length)
    (hcall:∀ (L:Addr) (cd:Value) (cc:Addr),eval (.Call (.Attribute (.Call (.Name "super" p0) [] [] p1) "__init__" p2) [e] [] p3) (envS qual scope L f cd cc)=(do
      let ov <- attributeBase (.Call (.Name "super" p0) [] [] p1) "__init__" (envS qual scope L f cd cc) (eval (.Call (.Name "super" p0) [] [] p1) (envS qual scope L f cd cc))
      standAt p2.atName
      let (f',first) <- holding [ov] (getMethod ov "__init__" (plO (.Call (.Name "super" p0) [] [] p1) (envS qual scope L f cd cc)))
      callWith p3 f' first (backTo p3 (starEach [e] (envS qual scope L f cd cc))) []))
    (hS:∀ (L:Addr) (cd:Value) (cc:Addr),starEach [e] (envS qual scope L f cd cc)=(false,eval e (envS qual scope L f cd cc))::starEach [] (envS qual scope L f cd cc)) (hsw:∀ (L:Addr) (cd:Value) (cc:Addr),swapsWith (.Call (.Attribute (.Call (.Name "super" p0) [] [] p1) "__init__" p2) [e] [] p3) none p4.line (envS qual scope L f cd cc)=pure false)
    (ha:∀ (cd:Value) (cc:Addr) (A:Around) (outer:List Env) (s:Shared) (H:Hp) (E:XK),PA (cxSC (L2C.CX P w) P w K mg base N qual scope f cd cc A outer s H E) [e] ta) (hr:∀ (cd:Value) (cc:Addr) (A:Around) (outer:List Env) (s:Shared) (H:Hp) (E:XK),PSs (cxSC (L2C.CX P w) P w K mg base N qual scope f cd cc A outer s H E) rest tr)
    (hmono:∀ (σ:L2.St) {H:Hp}{Q Q':List V->Hp->Prop},ta σ H Q->(∀ vs H1,Q vs H1->Q' vs H1)->ta σ H Q')
    (hta:∀ (a:Addr) (ws:List V) (fs:List (Str × V)) (H:Hp),mk ws=some fs->∃ y,ta (L2.start N (.ref a::ws)) H (fun vs H1=>vs=[y]/\H1=H)/\∃ fs0,mk2 [y]=some fs0 /\
      ∀ (dx:Addr) (Dn:Ends),H dx=none->dx≠a->Dn.nx (L2.start N (.ref a::ws)) (upd (upd H dx (exd dx fs)) a (exo a C (some dx)))->tr Dn (L2.start N (.ref a::ws)) (upd (upd H dx (exd dx fs0)) a (exo a C (some dx))))
    (h0:∀ (a:Addr) (ws:List V),(L2.start N (.ref a::ws))[0]?=some (some (V.ref a)):=by intro _ _; rfl) :
    FnOkC P w K mg base (L2C.CX P w) (k+1) f fd ps (spX (fun c=>c=C) mk):=by
  have G:FnOkC P w K mg base (L2C.CX P w) (k+1) f fd ps (spX (fun c=>c=C) mk):=by
    refine fn_ofSC F Sc pf hsup hps har hsn (fun vs H Q E ⟨a,C',ws,fs,e1,_,_,hm,_⟩=>?_) fun cd cc A outer s s1 H vs Q E hroom U ⟨a,C',ws,fs,e1,e2,hA,hm,hq⟩ I=>?_
    . rw[e1]
      exact len ws fs hm
    . subst e1
      have e2':=e2.symm
      subst e2'
      obtain⟨y,hy,fs0,hm2,htr⟩:=hta a ws fs H hm
      refine ks_wpAt_execs_cons ?_
      refine ks_wpAt_mono (sup_ownC (K2:=fun H2=>∃ dx,H dx=none/\dx≠a/\H2=upd (upd H dx (exd dx fs0)) a (exo a C (some dx))) U Nx ht hfn G2 hroom (ha cd cc A outer s H E) I (h0 a ws) hA (hcall _ cd cc) (hS _ cd cc) rfl (hsw _ cd cc) (hmono _ hy fun vs H1 ⟨z1,z2⟩=>by
        subst z1 z2
        exact⟨a,C,[y],fs0,rfl,rfl,hA,hm2,fun dx n1 n2=>⟨dx,n1,n2,rfl⟩⟩)) (fun fl s' hfl=>?_) fun _ _ z=>z
      obtain⟨e3,H2,I2,dx,n1,n2,e4⟩:=hfl
      subst e3 e4
      exact wpAt_of_wpAny ((hr cd cc A outer s H E).run [] s' _ _ _ I2 (htr dx _ n1 n2 (hq dx n1 n2)))
  exact G
end
/-- an own exception class: what its making leaves,whatever is handled -/
structure ExcKC (P:Program) (w:World) (K:PySem.W.Frag) (mg:Str->Option Value) (base:Heap) (k:Nat) (C fI:Addr) (mk:MkV) (mkD:MkD):Prop where
  T:∃ B n i bm,ExC K B n i bm C
  iC:PySem.W.findIn K (.ref C) "__init__"=some (some (.ref fI))
  tI:PySem.W.typeIn K (.ref fI)=some (.type "function")
  G:FnRC P w K mg base (L2C.CX P w) k fI (spX (fun c=>c=C) mk)
  rel:∀ (R:Hp) (ds:List D) (vs:List V) (fs:List (Str × D)),Reps K R ds vs->mkD ds=some fs->∃ fvs,mk vs=some fvs/\RepF K R fs fvs
theorem ExcKC.mono {P:Program}{w:World}{K:PySem.W.Frag}{mg:Str->Option Value}{base:Heap}{j k:Nat}{C fI:Addr}{mk:MkV}{mkD:MkD} (h:ExcKC P w K mg base j C fI mk mkD) (q:j<=k):ExcKC P w K mg base k C fI mk mkD :=
  ⟨h.T,h.iC,h.tI,FnRC.mono h.G q,h.rel⟩
section
variable {X:Cx}{W:WX}{pos p pos':Pos}{e:Expr}{es:List Expr}{U:TL}{k:Nat}{C fI:Addr}{x:Str}{mk:MkV}{mkD:MkD}{ta:TA}
theorem mk_runC {pins : List (Addr × Obj)} {σ : L2.St} {s1 : Shared} {H1 : Hp} {Q : XK} {us : List Value} {vs : List V} {fs : List (Str × V)} (M : ExcKC X.prog X.w X.K X.mg X.base k C fI mk mkD) (hr : L2H.RoomH (k + 1) X.A) (I1 : L2.Inv X pins σ H1 s1) (r1 : Vals vs us) (hz : vs.length <= 1000) (hfs : mk vs = some fs)
    (q1:∀ d,H1 d=none->Q (.ref C) (some d) (upd H1 d (.xd fs))) :
    wpAny (model X.prog X.w) X.A (call (.ref C) us) (fun u s'=>L2N.MkP X pins σ Q u s'/\L2H.Six u s') X.xe s1:=by
  obtain⟨B,n,i,bmB,T⟩:=M.T
  obtain⟨nm,q,N,bs,bm,sn,sub,ab,col,dd,k0,k1,k2,k3,k5,hC,hbm⟩:=T.cls
  obtain⟨hp,g,dr,tk,os⟩:=s1
  have hsz:hp.objs.size<=hp.objs.size+1:=Nat.le_succ _
  have hn:H1 (hp.objs.size+1)=none:=I1.hok.fresh hsz
  have kk:∀ b o,hp.get? b=some o->((hp.push (PySem.W.kdv_tup us)).push (PySem.HandSPX.excO C hp.objs.size)).get? b=some o:=fun b o e=>Heap.get?_push_of_some _ (Heap.get?_push_of_some _ e)
  have hget:((hp.push (PySem.W.kdv_tup us)).push (PySem.HandSPX.excO C hp.objs.size)).get? (hp.objs.size+1)=some (PySem.HandSPX.excO C hp.objs.size):=by heap_get
  have I2:L2.Inv X pins σ (upd H1 (hp.objs.size+1) (exo (hp.objs.size+1) C none)) ⟨(hp.push (PySem.W.kdv_tup us)).push (PySem.HandSPX.excO C hp.objs.size),g,dr,tk,os⟩ :=
    I1.laid (t':=tk) (a:=hp.objs.size+1) (o:=exo (hp.objs.size+1) C none) (h':=(hp.push (PySem.W.kdv_tup us)).push (PySem.HandSPX.excO C hp.objs.size)) kk hsz (exo_ok hget)
  have r2:Vals (V.ref (hp.objs.size+1)::vs) (Value.ref (hp.objs.size+1)::us):=.cons rfl r1
  have hus:us.length<=sizeLine:=by
    rw[<- Paired.length r1,sizeLine_eq]
    omega
  have hsp:spX (fun c=>c=C) mk (.ref (hp.objs.size+1)::vs) (upd H1 (hp.objs.size+1) (exo (hp.objs.size+1) C none)) (fun v H2=>v=.non/\∃ d,H1 d=none/\d≠hp.objs.size+1/\H2=upd (upd (upd H1 (hp.objs.size+1) (exo (hp.objs.size+1) C none)) d (exd d fs)) (hp.objs.size+1) (exo (hp.objs.size+1) C (some d))) (fun _ _ _=>False) :=
    ⟨_,C,vs,fs,rfl,rfl,upd_same,hfs,fun dx h1 h2=>⟨rfl,dx,by rw[upd_ne h2] at h1; exact h1,h2,rfl⟩⟩
  refine wpAny_call (PySem.HandSPX.call_own T.bs.FB (fun Y=>PySem.W.excTail_contains Y bm hbm) (I1.kIn _ _ hC) (PySem.W.looks_findIn I1.kIn M.iC) (fun self=>PySem.W.bind_fn I1.kIn self M.tI) hus
    (codeAny_mono (M.G _ X.stack _ _ (Value.ref (hp.objs.size+1)::us) (V.ref (hp.objs.size+1)::vs) _ _ (hr.make C us []) (I2.env0.make C us []) r2 hsp) fun r s' hq'=>?_))
  cases r with
  | error er =>
    obtain⟨_,_,_,_,_,_,_,_,_,_,_,_,_,_,z⟩:=hq'
    exact z.elim
  | ok fl =>
    cases fl with
    | ret u =>
      obtain⟨v,H2,os2,bare2,un2,hok2,rv,ev,d,hd1,hda,eH⟩:=hq'
      subst ev
      obtain⟨h2,g2,d2,t2,os'⟩:=s'
      have ea:H2 (hp.objs.size+1)=some (exo (hp.objs.size+1) C (some d)):=by rw[eH,upd_same]
      have ed:H2 d=some (exd d fs):=by rw[eH,upd_ne hda,upd_same]
      obtain⟨t0,G,J,kG,ge,hoe,na⟩:=mk_end0 (d2:=d2) (t2:=t2) I1 hsz kk un2 hok2 os2 bare2 ea ed hd1
      have eF:upd (del H2 (hp.objs.size+1)) d (.xd fs)=upd H1 d (.xd fs):=by rw[eH]; exact del_back hn hda
      rw[eF] at J na
      refine⟨rv,⟨hp.objs.size+1,_,_,⟨G,g2,d2,t2,os'⟩,_,.ref C,some d,rfl,J,kG,ge,hoe,⟨rfl,rfl,fun vs e=>by cases e; rfl⟩,rfl,rfl,na,rfl,bare2,raises_own T.exC T.tyC,q1 d hd1⟩,fun a oe vs ea2 hg2 hd2=>?_⟩
      cases ea2
      have hg3:h2.get? (hp.objs.size+1)=some oe:=hg2
      rw[hoe] at hg3
      cases hg3
      cases hd2
      show(4:Nat)<6
      decide
    | next=>exact False.elim hq'
    | brk=>exact False.elim hq'
    | cont=>exact False.elim hq'
theorem pmkX0C (M : ExcKC X.prog X.w X.K X.mg X.base k C fI mk mkD) (hr : L2H.RoomH (k + 1) X.A) (hg : Gl X x) (hm : X.mg x = some (.ref C))
    (hdb:(x==("__debug__":Str))=false:=by decide) :
    L2H.PMk5 X (.Call (.Name x p) [] [] pos) (fun σ H Q=>∃ fs,mk []=some fs/\∀ d,H d=none->Q (.ref C) (some d) (upd H d (.xd fs))):=by
  intro pins s σ H Q I ⟨fs,hfs,q1⟩
  obtain⟨B,n,i,bmB,T⟩:=M.T
  refine wpAny_Call_Name_kw (ld_glob I hg hm ?_ hdb)
  refine PySem.W.callWith_K0 I.kIn T.kC ?_
  exact mk_runC (us:=[]) (vs:=[]) M hr I .nil (by decide) hfs q1
/-- raise C() -/
def TRaise0(C:Addr) (mkD:MkD):TSD:=fun c D env=>∃ fs,mkD []=some fs/\c.er ⟨C,fs⟩ env
theorem ds_raise0 (M : ExcKC X.prog X.w X.K X.mg X.base k C fI mk mkD) (hr : Room (k + 1) X.A) (hg : Gl X x) (hm : X.mg x = some (.ref C)) (tk : L2C.Takes X W) (hc : X.calm = true := by rfl)
    (hdb:(x==("__debug__":Str))=false:=by decide) :
    DS X W (.Raise (some (.Call (.Name x p) [] [] pos)) none pos') (TRaise0 C mkD) :=
  ds_mk (L2C.ps_raise hc tk (pmkX0C M (L2H.roomH_of hr) hg hm hdb).pmk) fun S R H σ env D3 lk ok ⟨fs,e1,q1⟩=>by
    obtain⟨fvs,e2,rf⟩:=M.rel R [] [] fs .nil e1
    refine⟨fvs,e2,fun d hd=>?_⟩
    have fa:=Fin.alloc (o:=.xd fvs) ok.bas hd
    exact lk _ _ σ env _ _ ⟨C,fs⟩ (ok.through fa) ⟨rfl,d,fvs,rfl,upd_same,rf.mono fa.up⟩ q1
end
open PySem PySem.Spec PyProof.Rows L2
abbrev Fn3N (P:Program) (w:World) (K:PySem.W.Frag) (mg:Str->Option Value) (base:Heap) (k:Nat) (f:Addr) (F:TF):Prop:=FnR P w K mg base (L2N.CX P w) k f (spW K F)
theorem Fn3N.mono {P:Program}{w:World}{K:PySem.W.Frag}{mg:Str->Option Value}{base:Heap}{j k:Nat}{f:Addr}{F:TF} (h:Fn3N P w K mg base j f F) (q:j<=k):Fn3N P w K mg base k f F:=FnR.mono h q
theorem Fn3N.weak {P:Program}{w:World}{K:PySem.W.Frag}{mg:Str->Option Value}{base:Heap}{k:Nat}{f:Addr}{F:TF} (h:Fn3N P w K mg base k f F):Fn3 P w K mg base k f F:=fun A outer s H us vs Q E hr e0 r hs =>
  codeAny_mono (h A outer s H us vs Q E hr e0 r hs) fun res s' hres=>match res,hres with
    | .error er,hres=>L2C.CX.ofN hres
    | .ok (.ret u),hres=>hres
open PySem PySem.Spec PyProof.Rows L2
abbrev FnIO (P:Program) (w:World) (K:PySem.W.Frag) (mg:Str->Option Value) (base:Heap) (k:Nat) (C f:Addr) (fd:FuncData) (ps:List Str) (F:TFI):Prop:=FnOk P w K mg base (L2C.CX P w) k f fd ps (spI K C F)
theorem FnIO.mono {P:Program}{w:World}{K:PySem.W.Frag}{mg:Str->Option Value}{base:Heap}{j k:Nat}{C f:Addr}{fd:FuncData}{ps:List Str}{F:TFI} (h:FnIO P w K mg base j C f fd ps F) (q:j<=k):FnIO P w K mg base k C f fd ps F:=FnOk.mono h q
section
variable {P:Program}{w:World}{K:PySem.W.Frag}{mg:Str->Option Value}{base:Heap}{x qual:Str}{params:Arguments}{body:List Stmt}{scope:Scope}{f:Addr}{fd:FuncData}
/-- .. with plain parameters -/
theorem fnI3O {N ps : List Str} {k : Nat} {C : Addr} {F : TFI} {T : TSD} (FD : FunD K x qual params body scope [] [] f fd) (Sc : FnScope N ps scope) (hN : N ≠ []) (hb : Binds K fd ps []) (hn : ∀ wd ds φ ε, F wd ds φ ε -> ds.length + 1 = ps.length)
    (hbody:∀ (cdv:Value) (A:Around) (outer:List Env) (s:Shared) (H:Hp) (E:XK),Room k (A.deeper (envOfC qual scope s.heap.objs.size f cdv))->DSs (cx3 P w K mg base N qual scope f cdv A outer s H E) (W3 E) body T)
    (hT:∀ a wd ds φ ε,F wd ds φ ε->T ⟨wd,fun ex _=>ε ex⟩ (retI C a φ) (startI N C a ds)):FnIO P w K mg base (k+1) C f fd ps F:=by
    refine FD.ok Sc (fun vs H Q E h=>?_) fun cdv A outer s H vs Q E hr h=>?_
    . obtain⟨a,dx,ws,wd,R,H1,ds,φ,ε,e,_,_,_,_,b,r,hf,_⟩:=h
      subst e
      rw[List.length_cons,r.length]
      exact hn _ _ _ _ hf
    . obtain⟨a,dx,ws,wd,R,H1,ds,φ,ε,e,ha,hd,hne,eH,b,r,hf,hQ,hE⟩:=h
      subst e eH
      exact⟨_,hbody cdv A outer s _ E hr,bodyI_ok (S:=⟨⟨wd,fun ex _=>ε ex⟩,R,H1,R⟩) (fun R' H' σ env cls od ex ok xr q=>hE cls od R' H' ex ok.fin xr q) (startI_ok (c:=⟨wd,fun ex _=>ε ex⟩) hN b r ha hd hne) (hT a wd ds φ ε hf) hQ⟩
theorem FnIO.plain {ps:List Str}{k:Nat}{C:Addr}{F:TFI} (G:FnIO P w K mg base k C f fd ps F) (hb:Binds K fd ps []):FnI P w K mg base k C f F:=by
  have z:=FnOk.raw (ds:=[]) (dvs:=[]) G hb .nil
  intro A outer s H us vs Q E hr e0 r hs
  exact z A outer s H us vs Q E hr e0 r (by show spI K C F (vs++[]) H Q E; rw[List.append_nil]; exact hs)
end
def KwI(K:PySem.W.Frag) (fd:FuncData) (ps ks:List Str) (ix:List Nat):Prop:=∀ (s:Shared) (a:Addr) (ws:List Value),K.In s.heap->ws.length=ks.length->BindsTo s fd ⟨[.ref a],ks.zip ws⟩ (ps.zip (.ref a::permL ix ws))
section
variable {X:Cx}{W:WX}{pos:Pos}{Uk:TL}{F:TFI}{k:Nat}{f C:Addr}{fd:FuncData}{ps ks:List Str}{ix:List Nat}{x:Str}{p0:Pos}{kws:List Keyword}
theorem make_kw {sp : Sp} {pins : List (Addr × Obj)} {σ : L2.St} {H : Hp} {s : Shared} {Q : VK} {ws : List Value} {zs : List V} (M : Mk X.K C f) (G : FnOk X.prog X.w X.K X.mg X.base (L2C.CX X.prog X.w) k f fd ps sp) (hr : Room (k + 1) X.A) (hb : KwI X.K fd ps ks ix) (tk : L2C.Takes X W)
    (I:L2.Inv X pins σ H s) (r:Vals zs ws) (l:ws.length=ks.length) (h:∀ a dx,H a=none->H dx=none->dx≠a->sp (.ref a::permL ix zs) (upd (upd H dx (.own a)) a (.ins C dx [])) (fun v H2=>v=.non/\Q (.ref a) H2) fun cls od H2=>WE W σ cls od H2) :
    wpAny (model X.prog X.w) X.A (call (.ref C) [] (ks.zip ws)) (EP X pins σ Q) X.xe s:=by
  have J:=Inv.made (C:=C) I
  refine wpAny_call (make_map (f:=f) I.kIn M.makes M.init (beq_iff_eq.mp M.fn) (codeAny_mono (G.run _ X.stack _ _ ⟨[Value.ref (s.heap.objs.size+1)],ks.zip ws⟩ (.ref (s.heap.objs.size+1)::permL ix ws) (.ref (s.heap.objs.size+1)::permL ix zs) _ _ (hr.make C [] (ks.zip ws)) (J.env0.make C [] (ks.zip ws))
    (hb _ _ ws J.kIn l) (.cons rfl (vals_perm r ix)) (h (s.heap.objs.size+1) s.heap.objs.size (I.hok.fresh (Nat.le_succ _)) (I.hok.fresh (Nat.le_refl _)) (Nat.ne_of_lt (Nat.lt_succ_self _)))) fun res s' hres=>?_))
  match res,hres with
  | .error er,hres=>exact L2C.passAt tk σ pins _ _ er s' J hres
  | .ok (.ret u),hres =>
    obtain⟨v,H',J2,rv,ev,q⟩:=J.after hres
    subst ev
    exact⟨rv,V.ref (s.heap.objs.size+1),H',J2,rfl,q⟩
def TMakeK(C:Addr) (F:TFI) (m:Nat) (ix:List Nat) (Uk:TL):TD:=fun c env φ=>Uk c env fun zs=>zs.length=m/\F c.wd (permL ix zs) (fun fs=>φ (.ins C fs)) fun ex=>c.er ex env
theorem de_makeK0 (M : Mk X.K C f) (G : FnIO X.prog X.w X.K X.mg X.base k C f fd ps F) (hb : KwI X.K fd ps ks ix) (hr : Room (k + 1) X.A) (hG : Gl X x) (hM : X.mg x = some (.ref C)) (tk : L2C.Takes X W) (hkw : DK X W kws Uk)
    (hall:(backToKw pos (keywordEach kws X.env)).all (·.1.isSome)=true:=by rfl) (hks:(backToKw pos (keywordEach kws X.env)).filterMap (·.1)=ks:=by rfl)
    (hD:(x==("__debug__":Str))=false:=by decide)
    (hpl:((backTo pos (starEach [] X.env)).any (·.1)||(backToKw pos (keywordEach kws X.env)).any (·.1.isNone))=false:=by rfl):DE X W (.Call (.Name x p0) [] kws pos) (TMakeK C F ks.length ix Uk) :=
  de_mk (t:=fun σ H Q=>tL3 X.K W Uk σ H fun zs H1=>zs.length=ks.length/\∀ a dx,H1 a=none->H1 dx=none->dx≠a->spI X.K C F (.ref a::permL ix zs) (upd (upd H1 dx (.own a)) a (.ins C dx [])) (fun v H2=>v=.non/\Q (.ref a) H2) fun cls od H2=>WE W σ cls od H2)
    ⟨fun pins s σ H Q I h=>wpAny_Call_Name_kw (ld_glob I hG hM (PySem.W.callWith_KW0 (h₀:=X.base) I.ok.mod.kin M.kp hall (by
      refine thn (hkw.run pos pins s σ H _ I h) fun ws s2 ⟨zs,H2,I2,rz,l2,q2⟩=>⟨I2.kIn,?_⟩
      rw[hks]
      exact make_kw M G hr hb tk I2 rz (rz.length.symm.trans l2) q2) hpl) hD)⟩ fun S R H σ env φ lk ok h =>
    tL3.ask lk ok h fun R1 H1 ds vs f1 ok1 r1 ⟨l1,q1⟩=>⟨by rw[r1.length]; exact l1,fun a dx ha hd hne=>spI_ask f1 lk ok1 (r1.perm ix) q1 ha hd hne⟩
end
end L3
namespace PySem.W
open PySem PySem.Spec PySem.Calls PyProof.Rows
section
variable {prog:Program}{w:World}{M:Model}{A:Around}{E:Value->Shared->Prop}{s:Shared}{K:Frag}{x C f:Addr}{ox:Obj}{od:Option Obj}
theorem own_repr_call {Q : Value -> Shared -> Prop} (hu : A.in1.units < cLine) (X : K.In s.heap) (I : InstAt s.heap x ox C od) (hs : findIn K (.ref C) "__repr__" = some (some (.ref f))) (hf : isFn K (.ref f) = true)
    (h:wpAny (model prog w) A.in1 (call (.ref f) [.ref x]) (fun r s'=>∃ y u,r=.str y u/\Q r s') E s):wpAny (model prog w) A (call (.builtin "repr") [.ref x]) Q E s:=by
  refine Calls.call_function_entry F.kind_repr F.plain_repr F.entry_repr (F.args_repr1 _) ?_
  unfold Builtin.«repr»
  refine wpAny_bind (m:=oneArg "repr" _) (wpAny_pure ?_)
  refine wpAny_bind (wpAny_cRoomFor hu ?_)
  refine wpAny_bind (wpAny_bind (I.type.here ((looks_findIn X hs).here ?_)))
  show wpAny _ _ (if (some (Value.ref f)).isNone=true then _ else _) _ _ _
  rw[if_neg (by simp)]
  refine wpAny_bind (m:=callSpecialIfBound? (.ref x) (Str.ofString "__repr__") _) (ifBound_K X I hs hf (wpAny_mono h (fun r s' hr=>?_) fun _ _ y=>y))
  obtain⟨m,tk,rfl,hq⟩:=hr
  refine wpAny_bind (wpAny_isInstance (typeIs_str _ _ _) isSubtype_str_str ?_)
  first
    | exact wpAny_pure ⟨_,rfl,hq⟩
    | (rw[if_pos rfl]; exact wpAny_pure ⟨_,rfl,hq⟩)
    | (simp only[if_true]; exact wpAny_pure ⟨_,rfl,hq⟩)
end
end PySem.W
namespace L3
open PySem PySem.Spec PyProof.Rows L2
section
variable {X:Cx}{W:WX}{pos p:Pos}{e:Expr}{T:TD}{F:TF}{k:Nat}{C f:Addr}{m:Str}
/-- what is asked of an own method that tells a text -/
structure TellK (K:PySem.W.Frag) (C f:Addr) (m:Str):Prop where
  find:PySem.W.findIn K (.ref C) m=some (some (.ref f))
  fn:PySem.W.isFn K (.ref f)=true
def TTell(C:Addr) (F:TF) (T:TD):TD:=fun c env φ=>T c env fun d=>(∃ fs,d=.ins C fs)/\F c.wd [d] (fun r=>∃ z,r=.str z/\φ (.str z)) fun _=>False
theorem boot_repr:bootBuiltins "repr"=some (.builtin "repr"):=by rfl
theorem de_reprOwn(q:TellK X.K C f "__repr__") (G:Fn3 X.prog X.w X.K X.mg X.base k f F) (hr:Room (k+1) X.A) (hg:Gl X "repr") (hm:X.mg "repr"=none) (ha:DE X W e T) (he:starEach [e] X.env=(false,eval e X.env)::starEach [] X.env:=by rfl) (hpl:(backTo pos (starEach [e] X.env)).any (·.1)=false:=by rfl) :
    DE X W (.Call (.Name "repr" p) [e] [] pos) (TTell C F T) :=
  de_mk (t:=fun σ H Q=>tCons (tD X.K W T) tNil σ H fun vs H1=>∃ a dx fs,vs=[.ref a]/\H1 a=some (.ins C dx fs)/\spW X.K F [.ref a] H1 (fun v H2=>∃ z,v=.str z/\Q (.str z) H2) fun _ _ _=>False)
    ⟨fun pins s σ H Q I h=>wpAny_Call_Name_kw (ld_blt I hg hm boot_repr (Calls.callWith_builtin hpl (by
      have z:=thn ((pa_cons ha pa_nil he).run pos pins s σ H _ I h) fun us s1 ⟨vs,H1,I1,r,a,dx,fs,ev,ea,q1⟩=>(by
        subst ev
        obtain⟨u,rfl,r1⟩:=vals1 r
        obtain rfl:u=Value.ref a:=r1
        obtain⟨mA,J,_⟩:=ins_get I1.hok ea
        obtain⟨od,J,_⟩:=J.look
        refine PySem.W.own_repr_call (hr.in1.units0) I1.kIn J q.find q.fn (thn (call_q (us:=[.ref a]) (vs:=[.ref a]) (Q:=fun v H2=>∃ z,v=.str z/\Q (.str z) H2) G hr.in1 I1.env0.in1 I1 (.cons rfl .nil) q1) fun w s' ⟨z,H',I',rz,y,ez,qq⟩=>?_)
        subst ez
        obtain⟨t,rfl⟩:=(show ∃ t,w=Value.str y t from rz)
        exact⟨_,_,rfl,.str y,H',I',⟨_,rfl⟩,qq⟩:wpAny (model X.prog X.w) X.A (call (.builtin "repr") us) (EP X pins σ Q) X.xe s1)
      rw[he] at z ⊢
      exact Calls.evalArgs_plain z)))⟩ fun S R H σ env φ lk ok h=>tD.ask lk ok h fun R1 H1 d v f1 ok1 r1 ⟨⟨fs,ed⟩,q⟩=>by
    subst ed
    obtain⟨a,dx,fvs,e2,hh,rf⟩:=rep_ins r1
    subst e2
    refine⟨a,dx,fvs,rfl,ok1.bas.sub _ _ hh,S.c.wd,R1,[.ins C fs],_,_,ok1.bas,.one r1,q,fun v R' H' d f r ⟨z,ez,qz⟩=>?_,fun _ _ _ _ _ _ _ z=>z.elim⟩
    subst ez
    obtain rfl:v=.str z:=r
    exact⟨z,rfl,R',.str z,f1.trans f,rfl,qz⟩
end
open PySem PySem.Spec PyProof.Rows L2
open PySem PySem.Spec PyProof.Rows L2
section
variable {X:Cx}{pos:Pos}
/-- a,b,..=a list of that length -/
def GUnl(n:Nat) (u:TGsD):TGD:=fun d env k=>∃ ds,d=.lst ds/\ds.length=n/\u ds env k
end
end L3
namespace GenP
open PySem
open Sem (wp)
def slp:GenState->Bool
  | .suspended ..=>true
  | .running=>true
  | _=>false
/-- a sleeper that cannot be woken,to the eye the same -/
def poi:GenState->GenState
  | .suspended _ l c p fs cl=>.suspended (fun _=>.unsupported "asleep") l c p fs cl
  | x=>x
/-- those of G that sleep stand poisoned in g; what else sleeps there has no generator's frame -/
structure Po (G g:Array GenState):Prop where
  at_:∀ (i:Nat) (x:GenState),G[i]?=some x->slp x=true->g[i]?=some (poi x)
  clean:∀ (i:Nat) (k:Resume->Sem PySem.Fin) (l:List Value) (c:Code) (p:Pos) (fs:List Frame) (cl:Bool),g[i]?=some (.suspended k l c p fs cl)->(∃ x,G[i]?=some x/\slp x=true)\/splitAtGen fs=none
def unAt(G:Array GenState) (i:Nat) (x:GenState):GenState:=match G[i]? with
  | some y=>if slp y=true then y else x
  | none=>x
def un(G g:Array GenState):Array GenState:=g.mapIdx (unAt G)
/-- nobody sleeps at i -/
def Free(G:Array GenState) (i:Nat):Prop:=∀ y,G[i]?=some y->slp y=false
theorem unAt_slp {G:Array GenState}{i:Nat}{x y:GenState} (e:G[i]?=some y) (h:slp y=true):unAt G i x=y:=by
  unfold unAt
  rw[e]
  simp[h]
theorem un_get {G g:Array GenState}{i:Nat}:(un G g)[i]?=(g[i]?).map (unAt G i):=by
  unfold un
  rw[Array.getElem?_mapIdx]
theorem Po.push {G g:Array GenState} (h:Po G g) {c:Code}:Po G (g.push (.fresh c)) where
  at_:=fun i x e q=>by
    have z:=h.at_ i x e q
    obtain⟨hi,_⟩:=Array.getElem?_eq_some_iff.mp z
    rw[Array.getElem?_push_lt hi]
    rw[<- z,Array.getElem?_eq_getElem hi]
  clean:=fun i k l c' p fs cl e=>by
    rw[Array.getElem?_push] at e
    split at e
    . cases e
    . exact h.clean i k l c' p fs cl e
theorem Po.set {G g:Array GenState} (h:Po G g) {i:Nat}{x:GenState} (hf:Free G i) (hx:∀ k l c p fs cl,x=.suspended k l c p fs cl->splitAtGen fs=none):Po G (g.setIfInBounds i x) where
  at_:=fun j y e q=>by
    have ne:i≠j:=fun z=>by
      subst z
      rw[hf y e] at q
      cases q
    rw[Array.getElem?_setIfInBounds_ne ne]
    exact h.at_ j y e q
  clean:=fun j k l c p fs cl e=>by
    by_cases z:i=j
    . subst z
      rw[Array.getElem?_setIfInBounds_self] at e
      split at e
      . exact .inr (hx k l c p fs cl (Option.some.inj e))
      . cases e
    . rw[Array.getElem?_setIfInBounds_ne z] at e
      exact h.clean j k l c p fs cl e
section
variable {M:Model}
/-- the sleepers of G stand in g as they were -/
def Kept(G g:Array GenState):Prop:=∀ (i:Nat) (x:GenState),G[i]?=some x->slp x=true->g[i]?=some x
theorem Kept.refl {G:Array GenState}:Kept G G:=fun _ _ e _=>e
theorem Kept.trans {G g g':Array GenState} (a:Kept G g) (b:Kept g g'):Kept G g':=fun i x e q=>b i x (a i x e q) q
theorem Po.kept {G g:Array GenState} (h:Po G g):Kept G (un G g):=fun i x e q=>by
  rw[un_get,h.at_ i x e q,Option.map_some,unAt_slp e q]
def CleanSt(x:GenState):Prop:=∀ k l c p fs cl,x=.suspended k l c p fs cl->splitAtGen fs=none
structure Sz (s s':Shared):Prop where
  h:s.heap.objs.size<=s'.heap.objs.size
  g:s.gens.size<=s'.gens.size
  d:∀ b,b<s.heap.objs.size->s.heap.get? b=none->s'.heap.get? b=none
theorem Sz.refl {s:Shared}:Sz s s:=⟨Nat.le_refl _,Nat.le_refl _,fun _ _ e=>e⟩
theorem Sz.trans {s s1 s2:Shared} (a:Sz s s1) (b:Sz s1 s2):Sz s s2:=⟨Nat.le_trans a.h b.h,Nat.le_trans a.g b.g,fun c hc e=>b.d c (Nat.lt_of_lt_of_le hc a.h) (a.d c hc e)⟩
theorem Sz.set {s:Shared}{i:Nat}{x:GenState}:Sz s (s.setGen i x):=⟨Nat.le_refl _,by rw[GenW.setGen_size]; exact Nat.le_refl _,fun _ _ e=>e⟩
theorem Sz.push {s:Shared}{o:Obj}:Sz s {s with heap:=s.heap.push o} :=
  ⟨by show _<=(s.heap.push o).objs.size; rw[Heap.size_push]; exact Nat.le_succ _,Nat.le_refl _,fun b hb e=>by
    show(s.heap.push o).get? b=none
    have z:(s.heap.push o).objs[b]?=s.heap.objs[b]?:=by
      cases s with
      | mk heap _ _ _ _ =>
        cases heap
        exact Array.getElem?_push_lt hb |>.trans (Array.getElem?_eq_getElem hb).symm
    unfold Heap.get? at e ⊢
    rw[z]
    exact e⟩
end
end GenP
namespace L3
open PySem PySem.Spec PyProof.Rows L2
/-- the objects of an iterator,the states that sleep,as they were -/
def KeepFp(fp:List Addr) (gi:List Nat) (s s':Shared):Prop:=(∀ b∈fp,∀ o,s.heap.get? b=some o->s'.heap.get? b=some o)/\∀ i∈gi,∀ (x:GenState),s.gens[i]?=some x->s'.gens[i]?=some x
theorem KeepFp.refl {fp:List Addr}{gi:List Nat}{s:Shared}:KeepFp fp gi s s:=⟨fun _ _ _ e=>e,fun _ _ _ e=>e⟩
theorem KeepFp.trans {fp:List Addr}{gi:List Nat}{s s1 s2:Shared} (a:KeepFp fp gi s s1) (b:KeepFp fp gi s1 s2):KeepFp fp gi s s2:=⟨fun c hc o e=>b.1 c hc o (a.1 c hc o e),fun i hi x e=>b.2 i hi x (a.2 i hi x e)⟩
/-- the states at gi: no generator's frame within; all asleep -/
def GiOk(gi:List Nat) (s:Shared):Prop:=∀ i∈gi,∃ x:GenState,s.gens[i]?=some x/\GenP.CleanSt x
def SlpGi(gi:List Nat) (s:Shared):Prop:=∀ i∈gi,∃ x:GenState,s.gens[i]?=some x/\GenP.slp x=true
theorem SlpGi.kept {gi:List Nat}{s s':Shared} (h:SlpGi gi s) (k:GenP.Kept s.gens s'.gens):∀ i∈gi,∀ (x:GenState),s.gens[i]?=some x->s'.gens[i]?=some x:=fun i hi x e=>by
  obtain⟨y,ey,hy⟩:=h i hi
  have e2:y=x:=Option.some.inj (ey.symm.trans e)
  rw[<- e2]
  exact k i y ey hy
theorem GiOk.keep {fp:List Addr}{gi:List Nat}{s s':Shared} (h:GiOk gi s) (k:KeepFp fp gi s s'):GiOk gi s':=fun i hi=>let ⟨x,e,c⟩:=h i hi; ⟨x,k.2 i hi x e,c⟩
def ObjFp(fp:List Addr) (s:Shared):Prop:=∀ b∈fp,∃ o,s.heap.get? b=some o/\∀ v,o.data≠.cell v
theorem ObjFp.keep {fp:List Addr}{gi:List Nat}{s s':Shared} (h:ObjFp fp s) (k:KeepFp fp gi s s'):ObjFp fp s':=fun b hb=>let ⟨o,e,d⟩:=h b hb; ⟨o,k.1 b hb o e,d⟩
/-- the iterator at it hands out ds: to the contexts of the family F -/
def ItX(F:Cx->Prop) (M:Model) (A:Around) (K:PySem.W.Frag) (wd:Wd) (tg:Expr) (it:Addr):List D->List Addr->List Nat->Hp->Shared->Prop
  | [],fp,gi,R,s=>ObjFp fp s/\GiOk gi s/\∀ s',KeepFp fp gi s s'->∀ (X:Cx) (pins:List (Addr × Obj)) (σ:L2.St) (H R1:Hp) (E:Value->Shared->Prop),F X->L2.Inv X pins σ H s'->(∀ b∈fp,FpOk X pins H b)->Same R R1->Bas wd R1 H ->
      wpAny M A (pyNext (.ref it)) (fun r s1=>r=none/\∃ R' H',L2.Inv X pins σ H' s1/\Fin wd R1 H R' H') E s'
  | d::ds,fp,gi,R,s=>ObjFp fp s/\GiOk gi s/\∀ s',KeepFp fp gi s s'->∀ (X:Cx) (pins:List (Addr × Obj)) (σ:L2.St) (H R1:Hp) (E:Value->Shared->Prop),F X->L2.Inv X pins σ H s'->(∀ b∈fp,FpOk X pins H b)->Same R R1->Bas wd R1 H ->
      wpAny M A (pyNext (.ref it)) (fun r s1=>∃ u,r=some u/\wpAny M A (letOwnedTupleGo tg (.ref it) u) (fun _ s2=>∃ x H' R' fp' gi',L2.Inv X pins σ H' s2/\RelV x u/\Fin wd R1 H R' H'/\Rep K R' d x/\(∀ b∈fp',FpOk X pins H' b)/\(∀ i∈gi',i∈gi\/s'.gens.size<=i)/\SlpGi gi' s2/\ItX F M A K wd tg it ds fp' gi' R' s2) E s1) E s'
section
variable {F:Cx->Prop}{M:Model}{A:Around}{K:PySem.W.Frag}{wd:Wd}{tg:Expr}{it:Addr}
theorem ItX.gi {ds:List D}{fp:List Addr}{gi:List Nat}{R:Hp}{s:Shared} (h:ItX F M A K wd tg it ds fp gi R s):GiOk gi s:=by cases ds<;>exact h.2.1
theorem ItX.obj {ds:List D}{fp:List Addr}{gi:List Nat}{R:Hp}{s:Shared} (h:ItX F M A K wd tg it ds fp gi R s):ObjFp fp s:=by cases ds<;>exact h.1
theorem ItX.keep {ds:List D}{fp:List Addr}{gi:List Nat}{R R1:Hp}{s s':Shared} (h:ItX F M A K wd tg it ds fp gi R s) (k:KeepFp fp gi s s') (u:Same R R1):ItX F M A K wd tg it ds fp gi R1 s':=by
  cases ds with
  | nil=>exact⟨h.1.keep k,h.2.1.keep k,fun s'' k2 X pins σ H R2 E hF I hf sm b=>h.2.2 s'' (k.trans k2) X pins σ H R2 E hF I hf (u.trans sm) b⟩
  | cons d ds=>exact⟨h.1.keep k,h.2.1.keep k,fun s'' k2 X pins σ H R2 E hF I hf sm b=>h.2.2 s'' (k.trans k2) X pins σ H R2 E hF I hf (u.trans sm) b⟩
end
/-- the contexts beside X -/
def FamX(X Y:Cx):Prop:=Y.prog=X.prog/\Y.w=X.w/\Y.K=X.K/\Y.mg=X.mg/\Y.base=X.base/\Y.calm=true/\Y.A=X.A/\Y.stack=X.stack
open PySem PySem.Spec PyProof.Rows L2
end L3
namespace GenS
open PySem
open Sem (wp)
end GenS
namespace L3
open PySem PySem.Spec PyProof.Rows L2
def trunc(h:Heap) (L:Nat):Heap:={h with objs:=h.objs.extract 0 L}
/-- what is young and untracked,but what is one's own,stays known as it is -/
def FZ(h:Heap) (L:Nat) (own:List Addr) (H:Hp):Hp:=fun b=>match H b with
  | some o=>some o
  | none=>if L<=b/\b∉own then (h.get? b).map fun o=>.frz o (.ext fun _=>True) else none
def unFZ(h:Heap) (L:Nat) (own:List Addr) (H H':Hp):Hp:=fun b=>match H b with
  | some _=>H' b
  | none=>if L<=b/\b∉own/\(h.get? b).isSome=true then none else H' b
open PySem PySem.Spec PyProof.Rows L2 GenS
open PySem PySem.Spec PyProof.Rows L2 GenS
/-- a generator: its def's world,its frame's address,what asks for its items,its own object and number -/
structure GF where
  P:Program
  w:World
  K:PySem.W.Frag
  mg:Str->Option Value
  base:Heap
  N:List Str
  qual:Str
  scope:Scope
  f:Addr
  cd:Value
  L:Addr
  A:Around
  outer:List Env
  a:Addr
  go:Obj
  g:Nat
/-- a waking: the state,what is tracked,what stays,the generator's own objects,what may change -/
structure GW where
  s0:Shared
  H0:Hp
  R0:Hp
  own:List Addr
  gi:List Nat
  c:Ct
def GF.env(F:GF):Env:=envOfC F.qual F.scope F.L F.f F.cd
abbrev GW.fz (W:GW) (F:GF):Hp:=FZ W.s0.heap F.L W.own W.H0
def GF.X(F:GF) (W:GW):Cx where
  prog:=F.P
  w:=F.w
  K:=F.K
  mg:=F.mg
  base:=F.base
  A:=F.A.deeper F.env
  N:=F.N
  s_0:={W.s0 with heap:=trunc W.s0.heap F.L}
  H_0:=W.fz F
  env:=F.env
  outer:=F.outer
  stack:=F.env::F.outer
  ex:=[]
  fn:=fun _=>true
  calm:=true
  pn:=[]
  xe:=fun _ _=>False
def GF.S(F:GF) (W:GW):Sta:=⟨W.c.in,W.R0,W.fz F,W.R0⟩
structure GF.Ok (F:GF):Prop where
  kind:F.scope.kind=.function
  cells:cellsFrom (F.L+1) F.scope.names []=[]
  loc:∀ x,F.env.kindOf x≠some .cell/\F.env.kindOf x≠some .free
  hd:F.A.handled=none
  frames:F.A.frames=some F.outer
  mod:Mod F.K F.mg F.base
  bL:F.base.objs.size<=F.L
  old:∀ b∈frs F.outer,b<F.L
  goc:F.go.cls=.type "generator"/\(∃ nm qn,F.go.data=.fields #[.int F.g 0,nm,qn])/\F.go.slots=#[]
  aL:F.L<F.a
/-- running,since the waking W -/
structure GIn (F:GF) (W:GW) (ip:List (Addr × Obj)) (gi:List Nat) (σ:L2.St) (R H:Hp) (env:Ev) (s:Shared):Prop where
  inv:L2.Inv (F.X W) ip σ H s
  ok:Ok3 F.K (F.S W) R H σ env
  run:s.gens[F.g]?=some .running
  ips:∀ p∈ip,p.1∈W.own\/W.s0.heap.objs.size<=p.1
  gob:(F.a,F.go)∈ip
  sl:SlpGi gi s
  cl:GiOk gi s
  nw:∀ i∈gi,(i∈W.gi\/W.s0.gens.size<=i)/\i≠F.g
  sz:GenP.Sz W.s0 s
section
variable {F:GF}{W:GW}{ip:List (Addr × Obj)}{gi:List Nat}{σ:L2.St}{env:Ev}
abbrev GW.un (W:GW) (F:GF) (H:Hp):Hp:=unFZ W.s0.heap F.L W.own W.H0 H
end
/-- what is wanted behind a statement; the list: what is still to come out -/
structure GEnd where
  nx:List D->Ev->Prop
  bk:List D->Ev->Prop:=fun _ _=>False
  ct:List D->Ev->Prop:=fun _ _=>False
def GEnd.at(D:GEnd):Flow->List L3.D->Ev->Prop
  | .next=>D.nx
  | .brk=>D.bk
  | .cont=>D.ct
  | .ret _=>fun _ _=>False
abbrev TGn:=Ct->GEnd->List D->Ev->Prop
section
variable {F:GF}{st:Stmt}{rest:List Stmt}
theorem GIn.of {W:GW}{ip:List (Addr × Obj)}{gi:List Nat}{σ σ':L2.St}{R H R' H':Hp}{env env':Ev}{s s':Shared} (I:GIn F W ip gi σ R H env s) (J:L2.Inv (F.X W) ip σ' H' s') (ok:Ok3 F.K (F.S W) R' H' σ' env') (k:GenP.Kept s.gens s'.gens) (z:GenP.Sz s s'):GIn F W ip gi σ' R' H' env' s' :=
  ⟨J,ok,k _ _ I.run rfl,I.ips,I.gob,fun i hi=>let ⟨x,e,q⟩:=I.sl i hi; ⟨x,k _ _ e q,q⟩,fun i hi=>by
    obtain⟨x,e,q⟩:=I.sl i hi
    obtain⟨y,e2,q2⟩:=I.cl i hi
    have e3:x=y:=Option.some.inj (e.symm.trans e2)
    exact⟨x,k _ _ e q,by rw[e3]; exact q2⟩,I.nw,I.sz.trans z⟩
def tPl(T:TSD):TGn:=fun c D ds env=>T c {nx:=D.nx ds,rt:=fun _ _=>False,bk:=D.bk ds,ct:=D.ct ds} env
def tG0:TGn:=fun _ D ds env=>D.nx ds env
def tGThen(T U:TGn):TGn:=fun c D ds env=>T c {D with nx:=fun ds' env'=>U c D ds' env'} ds env
def tGIf(Tt:TB) (T U:TGn):TGn:=fun c D ds env=>Tt c env fun b=>if b=true then T c D ds env else U c D ds env
def noOwn(env:Ev):Bool:=env.all fun s=>s.ad.isNone
def tGYield(Te:TD):TGn:=fun c D ds env=>noOwn env=true/\∃ d ds',ds=d::ds'/\Te c env fun x=>x=d/\D.nx ds' env
end
open PySem PySem.Spec PyProof.Rows L2 GenS
def ForGn(g:TGD) (B:TGn) (c:Ct) (D:GEnd):List L3.D->List L3.D->Ev->Prop
  | [],ds,env=>D.nx ds env
  | x::xs,ds,env=>g x env fun env'=>B c {nx:=ForGn g B c D xs,ct:=ForGn g B c D xs,bk:=D.nx} ds env'
def tGFor(T:TL) (g:TGD) (B:TGn):TGn:=fun c D ds env=>T c env fun xs=>ForGn g B c D xs ds env
open PySem PySem.Spec PyProof.Rows L2 GenS
/-- what a generator def promises: of these arguments these items -/
abbrev TFG:=Wd->List D->(List D->Prop)->Prop
/-- a generator was made -/
def GMade3(P:Program) (w:World) (K:PySem.W.Frag) (mg:Str->Option Value) (base:Heap) (k:Nat) (outer:List Env) (R:Hp) (wd:Wd) (s:Shared) (u:Value) (s':Shared) (out:List D):Prop :=
  ∃ (a:Addr) (g:Nat) (fp:List Addr),u=.ref a/\(∀ b o,s.heap.get? b=some o->s'.heap.get? b=some o)/\s'.os=s.os/\AllBare s'.gens/\(∀ b∈fp,s.heap.objs.size<=b)/\s.gens.size<=g/\s'.heap.IsGen a g/\a∈fp /\
    ∀ (X:Cx) (tg:Expr),X.prog=P->X.w=w->X.K=K->X.mg=mg->X.base=base->X.stack=outer->Room k X.A->X.A.frames=some outer->ItX (FamX X) (model X.prog X.w) X.A X.K wd tg a out fp [g] R s'
def GFn3(P:Program) (w:World) (K:PySem.W.Frag) (mg:Str->Option Value) (base:Heap) (k:Nat) (f:Addr) (F:TFG):Prop :=
  ∀ (A:Around) (outer:List Env) (s:Shared) (H:Hp) (us:List Value) (vs:List V) (wd:Wd) (R:Hp) (ds:List D) (φ:List D->Prop),Room k A->Env0 P w K mg base A outer s H->Vals vs us->Bas wd R H->Reps K R ds vs->F wd ds φ ->
    codeAny (model P w) A (.call (.ref f) ⟨us,[]⟩) (fun r s'=>∃ u out,r=.ok (.ret u)/\φ out/\GMade3 P w K mg base k outer R wd s u s' out) s
theorem GFn3.mono {P:Program}{w:World}{K:PySem.W.Frag}{mg:Str->Option Value}{base:Heap}{j k:Nat}{f:Addr}{F:TFG} (h:GFn3 P w K mg base j f F) (q:j<=k):GFn3 P w K mg base k f F:=fun A outer s H us vs wd R ds φ hr e0 r b rs hF =>
  codeAny_mono (h A outer s H us vs wd R ds φ (hr.mono q) e0 r b rs hF) fun r s' ⟨u,out,e,hφ,a,g,fp,h1,h2,h3,h4,h5,h6,h7,h8,h9⟩=>⟨u,out,e,hφ,a,g,fp,h1,h2,h3,h4,h5,h6,h7,h8,fun X tg e1 e2 e3 e4 e5 e6 hr' hfr=>h9 X tg e1 e2 e3 e4 e5 e6 (hr'.mono q) hfr⟩
/-- .. called with any arguments that bind -/
def GFn3O(P:Program) (w:World) (K:PySem.W.Frag) (mg:Str->Option Value) (base:Heap) (k:Nat) (f:Addr) (fd:FuncData) (ps:List Str) (F:TFG):Prop :=
  ∀ (A:Around) (outer:List Env) (s:Shared) (H:Hp) (args:Args) (us:List Value) (vs:List V) (wd:Wd) (R:Hp) (ds:List D) (φ:List D->Prop),Room k A->Env0 P w K mg base A outer s H->BindsTo s fd args (ps.zip us)->Vals vs us->Bas wd R H->Reps K R ds vs->F wd ds φ ->
    codeAny (model P w) A (.call (.ref f) args) (fun r s'=>∃ u out,r=.ok (.ret u)/\φ out/\GMade3 P w K mg base k outer R wd s u s' out) s
theorem GFn3O.pos {P:Program}{w:World}{K:PySem.W.Frag}{mg:Str->Option Value}{base:Heap}{k:Nat}{f:Addr}{fd:FuncData}{ps:List Str}{F:TFG} (h:GFn3O P w K mg base k f fd ps F) (hb:Binds K fd ps []) (hn:∀ wd ds φ,F wd ds φ->ds.length=ps.length):GFn3 P w K mg base k f F:=fun A outer s H us vs wd R ds φ hr e0 r b rs hF=>by
  refine h A outer s H ⟨us,[]⟩ us vs wd R ds φ hr e0 ?_ r b rs hF
  have hlu:us.length=ps.length:=by rw[<- r.length,rs.length]; exact hn _ _ _ hF
  have KX:K.In s.heap:=e0.mod.kin.keeps fun b o e=>(e0.bs b o e).1
  have b:=hb s us KX (by rw[List.append_nil]; exact hlu)
  rw[List.append_nil] at b
  exact b
open PySem PySem.Spec PyProof.Rows L2 GenS
section
variable {X:Cx}{W:WX}{tg o e:Expr}{es:List Expr}{m x:Str}{C f:Addr}{k:Nat}{F:TFG}{Ta:TD}{U:TL}{apos pos p:Pos}
def TMethG(C:Addr) (m:Str) (F:TFG) (Ta:TD) (U:TL):TL:=fun c env φ=>Ta c env fun x=>∃ fs,x=.ins C fs/\fs.lookup m=none/\U c env fun ds=>F c.wd (x::ds) φ
def TListG(T:TL):TD:=fun c env φ=>T c env fun out=>out.length<=sizeLine/\φ (.lst out)
end
open PySem PySem.Spec PyProof.Rows L2 GenS
section
variable {X:Cx}{W:WX}{pos:Pos}{e a b:Expr}
def TStar1(T:TD) (u:TGsD):TSD:=fun c D env=>T c env fun d=>∃ x r,d=.tup (x::r)/\u [x,.lst r] env D.nx
end
section
variable {X:Cx}{W:WX}{pos apos:Pos}{o:Expr}{Ta:TD}{F:TF}{k:Nat}{f C:Addr}{m:Str}
structure CoK (K:PySem.W.Frag) (C f:Addr):Prop where
  co:PySem.W.findIn K (.ref C) "__contains__"=some (some (.ref f))
  fn:PySem.W.isFn K (.ref f)=true
def rOwnIn(K:PySem.W.Frag) (C:Addr) (F:TF):R2:=fun x y H Q=>∃ wd R dx dy,Bas wd R H/\Rep K R dx x/\Rep K R dy y/\(∃ fs,dy=.ins C fs) /\
  ∃ φ:D->Prop,F wd [dy,dx] (fun d=>∃ b,d=.bl b/\φ (.bl b)) (fun _=>False)/\∀ v R' H' d,Fin wd R H R' H'->Rep K R' d v->φ d->Q v H'
def ownInF(C:Addr) (F:TF):Ct->F2:=fun c x y φ=>(∃ fs,y=.ins C fs)/\F c.wd [y,x] (fun d=>∃ b,d=.bl b/\φ (.bl b)) (fun _=>False)
theorem op_ownIn(q:CoK X.K C f) (G:Fn3 X.prog X.w X.K X.mg X.base k f F) (hr:Room k X.A):OpR X (compareOp .In) (rOwnIn X.K C F):=by
  intro pins s σ H x y v u Q I rx ry ⟨wd,R,dx,dy,b,r1,r2,⟨fs,e⟩,φ,hF,hQ⟩
  subst e
  obtain⟨p,d',fvs,e1,hh,rf⟩:=rep_ins r2
  subst e1
  obtain rfl:u=Value.ref p:=ry
  obtain⟨mA,J,_⟩:=ins_get I.hok (b.sub _ _ hh)
  obtain⟨od,J,_⟩:=J.look
  obtain⟨m,hF0⟩:=I.fr
  refine PySem.W.in_K hF0 I.ok.mod.kin J q.co q.fn ?_
  refine thn (call_q (us:=[.ref p,v]) (vs:=[.ref p,x]) (Q:=fun v H'=>∃ kk,v=.bl kk/\Q (.bl kk) H') G hr I.env0 I (.cons rfl (.cons rx .nil)) ⟨wd,R,[.ins C fs,dx],_,_,b,⟨_,_,rfl,r2,_,_,rfl,r1,rfl⟩,hF,fun v R' H' d f r z=>?_,fun _ _ _ _ _ _ _ z=>z.elim⟩) fun w s' ⟨z,H',I',rz,kk,ez,qq⟩=>?_
  . obtain⟨kk,ed,hφ⟩:=z
    subst ed
    exact⟨kk,r,hQ _ R' H' (.bl kk) f rfl hφ⟩
  . subst ez
    obtain rfl:w=Value.bool kk:=rz
    exact wpAny_truthy_bool ⟨.bl kk,H',I',rfl,qq⟩
theorem opd_ownIn {K:PySem.W.Frag}{C:Addr}{F:TF}:OpDC K (rOwnIn K C F) (ownInF C F):=fun c R H x y dx dy φ Q b r1 r2 ⟨h1,h4⟩ k =>
  ⟨c.wd,R,dx,dy,b,r1,r2,h1,φ,h4,fun v R' H' d f r q=>k v H' ⟨R',d,f,r,q⟩⟩
variable {fd:FuncData}{ps ks:List Str}{ix:List Nat}{kws:List Keyword}{Uk:TL}
def TMethK(C:Addr) (m:Str) (F:TF) (n:Nat) (ix:List Nat) (Ta:TD) (Uk:TL):TD:=fun c env φ=>Ta c env fun x=>∃ fs,x=.ins C fs/\fs.lookup m=none/\Uk c env fun zs=>zs.length=n/\F c.wd (x::permL ix zs) φ fun ex=>c.er ex env
theorem de_methK0 {pl : Sem Bool} (he : DE X W o Ta) (hc : Cls X.K C) (hm : Meth X.K C m f) (G : Fn3O X.prog X.w X.K X.mg X.base k f fd ps F) (hb : KwI X.K fd ps ks ix) (hr : Room k X.A) (tk : L2C.Takes X W) (hkw : DK X W kws Uk)
    (hall:(backToKw pos (keywordEach kws X.env)).all (·.1.isSome)=true:=by rfl) (hks:(backToKw pos (keywordEach kws X.env)).filterMap (·.1)=ks:=by rfl)
    (hpl:((backTo pos (starEach [] X.env)).any (·.1)||(backToKw pos (keywordEach kws X.env)).any (·.1.isNone))=false:=by rfl)
    (ht:eval (.Call (.Attribute o m apos) [] kws pos) X.env=(do let ov <- eval o X.env; standAt apos.atName; let (g,first) <- holding [ov] (getMethod ov m pl); callWith pos g first (backTo pos (starEach [] X.env)) (backToKw pos (keywordEach kws X.env))):=by rfl) :
    DE X W (.Call (.Attribute o m apos) [] kws pos) (TMethK C m F ks.length ix Ta Uk) :=
  de_mk (t:=fun σ H Q=>tD X.K W Ta σ H fun x H1=>∃ a dx fs,x=.ref a/\H1 a=some (.ins C dx fs)/\fs.lookup m=none/\tL3 X.K W Uk σ H1 fun zs H2=>zs.length=ks.length/\spW X.K F (x::permL ix zs) H2 Q (WE W σ))
    ⟨fun pins s σ H Q I h=>PySem.W.methodCall_KW (pl:=pl) (thn (he.run pins s σ H _ I h) fun u s1 ⟨x,H1,I1,rx,a,dx,fs,ex,ea,l,q⟩=>by
      subst ex
      obtain rfl:u=Value.ref a:=rx
      refine getmeth_ok I1 ea hc hm l (PySem.W.callWith_KW0 (first:=[.ref a]) I1.kIn hm.kp hall ?_ hpl)
      refine thn (hkw.run pos pins s1 σ H1 _ I1 q) fun ws s2 ⟨zs,H2,I2,rz,l2,q2⟩=>⟨I2.kIn,?_⟩
      rw[hks]
      exact call_kw (args:=⟨[.ref a],ks.zip ws⟩) (us:=.ref a::permL ix ws) (vs:=.ref a::permL ix zs) G hr tk I2 (hb s2 a ws I2.kIn (rz.length.symm.trans l2)) (.cons rfl (vals_perm rz ix)) q2) ht⟩
    fun S R H σ env φ lk ok h=>tD.ask lk ok h fun R1 H1 d v f1 ok1 r1 ⟨fs,ed,l,q⟩=>by
      subst ed
      obtain⟨p,dx,fvs,e2,hh,rf⟩:=rep_ins r1
      subst e2
      refine⟨p,dx,fvs,rfl,ok1.bas.sub _ _ hh,rf.none l,tL3.ask lk ok1 q fun R2 H2 ds vs f2 ok2 r2 ⟨l1,q2⟩=>⟨by rw[r2.length]; exact l1,?_⟩⟩
      exact spW_ask lk ok2 (.cons (r1.mono f2.up) (r2.perm ix)) q2 fun v H' p=>Pst.from (f1.trans f2) p
end
open PySem PySem.Spec PyProof.Rows L2 GenS
open PySem.W (EachIs AllAlike Sortable dataLe)
theorem each_rep {K:PySem.W.Frag}{R:Hp}:∀ {ds:List D}{vs:List V}{us:List Value},Reps K R ds vs->Vals vs us->EachIs (fun u d=>∃ v,RelV v u/\Rep K R d v) us ds
  | [],vs,us,r,q=>by
    have e:vs=[]:=r
    subst e
    cases q
    exact .nil
  | d::ds,vs,us,r,q=>by
    obtain⟨v,t,e,r1,r2⟩:=(show ∃ v r',vs=v::r'/\Rep K R d v/\Reps K R ds r' from r)
    subst e
    cases q with
    | cons q1 q2=>exact .cons ⟨v,q1,r1⟩ (each_rep r2 q2)
theorem rep_each {K:PySem.W.Frag}{R:Hp}:∀ {ds:List D}{us:List Value},EachIs (fun u d=>∃ v,RelV v u/\Rep K R d v) us ds->∃ vs,Reps K R ds vs/\Vals vs us
  | [],us,h=>by
    cases h
    exact⟨[],rfl,.nil⟩
  | d::ds,us,h=>by
    cases h with
    | cons h1 h2 =>
      obtain⟨v,q,r⟩:=h1
      obtain⟨vs,r2,q2⟩:=rep_each h2
      exact⟨v::vs,⟨v,vs,rfl,r,r2⟩,.cons q q2⟩
theorem each_dp {X:Cx}{pins:List (Addr × Obj)}{σ:L2.St}{H R:Hp}{s:Shared}{w:Wd} (I:L2.Inv X pins σ H s) (b:Bas w R H):∀ {ds:List D}{us:List Value},isPs ds=true->EachIs (fun u d=>∃ v,RelV v u/\Rep X.K R d v) us ds->EachIs (fun u d=>∃ as,Reads s.heap u (toP d) as) us ds
  | [],us,_,h=>by
    cases h
    exact .nil
  | d::ds,us,hp,h=>by
    obtain⟨p1,p2⟩:=Bool.and_eq_true_iff.mp (show(isP d&&isPs ds)=true from hp)
    cases h with
    | cons h1 h2 =>
      obtain⟨v,q,r⟩:=h1
      exact .cons (Dp.reads I _ v _ (dp_of p1 (r.mono b.sub)) q) (each_dp I b p2 h2)
theorem toPs_map:∀ ds:List D,toPs ds=ds.map toP
  | []=>rfl
  | d::ds=>congrArg (toP d::·) (toPs_map ds)
def sortedF:F1:=fun dl φ=>∃ ds,dl=[.lst ds]/\isPs ds=true/\AllAlike (ds.map toP)/\Sortable (ds.map toP)/\(∀ d∈ds,(toP d).depth<=60)/\φ (.lst (ds.mergeSort (dataLe false toP)))
def rSortedDt(K:PySem.W.Frag):List V->Hp->VK->Prop:=fun xs H Q=>∃ wd R dl φ,Bas wd R H/\Reps K R dl xs/\sortedF dl φ/\∀ v R' H' d,Fin wd R H R' H'->Rep K R' d v->φ d->Q v H'
theorem cd_sortedDt {K:PySem.W.Frag}:CallD K (rSortedDt K) sortedF:=fun c R H xs ds φ Q b r q k=>⟨c.wd,R,ds,φ,b,r,q,fun v R' H' d f rr z=>k v H' ⟨R',d,f,rr,z⟩⟩
section
variable {X:Cx}
theorem cr_sortedDt(hu:X.A.units+64<cLine):CallR X (.builtin "sorted") (rSortedDt X.K):=by
  intro pins s σ H xs us Q I r ⟨wd,R,dl,φ,b,rl,hF,hQ⟩
  obtain⟨ds,e9,hp,hal,hso,hdp,q⟩:=hF
  subst e9
  obtain⟨v0,e0,r0⟩:=reps1 rl
  subst e0
  obtain⟨p,vs,e1,hh,hr⟩:=rep_lst r0
  subst e1
  obtain rfl:=Vals.ref1 r
  obtain⟨its,rv,hl,hz⟩:=I.list (SqL.of (b.sub _ _ hh))
  have e:=each_rep hr rv
  have hlen:ds.length=vs.length:=hr.length.symm
  refine PySem.W.sorted_data (enc:=toP) hl.isList e (each_dp I b hp e) hal hso (by rw[hlen]; exact hz) (fun d hd=>by have:=hdp d hd; omega) fun out hlo eo=>?_
  obtain⟨ep,he'⟩:=PyProof.Rows.sortedAll_at s.heap its out.toArray
  obtain⟨vs',rr,rv'⟩:=rep_each eo
  have hl':vs'.length<=sizeLine:=by rw[rv'.length,hlo,hlen]; exact hz
  have hn:H (s.heap.objs.size+1)=none:=I.hok.fresh (Nat.le_succ _)
  refine⟨.ref _,upd H (s.heap.objs.size+1) (.lst vs'),I.laid (t':=s.toks) (fun _ _=>PyProof.Rows.sortedAll_old) (Nat.le_succ _) ⟨hl',_,ep,rv',he'⟩,rfl,?_⟩
  obtain⟨R',d',f',r',q'⟩:=Pst.lst (c:=⟨wd,fun _ _=>False⟩) (φ:=φ) b hn rr q
  exact hQ _ R' _ d' f' r' q'
end
mutual
def nlP:PyData->Bool
  | .tuple xs=>nlPs xs
  | .list _=>false
  | .dict _=>false
  | _=>true
def nlPs:List PyData->Bool
  | []=>true
  | d::ds=>nlP d&&nlPs ds
end
structure KeyLam (L:LamC) (x fld:Str) (p0 p1:Pos):Prop where
  body:L.body=.Attribute (.Name x p0) fld p1
  kind:L.scope.kind=.function
  co:L.scope.isCoroutine=false
  gen:L.scope.isGenerator=false
  loc:L.scope.names.lookup x=some .local
  own:∀ y∈L.scope.names,y.2≠.cell
  defs:L.params.defaults=[]
  bind:∀ (q:Str) (doc pm cv ctv:Value) (v:Value),bindArgs (PySem.W.kdv_fn "<lambda>" q L.params (.expr L.body) L.scope [] .none doc pm cv ctv) ⟨[v],[]⟩=pure [(x,v)]
  base:∀ (f c' n:Addr),attributeBase (.Name x p0) fld (envL L [] f c' n) (eval (.Name x p0) (envL L [] f c' n))=eval (.Name x p0) (envL L [] f c' n)
  dbg:(x==("__debug__":Str))=false
def keyP(fld:Str):D->PyData
  | .ins _ fs=>match fs.lookup fld with
    | some k=>toP k
    | none=>.none
  | _=>.none
def KeyOk(K:PySem.W.Frag) (fld:Str) (d:D):Prop:=∃ C fs k,d=.ins C fs/\AtK K C fld/\fs.lookup fld=some k/\isP k=true/\nlP (toP k)=true/\(toP k).depth<=60
def sortKeyF(K:PySem.W.Frag):List D->List D->(D->Prop)->Prop:=fun dl dk φ=>∃ ds L x fld p0 p1,dl=[.lst ds]/\dk=[.lam L []]/\KeyLam L x fld p0 p1/\(∀ d∈ds,KeyOk K fld d)/\AllAlike (ds.map (keyP fld))/\Sortable (ds.map (keyP fld))/\φ (.lst (ds.mergeSort (dataLe false (keyP fld))))
section
variable {X:Cx}{W:WX}{pos:Pos}
def TSortKey(K:PySem.W.Frag) (U Uk:TL):TD:=fun c env φ=>U c env fun ds=>Uk c env fun zs=>sortKeyF K ds zs φ
end
open PySem PySem.Spec PyProof.Rows L2 GenS
def keyD:Key->D
  | .inl i=>.int i
  | .inr x=>.str x
theorem keyD_V {K:PySem.W.Frag}{R:Hp}{k:Key}{v:V} (h:Rep K R (keyD k) v):v=kV k:=by
  cases k with
  | inl i=>exact h
  | inr x=>exact h
def valD(kvs:List (Key × D)) (k:Key):Option D:=(kvs.find? fun kv=>decide (kv.1=k)).map (·.2)
def putKD(kvs:List (Key × D)) (k:Key) (d:D):List (Key × D) :=
  if (kvs.any fun kv=>decide (kv.1=k))=true then kvs.map (fun kv=>if kv.1=k then (kv.1,d) else kv) else kvs++[(k,d)]
section
variable {X:Cx}{W:WX}{pos:Pos}{tg e kx vx iter:Expr}{Ta Td Ty Tk Tv:TD}{A:TB}
def TIk(T:TD):TL:=fun c env φ=>T c env fun d=>∃ kvs,d=.dic kvs/\φ (kvs.map fun kv=>keyD kv.1)
def TIxK(Td Ty:TD):TD:=fun c env φ=>Td c env fun x=>Ty c env fun y=>∃ kvs k d,x=.dic kvs/\y=keyD k/\valD kvs k=some d/\φ d
def DcD(g:TGD) (A:TB) (Tk Tv:TD) (c:Ct) (env:Ev):List L3.D->List (Key × L3.D)->(List (Key × L3.D)->Prop)->Prop
  | [],acc,φ=>φ acc
  | d::ds,acc,φ=>g d env fun env'=>A c env' fun b=>if b=true then Tk c env' fun kd=>∃ k,kd=keyD k/\Tv c env' fun y=>acc.length<sizeLine/\DcD g A Tk Tv c env ds (putKD acc k y) φ else DcD g A Tk Tv c env ds acc φ
def TDc(U:TL) (g:TGD) (A:TB) (Tk Tv:TD) (vs:List Nat):TD:=fun c env φ=>U c env fun ds=>DcD g A Tk Tv c.in (wipeD env vs) ds [] fun out=>φ (.dic out)
end
open PySem PySem.Spec PyProof.Rows L2 GenS
def inDF(neg:Bool):F2:=fun x y φ=>∃ ds,y=.lst ds/\isP x=true/\isPs ds=true/\SeqAt.shaped (toP x)=true/\SeqAt.shaped (toP (.lst ds))=true/\φ (.bl (if neg then !(ds.any fun z=>PyData.eqv (toP z) (toP x)) else ds.any fun z=>PyData.eqv (toP z) (toP x)))
theorem opd_ninD {K:PySem.W.Frag}:OpD K (rNotInD K) (inDF true):=fun c R H x y dx dy φ Q b r1 r2 ⟨ds,e,p1,p2,s1,s2,q⟩ k=>by
  subst e
  refine⟨_,toPs ds,dp_of p1 (r1.mono b.sub),dp_of (d:=.lst ds) p2 (r2.mono b.sub),s1,s2,k _ _ (Pst.now b (show Rep K R (.bl _) _ from rfl) ?_)⟩
  rw[toPs_map,List.any_map]
  exact q
theorem _root_.L2.Room.units65 {k:Nat}{A:Around} (r:Room k A):A.units+65<cLine:=by have:=r.un; omega
def txtOf(fld:Str):D->Option Str
  | .ins _ fs=>match fs.lookup fld with
    | some (.str t)=>some t
    | _=>none
  | _=>none
def hasT(fld:Str) (t:Str) (ds:List D):Bool:=ds.any fun d=>decide (txtOf fld d=some t)
/-- x in ds by C's own __eq__ -/
def ownInL(K:PySem.W.Frag) (C:Addr) (F:TF) (fld:Str) (wd:Wd) (x:D) (ds:List D):Prop:=∃ fx t0,x=.ins C fx/\fx.lookup fld=some (.str t0)/\PySem.W.notFirst K C (.ref C)=true /\
  ∀ d∈ds,∃ fs t,d=.ins C fs/\fs.lookup fld=some (.str t)/\F wd [d,x] (fun r=>r=.bl (decide (t=t0))) (fun _=>False)
def inOwnF(K:PySem.W.Frag) (C:Addr) (F:TF) (fld:Str) (neg:Bool):Ct->F2:=fun c x y φ=>∃ ds t0,y=.lst ds/\txtOf fld x=some t0/\ownInL K C F fld c.wd x ds/\φ (.bl (if neg then !hasT fld t0 ds else hasT fld t0 ds))
section
variable {X:Cx}{W:WX}{pos apos:Pos}{o:Expr}{Ta:TD}{F:TFG}{k:Nat}{f C:Addr}{m:Str}{fd:FuncData}{ps ks:List Str}{ix:List Nat}{kws:List Keyword}{Uk:TL}
def TMethGK(C:Addr) (m:Str) (F:TFG) (n:Nat) (ix:List Nat) (Ta:TD) (Uk:TL):TL:=fun c env φ=>Ta c env fun x=>∃ fs,x=.ins C fs/\fs.lookup m=none/\Uk c env fun zs=>zs.length=n/\F c.wd (x::permL ix zs) φ
end
open PySem PySem.Spec PyProof.Rows L2 GenS
section
variable {X:Cx}{W:WX}{pos p0:Pos}{e:Expr}{es:List Expr}{Ta:TD}{U:TL}{F:TFI}{k:Nat}{f C:Addr}{x:Str}
def TLone(T:TD):TL:=fun c env φ=>T c env fun x=>∃ xs,(x=.tup xs\/x=.lst xs)/\φ xs
end
end L3
namespace PySem.W
open PySem PySem.Spec PySem.Calls PyProof.Rows
end PySem.W
namespace L3
open PySem PySem.Spec PyProof.Rows L2
section
variable {X:Cx}{W:WX}{pos p:Pos}{e:Expr}{T:TD}{F:TF}{k:Nat}{C f:Addr}{m:Str}
def TLenOwn(C:Addr) (F:TF) (T:TD):TD:=fun c env φ=>T c env fun d=>(∃ fs,d=.ins C fs)/\F c.wd [d] (fun r=>∃ n:Int,r=.int n/\0<=n/\n<2 ^ 62/\φ (.int n)) fun _=>False
end
open PySem PySem.Spec PyProof.Rows L2
section
variable {X:Cx}{W:WX}{pos apos:Pos}{e:Expr}{es:List Expr}{U Uk:TL}{F:TF}{k:Nat}{C f:Addr}{m:Str}
def TCMeth(C:Addr) (F:TF) (U:TL):TD:=fun c env φ=>U c env fun ds=>F c.wd (.ref C::ds) φ fun ex=>c.er ex env
def TCMethK(C:Addr) (F:TF) (n:Nat) (ix:List Nat) (Uk:TL):TD:=fun c env φ=>Uk c env fun zs=>zs.length=n/\F c.wd (.ref C::permL ix zs) φ fun ex=>c.er ex env
/-- cls(*xs): a class that a name holds -/
def TMakeV(i:Nat) (C:Addr) (F:TFI) (U:TL):TD:=fun c env φ=>env[i]?=some (.v (.ref C))/\TMake C F U c env φ
end
open PySem PySem.Spec PyProof.Rows L2
open PySem.Builtin PySem.Builtin.Str
end L3
namespace PySem
end PySem
namespace L2
open PySem PySem.Spec PyProof.Rows
end L2
namespace L3
open PySem PySem.Spec PyProof.Rows L2
section
variable {X:Cx}{W:WX}{pos:Pos}{elt tg iter:Expr}{T:TD}
/-- what runs in a comprehension that may raise -/
abbrev Ct.inE (c:Ct) (env:Ev):Ct:=⟨c.wd,fun ex _=>c.er ex env⟩
def TLcE(U:TL) (g:TGD) (T:TD) (vs:List Nat):TD:=fun c env φ=>U c env fun ds=>CompD g TYes T (c.inE env) (wipeD env vs) ds [] fun out=>φ (.lst out)
end
open PySem PySem.Spec PyProof.Rows L2
abbrev TFO:=Wd->List D->(List D->Prop)->Prop
def spO(K:PySem.W.Frag) (F:TFO):Sp:=fun vs H Q _=>∃ (wd:Wd) (R:Hp) (ds:List D) (φ:List D->Prop),Bas wd R H/\Reps K R ds vs/\F wd ds φ /\
  ∀ R' H' p es xs,Fin wd R H R' H'->H p=none->R' p=none->H' p=some (.lst xs)->Reps K R' es xs->φ es->Q (.ref p) H'
abbrev Fn3L (P:Program) (w:World) (K:PySem.W.Frag) (mg:Str->Option Value) (base:Heap) (k:Nat) (f:Addr) (F:TFO):Prop:=FnR P w K mg base (L2C.CX P w) k f (spO K F)
abbrev rLo (K:PySem.W.Frag):List V->Hp->VK->Prop:=fun xs H Q=>∃ p ys,xs=[V.ref p]/\(SqL K H p ys\/SqT K H p ys)/\∀ l,H l=none->Q (.ref l) (upd H l (.lst ys))
section
variable {P:Program}{w:World}{K:PySem.W.Frag}{mg:Str->Option Value}{base:Heap}{x qual:Str}{params:Arguments}{body:List Stmt}{scope:Scope}{f:Addr}{fd:FuncData}
/-- a def whose body is return list(..) -/
theorem fn3L {N ps : List Str} {k : Nat} {F : TFO} {U : TL} (FD : FunD K x qual params body scope [] [] f fd) (Sc : FnScope N ps scope) (hb : Binds K fd ps []) (hn : ∀ wd ds φ, F wd ds φ -> ds.length = ps.length)
    (hbody:∀ (cdv:Value) (A:Around) (outer:List Env) (s:Shared) (H:Hp) (E:XK),Room k (A.deeper (envOfC qual scope s.heap.objs.size f cdv))->PSs (cx3 P w K mg base N qual scope f cdv A outer s H E) body (tRet (tCB (rLo K) (tL3 K WF U))))
    (hT:∀ wd ds φ,F wd ds φ->U ⟨wd,fun _ _=>False⟩ (startD N ds) fun zs=>∃ es,(zs=[.lst es]\/zs=[.tup es])/\φ es):Fn3L P w K mg base (k+1) f F:=by
  have G:FnOk P w K mg base (L2C.CX P w) (k+1) f fd ps (spO K F):=by
    refine FD.ok Sc (fun vs H Q E h=>?_) fun cdv A outer s H vs Q E hr h=>?_
    . obtain⟨wd,R,ds,φ,b,r,hf,_⟩:=h
      rw[r.length]
      exact hn _ _ _ hf
    . obtain⟨wd,R,ds,φ,b,r,hf,hQ⟩:=h
      have lk:Lk K ⟨⟨wd,fun _ _=>False⟩,R,H,R⟩ WF:=fun _ _ _ _ _ _ _ _ _ h=>h.elim
      refine⟨_,hbody cdv A outer s H E hr,?_⟩
      refine tL3.ask lk (start_ok3 (c:=⟨wd,fun _ _=>False⟩) b r) (hT wd ds φ hf) fun R1 H1 zs vs1 f1 ok1 r1 ⟨es,ez,q⟩=>?_
      have key:∀ (p:Addr) (ys:List V),Reps K R1 es ys->∀ l,H1 l=none->Q (.ref l) (upd H1 l (.lst ys)):=fun p ys ry l hl=>by
        have hn:H l=none:=by
          cases e:H l with
          | none=>rfl
          | some o =>
            obtain⟨u,hu⟩:=f1.there e
            rw[hl] at hu
            cases hu
        exact hQ R1 _ l es ys (f1.trans (Fin.fresh f1.bas hl)) hn (not_R f1.bas hl) upd_same ry q
      rcases ez with ez | ez
      . subst ez
        obtain⟨v,r0,e,h1,h2⟩:=r1
        obtain rfl:r0=[]:=h2
        subst e
        obtain⟨p,ys,e,hh,hr⟩:=rep_lst h1
        subst e
        exact⟨p,ys,rfl,.inl (SqL.of (ok1.bas.sub _ _ hh)),key p ys hr⟩
      . subst ez
        obtain⟨v,r0,e,h1,h2⟩:=r1
        obtain rfl:r0=[]:=h2
        subst e
        obtain⟨p,ys,e,hh,hr⟩:=rep_tup h1
        subst e
        exact⟨p,ys,rfl,.inr (SqT.of (ok1.bas.sub _ _ hh)),key p ys hr⟩
  have z:=G.raw (ds:=[]) (dvs:=[]) hb .nil
  intro A outer s H us vs Q E hr e0 r hs
  exact z A outer s H us vs Q E hr e0 r (by show spO K F (vs++[]) H Q E; rw[List.append_nil]; exact hs)
end
section
variable {X:Cx}{W:WX}{pos apos:Pos}{o e:Expr}{es:List Expr}{Ta To Te T:TD}{U:TL}{C f:Addr}{m:Str}{k:Nat}
abbrev tMO (K:PySem.W.Frag) (W:WX) (C:Addr) (m:Str) (F:TFO) (Ta:TD):TE:=fun σ H Q=>tD K W Ta σ H fun x H1=>∃ a dx fs,x=.ref a/\H1 a=some (.ins C dx fs)/\fs.lookup m=none/\spO K F [x] H1 Q (WE W σ)
theorem pe_methO {pl : Sem Bool} {F : TFO} (he : DE X W o Ta) (hc : Cls X.K C) (hm : Meth X.K C m f) (G : Fn3L X.prog X.w X.K X.mg X.base k f F) (hr : Room k X.A) (tk : L2C.Takes X W)
    (ht:eval (.Call (.Attribute o m apos) [] [] pos) X.env=(do let ov <- eval o X.env; standAt apos.atName; let (g,first) <- holding [ov] (getMethod ov m pl); callWith pos g first (backTo pos (starEach [] X.env)) (backToKw pos (keywordEach [] X.env))):=by rfl) :
    PE X (.Call (.Attribute o m apos) [] [] pos) (tMO X.K W C m F Ta) :=
    ⟨fun pins s σ H Q I h=>PySem.W.methodCall_KW (pl:=pl) (thn (he.run pins s σ H _ I h) fun u s1 ⟨x,H1,I1,rx,a,dx,fs,ex,ea,l,q⟩=>by
      subst ex
      obtain rfl:u=Value.ref a:=rx
      exact getmeth_ok I1 ea hc hm l (PySem.W.callWith_K0 (first:=[.ref a]) I1.kIn hm.kp (call_at (us:=[.ref a]) (vs:=[.ref a]) G hr tk I1 (.cons rfl .nil) q))) ht⟩
def TOwnM(C:Addr) (m:Str) (F:TFO) (Ta:TD):TSD:=fun c D env=>Ta c env fun x=>∃ fs,x=.ins C fs/\fs.lookup m=none/\F c.wd [x] fun es=>es.length<sizeLine/\D.nx env
theorem tMO_ask {K : PySem.W.Frag} {F : TFO} {S : Sta} {R H : Hp} {σ : L2.St} {env : Ev} {D3 : EndD} (lk : Lk K S W) (ok : Ok3 K S R H σ env) (h : TOwnM C m F Ta S.c D3 env) {Q : VK}
    (kQ:∀ R' H' p es xs,Fin S.c.wd R H R' H'->H p=none->R' p=none->H' p=some (.lst xs)->Reps K R' es xs->es.length<sizeLine->D3.nx env->Q (.ref p) H'):tMO K W C m F Ta σ H Q :=
  tD.ask lk ok h fun R1 H1 d v f1 ok1 r1 ⟨fs,ed,l,q⟩=>by
    subst ed
    obtain⟨p,dx,fvs,e2,hh,rf⟩:=rep_ins r1
    subst e2
    refine⟨p,dx,fvs,rfl,ok1.bas.sub _ _ hh,rf.none l,S.c.wd,R1,_,_,ok1.bas,.one r1,q,fun R' H' p' es xs f2 hn hR hH rs ⟨hl,hnx⟩=>kQ R' H' p' es xs (f1.trans f2) ?_ hR hH rs hl hnx⟩
    cases e:H p' with
    | none=>rfl
    | some o =>
      obtain⟨u,hu⟩:=f1.there e
      rw[hn] at hu
      cases hu
/-- o.m().clear(): m makes its list anew -/
theorem ds_ownClear {pl : Sem Bool} {F : TFO} {apos2 pos2 pos3 : Pos} (he : DE X W o Ta) (hc : Cls X.K C) (hm : Meth X.K C m f) (G : Fn3L X.prog X.w X.K X.mg X.base k f F) (hr : Room k X.A) (tk : L2C.Takes X W)
    (ht:eval (.Call (.Attribute o m apos) [] [] pos) X.env=(do let ov <- eval o X.env; standAt apos.atName; let (g,first) <- holding [ov] (getMethod ov m pl); callWith pos g first (backTo pos (starEach [] X.env)) (backToKw pos (keywordEach [] X.env))):=by rfl)
    (hbase:attributeBase (.Call (.Attribute o m apos) [] [] pos) "clear" X.env (eval (.Call (.Attribute o m apos) [] [] pos) X.env)=eval (.Call (.Attribute o m apos) [] [] pos) X.env:=by rfl) (hline:(apos2.endLine==pos2.line)=true:=by rfl)
    (hsw:swapsWith (.Call (.Attribute (.Call (.Attribute o m apos) [] [] pos) "clear" apos2) [] [] pos2) none pos3.line X.env=pure false:=by rfl) :
    DS X W (.Expr (.Call (.Attribute (.Call (.Attribute o m apos) [] [] pos) "clear" apos2) [] [] pos2) pos3) (TOwnM C m F Ta) :=
  ds_mk (ps_expr (pe_bm0 PySem.F.plainAttrs_list PySem.F.slot_list_clear PySem.F.type_list_clear mt_clear (pe_methO he hc hm G hr tk ht) hbase hline) hsw) fun S R H σ env D3 lk ok h =>
    tMO_ask lk ok h fun R' H' p es xs f2 hn hR hH rs hl hnx=>⟨.inl ⟨rfl,xs,SqL.of hH⟩,p,xs,rfl,rfl,hH,R',env,ok.through (f2.mut hn hR (not_foot ok.bas hn) fun φ z=>by rw[hH] at z; cases z),hnx⟩
/-- o.m().append(v),v a constant -/
theorem ds_ownApp {pl : Sem Bool} {F : TFO} {apos2 pos2 pos3 : Pos} {v : V} (he : DE X W o Ta) (hc : Cls X.K C) (hm : Meth X.K C m f) (G : Fn3L X.prog X.w X.K X.mg X.base k f F) (hr : Room k X.A) (tk : L2C.Takes X W) (hv : PE X e (L2.tC v))
    (ht:eval (.Call (.Attribute o m apos) [] [] pos) X.env=(do let ov <- eval o X.env; standAt apos.atName; let (g,first) <- holding [ov] (getMethod ov m pl); callWith pos g first (backTo pos (starEach [] X.env)) (backToKw pos (keywordEach [] X.env))):=by rfl)
    (hbase:attributeBase (.Call (.Attribute o m apos) [] [] pos) "append" X.env (eval (.Call (.Attribute o m apos) [] [] pos) X.env)=eval (.Call (.Attribute o m apos) [] [] pos) X.env:=by rfl)
    (hfew:((backTo pos2 (starEach (e::[]) X.env)).all (fun x=>!x.1)&&(backToKw pos2 (keywordEach [] X.env)).all (fun x=>x.1.isSome)&&decide ((e::[]).length+([]:List Keyword).length+(if ([]:List Keyword).isEmpty then 0 else 1)<30))=true:=by rfl)
    (hline:(apos2.endLine==pos2.line)=true:=by rfl) (hs:starEach (e::[]) X.env=(false,eval e X.env)::starEach [] X.env:=by rfl)
    (hsw:swapsWith (.Call (.Attribute (.Call (.Attribute o m apos) [] [] pos) "append" apos2) [e] [] pos2) none pos3.line X.env=pure false:=by rfl) :
    DS X W (.Expr (.Call (.Attribute (.Call (.Attribute o m apos) [] [] pos) "append" apos2) [e] [] pos2) pos3) (TOwnM C m F Ta) :=
  ds_mk (ps_expr (pe_bm PySem.F.plainAttrs_list PySem.F.slot_list_append PySem.F.type_list_append mt_append (pe_methO he hc hm G hr tk ht) (pa_cons hv pa_nil hs) hbase hfew hline hs rfl) hsw) fun S R H σ env D3 lk ok h =>
    tMO_ask lk ok h fun R' H' p es xs f2 hn hR hH rs hl hnx=>⟨.inl ⟨rfl,xs,SqL.of hH⟩,p,xs,v,rfl,rfl,hH,by rw[rs.length]; exact hl,R',env,ok.through (f2.mut hn hR (not_foot ok.bas hn) fun φ z=>by rw[hH] at z; cases z),hnx⟩
def TRevL(T:TD):TD:=fun c env φ=>T c env fun d=>∃ ds,d=.lst ds/\φ (.lst ds.reverse)
theorem Reps.reverse {K:PySem.W.Frag}{R:Hp}:∀ {ds:List D}{vs:List V},Reps K R ds vs->Reps K R ds.reverse vs.reverse
  | [],vs,h=>by
    rw[show vs=[] from h]
    rfl
  | d::ds,vs,h=>by
    obtain⟨v,r,e,h1,h2⟩:=(show ∃ v r,vs=v::r/\Rep K R d v/\Reps K R ds r from h)
    subst e
    rw[List.reverse_cons,List.reverse_cons]
    exact(Reps.reverse h2).snoc h1
theorem de_revL {n:Nat}{p1 p2 p3:Pos} (he:DE X W e T):DE X W (.Subscript e (.Slice none none (some (.UnaryOp .USub (.Constant (.int 1) n p1) p2)) p3) pos) (TRevL T) :=
  de_mk (pe_revL he) fun S R H σ env φ lk ok h=>tD.ask lk ok h fun R1 H1 d v f1 ok1 r1 ⟨ds,e,q⟩=>by
    subst e
    obtain⟨p,xs,e,hh,hr⟩:=rep_lst r1
    subst e
    exact⟨p,xs,rfl,SqL.of (ok1.bas.sub _ _ hh),fun l hl=>Pst.from f1 (Pst.lst ok1.bas hl hr.reverse q)⟩
def TIndex(To Te:TD):TD:=fun c env φ=>To c env fun d=>(∃ ds,d=.lst ds)/\Te c env fun y=>∃ ds,d=.lst ds/\flatD y=true/\ds.all flatD=true/\∃ (j:Nat) (z:D),ds[j]?=some z/\eqV (flV z) (flV y)=true /\
  (∀ (m:Nat) (z':D),m<j->ds[m]?=some z'->eqV (flV z') (flV y)=false)/\φ (.int (j:Nat))
def TAppPop(i j:Nat) (T:TD):TSD:=fun c D env=>∃ p ds q es,env[i]?=some (.ol p ds)/\env[j]?=some (.ol q es)/\T c env fun d=>∃ (n:Nat) (z:L3.D),d=.int (n:Nat)/\n<2 ^ 62/\es[n]?=some z/\ds.length<sizeLine/\D.nx ((env.set j (.ol q (es.eraseIdx n))).set i (.ol p (ds++[z])))
/-- a,b=[..],[] -/
def TParO2(i j:Nat) (U:TL):TSD:=fun c D env=>U c env fun ds=>ds.length<=sizeLine/\∀ p q,D.nx ((env.set i (.ol p ds)).set j (.ol q []))
end
open PySem PySem.Spec PyProof.Rows L2
open PySem PySem.Spec PyProof.Rows L2
open PySem PySem.Spec PyProof.Rows L2
/-- a thing that may change,by what it holds (shallow: .ref for another such thing) -/
inductive MO where
  | lst (ds:List D) | ins (C:Addr) (fs:List (Str × D)) | dic (kvs:List (Key × D)) | dicT (kvs:List (List Key × D)) | junk
/-- pairs,by what they hold -/
def RepG {κ:Type} (K:PySem.W.Frag) (R:Hp):List (κ × D)->List (κ × V)->Prop
  | [],vs=>vs=[]
  | (k,d)::ds,vs=>∃ v r,vs=(k,v)::r/\Rep K R d v/\RepG K R ds r
theorem RepG.mono {κ:Type}{K:PySem.W.Frag}{R R':Hp} (s:Same R R'):∀ {ds:List (κ × D)}{vs:List (κ × V)},RepG K R ds vs->RepG K R' ds vs
  | [],_,h=>h
  | (k,d)::ds,vs,⟨v,r,e,h1,h2⟩=>⟨v,r,e,h1.mono s,RepG.mono s h2⟩
abbrev Mu:=Addr->Option MO
def MoAt(K:PySem.W.Frag) (R H:Hp) (a:Addr):MO->Prop
  | .lst ds=>∃ xs,H a=some (.lst xs)/\Reps K R ds xs
  | .ins C fs=>∃ dx fvs,H a=some (.ins C dx fvs)/\RepF K R fs fvs
  | .dic kvs=>∃ xs,H a=some (.dK xs)/\RepG K R kvs xs
  | .dicT kvs=>∃ xs,H a=some (.dT xs)/\RepG K R kvs xs
  | .junk=>∃ u,H a=some u/\NX u
def muPut(μ:Mu) (a:Addr) (o:MO):Mu:=fun b=>if b=a then some o else μ b
@[simp] theorem muPut_same {μ:Mu}{a:Addr}{o:MO}:muPut μ a o a=some o:=if_pos rfl
theorem muPut_ne {μ:Mu}{a b:Addr}{o:MO} (h:b≠a):muPut μ a o b=μ b:=if_neg h
theorem MoAt.has {K:PySem.W.Frag}{R H:Hp}{a:Addr}:∀ {o:MO},MoAt K R H a o->∃ u,H a=some u/\NX u
  | .lst _,⟨xs,h,_⟩=>⟨_,h,⟨fun _ z=>(by cases z),fun _ z=>(by cases z)⟩⟩
  | .ins _ _,⟨dx,xs,h,_⟩=>⟨_,h,⟨fun _ z=>(by cases z),fun _ z=>(by cases z)⟩⟩
  | .dic _,⟨xs,h,_⟩=>⟨_,h,⟨fun _ z=>(by cases z),fun _ z=>(by cases z)⟩⟩
  | .dicT _,⟨xs,h,_⟩=>⟨_,h,⟨fun _ z=>(by cases z),fun _ z=>(by cases z)⟩⟩
  | .junk,h=>h
theorem MoAt.move {K:PySem.W.Frag}{R H R' H':Hp}{a:Addr} (s:Same R R') (k:∀ u,H a=some u->H' a=some u):∀ {o:MO},MoAt K R H a o->MoAt K R' H' a o
  | .lst _,⟨xs,h,r⟩=>⟨xs,k _ h,r.mono s⟩
  | .ins _ _,⟨dx,xs,h,r⟩=>⟨dx,xs,k _ h,r.mono s⟩
  | .dic _,⟨xs,h,r⟩=>⟨xs,k _ h,r.mono s⟩
  | .dicT _,⟨xs,h,r⟩=>⟨xs,k _ h,r.mono s⟩
  | .junk,⟨u,h,r⟩=>⟨u,k _ h,r⟩
/-- a world,and some things more that may change -/
def wdX(w:Wd) (D0:Addr->Prop):Wd where
  foot:=fun b=>w.foot b\/D0 b
  inv:=fun H=>w.inv H/\∀ b,D0 b->∃ o,H b=some o/\NX o
  there:=fun H b h hb=>by
    rcases hb with hb | hb
    . exact w.there H b h.1 hb
    . obtain⟨o,h1,_⟩:=h.2 b hb
      exact⟨o,h1⟩
  ext:=fun H H' h k e=>⟨w.ext H H' h.1 (fun b o hb h1=>k b o (.inl hb) h1) e,fun b hb=>by
    obtain⟨o,h1,h2⟩:=h.2 b hb
    exact⟨o,k b o (.inr hb) h1,h2⟩⟩
  nt:=fun H b xs h hb z=>by
    rcases hb with hb | hb
    . exact w.nt H b xs h.1 hb z
    . obtain⟨o,h1,h2⟩:=h.2 b hb
      rw[h1] at z
      exact h2.2 xs (Option.some.inj z)
/-- old: what may change and was there when the def began -/
structure CtM where
  wd:Wd
  er:Er->Ev->Mu->Prop
  old:Addr->Prop
def CtM.at(c:CtM) (μ:Mu):Ct:=⟨c.wd,fun ex env=>c.er ex env μ⟩
structure StM where
  c:CtM
  R0:Hp
  H0:Hp
  Rb:Hp
structure Ok3M (K:PySem.W.Frag) (S:StM) (R H:Hp) (σ:L2.St) (env:Ev) (μ:Mu):Prop where
  fin:Fin (wdX S.c.wd S.c.old) S.R0 S.H0 R H
  rb:Same S.Rb R
  sl:Paired (SlOk K R H) σ env
  own:∀ i p,adAt env i=some p->R p=none/\S.H0 p=none/\¬S.c.wd.foot p/\¬S.c.old p/\μ p=none
  dis:∀ i j p,adAt env i=some p->adAt env j=some p->i=j
  mu:∀ a o,μ a=some o->MoAt K R H a o
  dom:∀ a o,μ a=some o->R a=none/\¬S.c.wd.foot a/\(S.c.old a\/S.H0 a=none)
  all:∀ a,S.c.old a->∃ o,μ a=some o
section
variable {K:PySem.W.Frag}{S:StM}{R H R' H':Hp}{σ:L2.St}{env:Ev}{μ:Mu}
theorem Ok3M.bas(o:Ok3M K S R H σ env μ):Bas S.c.wd R H:=⟨o.fin.sub,o.fin.inv.1,fun b h=>o.fin.ft b (.inl h)⟩
/-- the memory without what the names hold alone -/
noncomputable def hideOwn(H:Hp) (env:Ev):Hp:=fun b=>by
  classical exact if ∃ i,adAt env i=some b then none else H b
theorem hide_some {b:Addr}{u:HO} (h:hideOwn H env b=some u):H b=some u/\¬ ∃ i,adAt env i=some b:=by
  classical
  unfold hideOwn at h
  by_cases c:∃ i,adAt env i=some b
  . rw[if_pos c] at h; cases h
  . rw[if_neg c] at h; exact⟨h,c⟩
theorem hide_is {b:Addr} (c:¬ ∃ i,adAt env i=some b):hideOwn H env b=H b:=by
  classical
  unfold hideOwn
  rw[if_neg c]
theorem hide_own {b:Addr}{i:Nat} (c:adAt env i=some b):hideOwn H env b=none:=by
  classical
  unfold hideOwn
  rw[if_pos ⟨i,c⟩]
noncomputable def StM.plain(S:StM) (R H:Hp) (env:Ev) (μ:Mu):Sta:=⟨S.c.at μ,R,hideOwn H env,R⟩
theorem Ok3M.plain(o:Ok3M K S R H σ env μ):Ok3 K (S.plain R H env μ) R H σ env where
  fin:=⟨fun _ _ h=>h,o.fin.sub,fun b u h _=>(hide_some h).1,fun b u h _ _=>h,o.fin.inv.1,fun b h=>o.fin.ft b (.inl h)⟩
  rb:=fun _ _ h=>h
  sl:=o.sl
  own:=fun i p h=>⟨(o.own i p h).1,hide_own h,(o.own i p h).2.2.1⟩
  dis:=o.dis
theorem Ok3M.muNot(o:Ok3M K S R H σ env μ) {a:Addr}{m:MO} (h:μ a=some m):¬ ∃ i,adAt env i=some a:=fun⟨i,e⟩=>by
  rw[(o.own i a e).2.2.2.2] at h
  cases h
/-- what did not touch the second memory has left it as it is -/
theorem Ok3M.back {σ2:L2.St}{env2:Ev} (o:Ok3M K S R H σ env μ) (k:Ok3 K (S.plain R H env μ) R' H' σ2 env2):Ok3M K S R' H' σ2 env2 μ:=by
  have f:Fin S.c.wd R (hideOwn H env) R' H':=k.fin
  have muK:∀ a m,μ a=some m->∀ u,H a=some u->H' a=some u:=fun a m h u e=>f.keep a u (by rw[hide_is (o.muNot h)]; exact e) (o.dom a m h).2.1
  have muR:∀ a m,μ a=some m->R' a=none:=fun a m h=>by
    obtain⟨u,e,ne⟩:=(o.mu a m h).has
    exact f.newX a u (o.dom a m h).1 (by rw[hide_is (o.muNot h)]; exact e) ne
  have keep:∀ b u,S.H0 b=some u->¬(wdX S.c.wd S.c.old).foot b->hideOwn H env b=some u:=fun b u h q=>by
    rw[hide_is fun⟨i,e⟩=>by rw[(o.own i b e).2.1] at h; cases h]
    exact o.fin.keep b u h q
  have ft:∀ b,(wdX S.c.wd S.c.old).foot b->R' b=none:=fun b hb=>by
    rcases hb with hb | hb
    . exact f.ft b hb
    . obtain⟨m,h⟩:=o.all b hb
      exact muR b m h
  refine⟨⟨o.fin.up.trans f.up,f.sub,fun b u h q=>f.keep b u (keep b u h q) fun z=>q (.inl z),fun b u h1 h2 n=>?_,⟨f.inv,fun b hb=>?_⟩,ft⟩,o.rb.trans f.up,k.sl,fun i p h=>?_,k.dis,fun a m h=>(o.mu a m h).move f.up (muK a m h),fun a m h=>⟨muR a m h,(o.dom a m h).2⟩,o.all⟩
  . by_cases z:(wdX S.c.wd S.c.old).foot b
    . exact ft b z
    . exact f.newX b u (o.fin.newX b u h1 h2 n) (keep b u h2 z) n
  . obtain⟨m,h⟩:=o.all b hb
    obtain⟨u,e,ne⟩:=(o.mu b m h).has
    exact⟨u,muK b m h u e,ne⟩
  . obtain⟨h1,h2,h3⟩:=k.own i p h
    have h2:hideOwn H env p=none:=h2
    by_cases c:∃ j,adAt env j=some p
    . obtain⟨j,e⟩:=c
      exact⟨h1,(o.own j p e).2.1,h3,(o.own j p e).2.2.2⟩
    . rw[hide_is c] at h2
      refine⟨h1,?_,h3,fun z=>?_,?_⟩
      . cases e:S.H0 p with
        | none=>rfl
        | some u =>
          obtain⟨x,hx⟩:=o.fin.there e
          rw[h2] at hx
          cases hx
      . obtain⟨m,h⟩:=o.all p z
        obtain⟨u,e,_⟩:=(o.mu p m h).has
        rw[h2] at e
        cases e
      . cases e:μ p with
        | none=>rfl
        | some m =>
          obtain⟨u,e,_⟩:=(o.mu p m e).has
          rw[h2] at e
          cases e
theorem Ok3M.through(o:Ok3M K S R H σ env μ) (f:Fin S.c.wd R H R' H'):Ok3M K S R' H' σ env μ:=o.back (o.plain.through f)
theorem ad_at {S:Sta} (o:Ok3 K S R H σ env) {i:Nat}{p:Addr} (e:adAt env i=some p):∃ u,H p=some u:=by
  unfold adAt at e
  cases h:env[i]? with
  | none=>rw[h] at e; cases e
  | some s =>
    rw[h] at e
    have hs:s.ad=some p:=e
    cases s with
    | no=>cases hs
    | v d=>cases hs
    | ol q ds =>
      have:q=p:=Option.some.inj hs
      subst this
      obtain⟨_,xs,h1,_⟩:=ol_at o h
      exact⟨_,h1⟩
    | oi q C fs =>
      have:q=p:=Option.some.inj hs
      subst this
      obtain⟨_,dx,xs,h1,_⟩:=oi_at o h
      exact⟨_,h1⟩
theorem Ok3M.there(o:Ok3M K S R H σ env μ) {p:Addr} (h:H p=none):S.H0 p=none/\R p=none/\¬S.c.wd.foot p/\¬S.c.old p/\μ p=none/\∀ i,adAt env i≠some p:=by
  have nope:μ p=none:=by
    cases e:μ p with
    | none=>rfl
    | some m =>
      obtain⟨u,e,_⟩:=(o.mu p m e).has
      rw[h] at e
      cases e
  refine⟨?_,?_,?_,?_,nope,fun i e=>?_⟩
  . cases e:S.H0 p with
    | none=>rfl
    | some u =>
      obtain⟨x,hx⟩:=o.fin.there e
      rw[h] at hx
      cases hx
  . cases e:R p with
    | none=>rfl
    | some u =>
      rw[o.fin.sub p u e] at h
      cases h
  . intro z
    obtain⟨u,hu⟩:=S.c.wd.there _ _ o.bas.inv z
    rw[h] at hu
    cases hu
  . intro z
    obtain⟨m,e⟩:=o.all p z
    rw[nope] at e
    cases e
  . have h1:=ad_at o.plain e
    obtain⟨u,hu⟩:=h1
    rw[h] at hu
    cases hu
end
open PySem PySem.Spec PyProof.Rows L2
abbrev TDM:=CtM->Ev->Mu->(Mu->D->Prop)->Prop
abbrev TBM:=CtM->Ev->Mu->(Mu->Bool->Prop)->Prop
abbrev TLM:=CtM->Ev->Mu->(Mu->List D->Prop)->Prop
structure EndM where
  nx:Ev->Mu->Prop
  rt:D->Ev->Mu->Prop
  bk:Ev->Mu->Prop:=fun _ _=>False
  ct:Ev->Mu->Prop:=fun _ _=>False
def EndM.at(D:EndM) (μ:Mu):EndD:={nx:=fun e=>D.nx e μ,rt:=fun d e=>D.rt d e μ,bk:=fun e=>D.bk e μ,ct:=fun e=>D.ct e μ}
def LkM(K:PySem.W.Frag) (S:StM) (W:WX):Prop:=∀ R H σ env μ cls od ex,Ok3M K S R H σ env μ->XRep K R ex cls od->S.c.er ex env μ->W cls od σ H
section
variable {K:PySem.W.Frag}{W:WX}{S:StM}{R H:Hp}{σ:L2.St}{env:Ev}{μ:Mu}
theorem LkM.plain(lk:LkM K S W) (o:Ok3M K S R H σ env μ):Lk K (S.plain R H env μ) W:=fun R2 H2 σ2 env2 cls od ex k xr e=>lk R2 H2 σ2 env2 μ cls od ex (o.back k) xr e
def PstM(K:PySem.W.Frag) (S:StM) (R:Hp) (σ:L2.St) (env:Ev) (φ:Mu->D->Prop):VK:=fun v H'=>∃ R' μ' d,Ok3M K S R' H' σ env μ'/\Same R R'/\Rep K R' d v/\φ μ' d
def PstLM(K:PySem.W.Frag) (S:StM) (R:Hp) (σ:L2.St) (env:Ev) (φ:Mu->List D->Prop):List V->Hp->Prop:=fun v H'=>∃ R' μ' d,Ok3M K S R' H' σ env μ'/\Same R R'/\Reps K R' d v/\φ μ' d
def PstBM(K:PySem.W.Frag) (S:StM) (R:Hp) (σ:L2.St) (env:Ev) (φ:Mu->Bool->Prop):Bool->Hp->Prop:=fun b H'=>∃ R' μ',Ok3M K S R' H' σ env μ'/\Same R R'/\φ μ' b
end
def tDM(K:PySem.W.Frag) (W:WX) (T:TDM):TE:=fun σ H Q=>∃ S R env μ φ,LkM K S W/\Ok3M K S R H σ env μ/\T S.c env μ φ/\∀ v H',PstM K S R σ env φ v H'->Q v H'
def tBM(K:PySem.W.Frag) (W:WX) (T:TBM):TT:=fun σ H Q=>∃ S R env μ φ,LkM K S W/\Ok3M K S R H σ env μ/\T S.c env μ φ/\∀ v H',PstBM K S R σ env φ v H'->Q v H'
structure EndOkM (K:PySem.W.Frag) (S:StM) (D3:EndM) (E:Ends):Prop where
  nx:∀ R H σ env μ,Ok3M K S R H σ env μ->D3.nx env μ->E.nx σ H
  rt:∀ R H σ env μ d v,Ok3M K S R H σ env μ->Rep K R d v->D3.rt d env μ->E.rt v H
  bk:∀ R H σ env μ,Ok3M K S R H σ env μ->D3.bk env μ->E.bk σ H
  ct:∀ R H σ env μ,Ok3M K S R H σ env μ->D3.ct env μ->E.ct σ H
section
variable {X:Cx}{W:WX}
def endsOfM(K:PySem.W.Frag) (S:StM) (D3:EndM):Ends where
  nx:=fun σ H=>∃ R env μ,Ok3M K S R H σ env μ/\D3.nx env μ
  rt:=fun v H=>∃ R σ env μ d,Ok3M K S R H σ env μ/\Rep K R d v/\D3.rt d env μ
  bk:=fun σ H=>∃ R env μ,Ok3M K S R H σ env μ/\D3.bk env μ
  ct:=fun σ H=>∃ R env μ,Ok3M K S R H σ env μ/\D3.ct env μ
theorem EndOkM.self {K:PySem.W.Frag}{S:StM}{D3:EndM}:EndOkM K S D3 (endsOfM K S D3) :=
  ⟨fun R H σ env μ ok q=>⟨R,env,μ,ok,q⟩,fun R H σ env μ d v ok r q=>⟨R,σ,env,μ,d,ok,r,q⟩,fun R H σ env μ ok q=>⟨R,env,μ,ok,q⟩,fun R H σ env μ ok q=>⟨R,env,μ,ok,q⟩⟩
end
section
variable {K:PySem.W.Frag}{W:WX}{S:StM}{R H:Hp}{σ:L2.St}{env:Ev}{μ:Mu}
theorem tDM.ask {T:TDM}{φ:Mu->D->Prop}{Q:VK} (lk:LkM K S W) (ok:Ok3M K S R H σ env μ) (h:T S.c env μ φ) (k:∀ R' H' μ' d v,Ok3M K S R' H' σ env μ'->Same R R'->Rep K R' d v->φ μ' d->Q v H'):tDM K W T σ H Q :=
  ⟨S,R,env,μ,φ,lk,ok,h,fun v H' ⟨R',μ',d,o,s,r,q⟩=>k R' H' μ' d v o s r q⟩
theorem tBM.ask {T:TBM}{φ:Mu->Bool->Prop}{Q:Bool->Hp->Prop} (lk:LkM K S W) (ok:Ok3M K S R H σ env μ) (h:T S.c env μ φ) (k:∀ R' H' μ' b,Ok3M K S R' H' σ env μ'->Same R R'->φ μ' b->Q b H'):tBM K W T σ H Q :=
  ⟨S,R,env,μ,φ,lk,ok,h,fun v H' ⟨R',μ',o,s,q⟩=>k R' H' μ' v o s q⟩
/-- a plain outcome -/
theorem PstM.of {φ:Mu->D->Prop}{v:V}{H':Hp} (ok:Ok3M K S R H σ env μ) (h:Pst K (S.c.at μ) R H (φ μ) v H'):PstM K S R σ env φ v H':=by
  obtain⟨R',d,f,r,q⟩:=h
  exact⟨R',μ,d,ok.through f,f.up,r,q⟩
theorem PstM.from {R1:Hp}{φ:Mu->D->Prop}{v:V}{H':Hp} (s:Same R R1) (h:PstM K S R1 σ env φ v H'):PstM K S R σ env φ v H':=by
  obtain⟨R',μ',d,o,s',r,q⟩:=h
  exact⟨R',μ',d,o,s.trans s',r,q⟩
theorem PstLM.from {R1:Hp}{φ:Mu->List D->Prop}{v:List V}{H':Hp} (s:Same R R1) (h:PstLM K S R1 σ env φ v H'):PstLM K S R σ env φ v H':=by
  obtain⟨R',μ',d,o,s',r,q⟩:=h
  exact⟨R',μ',d,o,s.trans s',r,q⟩
theorem PstBM.from {R1:Hp}{φ:Mu->Bool->Prop}{v:Bool}{H':Hp} (s:Same R R1) (h:PstBM K S R1 σ env φ v H'):PstBM K S R σ env φ v H':=by
  obtain⟨R',μ',o,s',q⟩:=h
  exact⟨R',μ',o,s.trans s',q⟩
theorem tDM.go {T:TDM}{φ:Mu->D->Prop}{R1 H1:Hp} (lk:LkM K S W) (s:Same R R1) (ok:Ok3M K S R1 H1 σ env μ) (h:T S.c env μ φ):tDM K W T σ H1 (PstM K S R σ env φ) :=
  tDM.ask lk ok h fun R' H' μ' d v o s' r q=>⟨R',μ',d,o,s.trans s',r,q⟩
theorem tBM.go {T:TBM}{φ:Mu->Bool->Prop}{R1 H1:Hp} (lk:LkM K S W) (s:Same R R1) (ok:Ok3M K S R1 H1 σ env μ) (h:T S.c env μ φ):tBM K W T σ H1 (PstBM K S R σ env φ) :=
  tBM.ask lk ok h fun R' H' μ' b o s' q=>⟨R',μ',o,s.trans s',q⟩
theorem PstM.now {φ:Mu->D->Prop}{d:D}{v:V} (ok:Ok3M K S R H σ env μ) (r:Rep K R d v) (q:φ μ d):PstM K S R σ env φ v H:=⟨R,μ,d,ok,fun _ _ h=>h,r,q⟩
end
section
variable {X:Cx}{W:WX}{pos:Pos}{a b tg:Expr}
def UB(T:TB):TBM:=fun c env μ φ=>T (c.at μ) env (φ μ)
variable {Ta Tb:TDM}{A B:TBM}
theorem Ok3M.put {K:PySem.W.Frag}{S:StM}{R H:Hp}{σ:L2.St}{env:Ev}{μ:Mu} (o:Ok3M K S R H σ env μ) {i:Nat}{d:D}{v:V} (r:Rep K R d v):Ok3M K S R H (σ.set i (some v)) (env.set i (.v d)) μ:=o.back (o.plain.put r)
abbrev StM.base (S:StM) (R:Hp):StM:=⟨S.c,S.R0,S.H0,R⟩
theorem Ok3M.rebase {K:PySem.W.Frag}{S:StM}{R H:Hp}{σ:L2.St}{env:Ev}{μ:Mu} (o:Ok3M K S R H σ env μ):Ok3M K (S.base R) R H σ env μ:=⟨o.fin,fun _ _ h=>h,o.sl,o.own,o.dis,o.mu,o.dom,o.all⟩
theorem Ok3M.unbase {K:PySem.W.Frag}{S:StM}{R H R1:Hp}{σ:L2.St}{env:Ev}{μ:Mu} (o:Ok3M K (S.base R1) R H σ env μ) (s:Same S.Rb R1):Ok3M K S R H σ env μ:=⟨o.fin,s.trans o.rb,o.sl,o.own,o.dis,o.mu,o.dom,o.all⟩
theorem LkM.base {K:PySem.W.Frag}{S:StM}{W:WX} (lk:LkM K S W) {R1:Hp} (s:Same S.Rb R1):LkM K (S.base R1) W:=fun R H σ env μ cls od ex ok xr e=>lk R H σ env μ cls od ex (ok.unbase s) xr e
end
open PySem PySem.Spec PyProof.Rows L2
abbrev TFM:=Wd->Mu->List D->(Mu->D->Prop)->(Er->Mu->Prop)->Prop
def mdom(μ:Mu) (a:Addr):Prop:=∃ o,μ a=some o
def MuOk(K:PySem.W.Frag) (wd:Wd) (R H:Hp) (μ:Mu):Prop:=∀ a o,μ a=some o->MoAt K R H a o/\R a=none/\¬wd.foot a
def MuGrow(H:Hp) (μ μ':Mu):Prop:=(∀ a o,μ' a=some o->mdom μ a\/H a=none)/\∀ a o,μ a=some o->mdom μ' a
def spM(K:PySem.W.Frag) (F:TFM):Sp:=fun vs H Q E=>∃ (wd:Wd) (R:Hp) (ds:List D) (μ:Mu) (φ:Mu->D->Prop) (ε:Er->Mu->Prop),Bas wd R H/\MuOk K wd R H μ/\Reps K R ds vs/\F wd μ ds φ ε /\
  (∀ v R' H' μ' d,Fin (wdX wd (mdom μ)) R H R' H'->MuOk K wd R' H' μ'->MuGrow H μ μ'->Rep K R' d v->φ μ' d->Q v H') /\
  ∀ cls od R' H' μ' ex,Fin (wdX wd (mdom μ)) R H R' H'->MuOk K wd R' H' μ'->MuGrow H μ μ'->XRep K R' ex cls od->ε ex μ'->E cls od H'
abbrev FnM (P:Program) (w:World) (K:PySem.W.Frag) (mg:Str->Option Value) (base:Heap) (k:Nat) (f:Addr) (F:TFM):Prop:=FnR P w K mg base (L2C.CX P w) k f (spM K F)
theorem FnM.imp {P:Program}{w:World}{K:PySem.W.Frag}{mg:Str->Option Value}{base:Heap}{k:Nat}{f:Addr}{F G:TFM} (h:FnM P w K mg base k f F) (q:∀ wd μ ds φ ε,G wd μ ds φ ε->F wd μ ds φ ε):FnM P w K mg base k f G :=
  FnR.imp h fun vs H Q E ⟨wd,R,ds,μ,φ,ε,b,m,r,g,z⟩=>⟨wd,R,ds,μ,φ,ε,b,m,r,q _ _ _ _ _ g,z⟩
section
variable {K:PySem.W.Frag}{S:StM}{R H R' H':Hp}{σ:L2.St}{env:Ev}{μ μ':Mu}
theorem Ok3M.muOk(o:Ok3M K S R H σ env μ):MuOk K S.c.wd R H μ:=fun a m h=>⟨o.mu a m h,(o.dom a m h).1,(o.dom a m h).2.1⟩
end
section
variable {K:PySem.W.Frag}{S:StM}{R H:Hp}{σ:L2.St}{env:Ev}{μ:Mu}
/-- a thing takes another content -/
theorem Ok3M.mut(o:Ok3M K S R H σ env μ) {a:Addr}{old new:MO}{u:HO} (h:μ a=some old) (hn:MoAt K R (upd H a u) a new):Ok3M K S R (upd H a u) σ env (muPut μ a new):=by
  obtain⟨hR,hF,hD⟩:=o.dom a old h
  obtain⟨x,hx,nx⟩:=(o.mu a old h).has
  have hx2:NX u:=by
    obtain⟨y,hy,ny⟩:=hn.has
    rw[upd_same] at hy
    cases hy
    exact ny
  have ne:∀ i p,adAt env i=some p->p≠a:=fun i p hp e=>by
    rw[e] at hp
    have:=(o.own i a hp).2.2.2.2
    rw[h] at this
    cases this
  refine⟨⟨o.fin.up,fun b u h=>?_,fun b v hb q=>?_,o.fin.newX,⟨?_,fun b hb=>?_⟩,o.fin.ft⟩,o.rb,pair_imp o.sl fun i x y h1 h2 hs=>?_,fun i p hp=>?_,o.dis,fun b m hb=>?_,fun b m hb=>?_,fun b hb=>?_⟩
  . rw[upd_ne (ne_of_none h hR)]; exact o.fin.sub b u h
  . have e:b≠a:=fun e=>by
      subst e
      rcases hD with z | z
      . exact q (.inr z)
      . rw[hb] at z; cases z
    rw[upd_ne e]
    exact o.fin.keep b v hb q
  . refine S.c.wd.ext _ _ o.fin.inv.1 (fun b v hb hv=>?_) fun b φ hb=>?_
    . rw[upd_ne (fun e=>hF (by rw[<- e]; exact hb))]; exact hv
    . rw[upd_ne (fun e=>by subst e; rw[hx] at hb; exact nx.1 φ (Option.some.inj hb))]; exact hb
  . obtain⟨v,hv,nv⟩:=o.fin.inv.2 b hb
    by_cases e:b=a
    . subst e
      exact⟨u,upd_same,hx2⟩
    . exact⟨v,by rw[upd_ne e]; exact hv,nv⟩
  . cases y with
    | no=>trivial
    | v d=>exact hs
    | ol p ds =>
      obtain⟨e,xs,z1,z2⟩:=hs
      exact⟨e,xs,by rw[upd_ne (ne i p (ad_of h2 rfl))]; exact z1,z2⟩
    | oi p C fs =>
      obtain⟨e,dx,xs,z1,z2⟩:=hs
      exact⟨e,dx,xs,by rw[upd_ne (ne i p (ad_of h2 rfl))]; exact z1,z2⟩
  . obtain⟨h1,h2,h3,h4,h5⟩:=o.own i p hp
    exact⟨h1,h2,h3,h4,by rw[muPut_ne (ne i p hp)]; exact h5⟩
  . by_cases e:b=a
    . subst e
      rw[muPut_same] at hb
      cases hb
      exact hn
    . rw[muPut_ne e] at hb
      exact(o.mu b m hb).move (fun _ _ h=>h) fun v hv=>by rw[upd_ne e]; exact hv
  . by_cases e:b=a
    . subst e
      exact o.dom b old h
    . rw[muPut_ne e] at hb
      exact o.dom b m hb
  . by_cases e:b=a
    . subst e
      exact⟨new,muPut_same⟩
    . rw[muPut_ne e]
      exact o.all b hb
end
open PySem PySem.Spec PyProof.Rows L2
section
variable {P:Program}{w:World}{K:PySem.W.Frag}{mg:Str->Option Value}{base:Heap}{x qual:Str}{params:Arguments}{body:List Stmt}{scope:Scope}{f:Addr}{fd:FuncData}
abbrev TFIM:=Wd->Mu->List D->(Mu->Addr->Prop)->(Er->Mu->Prop)->Prop
def spIM(K:PySem.W.Frag) (C:Addr) (F:TFIM):Sp:=fun vs H Q E=>∃ (a dx:Addr) (ws:List V) (wd:Wd) (R H1:Hp) (ds:List D) (μ:Mu) (φ:Mu->Addr->Prop) (ε:Er->Mu->Prop),vs=.ref a::ws/\H1 a=none/\H1 dx=none/\dx≠a /\
  H=upd (upd H1 dx (.own a)) a (.ins C dx [])/\Bas wd R H1/\MuOk K wd R H1 μ/\Reps K R ds ws/\F wd μ ds φ ε /\
  (∀ R' H' μ',Fin (wdX wd (mdom μ)) R H1 R' H'->MuOk K wd R' H' μ'->MuGrow H1 μ μ'->φ μ' a->Q .non H') /\
  ∀ cls od R' H' μ' ex,Fin (wdX wd (mdom μ)) R H1 R' H'->MuOk K wd R' H' μ'->MuGrow H1 μ μ'->XRep K R' ex cls od->ε ex μ'->E cls od H'
abbrev FnIM (P:Program) (w:World) (K:PySem.W.Frag) (mg:Str->Option Value) (base:Heap) (k:Nat) (C f:Addr) (F:TFIM):Prop:=FnR P w K mg base (L2C.CX P w) k f (spIM K C F)
end
section
variable {X:Cx}{W:WX}{pos apos:Pos}{o e:Expr}{es:List Expr}{Ta Tb Tc:TDM}{U:TLM}{k:Nat}{f C:Addr}{x m:Str}{p0:Pos}
def valG {κ:Type} [DecidableEq κ] (kvs:List (κ × D)) (k:κ):Option D:=(kvs.find? fun kv=>decide (kv.1=k)).map (·.2)
def putG {κ:Type} [DecidableEq κ] (kvs:List (κ × D)) (k:κ) (d:D):List (κ × D) :=
  if (kvs.any fun kv=>decide (kv.1=k))=true then kvs.map (fun kv=>if kv.1=k then (kv.1,d) else kv) else kvs++[(k,d)]
section
variable {κ:Type} [DecidableEq κ] {K:PySem.W.Frag}{R:Hp}{kk:κ}
theorem RepG.any:∀ {kvs:List (κ × D)}{xs:List (κ × V)},RepG K R kvs xs->(xs.any fun kv=>decide (kv.1=kk))=kvs.any fun kv=>decide (kv.1=kk)
  | [],xs,h=>by rw[show xs=[] from h]; rfl
  | (k,d)::r,xs,⟨v,t,e,_,h2⟩=>by
    subst e
    rw[List.any_cons,List.any_cons,RepG.any h2]
theorem RepG.val:∀ {kvs:List (κ × D)}{xs:List (κ × V)},RepG K R kvs xs->(∀ d,valG kvs kk=some d->∃ v,valV xs kk=some v/\Rep K R d v)/\(valG kvs kk=none->valV xs kk=none)
  | [],xs,h=>by
    rw[show xs=[] from h]
    exact⟨fun d e=>(by cases e),fun _=>rfl⟩
  | (k,d)::r,xs,⟨v,t,e,h1,h2⟩=>by
    subst e
    obtain⟨i1,i2⟩:=RepG.val h2
    by_cases z:k=kk
    . subst z
      have e1:valG ((k,d)::r) k=some d:=by simp[valG,List.find?_cons]
      have e2:valV ((k,v)::t) k=some v:=valV_pos rfl
      rw[e1,e2]
      exact⟨fun d' e=>(by cases e; exact⟨v,rfl,h1⟩),fun e=>(by cases e)⟩
    . have e1:valG ((k,d)::r) kk=valG r kk:=by simp[valG,List.find?_cons,z]
      have e2:valV ((k,v)::t) kk=valV t kk:=valV_neg z
      rw[e1,e2]
      exact⟨i1,i2⟩
theorem RepG.map {d0:D}{v0:V} (r0:Rep K R d0 v0):∀ {kvs:List (κ × D)}{xs:List (κ × V)},RepG K R kvs xs->RepG K R (kvs.map fun kv=>if kv.1=kk then (kv.1,d0) else kv) (xs.map fun kv=>if kv.1=kk then (kv.1,v0) else kv)
  | [],xs,h=>by rw[show xs=[] from h]; rfl
  | (k,d)::r,xs,⟨v,t,e,h1,h2⟩=>by
    subst e
    have ih:=RepG.map r0 h2
    rw[List.map_cons,List.map_cons]
    by_cases z:k=kk
    . rw[if_pos z,if_pos z]; exact⟨v0,_,rfl,r0,ih⟩
    . rw[if_neg z,if_neg z]; exact⟨v,_,rfl,h1,ih⟩
theorem RepG.snoc {d0:D}{v0:V} (r0:Rep K R d0 v0):∀ {kvs:List (κ × D)}{xs:List (κ × V)},RepG K R kvs xs->RepG K R (kvs++[(kk,d0)]) (xs++[(kk,v0)])
  | [],xs,h=>by rw[show xs=[] from h]; exact⟨v0,[],rfl,r0,rfl⟩
  | (k,d)::r,xs,⟨v,t,e,h1,h2⟩=>by
    subst e
    exact⟨v,_,rfl,h1,RepG.snoc r0 h2⟩
theorem RepG.put {d0:D}{v0:V}{kvs:List (κ × D)}{xs:List (κ × V)} (h:RepG K R kvs xs) (r0:Rep K R d0 v0):RepG K R (putG kvs kk d0) (putK xs kk v0):=by
  unfold putG putK
  rw[h.any]
  split
  . exact h.map r0
  . exact h.snoc r0
theorem RepG.len:∀ {kvs:List (κ × D)}{xs:List (κ × V)},RepG K R kvs xs->xs.length=kvs.length
  | [],xs,h=>by rw[show xs=[] from h]; rfl
  | (k,d)::r,xs,⟨v,t,e,h1,h2⟩=>by
    subst e
    rw[List.length_cons,List.length_cons,RepG.len h2]
end
def keyT(k:List Key):D:=.tup (k.map keyD)
theorem keyT_rep {K:PySem.W.Frag}{R:Hp}{k:List Key}{v:V} (h:Rep K R (keyT k) v):∃ b,v=.ref b/\R b=some (.tup (k.map kV)):=by
  obtain⟨b,xs,e,h1,h2⟩:=rep_tup h
  have go:∀ (k:List Key) (xs:List V),Reps K R (k.map keyD) xs->xs=k.map kV:=by
    intro k
    induction k with
    | nil=>exact fun xs h=>h
    | cons x r ih =>
      intro xs ⟨v,t,e,q1,q2⟩
      subst e
      rw[List.map_cons,ih t q2,keyD_V q1]
  exact⟨b,e,by rw[h1,go k xs h2]⟩
/-- the dict and the key of a look: k what stands there -/
def LkD(μ:Mu) (x y:D) (o:Option D):Prop:=∃ p,x=.ref p/\((∃ kvs k,μ p=some (.dic kvs)/\y=keyD k/\o=valG kvs k)\/∃ kvs k,μ p=some (.dicT kvs)/\y=keyT k/\o=valG kvs k)
theorem LkD.get {K:PySem.W.Frag}{S:StM}{R H:Hp}{σ:L2.St}{env:Ev}{μ:Mu} (ok:Ok3M K S R H σ env μ) {x y:D}{o:Option D}{v u:V} (h:LkD μ x y o) (rx:Rep K R x v) (ry:Rep K R y u):∃ a q,v=.ref a/\DGet H a u q/\(∀ d,o=some d->∃ z,q=some z/\Rep K R d z)/\(o=none->q=none):=by
  obtain⟨p,ex,h⟩:=h
  subst ex
  obtain rfl:v=.ref p:=rx
  rcases h with ⟨kvs,k,hm,ey,eo⟩ | ⟨kvs,k,hm,ey,eo⟩
  . subst ey eo
    obtain⟨xs,hh,hr⟩:=ok.mu p _ hm
    obtain rfl:=keyD_V ry
    obtain⟨i1,i2⟩:=hr.val (kk:=k)
    exact⟨p,valV xs k,rfl,.inl ⟨xs,k,.inl hh,rfl,rfl⟩,i1,i2⟩
  . subst ey eo
    obtain⟨xs,hh,hr⟩:=ok.mu p _ hm
    obtain⟨b,eb,hb⟩:=keyT_rep ry
    subst eb
    obtain⟨i1,i2⟩:=hr.val (kk:=k)
    exact⟨p,valV xs k,rfl,.inr ⟨xs,k,b,.inl hh,rfl,ok.bas.sub _ _ hb,rfl⟩,i1,i2⟩
end
open PySem PySem.Spec PyProof.Rows L2
/-- what is seen: lists,instances of some classes -/
structure Eye where
  l:Bool
  i:Addr->Bool
def Eye.on(y:Eye):MO->Bool
  | .lst _=>y.l
  | .ins C _=>y.i C
  | _=>false
def vw(y:Eye):Nat->Mu->D->D
  | 0,_,d=>d
  | n+1,μ,.ref p=>match μ p with
    | some (.lst ds)=>if y.l=true then .lst (ds.map (vw y n μ)) else .ref p
    | some (.ins C fs)=>if y.i C=true then .ins C (fs.map fun kv=>(kv.1,vw y n μ kv.2)) else .ref p
    | _=>.ref p
  | _+1,_,d=>d
def vwS(y:Eye) (n:Nat) (μ:Mu):Sl->Sl
  | .v d=>.v (vw y n μ d)
  | s=>s
open Classical in
noncomputable def seeM(y:Eye) (μ:Mu) (R H:Hp):Hp:=fun b=>match R b with
  | some u=>some u
  | none=>if ∃ o,μ b=some o/\y.on o=true then H b else none
section
variable {K:PySem.W.Frag}{R H R' H':Hp}{μ:Mu}{y:Eye}{wd:Wd}
theorem see_up:Same R (seeM y μ R H):=fun b u h=>by unfold seeM; rw[h]
theorem see_on {b:Addr}{o:MO} (h:R b=none) (hm:μ b=some o) (ho:y.on o=true):seeM y μ R H b=H b:=by
  unfold seeM
  rw[h]
  exact if_pos ⟨o,hm,ho⟩
theorem see_sub(s:Same R H):Same (seeM y μ R H) H:=fun b u h=>by
  unfold seeM at h
  cases e:R b with
  | some w=>rw[e] at h; cases h; exact s b _ e
  | none =>
    rw[e] at h
    dsimp only at h
    split at h
    . exact h
    . cases h
theorem see_none {b:Addr} (h:R b=none) (hm:μ b=none):seeM y μ R H b=none:=by
  unfold seeM
  rw[h]
  exact if_neg fun⟨o,e,_⟩=>by rw[hm] at e; cases e
theorem vw_rep(m:MuOk K wd R H μ):∀ (n:Nat) {d:D}{v:V},Rep K R d v->Rep K (seeM y μ R H) (vw y n μ d) v
  | 0,d,v,h=>h.mono see_up
  | n+1,d,v,h=>by
    have pl:Rep K (seeM y μ R H) d v:=h.mono see_up
    cases d with
    | ref p =>
      have ev:v=.ref p:=h
      subst ev
      show Rep K _ (match μ p with
        | some (.lst ds)=>if y.l=true then .lst (ds.map (vw y n μ)) else .ref p
        | some (.ins C fs)=>if y.i C=true then .ins C (fs.map fun kv=>(kv.1,vw y n μ kv.2)) else .ref p
        | _=>.ref p) _
      cases e:μ p with
      | none=>exact pl
      | some o =>
        cases o with
        | lst ds =>
          dsimp only
          split
          . rename_i hy
            obtain⟨⟨xs,hx,hr⟩,hR,_⟩:=m p _ e
            refine⟨p,xs,rfl,by rw[see_on hR e (show y.on (.lst ds)=true from hy)]; exact hx,?_⟩
            clear hx e
            induction ds generalizing xs with
            | nil=>exact hr
            | cons d r ih =>
              obtain⟨v,t,e1,h1,h2⟩:=hr
              subst e1
              exact⟨v,t,rfl,vw_rep m n h1,ih _ h2⟩
          . exact pl
        | ins C fs =>
          dsimp only
          split
          . rename_i hy
            obtain⟨⟨dx,xs,hx,hr⟩,hR,_⟩:=m p _ e
            refine⟨p,dx,xs,rfl,by rw[see_on hR e (show y.on (.ins C fs)=true from hy)]; exact hx,?_⟩
            clear hx e
            induction fs generalizing xs with
            | nil=>exact hr
            | cons d r ih =>
              obtain⟨f,d⟩:=d
              obtain⟨v,t,e1,h1,h2⟩:=hr
              subst e1
              exact⟨v,t,rfl,vw_rep m n h1,ih _ h2⟩
          . exact pl
        | dic kvs=>exact pl
        | dicT kvs=>exact pl
        | junk=>exact pl
    | non=>exact pl
    | bl b=>exact pl
    | int i=>exact pl
    | str x=>exact pl
    | ty x=>exact pl
    | tup ds=>exact pl
    | lst ds=>exact pl
    | ins C fs=>exact pl
    | exc C fs=>exact pl
    | clo L ds=>exact pl
    | lam L cl=>exact pl
    | dic kvs=>exact pl
    | dicT kvs=>exact pl
theorem vwS_ok(m:MuOk K wd R H μ) {n:Nat}{σ:L2.St}{env:Ev} (h:Paired (SlOk K R H) σ env):Paired (SlOk K (seeM y μ R H) H) σ (env.map (vwS y n μ)) :=
  pair_map h fun x s hs=>by
    cases s with
    | no=>trivial
    | v d =>
      obtain⟨v,e,r⟩:=hs
      exact⟨v,e,vw_rep m n r⟩
    | ol p ds =>
      obtain⟨e,xs,h1,h2⟩:=hs
      exact⟨e,xs,h1,h2.mono see_up⟩
    | oi p C fs =>
      obtain⟨e,dx,xs,h1,h2⟩:=hs
      exact⟨e,dx,xs,h1,h2.mono see_up⟩
theorem vwS_ad {n:Nat}{env:Ev}{i:Nat}:adAt (env.map (vwS y n μ)) i=adAt env i:=by
  unfold adAt
  rw[List.getElem?_map]
  cases e:env[i]? with
  | none=>rfl
  | some s=>cases s<;>rfl
end
open PySem PySem.Spec PyProof.Rows L2
def eyeA:Eye:=⟨true,fun _=>true⟩
open Classical in
noncomputable def muOn(Z:Addr->Prop) (μ:Mu):Mu:=fun b=>if Z b then μ b else none
def moVw(y:Eye) (n:Nat) (μ:Mu):MO->MO
  | .lst ds=>.lst (ds.map (vw y n μ))
  | .ins C fs=>.ins C (fs.map fun kv=>(kv.1,vw y n μ kv.2))
  | .dic kvs=>.dic (kvs.map fun kv=>(kv.1,vw y n μ kv.2))
  | .dicT kvs=>.dicT (kvs.map fun kv=>(kv.1,vw y n μ kv.2))
  | .junk=>.junk
open Classical in
noncomputable def muFrz(Z V:Addr->Prop) (n:Nat) (μ:Mu):Mu:=fun b=>if Z b then none else if V b then (μ b).map (moVw eyeA n (muOn Z μ)) else μ b
section
variable {K:PySem.W.Frag}{R H R' H':Hp}{μ:Mu}{y:Eye}{wd:Wd}
theorem muOn_some {Z:Addr->Prop}{b:Addr}{o:MO} (h:muOn Z μ b=some o):Z b/\μ b=some o:=by
  unfold muOn at h
  split at h
  . rename_i z; exact⟨z,h⟩
  . cases h
theorem MuOk.on {Z:Addr->Prop} (m:MuOk K wd R H μ):MuOk K wd R H (muOn Z μ):=fun a o h=>m a o (muOn_some h).2
theorem muFrz_some {Z V:Addr->Prop}{n:Nat}{b:Addr}{o:MO} (h:muFrz Z V n μ b=some o):¬Z b/\∃ o',μ b=some o'/\(o=moVw eyeA n (muOn Z μ) o'\/o=o'):=by
  unfold muFrz at h
  split at h
  . cases h
  . rename_i z
    split at h
    . cases e:μ b with
      | none=>rw[e] at h; cases h
      | some o'=>rw[e] at h; cases h; exact⟨z,o',rfl,.inl rfl⟩
    . exact⟨z,o,h,.inr rfl⟩
theorem muFrz_at {Z V:Addr->Prop}{n:Nat}{b:Addr}{o:MO} (hz:¬Z b) (hv:V b) (h:μ b=some o):muFrz Z V n μ b=some (moVw eyeA n (muOn Z μ) o):=by
  unfold muFrz
  rw[if_neg hz,if_pos hv,h]
  rfl
theorem muFrz_as {Z V:Addr->Prop}{n:Nat}{b:Addr} (hz:¬Z b) (hv:¬V b):muFrz Z V n μ b=μ b:=by
  unfold muFrz
  rw[if_neg hz,if_neg hv]
theorem muFrz_ex {Z V:Addr->Prop}{n:Nat}{b:Addr}{o:MO} (hz:¬Z b) (h:μ b=some o):∃ o',muFrz Z V n μ b=some o':=by
  by_cases hv:V b
  . exact⟨_,muFrz_at hz hv h⟩
  . exact⟨o,by rw[muFrz_as hz hv]; exact h⟩
theorem muFrz_n {Z V:Addr->Prop}{n:Nat}{b:Addr} (h:μ b=none):muFrz Z V n μ b=none:=by
  unfold muFrz
  split
  . rfl
  . rw[h]; split<;>rfl
theorem vw_reps(m:MuOk K wd R H μ) {n:Nat}:∀ {ds:List D}{xs:List V},Reps K R ds xs->Reps K (seeM y μ R H) (ds.map (vw y n μ)) xs
  | [],_,h=>h
  | d::r,xs,⟨v,t,e,h1,h2⟩=>⟨v,t,e,vw_rep m n h1,vw_reps m h2⟩
theorem vw_repf(m:MuOk K wd R H μ) {n:Nat}:∀ {ds:List (Str × D)}{xs:List (Str × V)},RepF K R ds xs->RepF K (seeM y μ R H) (ds.map fun kv=>(kv.1,vw y n μ kv.2)) xs
  | [],_,h=>h
  | (f,d)::r,xs,⟨v,t,e,h1,h2⟩=>⟨v,t,e,vw_rep m n h1,vw_repf m h2⟩
theorem vw_repg {κ:Type} (m:MuOk K wd R H μ) {n:Nat}:∀ {ds:List (κ × D)}{xs:List (κ × V)},RepG K R ds xs->RepG K (seeM y μ R H) (ds.map fun kv=>(kv.1,vw y n μ kv.2)) xs
  | [],_,h=>h
  | (f,d)::r,xs,⟨v,t,e,h1,h2⟩=>⟨v,t,e,vw_rep m n h1,vw_repg m h2⟩
theorem MoAt.vw(m:MuOk K wd R H μ) {n:Nat}{a:Addr}:∀ {o:MO},MoAt K R H a o->MoAt K (seeM y μ R H) H a (moVw y n μ o)
  | .lst _,⟨xs,h,r⟩=>⟨xs,h,vw_reps m r⟩
  | .ins _ _,⟨dx,xs,h,r⟩=>⟨dx,xs,h,vw_repf m r⟩
  | .dic _,⟨xs,h,r⟩=>⟨xs,h,vw_repg m r⟩
  | .dicT _,⟨xs,h,r⟩=>⟨xs,h,vw_repg m r⟩
  | .junk,h=>h
end
section
variable {K:PySem.W.Frag}{S:StM}{R H R' H':Hp}{σ:L2.St}{env:Ev}{μ:Mu}{y:Eye}
theorem see_off {Z:Addr->Prop}{b:Addr} (h:R b=none) (hz:¬Z b):seeM eyeA (muOn Z μ) R H b=none:=see_none h (by unfold muOn; exact if_neg hz)
/-- new things that change are done with changing -/
theorem Ok3M.frz(o:Ok3M K S R H σ env μ) {Z:Addr->Prop} (V:Addr->Prop) (hZ:∀ p,Z p->¬S.c.old p/\∃ m,μ p=some m) (n:Nat):Ok3M K S (seeM eyeA (muOn Z μ) R H) H σ (env.map (vwS eyeA n (muOn Z μ))) (muFrz Z V n μ) where
  fin:=⟨o.fin.up.trans see_up,see_sub o.fin.sub,o.fin.keep,fun b u h1 h2 q=>(by
    refine see_off (o.fin.newX b u h1 h2 q) fun z=>?_
    obtain⟨n1,m,hm⟩:=hZ b z
    rcases (o.dom b m hm).2.2 with k | k
    . exact n1 k
    . rw[h2] at k
      cases k),o.fin.inv,fun b hb=>by
    refine see_off (o.fin.ft b hb) fun z=>?_
    obtain⟨n1,m,hm⟩:=hZ b z
    rcases hb with k | k
    . exact(o.dom b m hm).2.1 k
    . exact n1 k⟩
  rb:=o.rb.trans see_up
  sl:=vwS_ok o.muOk.on o.sl
  own:=fun i p h=>by
    rw[vwS_ad] at h
    obtain⟨h1,h2,h3,h4,h5⟩:=o.own i p h
    exact⟨see_off h1 fun z=>(by obtain⟨_,m,hm⟩:=hZ p z; rw[h5] at hm; cases hm),h2,h3,h4,muFrz_n h5⟩
  dis:=fun i j p h1 h2=>by
    rw[vwS_ad] at h1 h2
    exact o.dis i j p h1 h2
  mu:=fun a m h=>by
    obtain⟨_,m',h1,e⟩:=muFrz_some h
    rcases e with e | e
    . subst e
      exact(o.mu a m' h1).vw o.muOk.on
    . subst e
      exact(o.mu a m h1).move see_up fun _ h=>h
  dom:=fun a m h=>by
    obtain⟨hz,m',h1,e⟩:=muFrz_some h
    exact⟨see_off (o.dom a m' h1).1 hz,(o.dom a m' h1).2⟩
  all:=fun a h=>by
    obtain⟨m,hm⟩:=o.all a h
    exact muFrz_ex (fun z=>(hZ a z).1 h) hm
end
structure ItOkM (K:PySem.W.Frag) (w:Wd) (J:It) (R:Hp) (κ:Mu->Prop) (ds:List D):Prop where
  go:∀ i R1 H μ d,Same R R1->Bas w R1 H->MuOk K w R1 H μ->κ μ->ds[i]?=some d->J.go i H
  stop:∀ i R1 H μ,Same R R1->Bas w R1 H->MuOk K w R1 H μ->κ μ->ds.length<=i->J.stop i H
  yld:∀ i R1 H μ x H' d,Same R R1->Bas w R1 H->MuOk K w R1 H μ->κ μ->ds[i]?=some d->J.yld i H x H'->∃ R',Fin w R1 H R' H'/\Rep K R' d x
theorem ItOk.m {K:PySem.W.Frag}{w:Wd}{J:It}{R:Hp}{ds:List D} (h:ItOk K w J R ds):ItOkM K w J R (fun _=>True) ds :=
  ⟨fun i R1 H μ d s b _ _ e=>h.go i R1 H d s b e,fun i R1 H μ s b _ _ e=>h.stop i R1 H s b e,fun i R1 H μ x H' d s b _ _ e y=>h.yld i R1 H x H' d s b e y⟩
/-- a list,also one that changes -/
structure LsAt (K:PySem.W.Frag) (w:Wd) (R:Hp) (p:Addr) (ds:List D) (κ:Mu->Prop):Prop where
  at':∀ R1 H1 μ1,Same R R1->Bas w R1 H1->MuOk K w R1 H1 μ1->κ μ1->∃ xs,SqL K H1 p xs/\Reps K R1 ds xs
section
variable {K:PySem.W.Frag}{w:Wd}{R R' H:Hp}{μ:Mu}
theorem LsAt.mono {p:Addr}{ds:List D}{κ:Mu->Prop} (h:LsAt K w R p ds κ) (s:Same R R'):LsAt K w R' p ds κ:=⟨fun R1 H1 μ1 s1 b m k=>h.at' R1 H1 μ1 (s.trans s1) b m k⟩
end
open PySem PySem.Spec PyProof.Rows L2
abbrev CtM.in (c:CtM) (μ:Mu):CtM:=⟨c.wd,fun _ _ _=>False,mdom μ⟩
abbrev wdIn (w:Wd) (μ:Mu):CtM:=⟨w,fun _ _ _=>False,mdom μ⟩
section
variable {K:PySem.W.Frag}{S:StM}{R H R' H':Hp}{σ:L2.St}{env:Ev}{μ:Mu}{w:Wd}
/-- a state without names -/
abbrev bareM (w:Wd) (μ:Mu) (R H:Hp):StM:=⟨wdIn w μ,R,H,R⟩
theorem MuOk.start(m:MuOk K w R H μ) (b:Bas w R H) {σ:L2.St}{env:Ev} (h:Paired (SlOk K R H) σ env) (ha:∀ i,adAt env i=none):Ok3M K (bareM w μ R H) R H σ env μ where
  fin:=⟨fun _ _ h=>h,b.sub,fun _ _ h _=>h,fun _ _ h _ _=>h,⟨b.inv,fun a ⟨o,h⟩=>(m a o h).1.has⟩,fun a ha=>by
    rcases ha with z | ⟨o,z⟩
    . exact b.ft a z
    . exact(m a o z).2.1⟩
  rb:=fun _ _ h=>h
  sl:=h
  own:=fun i p h=>(by rw[ha i] at h; cases h)
  dis:=fun i j p h _=>(by rw[ha i] at h; cases h)
  mu:=fun a o h=>(m a o h).1
  dom:=fun a o h=>⟨(m a o h).2.1,(m a o h).2.2,.inl ⟨o,h⟩⟩
  all:=fun a h=>h
theorem ad_nil {i:Nat}:adAt ([]:Ev) i=none:=by unfold adAt; rfl
theorem MuOk.bare(m:MuOk K w R H μ) (b:Bas w R H):Ok3M K (bareM w μ R H) R H [] [] μ:=m.start b .nil fun _=>ad_nil
/-- a turn's state -/
theorem Ok3M.blk {S0:StM} (o:Ok3M K S0 R H [] [] μ) {R0:Hp}{H0:Hp} (s:Same R0 R) (h:Paired (SlOk K R0 H0) σ env) (vs:List Nat):Ok3M K (bareM S0.c.wd μ R H) R H (wipe σ vs) (wipeD env vs) μ :=
  o.muOk.start o.bas (wipe_ok s h vs) fun i=>wipeD_ad
/-- something that nobody tells of -/
structure Side (S:StM) (R H:Hp) (μ:Mu) (p:Addr) (u:HO):Prop where
  at':H p=some u
  r:R p=none
  m:μ p=none
  h0:S.H0 p=none
  f:¬S.c.wd.foot p
  o:¬S.c.old p
theorem Side.fin {R1 H1:Hp}{p:Addr}{u:HO} (s:Side S R H μ p u) (hu:NX u) (k:Fin S.c.wd R H R1 H1):Side S R1 H1 μ p u:=⟨k.keep p u s.at' s.f,k.newX p u s.r s.at' hu,s.m,s.h0,s.f,s.o⟩
theorem Side.fresh {o:Ok3M K S R H [] [] μ}{p:Addr}{u:HO} (hp:H p=none):Side S R (upd H p u) μ p u:=by
  obtain⟨h1,h2,h3,h4,h5,_⟩:=o.there hp
  exact⟨upd_same,h2,h5,h1,h3,h4⟩
theorem Side.upd {p:Addr}{u v:HO} (s:Side S R H μ p u):Side S R (upd H p v) μ p v:=⟨upd_same,s.r,s.m,s.h0,s.f,s.o⟩
end
open PySem PySem.Spec PyProof.Rows L2
section
variable {P:Program}{w:World}{K:PySem.W.Frag}{mg:Str->Option Value}{base:Heap}{x qual:Str}{params:Arguments}{body:List Stmt}{scope:Scope}{f:Addr}{fd:FuncData}
abbrev FnMO (P:Program) (w:World) (K:PySem.W.Frag) (mg:Str->Option Value) (base:Heap) (k:Nat) (f:Addr) (fd:FuncData) (ps:List Str) (F:TFM):Prop:=FnOk P w K mg base (L2C.CX P w) k f fd ps (spM K F)
abbrev FnIMO (P:Program) (w:World) (K:PySem.W.Frag) (mg:Str->Option Value) (base:Heap) (k:Nat) (C f:Addr) (fd:FuncData) (ps:List Str) (F:TFIM):Prop:=FnOk P w K mg base (L2C.CX P w) k f fd ps (spIM K C F)
theorem FnMO.plain {ps:List Str}{k:Nat}{F:TFM} (G:FnMO P w K mg base k f fd ps F) (hb:Binds K fd ps []):FnM P w K mg base k f F:=by
  have z:=FnOk.raw (ds:=[]) (dvs:=[]) G hb .nil
  intro A outer s H us vs Q E hr e0 r hs
  exact z A outer s H us vs Q E hr e0 r (by show spM K F (vs++[]) H Q E; rw[List.append_nil]; exact hs)
theorem FnIMO.plain {ps:List Str}{k:Nat}{C:Addr}{F:TFIM} (G:FnIMO P w K mg base k C f fd ps F) (hb:Binds K fd ps []):FnIM P w K mg base k C f F:=by
  have z:=FnOk.raw (ds:=[]) (dvs:=[]) G hb .nil
  intro A outer s H us vs Q E hr e0 r hs
  exact z A outer s H us vs Q E hr e0 r (by show spIM K C F (vs++[]) H Q E; rw[List.append_nil]; exact hs)
end
open PySem PySem.Spec PyProof.Rows L2
open PySem PySem.Spec PyProof.Rows L2
open PySem PySem.Spec PyProof.Rows L2
open PySem PySem.Spec PyProof.Rows L2
section
variable {K:PySem.W.Frag}{R H:Hp}{w:Wd}
theorem Fin.tup(b:Bas w R H) {q:Addr}{xs:List V} (hq:H q=some (.tup xs)):Fin w R H (upd R q (.tup xs)) H where
  up:=fun c u h=>by
    by_cases e:c=q
    . subst e
      rw[upd_same]
      have:=b.sub _ _ h
      rw[hq] at this
      exact this
    . rw[upd_ne e]; exact h
  sub:=fun c u h=>by
    by_cases e:c=q
    . subst e
      rw[upd_same] at h
      cases h
      exact hq
    . rw[upd_ne e] at h; exact b.sub _ _ h
  keep:=fun _ _ h _=>h
  newX:=fun c u h1 h2 n=>by
    by_cases e:c=q
    . subst e
      rw[hq] at h2
      cases h2
      exact absurd rfl (n.2 _)
    . rw[upd_ne e]; exact h1
  inv:=b.inv
  ft:=fun c hc=>by
    by_cases e:c=q
    . subst e
      exact absurd hq (w.nt _ _ _ b.inv hc)
    . rw[upd_ne e]; exact b.ft c hc
end
open PySem PySem.Spec PyProof.Rows L2
open PySem PySem.Spec PyProof.Rows L2
section
variable {prog:Program}{w:World}{A:Around}{E:Value->Shared->Prop}{s:Shared}{z TI TO i1 i2:Addr}{fp1 fp2:List Addr}{n1 n2:Nat}{P1 P2:Nat->Value->Prop}{St1 St2:Nat->Heap->Prop}
/-- a zip whose tuples are kept: the state -/
def ZSt(z TI TO i1 i2 S:Addr) (St1 St2:Nat->Heap->Prop) (i:Nat) (h:Heap):Prop :=
  IsTupOf2 h TI (.ref i1) (.ref i2)/\St1 i h/\St2 i h/\((IsZip h z TI TO .none/\∃ a b,IsTupOf2 h TO a b)\/∃ T f oT,IsZipHeld h z TI TO T f/\h.get? T=some oT/\T≠z/\T≠i1/\T≠i2/\T≠S)
theorem ZSt.keep {h h' : Heap} {S : Addr} {i : Nat} (D1 : Draws prog w A.in1 i1 fp1 n1 P1 St1) (D2 : Draws prog w A.in1 i2 fp2 n2 P2 St2) (x : ZSt z TI TO i1 i2 S St1 St2 i h) (hk : ∀ b o, b ≠ S -> h.get? b = some o -> h'.get? b = some o)
    (d1:z≠S) (d2:TI≠S) (d3:TO≠S) (d4:S∉fp1) (d5:S∉fp2):ZSt z TI TO i1 i2 S St1 St2 i h':=by
  obtain⟨a,b,c,d⟩:=x
  refine⟨hk _ _ d2 a,D1.frame _ _ _ b fun y hy o e=>hk y o (fun q=>d4 (q▸hy)) e,D2.frame _ _ _ c fun y hy o e=>hk y o (fun q=>d5 (q▸hy)) e,?_⟩
  rcases d with ⟨e,u,v,g⟩ | ⟨T,f,oT,e,g,r1,r2,r3,r4⟩
  . exact .inl ⟨hk _ _ d1 e,u,v,hk _ _ d3 g⟩
  . exact .inr ⟨T,f,oT,hk _ _ d1 e,hk _ _ r4 g,r1,r2,r3,r4⟩
structure LzG (P1 P2:Nat->Value->Prop) (lo:Addr) (h:Heap) (as:List Addr):Prop where
  rise:as.Pairwise (·<·)
  above:∀ a∈as,lo<a
  pairs:∀ (j:Nat) (a:Addr),as[j]?=some a->∃ x y,P1 j x/\P2 j y/\h.get? a=some {cls:=.type "tuple",data:=.seq #[x,y]}
theorem LzG.there {lo:Addr}{h:Heap}{as:List Addr} (g:LzG P1 P2 lo h as) {a:Addr} (ha:a∈as):a<h.objs.size:=by
  obtain⟨j,hj⟩:=List.mem_iff_getElem?.mp ha
  obtain⟨_,_,_,_,e⟩:=g.pairs j a hj
  exact Heap.lt_size e
end
open PySem PySem.Spec PyProof.Rows L2
open PySem PySem.Spec PyProof.Rows L2
mutual
inductive NestV (H:Hp):NestedKey->V->Prop
  | num (i:Int):NestV H (.num i) (.int i)
  | text (x:Str):NestV H (.text x) (.str x)
  | tup {a:Addr}{vs:List V}{ks:List NestedKey}:H a=some (.tup vs)->NestVs H ks vs->NestV H (.tup ks) (.ref a)
inductive NestVs (H:Hp):List NestedKey->List V->Prop
  | nil:NestVs H [] []
  | cons {k:NestedKey}{v:V}{ks:List NestedKey}{vs:List V}:NestV H k v->NestVs H ks vs->NestVs H (k::ks) (v::vs)
end
section
variable {P:Program}{w:World}{H:Hp}{h:Heap}
mutual
theorem nest_is(ok:HOk P w H h):∀ {k:NestedKey}{v:V}{u:Value},NestV H k v->RelV v u->NestedIs h k u
  | _,_,u,.num i,r=>by
    obtain⟨t,rfl⟩:=(show ∃ t,u=Value.int i t from r)
    exact .int i t
  | _,_,u,.text x,r=>by
    obtain⟨t,rfl⟩:=(show ∃ t,u=Value.str x t from r)
    exact .text x t
  | _,_,u,.tup (a:=a) (vs:=vs) e n,r=>by
    obtain rfl:u=Value.ref a:=r
    obtain⟨_,its,rr,o,h1,h2,m,h3⟩:=(show ObjOk P w H h a (.tup vs) from ok a _ e)
    exact .tup h1 h2 h3 (by simpa using nests_is ok n rr)
theorem nests_is(ok:HOk P w H h):∀ {ks:List NestedKey}{vs:List V}{us:List Value},NestVs H ks vs->Vals vs us->NestedAll h ks us
  | _,_,_,.nil,.nil=>.nil
  | _,_,_,.cons n ns,.cons r rs=>.cons (nest_is ok n r) (nests_is ok ns rs)
end
end
/-- what the dict's object holds: keys with their tuples,values -/
def LkN(P:Program) (w:World) (ws:List (NestedKey × Addr × V)) (od:Obj):Prop :=
  ∃ (xs:List (NestedKey × Addr × Value)) (es:Array DictEntry) (ep:Nat),od.ExactDict/\od.data=.dict es ep/\es.toList=xs.map (entryOfKey (nestedKind P w))/\(xs.map (·.1)).Nodup/\Paired (fun x z=>x.1=z.1/\x.2.1=z.2.1/\RelV z.2.2 x.2.2) xs ws
def KsV(H:Hp) (ws:List (NestedKey × Addr × V)):Prop:=∀ z∈ws,NestV H z.1 (.ref z.2.1)/\z.1.depth<=8
def atV(ws:List (NestedKey × Addr × V)) (k:NestedKey):Option V:=(ws.find? fun z=>decide (z.1=k)).map (·.2.2)
theorem LkN.dict {P:Program}{w:World}{H:Hp}{h:Heap}{d:Addr}{od:Obj}{ws:List (NestedKey × Addr × V)} (L:LkN P w ws od) (ok:HOk P w H h) (ks:KsV H ws) (e:h.get? d=some od):∃ xs,h.DictOfH (nestedKind P w) d xs/\Paired (fun x z=>x.1=z.1/\x.2.1=z.2.1/\RelV z.2.2 x.2.2) xs ws:=by
  obtain⟨xs,es,ep,h1,h2,h3,h4,h5⟩:=L
  refine⟨xs,⟨od,es,ep,e,h1,h2,h3,fun x hx=>?_,h4⟩,h5⟩
  have key:∀ {xs:List (NestedKey × Addr × Value)}{ws:List (NestedKey × Addr × V)},Paired (fun x z=>x.1=z.1/\x.2.1=z.2.1/\RelV z.2.2 x.2.2) xs ws->KsV H ws->∀ x∈xs,(nestedKind P w).is h x.1 x.2.1:=by
    intro xs ws pp
    induction pp with
    | nil=>intro _ x hx; cases hx
    | @cons a b xs ws hab _ ih =>
      intro ks x hx
      rcases List.mem_cons.mp hx with z | z
      . subst z
        obtain⟨n,dd⟩:=ks b List.mem_cons_self
        rw[hab.1,hab.2.1]
        exact⟨nest_is ok n rfl,dd⟩
      . exact ih (fun y hy=>ks y (List.mem_cons_of_mem _ hy)) x z
  exact key h5 ks x hx
theorem LkN.of {P:Program}{w:World}{h:Heap}{d:Addr}{xs:List (NestedKey × Addr × Value)}{ws:List (NestedKey × Addr × V)} (x:h.DictOfH (nestedKind P w) d xs) (p:Paired (fun x z=>x.1=z.1/\x.2.1=z.2.1/\RelV z.2.2 x.2.2) xs ws):∃ od,h.get? d=some od/\LkN P w ws od/\od.cls=.type "dict"/\od.dict=none/\∀ v,od.data≠.cell v:=by
  obtain⟨od,es,ep,h1,h2,h3,h4,_,h5⟩:=x
  exact⟨od,h1,⟨xs,es,ep,h2,h3,h4,h5,p⟩,h2.1,h2.2.1,fun v e=>by rw[h3] at e; cases e⟩
/-- where such a dict stands -/
structure Asd (X:Cx) (pins:List (Addr × Obj)) (d:Addr):Prop where
  loc:d≠X.env.locals
  fs:d∉X.fs
  new:d∈X.ex\/X.s_0.heap.objs.size<=d
  cell:∀ x c,X.env.cells.lookup x=some c->c≠d
  pn:∀ p∈X.pn++pins,p.1≠d
  sys:(d==sysModules)=false
section
variable {X:Cx}{pins:List (Addr × Obj)}{σ:L2.St}{H:Hp}{s:Shared}{d:Addr}{od:Obj}
theorem aside_at(I:L2.Inv X ((d,od)::pins) σ H s):s.heap.get? d=some od/\H d=none:=by
  obtain⟨h1,h2,_⟩:=I.pin (d,od) (List.mem_append_right _ List.mem_cons_self)
  exact⟨h1,h2⟩
theorem aside_drop(I:L2.Inv X ((d,od)::pins) σ H s):L2.Inv X pins σ H s:=I.pins_of fun p hp=>I.pin p (List.mem_append_right _ (List.mem_cons_of_mem _ hp))
theorem aside_put(A:Asd X pins d) (I:L2.Inv X pins σ H s) (h1:s.heap.get? d=some od) (h2:H d=none) (hc:∀ v,od.data≠.cell v):L2.Inv X ((d,od)::pins) σ H s:=I.pins_of fun p hp=>by
  rcases List.mem_cons.mp hp with z | z
  . subst z
    exact⟨h1,h2,A.loc,A.fs,hc⟩
  . exact I.pin p (List.mem_append_right _ z)
/-- the dict's object turns -/
theorem aside_turn {h':Heap}{t':Nat}{od':Obj} (A:Asd X pins d) (I:L2.Inv X ((d,od)::pins) σ H s) (hs:Heap.SameBut d s.heap h') (e:h'.get? d=some od') (hc:∀ v,od'.data≠.cell v):L2.Inv X ((d,od')::pins) σ H {s with heap:=h',toks:=t'}:=by
  obtain⟨h1,h2⟩:=aside_at I
  have I0:=aside_drop I
  have fp:∀ c∈[d],FpOk X pins H c:=fun c hc=>by
    rw[List.mem_singleton.mp hc]
    exact⟨h2,A.loc,A.fs,A.new,A.cell,A.pn⟩
  exact aside_put A (I0.turnedL (t':=t') (ch:=[d]) (fun c x nc hx=>(hs.2 c fun k=>nc (by simp[k])).trans hx) fp) e h2 hc
end
abbrev Wks:=List (NestedKey × Addr × V)
open PySem PySem.Spec PyProof.Rows L2
mutual
def nkD:D->Option NestedKey
  | .int i=>some (.num i)
  | .str x=>some (.text x)
  | .tup ds=>(nkDs ds).map .tup
  | _=>none
def nkDs:List D->Option (List NestedKey)
  | []=>some []
  | d::ds=>match nkD d,nkDs ds with
    | some k,some ks=>some (k::ks)
    | _,_=>none
end
section
variable {K:PySem.W.Frag}{R R' H:Hp}
mutual
theorem rep_nest(sub:∀ a o,R a=some o->H a=some o):∀ (d:D) {k:NestedKey}{v:V},nkD d=some k->Rep K R d v->NestV H k v
  | .int i,k,v,e,r=>by
    have e:some (NestedKey.num i)=some k:=e
    cases e
    rw[rep_int r]
    exact .num i
  | .str x,k,v,e,r=>by
    have e:some (NestedKey.text x)=some k:=e
    cases e
    rw[show v=.str x from r]
    exact .text x
  | .tup ds,k,v,e,r=>by
    have e:(nkDs ds).map NestedKey.tup=some k:=e
    obtain⟨ks,e1,rfl⟩:=Option.map_eq_some_iff.mp e
    obtain⟨p,xs,rfl,h1,h2⟩:=rep_tup r
    exact .tup (sub _ _ h1) (reps_nest sub ds e1 h2)
  | .non,_,_,e,_=>by cases e
  | .bl _,_,_,e,_=>by cases e
  | .lst _,_,_,e,_=>by cases e
  | .ins _ _,_,_,e,_=>by cases e
  | .ref _,_,_,e,_=>by cases e
  | .dic _,_,_,e,_=>by cases e
  | .dicT _,_,_,e,_=>by cases e
  | .exc _ _,_,_,e,_=>by cases e
  | .clo _ _,_,_,e,_=>by cases e
  | .lam _ _,_,_,e,_=>by cases e
  | .ty _,_,_,e,_=>by cases e
theorem reps_nest(sub:∀ a o,R a=some o->H a=some o):∀ (ds:List D) {ks:List NestedKey}{vs:List V},nkDs ds=some ks->Reps K R ds vs->NestVs H ks vs
  | [],ks,vs,e,r=>by
    have e:some ([]:List NestedKey)=some ks:=e
    cases e
    rw[show vs=[] from r]
    exact .nil
  | d::ds,ks,vs,e,⟨v,us,ev,r1,r2⟩=>by
    subst ev
    have e:(match nkD d,nkDs ds with
      | some k,some ks=>some (k::ks)
      | _,_=>none)=some ks:=e
    cases e1:nkD d with
    | none=>rw[e1] at e; cases e
    | some k =>
      cases e2:nkDs ds with
      | none=>rw[e1,e2] at e; cases e
      | some ks' =>
        rw[e1,e2] at e
        cases e
        exact .cons (rep_nest sub d e1 r1) (reps_nest sub ds e2 r2)
end
def LinkM(K:PySem.W.Frag) (R:Hp) (kvs:List (D × D)) (ws:Wks):Prop:=Paired (fun kd z=>nkD kd.1=some z.1/\z.1.depth<=8/\Rep K R kd.1 (.ref z.2.1)/\Rep K R kd.2 z.2.2) kvs ws
theorem LinkM.mono {kvs:List (D × D)}{ws:Wks} (h:LinkM K R kvs ws) (s:Same R R'):LinkM K R' kvs ws:=Paired.mapP h fun _ _ z=>⟨z.1,z.2.1,z.2.2.1.mono s,z.2.2.2.mono s⟩
theorem LinkM.ks {kvs:List (D × D)}{ws:Wks} (h:LinkM K R kvs ws) (sub:∀ a o,R a=some o->H a=some o):KsV H ws:=by
  unfold LinkM at h
  induction h with
  | nil=>intro z hz; cases hz
  | cons h _ ih =>
    intro z hz
    rcases List.mem_cons.mp hz with e | e
    . subst e
      exact⟨rep_nest sub _ h.1 h.2.2.1,h.2.1⟩
    . exact ih z e
def valN(kvs:List (D × D)) (k:NestedKey):Option D:=(kvs.find? fun kd=>decide (nkD kd.1=some k)).map (·.2)
theorem LinkM.at' {k:NestedKey}:∀ {kvs:List (D × D)}{ws:Wks},LinkM K R kvs ws->(∀ v,atV ws k=some v->∃ d,valN kvs k=some d/\Rep K R d v)/\(atV ws k=none->valN kvs k=none)
  | _,_,.nil=>⟨fun v h=>(by cases h),fun _=>rfl⟩
  | kd::kvs,z::ws,.cons h t=>by
    obtain⟨i1,i2⟩:=LinkM.at' (k:=k) (show LinkM K R kvs ws from t)
    by_cases c:z.1=k
    . have c2:nkD kd.1=some k:=by rw[h.1,c]
      refine⟨fun v e=>?_,fun e=>?_⟩
      . have:z.2.2=v:=by simpa [atV,List.find?_cons,c] using e
        subst this
        exact⟨kd.2,by simp[valN,List.find?_cons,c2],h.2.2.2⟩
      . simp[atV,List.find?_cons,c] at e
    . have c2:¬nkD kd.1=some k:=fun e=>c (by rw[h.1] at e; exact Option.some.inj e)
      have e1:atV (z::ws) k=atV ws k:=by simp[atV,List.find?_cons,c]
      have e2:valN (kd::kvs) k=valN kvs k:=by simp[valN,List.find?_cons,c2]
      rw[e1,e2]
      exact⟨i1,i2⟩
end
open PySem PySem.Spec PyProof.Rows L2
/-- the tuple at a is the key k -/
abbrev NAt (h:Heap) (k:NestedKey) (a:Addr):Prop:=NestedIs h k (.ref a)/\k.depth<=8
theorem nall_mem {h:Heap}:∀ {ks:List NestedKey}{vs:List Value},NestedAll h ks vs->∀ v∈vs,∃ k,NestedIs h k v/\k.depth<=NestedKey.depthAll ks
  | _,_,.nil,v,hv=>by cases hv
  | k::ks,_,.cons r rs,v,hv=>by
    rcases List.mem_cons.mp hv with e | z
    . subst e
      exact⟨k,r,Nat.le_max_left _ _⟩
    . obtain⟨k',h1,h2⟩:=nall_mem rs v z
      exact⟨k',h1,Nat.le_trans h2 (Nat.le_max_right _ _)⟩
section
variable {P:Program}{w:World}{A:Around}{E:Value->Shared->Prop}{s:Shared}
theorem NAt.type {k:NestedKey}{a:Addr} (x:NestedIs s.heap k (.ref a)):s.TypeIs (.ref a) "tuple":=by
  cases x with
  | tup h1 h2 _ _=>exact⟨_,h1,h2⟩
theorem ofA_nest:∀ (d:Nat) (k:NestedKey) (v:Value) (Q:Bool->Shared->Prop),NestedIs s.heap k v->k.depth<=d->Q false s->wpAny (model P w) A (ofAClassStatement d v) Q E s:=by
  intro d
  induction d with
  | zero =>
    intro k v Q x hd h
    cases x with
    | tup=>exact absurd hd (by simp[NestedKey.depth])
    | _=>exact wpAny_pure h
  | succ d ih =>
    intro k v Q x hd h
    cases x with
    | none=>exact wpAny_pure h
    | bool _=>exact wpAny_pure h
    | int _ _=>exact wpAny_pure h
    | text _ _=>exact wpAny_pure h
    | @tup a o vs n ks h1 h2 h3 h4 =>
      have hT:s.TypeIs (.ref a) "tuple":=⟨o,h1,h2⟩
      have hdk:NestedKey.depthAll ks<=d:=by
        have hd:NestedKey.depthAll ks+1<=d+1:=hd
        omega
      unfold ofAClassStatement
      refine wpAny_bind (wpAny_typeOf hT ?_)
      have e:(("tuple":String)=="tuple")=true:=by decide
      dsimp only
      simp only[e,if_true,Bool.not_true,Bool.false_eq_true,if_false]
      try refine wpAny_bind (wpAny_pure ?_)
      try simp only[Bool.not_true,Bool.false_eq_true,if_false]
      refine wpAny_bind (wpAny_seqItems h1 h3 ?_)
      dsimp only
      refine wpAny_bind ?_
      show wpAny _ _ (forIn vs _ _) _ _ s
      rw[<- Array.forIn_toList]
      refine wpAny_forIn_list _ (fun rest r s'=>r.1=none/\s'=s/\∀ v∈rest,v∈vs.toList) _ ?_ ?_ _ _ ⟨rfl,rfl,fun _ z=>z⟩
      . rintro u rest r s' ⟨hr,rfl,hall⟩
        obtain⟨k',g1,g2⟩:=nall_mem h4 u (hall u List.mem_cons_self)
        refine wpAny_bind (ih k' u _ g1 (Nat.le_trans g2 hdk) ?_)
        simp only[Bool.false_eq_true,if_false]
        exact wpAny_pure ⟨rfl,rfl,fun x hx=>hall x (List.mem_cons_of_mem _ hx)⟩
      . rintro ⟨r1,r2⟩ s' ⟨hr,rfl,_⟩
        simp only at hr
        subst hr
        exact wpAny_pure h
theorem byV_nest:∀ (d:Nat) (k:NestedKey) (v:Value) (Q:Bool->Shared->Prop),NestedIs s.heap k v->k.depth<=d->(∀ b,Q b s)->wpAny (model P w) A (hashByValue d v) Q E s:=by
  intro d
  induction d with
  | zero =>
    intro k v Q x hd h
    cases x with
    | tup=>exact absurd hd (by simp[NestedKey.depth])
    | _=>exact wpAny_pure (h _)
  | succ d ih =>
    intro k v Q x hd h
    cases x with
    | none=>exact wpAny_pure (h _)
    | bool _=>exact wpAny_pure (h _)
    | int _ _=>exact wpAny_pure (h _)
    | text _ _=>exact wpAny_pure (h _)
    | @tup a o vs n ks h1 h2 h3 h4 =>
      have hT:s.TypeIs (.ref a) "tuple":=⟨o,h1,h2⟩
      have hdk:NestedKey.depthAll ks<=d:=by
        have hd:NestedKey.depthAll ks+1<=d+1:=hd
        omega
      unfold hashByValue
      refine wpAny_bind (wpAny_specialOf hT PySem.F.slot_tuple_hash.lookup ?_)
      refine wpAny_bind (wpAny_seqItems h1 h3 ?_)
      refine wpAny_bind ?_
      show wpAny _ _ (forIn vs _ _) _ _ s
      rw[<- Array.forIn_toList]
      refine wpAny_forIn_list _ (fun rest r s'=>r.1=none/\s'=s/\∀ v∈rest,v∈vs.toList) _ ?_ ?_ _ _ ⟨rfl,rfl,fun _ z=>z⟩
      . rintro u rest r s' ⟨hr,rfl,hall⟩
        obtain⟨k',g1,g2⟩:=nall_mem h4 u (hall u List.mem_cons_self)
        refine wpAny_bind (ih k' u _ g1 (Nat.le_trans g2 hdk) fun b=>?_)
        cases b with
        | false =>
          simp only[Bool.not_false,if_true]
          refine wpAny_pure ?_
          exact wpAny_pure (h _)
        | true =>
          simp only[Bool.not_true,Bool.false_eq_true,if_false]
          exact wpAny_pure ⟨rfl,rfl,fun x hx=>hall x (List.mem_cons_of_mem _ hx)⟩
      . rintro ⟨r1,r2⟩ s' ⟨hr,rfl,_⟩
        simp only at hr
        subst hr
        exact wpAny_pure (h _)
/-- a search among tuples shows nothing -/
theorem seen_nest {k:NestedKey}{b:Addr}{Q:Bool->Shared->Prop} (hk:NAt s.heap k b) {ys:List Value} (hy:∀ y∈ys,∃ k' c,y=Value.ref c/\NAt s.heap k' c) (h:Q false s):wpAny (model P w) A (searchCouldBeSeen (.ref b) ys) Q E s:=by
  unfold searchCouldBeSeen
  refine wpAny_bind (wpAny_forIn_list _ (fun rest r s'=>r.1=none/\s'=s/\∀ y∈rest,y∈ys) _ ?_ ?_ _ _ ⟨rfl,rfl,fun _ z=>z⟩)
  . rintro v rest r s' ⟨hr,rfl,hall⟩
    obtain⟨k',c,rfl,hc⟩:=hy v (hall v List.mem_cons_self)
    have on:∀ y∈rest,y∈ys:=fun u hu'=>hall u (List.mem_cons_of_mem _ hu')
    dsimp only
    by_cases hv:(b==c||(carriedByValue (.ref b)&&carriedByValue (.ref c)))=true
    . exact wp_if_pos hv (wpAny_pure ⟨rfl,rfl,on⟩)
    . refine wp_if_neg hv (wpAny_bind ((nestedKind P w).quiet hk ?_))
      simp only[Bool.not_true,Bool.false_eq_true,if_false]
      refine wpAny_bind ((nestedKind P w).quiet hc ?_)
      simp only[Bool.not_true,Bool.false_eq_true,if_false]
      refine wpAny_bind (ofA_nest 8 k _ _ hk.1 hk.2 ?_)
      simp only[Bool.false_eq_true,if_false]
      refine wpAny_bind (ofA_nest 8 k' _ _ hc.1 hc.2 ?_)
      simp only[Bool.false_eq_true,if_false]
      exact wpAny_pure ⟨rfl,rfl,on⟩
  . rintro ⟨r1,r2⟩ s' ⟨hr,rfl,_⟩
    simp only at hr
    subst hr
    exact wpAny_pure h
end
def nRows(w:World) (L:List (Addr × NestedKey)):List (Int × Value):=L.map fun p=>(p.2.hash w,Value.ref p.1)
theorem nRows_len {w:World}{L:List (Addr × NestedKey)}{es:Array (Int × Value)} (h:es.toList=nRows w L):es.size=L.length:=by
  have e:=congrArg List.length h
  unfold nRows at e
  rw[Array.length_toList,List.length_map] at e
  exact e
theorem nRows_at {w:World}{L:List (Addr × NestedKey)}{es:Array (Int × Value)} (h:es.toList=nRows w L) {i:Nat}{p:Addr × NestedKey} (hp:L[i]?=some p):es[i]?=some (p.2.hash w,Value.ref p.1):=by
  rw[<- Array.getElem?_toList,h]
  unfold nRows
  rw[List.getElem?_map,hp]
  rfl
structure SetN (w:World) (h:Heap) (a:Addr) (L:List (Addr × NestedKey)) (es:Array (Int × Value)) (ep:Nat) (t:SetTable):Prop where
  ob:∃ o,h.get? a=some o/\o.ExactSet/\o.data=.set es ep t
  rows:es.toList=nRows w L
  tab:TabOk t (L.map fun p=>p.2.hash w)
  nd:(L.map (·.2)).Nodup
  mem:∀ p∈L,NAt h p.2 p.1
  led:w.params.followText "set-order"=true\/t.led=true
  room:L.length * 5<t.mask * 3
  few:L.length<64
/-- the way of a search,step by step -/
abbrev prb (m:Nat) (h:Int) (c:Nat):SetTable.Probe:=nth m (runAt m (SetTable.bits h % (m+1)) (SetTable.bits h)) c
theorem prb_on(m:Nat) (h:Int) (c q:Nat):nth m (prb m h c) q=prb m h (c+q):=(nth_add m c _ q).symm
theorem prb_dm(m:Nat) (h:Int) (c:Nat):(prb m h c).dummy=none:=by
  have key:∀ (n:Nat) (p:SetTable.Probe),p.dummy=none->(nth m p n).dummy=none:=fun n=>by
    induction n with
    | zero=>exact fun _ z=>z
    | succ n ih=>exact fun p z=>ih (adv m p) (by unfold adv; split<;>exact z)
  exact key c _ rfl
section
variable {P:Program}{w:World}{A:Around}{E:Value->Shared->Prop}{s:Shared}{a:Addr}{L:List (Addr × NestedKey)}{es:Array (Int × Value)}{ep:Nat}{t:SetTable}
theorem SetN.fits(R:SetN w s.heap a L es ep t):t.fits es.size=true:=by
  have h1:t.place.size=L.length:=by rw[R.tab.sz,List.length_map]
  have h2:=nRows_len R.rows
  have h3:=R.room
  unfold SetTable.fits SetTable.fill
  rw[R.tab.dm,Bool.and_eq_true,beq_iff_eq,decide_eq_true_eq]
  exact⟨by omega,by show t.place.size+0<=_; omega⟩
theorem SetN.odd(R:SetN w s.heap a L es ep t):¬t.gaveWay=true:=by
  unfold SetTable.gaveWay
  rw[mask_odd R.tab.mok]
  decide
/-- a search,from its c-th step on -/
theorem SetN.from (R : SetN w s.heap a L es ep t) {x : Addr} {k : NestedKey} (hx : NAt s.heap k x) (hu : A.units + 8 < cLine) {K : Nat} (hKf : K < 10 * SetTable.turns t.mask) (hK : way t.mask (k.hash w) K ∉ t.place.toList) (hKb : ∀ c, c < K -> way t.mask (k.hash w) c ∈ t.place.toList) {Q : SetFound -> Shared -> Prop}
    (yes:k∈L.map (·.2)->Q (.there none) s) (no:k∉L.map (·.2)->Q (.free (way t.mask (k.hash w) K) false) s) :
    ∀ (f c:Nat) (stand:Option SetTable.Probe),stand.getD (t.probeStart (k.hash w))=prb t.mask (k.hash w) c->c<=K->K - c<f->(∀ (i:Nat) p,L[i]?=some p->p.2=k->∃ c',c<=c'/\c'<K/\t.place.toList[i]?=some (way t.mask (k.hash w) c')) ->
      wpAny (model P w) A (setSearchFrom a (.ref x) (k.hash w) true f stand) Q E s:=by
  obtain⟨o,ho,hex,hd⟩:=R.ob
  have hashAt:∀ (i:Nat) p,L[i]?=some p->(fun i=>(es[i]?.map (·.1)).getD 0) i=p.2.hash w:=fun i p hp=>by
    show(es[i]?.map (·.1)).getD 0=_
    rw[nRows_at R.rows hp]
    rfl
  intro f
  induction f with
  | zero=>exact fun c _ _ _ hf _=>absurd hf (Nat.not_lt_zero _)
  | succ f ih =>
    intro c stand hst hc hf hre
    rw[setSearchFrom_succ]
    refine wpAny_bind (wpAny_setState_of ho hd R.fits ?_)
    dsimp only
    refine wp_if_neg R.odd ?_
    try refine wpAny_bind (wpAny_pure ?_)
    have wj:∀ q,(nth t.mask (prb t.mask (k.hash w) c) q).j=way t.mask (k.hash w) (c+q):=fun q=>congrArg SetTable.Probe.j (prb_on ..)
    rcases go_spec t R.tab.ris R.tab.dm (fun i=>(es[i]?.map (·.1)).getD 0) (k.hash w) (10 * SetTable.turns t.mask) (K - c) (prb t.mask (k.hash w) c) (prb_dm ..) (by omega) (fun q hq=>by rw[wj]; exact hKb _ (by omega)) (by rw[wj,show c+(K - c)=K by omega]; exact hK) with ⟨q,i,hq,hi,hh,hno,hpr⟩ | ⟨hno,hpr⟩
    . have hpr':t.probe (fun i=>(es[i]?.map (·.1)).getD 0) (k.hash w) (stand.getD (t.probeStart (k.hash w)))=some (.candidate (way t.mask (k.hash w) (c+q)) i (prb t.mask (k.hash w) (c+(q+1)))):=by
        rw[hst,<- wj,<- prb_on]
        exact hpr
      rw[hpr']
      dsimp only
      rw[wj] at hi
      have hil:i<L.length:=by
        have h1:=(List.getElem?_eq_some_iff.mp hi).1
        rw[Array.length_toList,R.tab.sz,List.length_map] at h1
        exact h1
      obtain⟨p,hp⟩:∃ p,L[i]?=some p:=⟨_,List.getElem?_eq_getElem hil⟩
      have hm:p∈L:=List.mem_of_getElem? hp
      have next:p.2≠k->wpAny (model P w) A (setSearchFrom a (.ref x) (k.hash w) true f (some (prb t.mask (k.hash w) (c+(q+1))))) Q E s:=fun ne=>by
        refine ih (c+(q+1)) _ rfl (by omega) (by omega) fun i0 p0 h0 hk0=>?_
        obtain⟨c',a1,a2,a3⟩:=hre i0 p0 h0 hk0
        refine⟨c',?_,a2,a3⟩
        rcases Nat.lt_trichotomy c' (c+q) with z | z | z
        . exact absurd ((hashAt i0 p0 h0).trans (by rw[hk0])) (hno (c' - c) i0 (by omega) (by rw[wj,show c+(c' - c)=c' by omega]; exact a3))
        . rw[z] at a3
          have s0:=slot_live R.tab.ris a3
          rw[slot_live R.tab.ris hi] at s0
          injection s0 with s0
          rw[<- s0,hp] at h0
          cases h0
          exact absurd hk0 ne
        . omega
      have rest:wpAny (model P w) A (searchRest a (.ref x) (k.hash w) true f es t (way t.mask (k.hash w) (c+q)) i (prb t.mask (k.hash w) (c+(q+1)))) Q E s:=by
        unfold searchRest
        rw[nRows_at R.rows hp]
        dsimp only
        refine wpAny_bind (wpAny_holding ((nestedKind P w).eqBool hu (R.mem p hm) hx (wpAny_bind (wpAny_setState_of ho hd R.fits ?_))))
        dsimp only
        by_cases hkk:p.2=k
        . exact wp_if_pos (by simp[hkk]) (wpAny_pure (yes (List.mem_map.mpr ⟨p,hm,hkk⟩)))
        . refine wp_if_neg (by simp[hkk]) ?_
          try refine wpAny_bind (wpAny_pure ?_)
          rw[sameMem]
          dsimp only
          simp only[if_true,slot_live R.tab.ris hi,nRows_at R.rows hp]
          refine wpAny_bind (wpAny_isSame_ref_self (wpAny_bind (wpAny_pure ?_)))
          simp only[if_true]
          exact wp_if_neg (by simp[hkk]) (next hkk)
      by_cases hl:t.led=true
      . refine wp_if_neg (by simp[hl]) ?_
        try refine wpAny_bind (wpAny_pure ?_)
        exact rest
      . refine wp_if_pos (by simp[hl]) (wpAny_bind (seen_nest hx (fun y hy=>?_) ?_))
        . obtain⟨e,he,ee⟩:=List.mem_map.mp hy
          have he2:e∈es.toList:=by
            have he1:e∈es/\e.1=k.hash w:=by simpa using he
            simpa using he1.1
          rw[R.rows] at he2
          obtain⟨p2,hp2,e2⟩:=List.mem_map.mp he2
          exact⟨p2.2,p2.1,by rw[<- ee,<- e2],R.mem p2 hp2⟩
        . refine wp_if_neg (by decide) ?_
          try refine wpAny_bind (wpAny_pure ?_)
          exact rest
    . have hpr':t.probe (fun i=>(es[i]?.map (·.1)).getD 0) (k.hash w) (stand.getD (t.probeStart (k.hash w)))=some (.empty (way t.mask (k.hash w) K) none):=by
        have e2:way t.mask (k.hash w) K=(nth t.mask (prb t.mask (k.hash w) c) (K - c)).j:=by rw[wj,show c+(K - c)=K by omega]
        rw[hst,e2]
        exact hpr
      rw[hpr']
      dsimp only
      refine wpAny_pure (no fun hm=>?_)
      obtain⟨p0,h0,hk0⟩:=List.mem_map.mp hm
      obtain⟨i0,hi0⟩:=List.mem_iff_getElem?.mp h0
      obtain⟨c',a1,a2,a3⟩:=hre i0 p0 hi0 hk0
      exact hno (c' - c) i0 (by omega) (by rw[wj,show c+(c' - c)=c' by omega]; exact a3) ((hashAt i0 p0 hi0).trans (by rw[hk0]))
theorem SetN.look (R : SetN w s.heap a L es ep t) {x : Addr} {k : NestedKey} (hx : NAt s.heap k x) (hu : A.units + 8 < cLine) {Q : SetFound -> Shared -> Prop} (yes : k ∈ L.map (·.2) -> Q (.there none) s)
    (no:∀ K,k∉L.map (·.2)->way t.mask (k.hash w) K∉t.place.toList->(∀ c,c<K->way t.mask (k.hash w) c∈t.place.toList)->Q (.free (way t.mask (k.hash w) K) false) s):wpAny (model P w) A (setSearch a (.ref x) (k.hash w) true) Q E s:=by
  have hroom:=R.room
  obtain⟨K,hKf,hK,hKb⟩:=R.tab.first (by rw[List.length_map]; omega) (k.hash w)
  have hbig:K<100000:=by
    have:10 * SetTable.turns t.mask<=1420:=by
      unfold SetTable.turns
      rcases R.tab.mok with e | e | e<;>omega
    omega
  unfold setSearch
  refine R.from hx hu hKf hK hKb yes (fun hn=>no K hn hK hKb) 100000 0 none rfl (Nat.zero_le _) (by omega) fun i p hp hk=>?_
  have hi:(L.map fun p=>p.2.hash w)[i]?=some (k.hash w):=by rw[List.getElem?_map,hp,<- hk]; rfl
  have hil:i<t.place.toList.length:=by
    have h1:=(List.getElem?_eq_some_iff.mp hp).1
    rw[Array.length_toList,R.tab.sz,List.length_map]
    exact h1
  obtain⟨c,hc,e⟩:=R.tab.before hK hi (List.getElem?_eq_getElem hil)
  exact⟨c,Nat.zero_le _,hc,by rw[List.getElem?_eq_getElem hil,e]⟩
end
open PySem PySem.Spec PyProof.Rows L2
section
variable {P:Program}{w:World}{A:Around}{E:Value->Shared->Prop}{s:Shared}{a:Addr}{L:List (Addr × NestedKey)}{es:Array (Int × Value)}{ep:Nat}{t:SetTable}
/-- a tuple is no set: it stays when the set changes -/
theorem NAt.same {h h':Heap}{k:NestedKey}{b:Addr}{o:Obj} (x:NAt h k b) (ho:h.get? a=some o) (hd:o.data=.set es ep t) (hs:Heap.SameBut a h h'):NAt h' k b :=
  ⟨NestedIs.at (fun c o' vs n hc hv=>by
    refine(hs.2 c fun e=>?_).trans hc
    subst e
    rw[ho] at hc
    cases hc
    rw[hd] at hv
    cases hv) _ _ x.1,x.2⟩
theorem NAt.keep {h h':Heap}{k:NestedKey}{b:Addr} (x:NAt h k b) (hk:∀ c o,h.get? c=some o->h'.get? c=some o):NAt h' k b:=⟨NestedIs.at (fun c o _ _ e _=>hk c o e) _ _ x.1,x.2⟩
theorem nRows_order {order:Array Nat} (hr:es.toList=nRows w L) (hp:order.toList.Perm (List.range L.length)) :
    ∃ L2,(order.filterMap (es[·]?)).toList=nRows w L2/\L2.Perm L/\(L2.map fun p=>p.2.hash w)=order.toList.map fun i=>(es.map (·.1)).getD i 0:=by
  have hlt:∀ i∈order.toList,i<L.length:=fun i hi=>List.mem_range.mp (hp.mem_iff.mp hi)
  have one:∀ i,i<L.length->∃ p,L[i]?=some p/\L.getD i (0,.none)=p:=fun i h=>⟨L[i],List.getElem?_eq_getElem h,by rw[List.getD_eq_getElem?_getD,List.getElem?_eq_getElem h]; rfl⟩
  have key:∀ l:List Nat,(∀ i∈l,i<L.length)->l.filterMap (fun i=>es[i]?)=nRows w (l.map fun i=>L.getD i (0,.none))/\((l.map fun i=>L.getD i (0,.none)).map fun p=>p.2.hash w)=l.map fun i=>(es.map (·.1)).getD i 0:=fun l=>by
    induction l with
    | nil=>exact fun _=>⟨rfl,rfl⟩
    | cons i l ih =>
      intro hl
      obtain⟨p,h1,h2⟩:=one i (hl i List.mem_cons_self)
      have h3:=nRows_at hr h1
      obtain⟨e1,e2⟩:=ih fun j hj=>hl j (List.mem_cons_of_mem _ hj)
      refine⟨by rw[List.filterMap_cons_some h3,e1,List.map_cons,h2]; rfl,?_⟩
      rw[List.map_cons,List.map_cons,List.map_cons,e2,h2]
      have h4:(es.map (·.1))[i]?=some (p.2.hash w):=by rw[Array.getElem?_map,h3]; rfl
      simp[Array.getD_eq_getD_getElem?,h4]
  obtain⟨e1,e2⟩:=key order.toList hlt
  refine⟨_,by first | (rw[Array.toList_filterMap]; exact e1) | simpa using e1,?_,e2⟩
  have h1:=hp.map fun i=>L.getD i (0,.none)
  have h2:(List.range L.length).map (fun i=>L.getD i (0,.none))=L:=by
    refine List.ext_getElem (by rw[List.length_map,List.length_range]) fun i h _=>?_
    rw[List.length_map,List.length_range] at h
    rw[List.getElem_map,List.getElem_range,List.getD_eq_getElem?_getD,List.getElem?_eq_getElem h]
    rfl
  rw[h2] at h1
  exact h1
/-- the table laid anew,larger -/
theorem relay_nest {o : Obj} (ho : s.heap.get? a = some o) (hex : o.ExactSet) (hd : o.data = .set es ep t) (hr : es.toList = nRows w L) (T : TabOk t (L.map fun p => p.2.hash w)) (hfl : L.length <= t.mask) (nd : (L.map (·.2)).Nodup) (mem : ∀ p ∈ L, NAt s.heap p.2 p.1)
    (ld:w.params.followText "set-order"=true\/t.led=true) (few:L.length<64) {wanted M:Nat} (hw:SetTable.sizeAbove wanted - 1=M) (hM:MaskOk M) (hw2:SetTable.sizeAbove wanted<=128) (hn:L.length * 5<M * 3) {Q:Unit->Shared->Prop}
    (hQ:∀ h' L' es' ep' t',Heap.SameBut a s.heap h'->SetN w h' a L' es' ep' t'->L'.Perm L->Q () {s with heap:=h'}):wpAny (model P w) A (setRelay a wanted) Q E s:=by
  have hsl:=nRows_len hr
  have hfits:t.fits es.size=true:=by
    have h1:t.place.size=L.length:=by rw[T.sz,List.length_map]
    unfold SetTable.fits SetTable.fill
    rw[T.dm,Bool.and_eq_true,beq_iff_eq,decide_eq_true_eq]
    exact⟨by omega,by show t.place.size+0<=_; omega⟩
  obtain⟨t',order,e,hp,T',em,el,-,-⟩:=relaid_ok t (hs:=es.map (·.1)) (wanted:=wanted) hw hM (by rw[Array.size_map,hsl]; omega)
  rw[Array.size_map,hsl] at hp
  obtain⟨L2,r1,r2,r3⟩:=nRows_order hr hp
  rw[<- r3] at T'
  have hs2:(order.filterMap (es[·]?)).size=es.size:=by rw[nRows_len r1,r2.length_eq,hsl]
  rw[setRelay_eq]
  refine wpAny_bind (wpAny_setState_of ho hd hfits ?_)
  dsimp only
  refine wp_if_neg (by rw[sizeLine_eq]; omega) ?_
  try refine wpAny_bind (wpAny_pure ?_)
  rw[e]
  dsimp only
  refine wpAny_bind (wp_if_neg (by rw[hs2]; simp) ?_)
  try refine wpAny_bind (wpAny_pure ?_)
  refine wpAny_pure ?_
  dsimp only
  refine wpAny_storeSet_of ho hd ?_ (by rw[hs2,hsl,sizeLine_eq]; omega)
  have sb:Heap.SameBut a s.heap (s.heap.update a (Obj.putSet (order.filterMap (es[·]?)) t')):=Heap.SameBut.update ..
  exact hQ _ L2 (order.filterMap (es[·]?)) (ep+1) t' sb ⟨⟨_,store_at ho hd,⟨hex.1,hex.2.1,hex.2.2⟩,rfl⟩,r1,T',(r2.map (·.2)).nodup_iff.mpr nd,fun p hpm=>(mem p (r2.mem_iff.mp hpm)).same ho hd sb,by rw[el]; exact ld,by rw[r2.length_eq,em]; exact hn,by rw[r2.length_eq]; exact few⟩ r2
theorem TabOk.plain {hs:List Int} (T:TabOk t hs) (b:Bool):TabOk {t with plain:=b} hs:=⟨T.ris,T.dm,T.sz,T.mok,T.bd,T.reach⟩
/-- put in -/
theorem SetN.add (R : SetN w s.heap a L es ep t) {x : Addr} {k : NestedKey} (hx : NAt s.heap k x) (hu : A.units + 8 < cLine) (hfew : L.length + 1 < 64) {Q : Bool -> Shared -> Prop}
    (hQ:∀ b h' L' es' ep' t',Heap.SameBut a s.heap h'->SetN w h' a L' es' ep' t'->(k∈L.map (·.2)->L'=L)->(k∉L.map (·.2)->L'.Perm ((x,k)::L))->Q b {s with heap:=h'}):wpAny (model P w) A (setAddHashed a (.ref x) (k.hash w)) Q E s:=by
  obtain⟨o,ho,hex,hd⟩:=R.ob
  have hsl:=nRows_len R.rows
  have hroom:=R.room
  unfold setAddHashed
  refine wpAny_holding ?_
  rw[show(100000:Nat)=99999+1 from rfl,setAddHashedIn_succ]
  refine wpAny_bind (wpAny_setState_of ho hd R.fits ?_)
  dsimp only
  refine wp_if_neg (by simp[byScan,Value.scannable]) ?_
  try refine wpAny_bind (wpAny_pure ?_)
  refine wpAny_bind (R.look hx hu (fun hm=>?_) fun K hm hK hb=>?_)
  . exact wpAny_pure (hQ false s.heap L es ep t (Heap.SameBut.refl a s.heap) R (fun _=>rfl) fun z=>absurd hm z)
  . dsimp only
    refine wpAny_bind (wpAny_setState_of ho hd R.fits ?_)
    dsimp only
    obtain⟨q1,-,q3,q4,q5,-,-,-,q9⟩:=R.tab.put hK hb
    have hin:(SetTable.insertAt es (SetTable.below t.place (way t.mask (k.hash w) K)) (k.hash w,Value.ref x)).toList=nRows w (L.take (SetTable.below t.place (way t.mask (k.hash w) K))++(x,k)::L.drop (SetTable.below t.place (way t.mask (k.hash w) K))):=by
      rw[SetTable.toList_insertAt,R.rows]
      unfold nRows
      rw[List.map_append,List.map_cons,List.map_take,List.map_drop]
    have hhs:(L.take (SetTable.below t.place (way t.mask (k.hash w) K))++(x,k)::L.drop (SetTable.below t.place (way t.mask (k.hash w) K))).map (fun p=>p.2.hash w)=(L.map fun p=>p.2.hash w).take (SetTable.below t.place (way t.mask (k.hash w) K))++k.hash w::(L.map fun p=>p.2.hash w).drop (SetTable.below t.place (way t.mask (k.hash w) K)):=by
      rw[List.map_append,List.map_cons,List.map_take,List.map_drop]
    rw[<- hhs] at q3
    have pm:=put_perm L (SetTable.below t.place (way t.mask (k.hash w) K)) (x,k)
    generalize hpt:t.put (way t.mask (k.hash w) K)=pt at q1 q3 q4 q5 q9 ⊢
    obtain⟨t1,p⟩:=pt
    dsimp only at q1 q3 q4 q5 q9 ⊢
    subst q1
    have hes:=nRows_len hin
    have hlen:=pm.length_eq
    rw[List.length_cons] at hlen
    have nd1:((L.take (SetTable.below t.place (way t.mask (k.hash w) K))++(x,k)::L.drop (SetTable.below t.place (way t.mask (k.hash w) K))).map (·.2)).Nodup:=by
      refine(pm.map (·.2)).nodup_iff.mpr ?_
      rw[List.map_cons]
      exact List.nodup_cons.mpr ⟨hm,R.nd⟩
    generalize L.take (SetTable.below t.place (way t.mask (k.hash w) K))++(x,k)::L.drop (SetTable.below t.place (way t.mask (k.hash w) K))=L1 at pm hlen q3 nd1 hin hes
    generalize SetTable.insertAt es (SetTable.below t.place (way t.mask (k.hash w) K)) (k.hash w,Value.ref x)=es1 at hin hes ⊢
    have main:∀ t2:SetTable,TabOk t2 (L1.map fun p=>p.2.hash w)->t2.mask=t.mask->t2.led=t.led->t2.fill=L.length+1->wpAny (model P w) A (do storeSet a es1 t2; (if (!false&&t2.tooFull)=true then do setRelay a (SetTable.grown (es.size+1)); pure true else pure true)) Q E s:=fun t2 T2 m2 l2 f2=>by
      refine wpAny_bind (wpAny_storeSet_of ho hd ?_ (by rw[hes,hlen,sizeLine_eq]; omega))
      have sb:Heap.SameBut a s.heap (s.heap.update a (Obj.putSet es1 t2)):=Heap.SameBut.update ..
      have ho1:=store_at (es':=es1) (t':=t2) ho hd
      generalize s.heap.update a (Obj.putSet es1 t2)=h1 at sb ho1 ⊢
      have mem1:∀ p∈L1,NAt h1 p.2 p.1:=fun p hp=>by
        rcases List.mem_cons.mp (pm.mem_iff.mp hp) with e | hp
        . rw[e]; exact hx.same ho hd sb
        . exact(R.mem p hp).same ho hd sb
      have ld1:w.params.followText "set-order"=true\/t2.led=true:=by rw[l2]; exact R.led
      by_cases hf:t2.tooFull=true
      . refine wp_if_pos (by simp[hf]) (wpAny_bind ?_)
        have hfull:(L.length+1) * 5≥t2.mask * 3:=by
          have h:=hf
          unfold SetTable.tooFull at h
          rw[decide_eq_true_eq,f2] at h
          exact h
        rw[hsl]
        have two:(t.mask=7/\L.length=4)\/(t.mask=31/\L.length=18):=by
          rcases R.tab.mok with e | e | e
          . left; rw[m2,e] at hfull; rw[e] at hroom; exact⟨e,by omega⟩
          . right; rw[m2,e] at hfull; rw[e] at hroom; exact⟨e,by omega⟩
          . exfalso; rw[m2,e] at hfull; omega
        have go:∀ M,SetTable.sizeAbove (SetTable.grown (L.length+1)) - 1=M->MaskOk M->SetTable.sizeAbove (SetTable.grown (L.length+1))<=128->(L.length+1) * 5<M * 3->wpAny (model P w) A (setRelay a (SetTable.grown (L.length+1))) (fun _ s'=>wpAny (model P w) A (pure true) Q E s') E {s with heap:=h1}:=fun M g1 g2 g3 g4 =>
          relay_nest (s:={s with heap:=h1}) ho1 ⟨hex.1,hex.2.1,hex.2.2⟩ rfl hin T2 (by rw[hlen,m2]; rcases two with ⟨e,e2⟩ | ⟨e,e2⟩<;>omega) nd1 mem1 ld1 (by rw[hlen]; exact hfew) g1 g2 g3 (by rw[hlen]; exact g4) fun h2 L2 es2 ep2 t3 sb2 R2 pm2=>wpAny_pure (hQ true h2 L2 es2 ep2 t3 (sb.trans sb2) R2 (fun z=>absurd z hm) fun _=>pm2.trans pm)
        rcases two with ⟨_,e2⟩ | ⟨_,e2⟩
        . exact go 31 (by rw[e2,size_20]) (.inr (.inl rfl)) (by rw[e2,size_20]; decide) (by omega)
        . exact go 127 (by rw[e2,size_76]) (.inr (.inr rfl)) (by rw[e2,size_76]; decide) (by omega)
      . refine wp_if_neg (by simp[hf]) (wpAny_pure (hQ true h1 L1 es1 (ep+1) t2 sb ⟨⟨_,ho1,⟨hex.1,hex.2.1,hex.2.2⟩,rfl⟩,hin,T2,nd1,mem1,ld1,?_,by rw[hlen]; exact hfew⟩ (fun z=>absurd z hm) fun _=>pm))
        have h:=hf
        unfold SetTable.tooFull at h
        rw[decide_eq_true_eq,f2] at h
        rw[hlen]
        omega
    have f1:t1.fill=L.length+1:=by rw[q9,List.length_map]
    have fin:∀ b,wpAny (model P w) A (do storeSet a es1 (if b=true then t1 else {t1 with plain:=false}); (if (!false&&(if b=true then t1 else {t1 with plain:=false}).tooFull)=true then do setRelay a (SetTable.grown (es.size+1)); pure true else pure true)) Q E s:=fun b=>by
      cases b with
      | true=>exact main t1 q3 q4 q5 f1
      | false=>exact main {t1 with plain:=false} (TabOk.plain q3 false) q4 q5 f1
    by_cases hpl:t1.plain=true
    . exact wp_if_pos hpl (wpAny_bind (byV_nest 8 k _ _ hx.1 hx.2 fin))
    . exact wp_if_neg hpl (wpAny_bind (wpAny_pure (fin true)))
end
open PySem PySem.Spec PyProof.Rows L2
theorem perm_unmap {α β:Type}{f:α->β}{ys vs:List β} (h:ys.Perm vs):∀ L:List α,ys=L.map f->∃ L1:List α,vs=L1.map f/\L1.Perm L:=by
  induction h with
  | nil=>exact fun L e=>⟨[],rfl,by rw[List.map_eq_nil_iff.mp e.symm]⟩
  | cons x _ ih =>
    intro L e
    cases L with
    | nil=>cases e
    | cons p L =>
      injection e with e1 e2
      obtain⟨L1,h1,h2⟩:=ih L e2
      exact⟨p::L1,by rw[h1,e1]; rfl,h2.cons p⟩
  | swap x y l =>
    intro L e
    match L,e with
    | p::q::L,e =>
      injection e with e1 e2
      injection e2 with e2 e3
      exact⟨q::p::L,by rw[e1,e2,e3]; rfl,List.Perm.swap ..⟩
  | trans _ _ i1 i2 =>
    intro L e
    obtain⟨L1,h1,h2⟩:=i1 L e
    obtain⟨L2,h3,h4⟩:=i2 L1 h1
    exact⟨L2,h3,h4.trans h2⟩
def nkT(d:D):NestedKey:=(nkD d).getD .none
section
variable {P:Program}{w:World}{H R:Hp}{h:Heap}{K:PySem.W.Frag}
mutual
theorem nest_reads(ok:HOk P w H h) (sub:∀ a o,R a=some o->H a=some o):∀ (d:D) {k:NestedKey}{v:V}{u:Value},nkD d=some k->Rep K R d v->RelV v u->Reads h u (toP d) []
  | .int i,k,v,u,_,r,q=>by
    rw[rep_int r] at q
    obtain⟨t,rfl⟩:=(show ∃ t,u=Value.int i t from q)
    exact .int i t
  | .str x,k,v,u,_,r,q=>by
    rw[show v=.str x from r] at q
    obtain⟨t,rfl⟩:=(show ∃ t,u=Value.str x t from q)
    exact .str x t
  | .tup ds,k,v,u,e,r,q=>by
    have e:(nkDs ds).map NestedKey.tup=some k:=e
    obtain⟨ks,e1,rfl⟩:=Option.map_eq_some_iff.mp e
    obtain⟨p,xs,rfl,h1,h2⟩:=rep_tup r
    obtain rfl:u=Value.ref p:=q
    obtain⟨_,its,rr,o,g1,g2,m,g3⟩:=(show ObjOk P w H h p (.tup xs) from ok p _ (sub _ _ h1))
    exact .tuple g1 g2 g3 (by simpa using nests_reads ok sub ds e1 h2 rr)
  | .non,_,_,_,e,_,_=>by cases e
  | .bl _,_,_,_,e,_,_=>by cases e
  | .lst _,_,_,_,e,_,_=>by cases e
  | .ins _ _,_,_,_,e,_,_=>by cases e
  | .ref _,_,_,_,e,_,_=>by cases e
  | .dic _,_,_,_,e,_,_=>by cases e
  | .dicT _,_,_,_,e,_,_=>by cases e
  | .exc _ _,_,_,_,e,_,_=>by cases e
  | .clo _ _,_,_,_,e,_,_=>by cases e
  | .lam _ _,_,_,_,e,_,_=>by cases e
  | .ty _,_,_,_,e,_,_=>by cases e
theorem nests_reads(ok:HOk P w H h) (sub:∀ a o,R a=some o->H a=some o):∀ (ds:List D) {ks:List NestedKey}{vs:List V}{us:List Value},nkDs ds=some ks->Reps K R ds vs->Vals vs us->ReadsAll h us (toPs ds) []
  | [],ks,vs,us,e,r,q=>by
    have r:vs=[]:=r
    subst r
    cases q
    exact .nil
  | d::ds,ks,vs,us,e,⟨v,vs',ev,r1,r2⟩,q=>by
    subst ev
    have e:(match nkD d,nkDs ds with
      | some k,some ks=>some (k::ks)
      | _,_=>none)=some ks:=e
    cases q with
    | cons q qs =>
      cases e1:nkD d with
      | none=>rw[e1] at e; cases e
      | some k =>
        cases e2:nkDs ds with
        | none=>rw[e1,e2] at e; cases e
        | some ks' =>
          have h1:=nest_reads ok sub d e1 r1 q
          have h2:=nests_reads ok sub ds e2 r2 qs
          exact .cons (as:=[]) (bs:=[]) h1 h2
end
end
section
variable {P:Program}{w:World}{A:Around}{E:Value->Shared->Prop}{s:Shared}{a:Addr}{es:Array (Int × Value)}{ep:Nat}{t:SetTable}
/-- set.add -/
theorem SetN.call {L : List (Addr × NestedKey)} (R : SetN w s.heap a L es ep t) {x : Addr} {k : NestedKey} (hx : NAt s.heap k x) (hu : A.units + 16 < cLine) (hfew : L.length + 1 < 64) {Q : Value -> Shared -> Prop}
    (hQ:∀ h' L' es' ep' t' tk,Heap.SameBut a s.heap h'->SetN w h' a L' es' ep' t'->(k∈L.map (·.2)->L'=L)->(k∉L.map (·.2)->L'.Perm ((x,k)::L))->Q .none {s with heap:=h',toks:=tk}) :
    wpAny (model P w) A (call (.builtin "set.add") [.ref a,.ref x]) Q E s:=by
  obtain⟨o,ho,hex,hd⟩:=id R.ob
  refine wpAny_call_entry PySem.F.slot_set_add ⟨o,ho,hex.1⟩ PySem.F.entry_set_add ?_ (PySem.F.args_set_add_2 _ _)
  unfold Builtin.«set.add» Builtin.Frozenset.oneOther
  simp only[List.isEmpty_nil,bind_assoc]
  unfold Builtin.Frozenset.addrOf setAdd
  refine wpAny_bind (wpAny_pure ?_)
  try dsimp only
  refine wpAny_bind (wpAny_pure ?_)
  try dsimp only
  refine wpAny_bind (wpAny_holding (wpAny_bind ((nestedKind P w).pyHash (show A.in1.units+8<cLine by show A.units+1+8<cLine; omega) hx ?_)))
  refine SetN.add (s:={s with toks:=s.toks+k.draws}) R hx (show A.in1.units+8<cLine by show A.units+1+8<cLine; omega) hfew fun b h' L' es' ep' t' sb S c1 c2=>?_
  show wpAny _ _ (ret Value.none) _ _ _
  exact wpAny_pure ⟨_,rfl,hQ h' L' es' ep' t' _ sb S c1 c2⟩
theorem each_of {α β:Type}{Rl:α->β->Prop}{γ:Type}{f:γ->α}{g:γ->β}:∀ l:List γ,(∀ z∈l,Rl (f z) (g z))->PySem.W.EachIs Rl (l.map f) (l.map g)
  | [],_=>.nil
  | z::l,h=>.cons (h z List.mem_cons_self) (each_of l fun y hy=>h y (List.mem_cons_of_mem _ hy))
/-- sorted(s),s such a set -/
theorem sorted_nest {K : PySem.W.Frag} {R H : Hp} {Z : List (Addr × D)} (ok : ∀ h', (∀ b o, s.heap.get? b = some o -> h'.get? b = some o) -> HOk P w H h') (sub : ∀ a o, R a = some o -> H a = some o) (S : SetN w s.heap a (Z.map fun z => (z.1, nkT z.2)) es ep t) (hZ : ∀ z ∈ Z, nkD z.2 = some (nkT z.2) /\ Rep K R z.2 (.ref z.1))
    (hh:A.handled=none) (hal:PySem.W.AllAlike (Z.map fun z=>toP z.2)) (hso:PySem.W.Sortable (Z.map fun z=>toP z.2)) (hdp:∀ z∈Z,A.units+3+(toP z.2).depth<cLine) {Q:Value->Shared->Prop}
    (hQ:∀ s' p (out:Array Value) (c:Nat) (bs:List D),(∀ b o,s.heap.get? b=some o->s'.heap.get? b=some o)->s'.gens=s.gens->s'.os=s.os->s.heap.objs.size<=p->s'.heap.get? p=some (seqObj "list" out c)->bs.Perm (Z.map (·.2))->PySem.W.EachIs (fun u d=>∃ v,RelV v u/\Rep K R d v) out.toList (bs.mergeSort (PySem.W.dataLe false toP))->Q (.ref p) s') :
    wpAny (model P w) A (call (.builtin "sorted") [.ref a]) Q E s:=by
  obtain⟨o,ho,hex,hd⟩:=S.ob
  have hsz:=nRows_len S.rows
  have hfew:=S.few
  rw[List.length_map] at hsz hfew
  refine Calls.call_function_entry kind_sorted plain_sorted entry_sorted (args_sorted1 _) ?_
  unfold Builtin.«sorted»
  refine wpAny_bind (m:=checkCount "sorted" 1 1 _) (wpAny_pure ?_)
  refine wpAny_bind (collect_set (A:=A.in1) hh ⟨o,ho,hex.1,hd⟩ S.fits (by unfold scanBound; omega) S.tab.ris S.led fun s1 vs k1 hz g1 o1 pm=>?_)
  have hes:es.toList.map (·.2)=Z.map fun z=>Value.ref z.1:=by
    rw[S.rows]
    unfold nRows
    rw[List.map_map,List.map_map]
    rfl
  rw[hes] at pm
  obtain⟨Z1,rfl,pz⟩:=perm_unmap pm.symm Z rfl
  have hzl:Z1.length<64:=by rw[pz.length_eq]; exact hfew
  refine wpAny_bind (wpAny_newList ?_ (by rw[List.length_map,sizeLine_eq]; omega))
  have hoL:(s1.heap.push (seqObj "list" (Z1.map fun z=>Value.ref z.1).toArray 0)).get? s1.heap.objs.size=some (seqObj "list" (Z1.map fun z=>Value.ref z.1).toArray 0):=Heap.get?_push_size _ rfl
  have kp:∀ b o,s.heap.get? b=some o->(s1.heap.push (seqObj "list" (Z1.map fun z=>Value.ref z.1).toArray 0)).get? b=some o:=fun b o e=>Heap.get?_push_of_some _ (k1 b o e)
  have hmem:∀ d,d∈(Z1.map (·.2)).map toP->d∈Z.map fun z=>toP z.2:=fun d hd=>by
    rw[List.map_map] at hd
    exact(pz.map fun z=>toP z.2).mem_iff.mp hd
  have e:PySem.W.EachIs (fun u d=>∃ v,RelV v u/\Rep K R d v) (Z1.map fun z=>Value.ref z.1) (Z1.map (·.2)):=each_of Z1 fun z hz=>⟨.ref z.1,rfl,(hZ z (pz.mem_iff.mp hz)).2⟩
  have er:PySem.W.EachIs (fun u d=>∃ as,Reads (s1.heap.push (seqObj "list" (Z1.map fun z=>Value.ref z.1).toArray 0)) u (toP d) as/\s1.heap.objs.size∉as) (Z1.map fun z=>Value.ref z.1) (Z1.map (·.2)):=each_of Z1 fun z hz=>by
    obtain⟨h1,h2⟩:=hZ z (pz.mem_iff.mp hz)
    exact⟨[],nest_reads (ok _ kp) sub z.2 h1 h2 rfl,by simp⟩
  refine wpAny_bind (wpAny_holding (PySem.W.list_sort_data (enc:=toP) (s:={s1 with heap:=s1.heap.push (seqObj "list" (Z1.map fun z=>Value.ref z.1).toArray 0)}) hoL e er (fun d hd d' hd'=>hal d (hmem d hd) d' (hmem d' hd')) ?_ (by rw[List.length_map,sizeLine_eq]; omega) (fun d hd=>?_) fun out hlo eo=>?_))
  . rcases hso with z | z
    . exact .inl fun d hd=>z d (hmem d hd)
    . exact .inr fun d hd=>z d (hmem d hd)
  . obtain⟨z,hz,rfl⟩:=List.mem_map.mp hd
    have:=hdp z (pz.mem_iff.mp hz)
    show A.units+1+1+_<_
    omega
  . obtain⟨c,hc⟩:=sortedHeap_at (vs:=Z1.map fun z=>Value.ref z.1) (out:=List.toArray out) hoL
    refine wpAny_pure ⟨_,rfl,hQ _ s1.heap.objs.size (List.toArray out) c (Z1.map (·.2)) (fun b u e=>?_) g1 o1 hz hc (pz.map (·.2)) (by simpa using eo)⟩
    have q:=k1 b u e
    have hlt:=Heap.lt_size q
    show(sortedHeap (s1.heap.push (seqObj "list" (Z1.map fun z=>Value.ref z.1).toArray 0)) s1.heap.objs.size (Z1.map fun z=>Value.ref z.1) (List.toArray out)).get? b=some u
    rw[sortedHeap_old (Nat.ne_of_lt hlt) (by rw[size_push']; exact Nat.lt_succ_of_lt hlt)]
    exact Heap.get?_push_of_some _ q
end
open PySem PySem.Spec PyProof.Rows L2
mutual
theorem nkD_inj:∀ {d d':D}{k:NestedKey},nkD d=some k->nkD d'=some k->d=d'
  | .int i,d',k,h,h'=>by
    have h:some (NestedKey.num i)=some k:=h
    cases h
    cases d' with
    | int j =>
      have h':some (NestedKey.num j)=some (NestedKey.num i):=h'
      cases h'
      rfl
    | tup ds =>
      have h':(nkDs ds).map NestedKey.tup=some (NestedKey.num i):=h'
      obtain⟨_,_,e⟩:=Option.map_eq_some_iff.mp h'
      cases e
    | str y=>cases (show some (NestedKey.text y)=some (NestedKey.num i) from h')
    | _=>cases h'
  | .str x,d',k,h,h'=>by
    have h:some (NestedKey.text x)=some k:=h
    cases h
    cases d' with
    | str y =>
      have h':some (NestedKey.text y)=some (NestedKey.text x):=h'
      cases h'
      rfl
    | tup ds =>
      have h':(nkDs ds).map NestedKey.tup=some (NestedKey.text x):=h'
      obtain⟨_,_,e⟩:=Option.map_eq_some_iff.mp h'
      cases e
    | int j=>cases (show some (NestedKey.num j)=some (NestedKey.text x) from h')
    | _=>cases h'
  | .tup ds,d',k,h,h'=>by
    have h:(nkDs ds).map NestedKey.tup=some k:=h
    obtain⟨ks,e1,rfl⟩:=Option.map_eq_some_iff.mp h
    cases d' with
    | tup ds' =>
      have h':(nkDs ds').map NestedKey.tup=some (NestedKey.tup ks):=h'
      obtain⟨ks',e2,e3⟩:=Option.map_eq_some_iff.mp h'
      injection e3 with e3
      subst e3
      rw[nkDs_inj e1 e2]
    | int j=>cases (show some (NestedKey.num j)=some (NestedKey.tup ks) from h')
    | str y=>cases (show some (NestedKey.text y)=some (NestedKey.tup ks) from h')
    | _=>cases h'
  | .non,_,_,h,_=>by cases h
  | .bl _,_,_,h,_=>by cases h
  | .lst _,_,_,h,_=>by cases h
  | .ins _ _,_,_,h,_=>by cases h
  | .ref _,_,_,h,_=>by cases h
  | .dic _,_,_,h,_=>by cases h
  | .dicT _,_,_,h,_=>by cases h
  | .exc _ _,_,_,h,_=>by cases h
  | .clo _ _,_,_,h,_=>by cases h
  | .lam _ _,_,_,h,_=>by cases h
  | .ty _,_,_,h,_=>by cases h
theorem nkDs_inj:∀ {ds ds':List D}{ks:List NestedKey},nkDs ds=some ks->nkDs ds'=some ks->ds=ds'
  | [],ds',ks,h,h'=>by
    have h:some ([]:List NestedKey)=some ks:=h
    cases h
    cases ds' with
    | nil=>rfl
    | cons d r =>
      have h':(match nkD d,nkDs r with
        | some k,some ks=>some (k::ks)
        | _,_=>none)=some []:=h'
      split at h'<;>cases h'
  | d::ds,ds',ks,h,h'=>by
    have h:(match nkD d,nkDs ds with
      | some k,some ks=>some (k::ks)
      | _,_=>none)=some ks:=h
    cases e1:nkD d with
    | none=>rw[e1] at h; cases h
    | some k =>
      cases e2:nkDs ds with
      | none=>rw[e1,e2] at h; cases h
      | some ks0 =>
        rw[e1,e2] at h
        cases h
        cases ds' with
        | nil =>
          have h':some ([]:List NestedKey)=some (k::ks0):=h'
          cases h'
        | cons d' r =>
          have h':(match nkD d',nkDs r with
            | some k,some ks=>some (k::ks)
            | _,_=>none)=some (k::ks0):=h'
          cases e3:nkD d' with
          | none=>rw[e3] at h'; cases h'
          | some k' =>
            cases e4:nkDs r with
            | none=>rw[e3,e4] at h'; cases h'
            | some ks' =>
              rw[e3,e4] at h'
              cases h'
              rw[nkD_inj e1 e3,nkDs_inj e2 e4]
end
/-- a member: a tuple that may be a key -/
def KeyN(d:D):Prop:=∃ ks,nkD d=some (.tup ks)/\(NestedKey.tup ks).depth<=8
def CompS(Kp:D->Prop) (g:TGD) (A:TB) (T:TD) (c:Ct) (env:Ev):List L3.D->List L3.D->(List L3.D->Prop)->Prop
  | [],acc,φ=>φ acc
  | d::ds,acc,φ=>g d env fun env'=>A c env' fun k=>if k=true then T c env' fun y=>(acc.length+1<64/\Kp y)/\CompS Kp g A T c env ds (acc++[y]) φ else CompS Kp g A T c env ds acc φ
theorem compS_map {α:Type}{Kp:D->Prop}{g:TGD}{A:TB}{T:TD}{c:Ct}{env:Ev}{enc f:α->D}{φ:List D->Prop}:∀ (xs:List α) (acc:List D),
    (∀ x∈xs,∀ (acc:List D) (ψ:List D->Prop),acc.length+1<64->ψ (acc++[f x])->g (enc x) env fun env'=>A c env' fun k=>if k=true then T c env' fun y=>(acc.length+1<64/\Kp y)/\ψ (acc++[y]) else ψ acc)->acc.length+xs.length<64->φ (acc++xs.map f)->CompS Kp g A T c env (xs.map enc) acc φ
  | [],acc,_,_,q=>by rw[List.map_nil,List.append_nil] at q; exact q
  | x::r,acc,h,hl,q=>by
    rw[List.length_cons] at hl
    exact h x List.mem_cons_self acc (fun out=>CompS Kp g A T c env (r.map enc) out φ) (by omega) (compS_map r (acc++[f x]) (fun y hy=>h y (List.mem_cons_of_mem _ hy)) (by rw[List.length_append]; show acc.length+1+_<_; omega) (by rw[List.append_assoc]; exact q))
abbrev zf (z:Addr × D):Addr × NestedKey:=(z.1,nkT z.2)
/-- the rows of the set,the values met -/
structure LnkS (K:PySem.W.Frag) (R:Hp) (acc:List D) (Z:List (Addr × D)):Prop where
  one:∀ z∈Z,nkD z.2=some (nkT z.2)/\(nkT z.2).depth<=8/\Rep K R z.2 (.ref z.1)/\z.2∈acc
  all:∀ y∈acc,y∈Z.map (·.2)
  len:Z.length<=acc.length
theorem LnkS.mono {K:PySem.W.Frag}{R R':Hp}{acc:List D}{Z:List (Addr × D)} (h:LnkS K R acc Z) (s:Same R R'):LnkS K R' acc Z:=⟨fun z hz=>let ⟨a,b,c,d⟩:=h.one z hz; ⟨a,b,c.mono s,d⟩,h.all,h.len⟩
/-- the set's object,whatever stands around it -/
structure SetD (w:World) (od:Obj) (L:List (Addr × NestedKey)):Prop where
  ex:∃ (es:Array (Int × Value)) (ep:Nat) (t:SetTable),od.ExactSet/\od.data=.set es ep t/\es.toList=nRows w L/\TabOk t (L.map fun p=>p.2.hash w)/\(L.map (·.2)).Nodup/\(w.params.followText "set-order"=true\/t.led=true)/\L.length * 5<t.mask * 3/\L.length<64
theorem SetD.full {w:World}{od:Obj}{L:List (Addr × NestedKey)}{h:Heap}{a:Addr} (S:SetD w od L) (e:h.get? a=some od) (m:∀ p∈L,NAt h p.2 p.1):∃ es ep t,SetN w h a L es ep t:=by
  obtain⟨es,ep,t,h1,h2,h3,h4,h5,h6,h7,h8⟩:=S.ex
  exact⟨es,ep,t,⟨od,e,h1,h2⟩,h3,h4,h5,m,h6,h7,h8⟩
theorem SetN.obj {w:World}{h:Heap}{a:Addr}{L:List (Addr × NestedKey)}{es:Array (Int × Value)}{ep:Nat}{t:SetTable} (S:SetN w h a L es ep t):∃ od,h.get? a=some od/\SetD w od L/\∀ v,od.data≠.cell v:=by
  obtain⟨od,e,h1,h2⟩:=S.ob
  exact⟨od,e,⟨es,ep,t,h1,h2,S.rows,S.tab,S.nd,S.led,S.room,S.few⟩,fun v z=>by rw[h2] at z; cases z⟩
theorem setD_new(w:World):SetD w {cls:=.type "set",dict:=none,data:=.set #[] 0 (.fresh 0 0 (!w.params.followText "set-order"))} []:=by
  refine⟨#[],0,.fresh 0 0 (!w.params.followText "set-order"),⟨rfl,rfl,rfl⟩,rfl,rfl,⟨List.Pairwise.nil,rfl,rfl,.inl rfl,fun x hx=>(by cases hx),fun i h j hi=>(by simp at hi)⟩,List.nodup_nil,?_,(show 0 * 5<7 * 3 by decide),(show 0<64 by decide)⟩
  show _\/(!w.params.followText "set-order")=true
  cases w.params.followText "set-order"
  . exact .inr rfl
  . exact .inl rfl
section
variable {X:Cx}{W:WX}{tg elt iter:Expr}{pos:Pos}{A:TB}{T:TD}
theorem scN_core {pins : List (Addr × Obj)} {s : Shared} {σ : L2.St} {H : Hp} {S : Sta} {R : Hp} {env : Ev} {φ : List L3.D -> Prop} {ifs : List Expr} {scope : Scope} {own : List (Str × Nat)} {pos' : Pos} {U : TL} {g : TGD} {Qf : Value -> Shared -> Prop}
    (hc:X.calm=true) (hN:X.N.Nodup) (lk:Lk X.K S W) (ok0:Ok3 X.K S R H σ env) (I:L2.Inv X pins σ H s) (hi:DI X W tg iter U) (ok:BlkOk X.N X.env.scope scope own) (hu:X.A.units+64<cLine)
    (hg:∀ (s:Shared) (H:Hp) (C:Addr) (cl:List (Str × Addr)) (fp:List Addr),DG (X.blk s H scope (compEnvC scope cl C X.env) fp) (own.map (·.2)) tg g)
    (ht:∀ (s:Shared) (H:Hp) (C:Addr) (cl:List (Str × Addr)) (fp:List Addr),PTs (X.blk s H scope (compEnvC scope cl C X.env) fp) ifs (tB3 X.K WF A))
    (he:∀ (s:Shared) (H:Hp) (C:Addr) (cl:List (Str × Addr)) (fp:List Addr),DE (X.blk s H scope (compEnvC scope cl C X.env) fp) WF elt T)
    (hs:∀ x,foldedSetIterable iter X.env x=pure x)
    (h:U S.c env fun ds=>CompS KeyN g A T S.c.in (wipeD env (own.map (·.2))) ds [] φ)
    (hRR:∀ D C s' m H' R' Z od acc,L2.Inv X pins σ H' s'->Fin S.c.wd R H R' H'->s'.heap.get? D=some od->SetD X.w od (Z.map zf)->LnkS X.K R' acc Z->φ acc->s'.heap.Ns C m->FpOk X pins H' C->D≠C->compPost (model X.prog X.w) X.A X.xe none Qf (.ref D) C (.ok .next) s') :
    wpAny (model X.prog X.w) X.A (comprehension (.SetComp elt [⟨tg,iter,ifs,0⟩] scope pos) scope X.env pos' (newSet (.type "set")) false (eval iter X.env) none) Qf X.xe s:=by
  have hfree:∀ y∈scope.names,y.2=.free->∃ c,X.env.cells.lookup y.1=some c:=fun y hy e=>by
    rcases ok.free y hy e with k | k
    . exact I.ok.has _ (.inl k)
    . exact I.ok.has _ (.inr k)
  refine wpAny_comprehension_free (use:=none) rfl hs (closure_ok hfree) ok.kind (fun y hy e=>by rw[ok.uniq y hy,e])
    (thn (hi.run pins s σ H (fun J H'=>∃ R' ds,Fin S.c.wd R H R' H'/\ItOk X.K S.c.wd J R' ds/\CompS KeyN g A T S.c.in (wipeD env (own.map (·.2))) ds [] φ) I ⟨S,R,env,_,lk,ok0,h,fun J H' R' ds f io q=>⟨R',ds,f,io,q⟩⟩) fun xv s1 hx=>thn hx fun itv s2 h2=>?_)
  obtain⟨it,fp,tn,J,H2,e,I2,tt,st2,f2f,R2,ds,f2,io,q2⟩:=h2
  subst e
  refine PpSet.newSet_ok (newEnv_comp ?_)
  have hDn:H2 s2.heap.objs.size=none:=I2.hok.fresh (Nat.le_refl _)
  have hsys:=(dt_empty (P:=X.prog) (w:=X.w) (H:=upd H2 s2.heap.objs.size (.dT [])) s2.heap I2.big).2.1
  have fD:=I2.fpOk (H':=H2) (Nat.le_refl s2.heap.objs.size) hDn
  have I3:L2.Inv X pins σ H2 {s2 with heap:=s2.heap.push {cls:=.type "set",dict:=none,data:=.set #[] 0 (.fresh 0 0 (!X.w.params.followText "set-order"))}}:=I2.kept (t':=s2.toks) fun b o q=>Heap.get?_push_of_some _ q
  have hD3:(s2.heap.push {cls:=.type "set",dict:=none,data:=.set #[] 0 (.fresh 0 0 (!X.w.params.followText "set-order"))}).get? s2.heap.objs.size=some {cls:=.type "set",dict:=none,data:=.set #[] 0 (.fresh 0 0 (!X.w.params.followText "set-order"))}:=Heap.get?_push_size _ rfl
  have sz:∀ b∈fp,b<s2.heap.objs.size:=fun b hb=>by
    obtain⟨o,e,_⟩:=tt.obj _ _ st2 b hb
    exact Heap.lt_size e
  generalize hD:s2.heap.objs.size=D at hDn hsys fD hD3 sz
  generalize hs3:({s2 with heap:=s2.heap.push {cls:=.type "set",dict:=none,data:=.set #[] 0 (.fresh 0 0 (!X.w.params.followText "set-order"))}}:Shared)=s3 at I3
  have h3:s3.heap=s2.heap.push {cls:=.type "set",dict:=none,data:=.set #[] 0 (.fresh 0 0 (!X.w.params.followText "set-order"))}:=by rw[<- hs3]
  have z3:s3.heap.objs.size=D+1:=by rw[h3,Heap.size_push,hD]
  rw[<- h3] at hD3
  have f3:∀ b∈D::fp,FpOk X pins H2 b/\b<s3.heap.objs.size:=fun b hb=>by
    rcases List.mem_cons.mp hb with e | hb
    . subst e
      exact⟨fD,by rw[z3]; exact Nat.lt_succ_self _⟩
    . exact⟨f2f b hb,by rw[z3]; exact Nat.lt_succ_of_lt (sz b hb)⟩
  have st3:tn 0 s3.heap:=tt.keep _ _ _ st2 fun b _ o e=>by rw[h3]; exact Heap.get?_push_of_some _ e
  have I4:=block_start I3 ok hN f3
  have pg:=hg s3 H2 s3.heap.objs.size (cellsFrom (s3.heap.objs.size+1) scope.names (cloFrom X.env.cells scope.names [])) (D::fp)
  have pt:=ht s3 H2 s3.heap.objs.size (cellsFrom (s3.heap.objs.size+1) scope.names (cloFrom X.env.cells scope.names [])) (D::fp)
  have pe:=he s3 H2 s3.heap.objs.size (cellsFrom (s3.heap.objs.size+1) scope.names (cloFrom X.env.cells scope.names [])) (D::fp)
  show codeAny _ _ (.compStart (.SetComp elt [⟨tg,iter,ifs,0⟩] scope pos) 0 (.ref it) (.ref D) (compEnvC scope (cellsFrom (s3.heap.objs.size+1) scope.names (cloFrom X.env.cells scope.names [])) s3.heap.objs.size X.env)) (compPost (model X.prog X.w) X.A X.xe none Qf (.ref D) s3.heap.objs.size) {s3 with heap:=pushCells (s3.heap.push {cls:=.type "dict",data:=.dict #[]}) scope.names}
  generalize hce:compEnvC scope (cellsFrom (s3.heap.objs.size+1) scope.names (cloFrom X.env.cells scope.names [])) s3.heap.objs.size X.env=ce at I4 pg pt pe ⊢
  have cL:ce.locals=s3.heap.objs.size:=by subst hce; rfl
  generalize hs4:({s3 with heap:=pushCells (s3.heap.push {cls:=.type "dict",data:=.dict #[]}) scope.names}:Shared)=s4 at I4 ⊢
  have kp34:∀ b o,s3.heap.get? b=some o->s4.heap.get? b=some o:=fun b o e=>by rw[<- hs4]; exact pushCells_keeps _ _ _ _ (Heap.get?_push_of_some _ e)
  have st4:tn 0 s4.heap:=tt.keep _ _ _ st3 fun b _ o e=>kp34 b o e
  have fdD:∀ b∈fp,b≠D:=fun b hb=>Nat.ne_of_lt (sz b hb)
  have AD:Asd (X.blk s3 H2 scope ce (D::fp)) [] D:=⟨(I4.ok.exf D List.mem_cons_self).1,I4.ok.exfs D List.mem_cons_self,.inl List.mem_cons_self,(I4.ok.exf D List.mem_cons_self).2,fun p hp=>absurd (show p∈([]:List (Addr × Obj))++[] from hp) (by simp),hsys⟩
  have stat:∀ {σ':L2.St}{H':Hp}{s':Shared}{od:Obj},L2.Inv (X.blk s3 H2 scope ce (D::fp)) [(D,od)] σ' H' s'->(∀ b∈fp,H' b=none)->∀ b∈fp,FpOk (X.blk s3 H2 scope ce (D::fp)) [(D,od)] H' b:=fun {σ' H' s' od} I' hn b hb =>
    ⟨hn b hb,(I'.ok.exf b (List.mem_cons_of_mem _ hb)).1,I'.ok.exfs b (List.mem_cons_of_mem _ hb),.inl (List.mem_cons_of_mem _ hb),fun x c e=>(I'.ok.exf b (List.mem_cons_of_mem _ hb)).2 x c e,fun p hp=>by
      have hp:p∈([]:List (Addr × Obj))++[(D,od)]:=hp
      rw[List.nil_append,List.mem_singleton] at hp
      subst hp
      exact(fdD b hb).symm⟩
  have loop:codeAny (model X.prog X.w) X.A (.compLoop (.SetComp elt [⟨tg,iter,ifs,0⟩] scope pos) 0 (.ref it) (.ref D) ce) (compPost (model X.prog X.w) X.A X.xe none Qf (.ref D) s3.heap.objs.size) s4:=by
    refine PpSet.compLoopS_any (fun n s'=>∃ i H' R' acc Z od,n=ds.length - i/\L2.Inv (X.blk s3 H2 scope ce (D::fp)) [(D,od)] (wipe σ (own.map (·.2))) H' s'/\tn i s'.heap/\(∀ b∈fp,H' b=none) /\
      Fin S.c.wd R2 H2 R' H'/\SetD X.w od (Z.map zf)/\LnkS X.K R' acc Z/\CompS KeyN g A T S.c.in (wipeD env (own.map (·.2))) (ds.drop i) acc φ) ?_ ds.length ⟨0,H2,R2,[],[],_,rfl,aside_put AD I4 (kp34 _ _ hD3) hDn (fun v z=>by cases z),st4,fun b hb=>(f2f b hb).1,Fin.refl f2.bas,setD_new X.w,⟨fun z hz=>(by cases hz),fun y hy=>(by cases hy),Nat.le_refl _⟩,by rw[List.drop_zero]; exact q2⟩
    rintro n s5 ⟨i,H5,R5,acc,Z,od,rfl,I5,st5,n5,f5,sd,ls,q5⟩
    by_cases hi:i<ds.length
    . have hd:=List.getElem?_eq_getElem hi
      have ti:=tt.item (X.blk s3 H2 scope ce (D::fp)) rfl rfl rfl hc i _ s5 _ H5 (fun _ _=>False) I5 (stat I5 n5) st5 (io.go i R5 H5 _ f5.up f5.bas hd)
      refine thnF ti fun r s6 ⟨u,hr,h6⟩=>?_
      subst hr
      refine thnF h6 fun _ s7 ⟨x,H7,I7,r7,y7,st7,n7⟩=>?_
      obtain⟨R7,f7,rp7⟩:=io.yld i R5 H5 x H7 _ f5.up f5.bas hd y7
      have I7':=I7.pinned (stat I7 n7) (tt.obj _ _ st7)
      rw[List.drop_eq_getElem_cons hi] at q5
      have q5':g ds[i] (wipeD env (own.map (·.2))) fun env'=>A S.c.in env' fun k=>if k=true then T S.c.in env' fun y=>(acc.length+1<64/\KeyN y)/\CompS KeyN g A T S.c.in (wipeD env (own.map (·.2))) (ds.drop (i+1)) (acc++[y]) φ else CompS KeyN g A T S.c.in (wipeD env (own.map (·.2))) (ds.drop (i+1)) acc φ:=q5
      have ok7:=ok0.block (f2.trans (f5.trans f7)) (own.map (·.2))
      refine thnF (pg.run _ s7 _ H7 x u (fun σ8 H8=>∃ env8,H8=H7/\wipe σ8 (own.map (·.2))=wipe (wipe σ (own.map (·.2))) (own.map (·.2))/\Ok3 X.K ⟨S.c.in,R7,H7,R7⟩ R7 H7 σ8 env8/\A S.c.in env8 fun k=>if k=true then T S.c.in env8 fun y=>(acc.length+1<64/\KeyN y)/\CompS KeyN g A T S.c.in (wipeD env (own.map (·.2))) (ds.drop (i+1)) (acc++[y]) φ else CompS KeyN g A T S.c.in (wipeD env (own.map (·.2))) (ds.drop (i+1)) acc φ)
        I7' r7 ⟨⟨S.c.in,R7,H7,R7⟩,R7,wipeD env (own.map (·.2)),ds[i],_,ok7,rp7,q5',fun env' σ' hw ok' q'=>⟨env',rfl,hw,ok',q'⟩⟩) fun _ s8 ⟨σ8,H8,I8,env8,eH,hw8,ok8,q8⟩=>?_
      subst eH
      refine thnF (pt.run _ s8 σ8 _ (fun k H9=>∃ R9,Ok3 X.K ⟨S.c.in,R7,H8,R7⟩ R9 H9 σ8 env8/\if k=true then T S.c.in env8 fun y=>(acc.length+1<64/\KeyN y)/\CompS KeyN g A T S.c.in (wipeD env (own.map (·.2))) (ds.drop (i+1)) (acc++[y]) φ else CompS KeyN g A T S.c.in (wipeD env (own.map (·.2))) (ds.drop (i+1)) acc φ)
        I8 (tB3.ask lk_in ok8 q8 fun R4 H4 k f4 ok4 q4=>⟨R4,ok4,q4⟩)) fun b s9 ⟨H9,I9,R9,ok9,q9⟩=>?_
      have f9:=ok9.fin
      have hw:wipe σ8 (own.map (·.2))=wipe σ (own.map (·.2)):=hw8.trans wipe_wipe
      have fin:∀ {s':Shared}{H' R':Hp}{acc':List L3.D}{Z':List (Addr × L3.D)}{od':Obj},L2.Inv (X.blk s3 H2 scope ce (D::fp)) ([(D,od')]++pinsAt fp s7.heap) σ8 H' s'->Fin S.c.wd R2 H2 R' H'->SetD X.w od' (Z'.map zf)->LnkS X.K R' acc' Z'->CompS KeyN g A T S.c.in (wipeD env (own.map (·.2))) (ds.drop (i+1)) acc' φ ->
          ∃ m,m<ds.length - i/\∃ i H' R' acc Z od,m=ds.length - i/\L2.Inv (X.blk s3 H2 scope ce (D::fp)) [(D,od)] (wipe σ (own.map (·.2))) H' s'/\tn i s'.heap/\(∀ b∈fp,H' b=none)/\Fin S.c.wd R2 H2 R' H'/\SetD X.w od (Z.map zf)/\LnkS X.K R' acc Z/\CompS KeyN g A T S.c.in (wipeD env (own.map (·.2))) (ds.drop i) acc φ:=fun {s' H' R' acc' Z' od'} I' fI sd' ls' hq=>by
        have pin':∀ b∈fp,∀ o,s7.heap.get? b=some o->s'.heap.get? b=some o/\H' b=none:=fun b hb o e =>
          let z:=I'.pin (b,o) (List.mem_append_right _ (List.mem_append_right _ (mem_pinsAt hb e)))
          ⟨z.1,z.2.1⟩
        have hl:(wipe σ (own.map (·.2))).length=σ8.length:=by rw[<- hw,wipe_length]
        refine⟨ds.length - (i+1),by omega,i+1,H',R',acc',Z',od',rfl,I'.unpinned.weak hl (fun j v e=>?_),tt.keep _ _ _ st7 fun b hb o e=>(pin' b hb o e).1,fun b hb=>?_,fI,sd',ls',hq⟩
        . rw[<- hw] at e
          exact(wipe_some e).1
        . obtain⟨o,e,_⟩:=tt.obj _ _ st7 b hb
          exact(pin' b hb o e).2
      cases b with
      | false =>
        simp only[Bool.false_eq_true,if_false] at q9 ⊢
        exact fin I9 ((f5.trans f7).trans f9) sd ((ls.mono f7.up).mono f9.up) q9
      | true =>
        simp only[if_true] at q9 ⊢
        refine thnF (pe.run _ s9 σ8 H9 (fun y H10=>∃ R10 dy,Fin S.c.wd R7 H8 R10 H10/\Rep X.K R10 dy y/\(acc.length+1<64/\KeyN dy)/\CompS KeyN g A T S.c.in (wipeD env (own.map (·.2))) (ds.drop (i+1)) (acc++[dy]) φ)
          I9 (tD.ask lk_in ok9 q9 fun R10 H10 dy y f10 ok10 ry q10=>⟨R10,dy,ok10.fin,ry,q10.1,q10.2⟩)) fun z s10 ⟨yv,H10,I10,r10,R10,dy,f10,ry,⟨hl10,ks,hk,hdk⟩,q10⟩=>?_
        obtain⟨ys,rfl⟩:∃ ys,dy=.tup ys:=by
          cases dy with
          | tup ys=>exact⟨ys,rfl⟩
          | int j=>cases (show some (NestedKey.num j)=some (NestedKey.tup ks) from hk)
          | str y=>cases (show some (NestedKey.text y)=some (NestedKey.tup ks) from hk)
          | _=>cases hk
        obtain⟨p,xs,rfl,_,_⟩:=rep_tup ry
        obtain rfl:z=Value.ref p:=r10
        have f210:=(f5.trans f7).trans f10
        have ls10:=((ls.mono f7.up).mono f10.up)
        have sub10:∀ a o,R10 a=some o->H10 a=some o:=fun a o h=>f210.bas.sub a o h
        have I10':L2.Inv (X.blk s3 H2 scope ce (D::fp)) ((D,od)::pinsAt fp s7.heap) σ8 H10 s10:=I10
        obtain⟨g1,g2⟩:=aside_at I10'
        have hkT:nkT (.tup ys)=.tup ks:=by unfold nkT; rw[hk]; rfl
        have nat:∀ q∈Z.map zf,NAt s10.heap q.2 q.1:=fun q hq=>by
          obtain⟨z,hz,rfl⟩:=List.mem_map.mp hq
          obtain⟨a1,a2,a3,_⟩:=ls10.one z hz
          exact⟨nest_is I10.hok (rep_nest sub10 _ a1 a3) rfl,a2⟩
        obtain⟨es,ep,t,SN⟩:=sd.full g1 nat
        have hx:NAt s10.heap (.tup ks) p:=⟨nest_is I10.hok (rep_nest sub10 _ hk ry) rfl,hdk⟩
        have A10:Asd (X.blk s3 H2 scope ce (D::fp)) (pinsAt fp s7.heap) D:=⟨AD.loc,AD.fs,AD.new,AD.cell,fun q hq=>by
          rcases List.mem_append.mp hq with y | y
          . exact AD.pn q (List.mem_append_left _ y)
          . exact fdD _ (of_pinsAt y).1,AD.sys⟩
        have hzl:(Z.map zf).length+1<64:=by rw[List.length_map]; have:=ls.len; omega
        refine SN.call hx (show X.A.units+16<cLine by omega) hzl fun h' L' es' ep' t' tk sb SN' c1 c2=>?_
        obtain⟨Z',rfl,hZ'⟩:∃ Z':List (Addr × L3.D),L'=Z'.map zf/\LnkS X.K R10 (acc++[.tup ys]) Z':=by
          rcases Classical.em (NestedKey.tup ks∈(Z.map zf).map (·.2)) with m | m
          . refine⟨Z,c1 m,fun z hz=>?_,fun y hy=>?_,by rw[List.length_append]; exact Nat.le_succ_of_le ls.len⟩
            . obtain⟨a1,a2,a3,a4⟩:=ls10.one z hz
              exact⟨a1,a2,a3,List.mem_append_left _ a4⟩
            . rcases List.mem_append.mp hy with z | z
              . exact ls10.all y z
              . rw[List.mem_singleton.mp z]
                rw[List.map_map] at m
                obtain⟨z0,hz0,e0⟩:=List.mem_map.mp m
                obtain⟨a1,_⟩:=ls10.one z0 hz0
                have e0:nkT z0.2=.tup ks:=e0
                rw[e0] at a1
                exact List.mem_map.mpr ⟨z0,hz0,nkD_inj a1 hk⟩
          . obtain⟨Z',e1,pz⟩:=perm_unmap (f:=zf) (c2 m).symm ((p,.tup ys)::Z) (by rw[List.map_cons]; show _=(p,nkT (.tup ys))::_; rw[hkT])
            refine⟨Z',e1,fun z hz=>?_,fun y hy=>?_,?_⟩
            . rcases List.mem_cons.mp (pz.mem_iff.mp hz) with e | hz
              . subst e
                exact⟨by rw[hkT]; exact hk,by rw[hkT]; exact hdk,ry,List.mem_append_right _ List.mem_cons_self⟩
              . obtain⟨a1,a2,a3,a4⟩:=ls10.one z hz
                exact⟨a1,a2,a3,List.mem_append_left _ a4⟩
            . rw[(pz.map (·.2)).mem_iff,List.map_cons]
              rcases List.mem_append.mp hy with z | z
              . exact List.mem_cons_of_mem _ (ls10.all y z)
              . rw[List.mem_singleton.mp z]
                exact List.mem_cons_self
            . rw[pz.length_eq,List.length_cons,List.length_append]
              exact Nat.succ_le_succ ls.len
        obtain⟨od',w1,w2,w3⟩:=SN'.obj
        exact fin (aside_turn (t':=tk) A10 I10' sb w1 w3) f210 w2 hZ' q10
    . have e:ds.drop i=[]:=List.drop_eq_nil_of_le (by omega)
      rw[e] at q5
      have td:=tt.done (X.blk s3 H2 scope ce (D::fp)) rfl rfl rfl hc i _ s5 _ H5 (fun _ _=>False) I5 (stat I5 n5) st5 (io.stop i R5 H5 f5.up f5.bas (by omega))
      refine thnF td fun r s6 ⟨hr,I6⟩=>?_
      subst hr
      have I7:L2.Inv X pins σ H5 s6:=I3.call' (ch:=D::fp) I6.os I6.base I6.hok I6.bare fun b hb=>⟨(f3 b hb).1.2.2.2.1,(f3 b hb).1.2.1,(f3 b hb).1.2.2.2.2.1,(f3 b hb).1.2.2.2.2.2⟩
      have nC:H5 s3.heap.objs.size=none:=by
        have z:H5 ce.locals=none:=I6.free
        rw[cL] at z
        exact z
      obtain⟨m,hn,_⟩:=I6.loc
      have hn:s6.heap.Ns ce.locals m:=hn
      rw[cL] at hn
      exact hRR D s3.heap.objs.size s6 m H5 R5 Z od acc I7 (f2.trans f5) (aside_at I6).1 sd ls q5 hn (I3.fpOk (Nat.le_refl _) nC) (by rw[z3]; exact Nat.ne_of_lt (Nat.lt_succ_self _))
  exact PpSet.codeAny_compStart_set loop (tt.self X.A 0 _ _ _ st4 loop)
end
open PySem PySem.Spec PyProof.Rows L2
open PySem.W (AllAlike Sortable dataLe)
/-- what sorted tells of a set that holds just these members -/
def SortOut(φ:D->Prop) (out:List D):Prop:=∀ bs:List D,bs.Nodup->(∀ d,d∈bs↔d∈out)->AllAlike (bs.map toP)/\Sortable (bs.map toP)/\(∀ d∈bs,(toP d).depth<=60)/\φ (.lst (bs.mergeSort (dataLe false toP)))
def TSortSc(U:TL) (g:TGD) (A:TB) (T:TD) (vs:List Nat):TD:=fun c env φ=>U c env fun ds=>CompS KeyN g A T c.in (wipeD env vs) ds [] (SortOut φ)
section
variable {X:Cx}{W:WX}{tg elt iter:Expr}{pos:Pos}{A:TB}{T:TD}
theorem de_sortSc {x : Str} {p pos' : Pos} {ifs : List Expr} {scope : Scope} {own : List (Str × Nat)} {U : TL} {g : TGD} (hc : X.calm = true) (hN : X.N.Nodup) (hu : X.A.units + 64 < cLine) (hg1 : Gl X x) (hm : X.mg x = none) (hv : bootBuiltins x = some (.builtin "sorted")) (hi : DI X W tg iter U) (ok : BlkOk X.N X.env.scope scope own)
    (hg:∀ (s:Shared) (H:Hp) (C:Addr) (cl:List (Str × Addr)) (fp:List Addr),DG (X.blk s H scope (compEnvC scope cl C X.env) fp) (own.map (·.2)) tg g)
    (ht:∀ (s:Shared) (H:Hp) (C:Addr) (cl:List (Str × Addr)) (fp:List Addr),PTs (X.blk s H scope (compEnvC scope cl C X.env) fp) ifs (tB3 X.K WF A))
    (he:∀ (s:Shared) (H:Hp) (C:Addr) (cl:List (Str × Addr)) (fp:List Addr),DE (X.blk s H scope (compEnvC scope cl C X.env) fp) WF elt T)
    (hn:x≠"__name__":=by decide) (hdb:(x==("__debug__":Str))=false:=by decide)
    (hs:∀ x,foldedSetIterable iter X.env x=pure x:=by intro _; rfl) :
    DE X W (.Call (.Name x p) [.SetComp elt [⟨tg,iter,ifs,0⟩] scope pos] [] pos') (TSortSc U g A T (own.map (·.2))):=by
  refine⟨fun pins s σ H Q I ⟨S,R,env,φ,lk,ok0,q,kQ⟩=>?_⟩
  refine Call_ (ld_blt I hg1 hm hv ?_ hn hdb)
  refine callWith_builtin1 (args_cons ?_ rfl) rfl rfl
  rw[PpSet.eval_SetComp]
  refine scN_core hc hN lk ok0 I hi ok (by omega) hg ht he hs q fun D C s' m H' R' Z od acc I' f e sd ls qφ hn' fp ne=>⟨m,hn',fun h'' sb=>args_nil ?_⟩
  obtain⟨f0,f1,f2,f3,f4,f5⟩:=fp
  have I2:L2.Inv X pins σ H' {s' with heap:=h''}:=I'.turned (t':=s'.toks) (fun b o hb e=>(sb.2 b hb).trans e) f0 f1 f3 f4 f5
  have e2:h''.get? D=some od:=(sb.2 D ne).trans e
  have sub:∀ a o,R' a=some o->H' a=some o:=fun a o h=>f.bas.sub a o h
  have nat:∀ q∈Z.map zf,NAt h'' q.2 q.1:=fun q hq=>by
    obtain⟨z,hz,rfl⟩:=List.mem_map.mp hq
    obtain⟨a1,a2,a3,_⟩:=ls.one z hz
    exact⟨nest_is I2.hok (rep_nest sub _ a1 a3) rfl,a2⟩
  obtain⟨es,ep,t,SN⟩:=sd.full e2 nat
  have hnd:(Z.map (·.2)).Nodup:=by
    have h0:=SN.nd
    rw[List.map_map] at h0
    have e9:(Z.map (Prod.snd∘zf))=(Z.map (·.2)).map nkT:=by rw[List.map_map]; rfl
    rw[e9] at h0
    exact List.Pairwise.of_map nkT (fun a b h e=>h (congrArg nkT e)) h0
  have hme:∀ d,d∈Z.map (·.2)↔d∈acc:=fun d=>⟨fun h=>by
    obtain⟨z,hz,rfl⟩:=List.mem_map.mp h
    exact(ls.one z hz).2.2.2,fun h=>ls.all d h⟩
  have qZ:=qφ (Z.map (·.2)) hnd hme
  obtain⟨hal,hso,hdp,_⟩:=qZ
  rw[List.map_map] at hal hso
  refine sorted_nest (s:={s' with heap:=h''}) (K:=X.K) (R:=R') (H:=H') (fun h' kp=>(I2.kept (h':=h') (t':=s'.toks) kp).hok) sub SN (fun z hz=>⟨(ls.one z hz).1,(ls.one z hz).2.2.1⟩) (I.ok.hd hc) hal hso (fun z hz=>by
    have:=hdp z.2 (List.mem_map.mpr ⟨z,hz,rfl⟩)
    omega) fun s3 p3 out c3 bs k g3 o3 hp hg3 pm eo=>?_
  obtain⟨vs',rr,rv'⟩:=rep_each eo
  have q3:=(qφ bs (pm.nodup_iff.mpr hnd) (fun d=>(pm.mem_iff).trans (hme d))).2.2.2
  have hlz:bs.length<64:=by
    have h0:=SN.few
    rw[List.length_map] at h0
    rw[pm.length_eq,List.length_map]
    exact h0
  have hl':vs'.length<=sizeLine:=by
    have e5:=rr.length
    rw[List.length_mergeSort] at e5
    rw[e5,sizeLine_eq]
    omega
  have hn3:H' p3=none:=I2.hok.fresh hp
  have J:L2.Inv X pins σ (upd H' p3 (.lst vs')) {s' with heap:=s3.heap,gens:=s3.gens,drawn:=s3.drawn,toks:=s3.toks} :=
    L2.Inv.call (s:={s' with heap:=h''}) (ch:=[]) I2 (Un.laid (h:=h'') k hp hn3) (I2.hok.laid k hp ⟨hl',out.toList,c3,rv',hg3⟩) (by rw[g3]; exact I2.bare) (fun _ z=>nomatch z)
  have e9:s3={s' with heap:=s3.heap,gens:=s3.gens,drawn:=s3.drawn,toks:=s3.toks}:=by
    cases s3
    cases s'
    cases o3
    rfl
  rw[e9]
  refine⟨.ref p3,_,J,rfl,?_⟩
  obtain⟨R4,d4,f4',r4,q4⟩:=Pst.lst (c:=S.c) (φ:=φ) f.bas hn3 rr q3
  exact kQ _ _ (Pst.from f ⟨R4,d4,f4',r4,q4⟩)
end
open PySem PySem.Spec PyProof.Rows L2
def KeyI(d:D):Prop:=∃ k,d=.int k
structure LnkI (acc:List D) (S:Int->Bool) (n:Nat):Prop where
  mem:∀ k,S k=true↔D.int k∈acc
  len:n<=acc.length
  few:n<64
theorem LnkI.nil:LnkI [] (fun _=>false) 0:=⟨fun k=>⟨fun h=>absurd h Bool.false_ne_true,fun h=>absurd h (by simp)⟩,Nat.le_refl _,by decide⟩
theorem LnkI.add {acc:List D}{S:Int->Bool}{n:Nat} (h:LnkI acc S n) (k:Int) (hl:acc.length+1<64):LnkI (acc++[.int k]) (fun j=>S j||decide (j=k)) (if S k=true then n else n+1):=by
  refine⟨fun j=>?_,?_,?_⟩
  . rw[Bool.or_eq_true,h.mem j,decide_eq_true_iff,List.mem_append,List.mem_singleton]
    exact or_congr Iff.rfl ⟨fun e=>by rw[e],fun e=>by cases e; rfl⟩
  . rw[List.length_append]
    have:=h.len
    show(if S k=true then n else n+1)<=acc.length+1
    split<;>omega
  . have:=h.len
    split<;>omega
def SetIO(w:World) (od:Obj) (S:Int->Bool) (n:Nat):Prop:=∃ es ep t,od.ExactSet/\od.data=.set es ep t/\(∀ e∈es.toList,GoodE e)/\(es.toList.map keyOf).Nodup/\(∀ k,S k=true↔k∈es.toList.map keyOf) /\
    es.size<scanBound/\t.fits es.size=true/\es.size=n/\Ris t.place.toList/\(w.params.followText "set-order"=true\/t.led=true)
theorem SetIO.full {w:World}{od:Obj}{S:Int->Bool}{n:Nat}{h:Heap}{a:Addr} (x:SetIO w od S n) (e:h.get? a=some od):SetR w h a S n:=by
  obtain⟨es,ep,t,r⟩:=x
  exact⟨od,es,ep,t,e,r⟩
theorem SetIO.obj {w:World}{S:Int->Bool}{n:Nat}{h:Heap}{a:Addr} (x:SetR w h a S n):∃ od,h.get? a=some od/\SetIO w od S n/\∀ v,od.data≠.cell v:=by
  obtain⟨od,es,ep,t,e,r⟩:=x
  exact⟨od,e,⟨es,ep,t,r⟩,fun v z=>by rw[r.2.1] at z; cases z⟩
theorem setI_new(w:World):SetIO w {cls:=.type "set",dict:=none,data:=.set #[] 0 (.fresh 0 0 (!w.params.followText "set-order"))} (fun _=>false) 0 :=
  ⟨#[],0,_,⟨rfl,rfl,rfl⟩,rfl,(fun e he=>by simp at he),(by simp),(fun k=>by simp),(by decide),(by rfl),rfl,List.Pairwise.nil,by
    show _\/(!w.params.followText "set-order")=true
    cases w.params.followText "set-order"
    . exact .inr rfl
    . exact .inl rfl⟩
/-- what sorted tells of a set of numbers -/
def SortOutI(φ:D->Prop) (out:List D):Prop:=∀ ns:List Int,ns.Pairwise (·<·)->(∀ k,k∈ns↔D.int k∈out)->φ (.lst (ns.map D.int))
def TSortScI(U:TL) (g:TGD) (A:TB) (T:TD) (vs:List Nat):TD:=fun c env φ=>U c env fun ds=>CompS KeyI g A T c.in (wipeD env vs) ds [] (SortOutI φ)
section
variable {X:Cx}{W:WX}{tg elt iter:Expr}{pos:Pos}{A:TB}{T:TD}
theorem scI_core {pins : List (Addr × Obj)} {s : Shared} {σ : L2.St} {H : Hp} {S : Sta} {R : Hp} {env : Ev} {φ : List L3.D -> Prop} {ifs : List Expr} {scope : Scope} {own : List (Str × Nat)} {pos' : Pos} {U : TL} {g : TGD} {Qf : Value -> Shared -> Prop}
    (hc:X.calm=true) (hN:X.N.Nodup) (lk:Lk X.K S W) (ok0:Ok3 X.K S R H σ env) (I:L2.Inv X pins σ H s) (hi:DI X W tg iter U) (ok:BlkOk X.N X.env.scope scope own) (hu:X.A.units+64<cLine)
    (hg:∀ (s:Shared) (H:Hp) (C:Addr) (cl:List (Str × Addr)) (fp:List Addr),DG (X.blk s H scope (compEnvC scope cl C X.env) fp) (own.map (·.2)) tg g)
    (ht:∀ (s:Shared) (H:Hp) (C:Addr) (cl:List (Str × Addr)) (fp:List Addr),PTs (X.blk s H scope (compEnvC scope cl C X.env) fp) ifs (tB3 X.K WF A))
    (he:∀ (s:Shared) (H:Hp) (C:Addr) (cl:List (Str × Addr)) (fp:List Addr),DE (X.blk s H scope (compEnvC scope cl C X.env) fp) WF elt T)
    (hs:∀ x,foldedSetIterable iter X.env x=pure x)
    (h:U S.c env fun ds=>CompS KeyI g A T S.c.in (wipeD env (own.map (·.2))) ds [] φ)
    (hRR:∀ D C s' m H' R' Z n od acc,L2.Inv X pins σ H' s'->Fin S.c.wd R H R' H'->s'.heap.get? D=some od->SetIO X.w od Z n->LnkI acc Z n->φ acc->s'.heap.Ns C m->FpOk X pins H' C->D≠C->compPost (model X.prog X.w) X.A X.xe none Qf (.ref D) C (.ok .next) s') :
    wpAny (model X.prog X.w) X.A (comprehension (.SetComp elt [⟨tg,iter,ifs,0⟩] scope pos) scope X.env pos' (newSet (.type "set")) false (eval iter X.env) none) Qf X.xe s:=by
  have hfree:∀ y∈scope.names,y.2=.free->∃ c,X.env.cells.lookup y.1=some c:=fun y hy e=>by
    rcases ok.free y hy e with k | k
    . exact I.ok.has _ (.inl k)
    . exact I.ok.has _ (.inr k)
  refine wpAny_comprehension_free (use:=none) rfl hs (closure_ok hfree) ok.kind (fun y hy e=>by rw[ok.uniq y hy,e])
    (thn (hi.run pins s σ H (fun J H'=>∃ R' ds,Fin S.c.wd R H R' H'/\ItOk X.K S.c.wd J R' ds/\CompS KeyI g A T S.c.in (wipeD env (own.map (·.2))) ds [] φ) I ⟨S,R,env,_,lk,ok0,h,fun J H' R' ds f io q=>⟨R',ds,f,io,q⟩⟩) fun xv s1 hx=>thn hx fun itv s2 h2=>?_)
  obtain⟨it,fp,tn,J,H2,e,I2,tt,st2,f2f,R2,ds,f2,io,q2⟩:=h2
  subst e
  refine PpSet.newSet_ok (newEnv_comp ?_)
  have hDn:H2 s2.heap.objs.size=none:=I2.hok.fresh (Nat.le_refl _)
  have hsys:=(dt_empty (P:=X.prog) (w:=X.w) (H:=upd H2 s2.heap.objs.size (.dT [])) s2.heap I2.big).2.1
  have fD:=I2.fpOk (H':=H2) (Nat.le_refl s2.heap.objs.size) hDn
  have I3:L2.Inv X pins σ H2 {s2 with heap:=s2.heap.push {cls:=.type "set",dict:=none,data:=.set #[] 0 (.fresh 0 0 (!X.w.params.followText "set-order"))}}:=I2.kept (t':=s2.toks) fun b o q=>Heap.get?_push_of_some _ q
  have hD3:(s2.heap.push {cls:=.type "set",dict:=none,data:=.set #[] 0 (.fresh 0 0 (!X.w.params.followText "set-order"))}).get? s2.heap.objs.size=some {cls:=.type "set",dict:=none,data:=.set #[] 0 (.fresh 0 0 (!X.w.params.followText "set-order"))}:=Heap.get?_push_size _ rfl
  have sz:∀ b∈fp,b<s2.heap.objs.size:=fun b hb=>by
    obtain⟨o,e,_⟩:=tt.obj _ _ st2 b hb
    exact Heap.lt_size e
  generalize hD:s2.heap.objs.size=D at hDn hsys fD hD3 sz
  generalize hs3:({s2 with heap:=s2.heap.push {cls:=.type "set",dict:=none,data:=.set #[] 0 (.fresh 0 0 (!X.w.params.followText "set-order"))}}:Shared)=s3 at I3
  have h3:s3.heap=s2.heap.push {cls:=.type "set",dict:=none,data:=.set #[] 0 (.fresh 0 0 (!X.w.params.followText "set-order"))}:=by rw[<- hs3]
  have z3:s3.heap.objs.size=D+1:=by rw[h3,Heap.size_push,hD]
  rw[<- h3] at hD3
  have f3:∀ b∈D::fp,FpOk X pins H2 b/\b<s3.heap.objs.size:=fun b hb=>by
    rcases List.mem_cons.mp hb with e | hb
    . subst e
      exact⟨fD,by rw[z3]; exact Nat.lt_succ_self _⟩
    . exact⟨f2f b hb,by rw[z3]; exact Nat.lt_succ_of_lt (sz b hb)⟩
  have st3:tn 0 s3.heap:=tt.keep _ _ _ st2 fun b _ o e=>by rw[h3]; exact Heap.get?_push_of_some _ e
  have I4:=block_start I3 ok hN f3
  have pg:=hg s3 H2 s3.heap.objs.size (cellsFrom (s3.heap.objs.size+1) scope.names (cloFrom X.env.cells scope.names [])) (D::fp)
  have pt:=ht s3 H2 s3.heap.objs.size (cellsFrom (s3.heap.objs.size+1) scope.names (cloFrom X.env.cells scope.names [])) (D::fp)
  have pe:=he s3 H2 s3.heap.objs.size (cellsFrom (s3.heap.objs.size+1) scope.names (cloFrom X.env.cells scope.names [])) (D::fp)
  show codeAny _ _ (.compStart (.SetComp elt [⟨tg,iter,ifs,0⟩] scope pos) 0 (.ref it) (.ref D) (compEnvC scope (cellsFrom (s3.heap.objs.size+1) scope.names (cloFrom X.env.cells scope.names [])) s3.heap.objs.size X.env)) (compPost (model X.prog X.w) X.A X.xe none Qf (.ref D) s3.heap.objs.size) {s3 with heap:=pushCells (s3.heap.push {cls:=.type "dict",data:=.dict #[]}) scope.names}
  generalize hce:compEnvC scope (cellsFrom (s3.heap.objs.size+1) scope.names (cloFrom X.env.cells scope.names [])) s3.heap.objs.size X.env=ce at I4 pg pt pe ⊢
  have cL:ce.locals=s3.heap.objs.size:=by subst hce; rfl
  generalize hs4:({s3 with heap:=pushCells (s3.heap.push {cls:=.type "dict",data:=.dict #[]}) scope.names}:Shared)=s4 at I4 ⊢
  have kp34:∀ b o,s3.heap.get? b=some o->s4.heap.get? b=some o:=fun b o e=>by rw[<- hs4]; exact pushCells_keeps _ _ _ _ (Heap.get?_push_of_some _ e)
  have st4:tn 0 s4.heap:=tt.keep _ _ _ st3 fun b _ o e=>kp34 b o e
  have fdD:∀ b∈fp,b≠D:=fun b hb=>Nat.ne_of_lt (sz b hb)
  have AD:Asd (X.blk s3 H2 scope ce (D::fp)) [] D:=⟨(I4.ok.exf D List.mem_cons_self).1,I4.ok.exfs D List.mem_cons_self,.inl List.mem_cons_self,(I4.ok.exf D List.mem_cons_self).2,fun p hp=>absurd (show p∈([]:List (Addr × Obj))++[] from hp) (by simp),hsys⟩
  have stat:∀ {σ':L2.St}{H':Hp}{s':Shared}{od:Obj},L2.Inv (X.blk s3 H2 scope ce (D::fp)) [(D,od)] σ' H' s'->(∀ b∈fp,H' b=none)->∀ b∈fp,FpOk (X.blk s3 H2 scope ce (D::fp)) [(D,od)] H' b:=fun {σ' H' s' od} I' hn b hb =>
    ⟨hn b hb,(I'.ok.exf b (List.mem_cons_of_mem _ hb)).1,I'.ok.exfs b (List.mem_cons_of_mem _ hb),.inl (List.mem_cons_of_mem _ hb),fun x c e=>(I'.ok.exf b (List.mem_cons_of_mem _ hb)).2 x c e,fun p hp=>by
      have hp:p∈([]:List (Addr × Obj))++[(D,od)]:=hp
      rw[List.nil_append,List.mem_singleton] at hp
      subst hp
      exact(fdD b hb).symm⟩
  have loop:codeAny (model X.prog X.w) X.A (.compLoop (.SetComp elt [⟨tg,iter,ifs,0⟩] scope pos) 0 (.ref it) (.ref D) ce) (compPost (model X.prog X.w) X.A X.xe none Qf (.ref D) s3.heap.objs.size) s4:=by
    refine PpSet.compLoopS_any (fun n s'=>∃ i H' R' acc Z nn od,n=ds.length - i/\L2.Inv (X.blk s3 H2 scope ce (D::fp)) [(D,od)] (wipe σ (own.map (·.2))) H' s'/\tn i s'.heap/\(∀ b∈fp,H' b=none) /\
      Fin S.c.wd R2 H2 R' H'/\SetIO X.w od Z nn/\LnkI acc Z nn/\CompS KeyI g A T S.c.in (wipeD env (own.map (·.2))) (ds.drop i) acc φ) ?_ ds.length ⟨0,H2,R2,[],fun _=>false,0,_,rfl,aside_put AD I4 (kp34 _ _ hD3) hDn (fun v z=>by cases z),st4,fun b hb=>(f2f b hb).1,Fin.refl f2.bas,setI_new X.w,LnkI.nil,by rw[List.drop_zero]; exact q2⟩
    rintro n s5 ⟨i,H5,R5,acc,Z,nn,od,rfl,I5,st5,n5,f5,sd,ls,q5⟩
    by_cases hi:i<ds.length
    . have hd:=List.getElem?_eq_getElem hi
      have ti:=tt.item (X.blk s3 H2 scope ce (D::fp)) rfl rfl rfl hc i _ s5 _ H5 (fun _ _=>False) I5 (stat I5 n5) st5 (io.go i R5 H5 _ f5.up f5.bas hd)
      refine thnF ti fun r s6 ⟨u,hr,h6⟩=>?_
      subst hr
      refine thnF h6 fun _ s7 ⟨x,H7,I7,r7,y7,st7,n7⟩=>?_
      obtain⟨R7,f7,rp7⟩:=io.yld i R5 H5 x H7 _ f5.up f5.bas hd y7
      have I7':=I7.pinned (stat I7 n7) (tt.obj _ _ st7)
      rw[List.drop_eq_getElem_cons hi] at q5
      have q5':g ds[i] (wipeD env (own.map (·.2))) fun env'=>A S.c.in env' fun k=>if k=true then T S.c.in env' fun y=>(acc.length+1<64/\KeyI y)/\CompS KeyI g A T S.c.in (wipeD env (own.map (·.2))) (ds.drop (i+1)) (acc++[y]) φ else CompS KeyI g A T S.c.in (wipeD env (own.map (·.2))) (ds.drop (i+1)) acc φ:=q5
      have ok7:=ok0.block (f2.trans (f5.trans f7)) (own.map (·.2))
      refine thnF (pg.run _ s7 _ H7 x u (fun σ8 H8=>∃ env8,H8=H7/\wipe σ8 (own.map (·.2))=wipe (wipe σ (own.map (·.2))) (own.map (·.2))/\Ok3 X.K ⟨S.c.in,R7,H7,R7⟩ R7 H7 σ8 env8/\A S.c.in env8 fun k=>if k=true then T S.c.in env8 fun y=>(acc.length+1<64/\KeyI y)/\CompS KeyI g A T S.c.in (wipeD env (own.map (·.2))) (ds.drop (i+1)) (acc++[y]) φ else CompS KeyI g A T S.c.in (wipeD env (own.map (·.2))) (ds.drop (i+1)) acc φ)
        I7' r7 ⟨⟨S.c.in,R7,H7,R7⟩,R7,wipeD env (own.map (·.2)),ds[i],_,ok7,rp7,q5',fun env' σ' hw ok' q'=>⟨env',rfl,hw,ok',q'⟩⟩) fun _ s8 ⟨σ8,H8,I8,env8,eH,hw8,ok8,q8⟩=>?_
      subst eH
      refine thnF (pt.run _ s8 σ8 _ (fun k H9=>∃ R9,Ok3 X.K ⟨S.c.in,R7,H8,R7⟩ R9 H9 σ8 env8/\if k=true then T S.c.in env8 fun y=>(acc.length+1<64/\KeyI y)/\CompS KeyI g A T S.c.in (wipeD env (own.map (·.2))) (ds.drop (i+1)) (acc++[y]) φ else CompS KeyI g A T S.c.in (wipeD env (own.map (·.2))) (ds.drop (i+1)) acc φ)
        I8 (tB3.ask lk_in ok8 q8 fun R4 H4 k f4 ok4 q4=>⟨R4,ok4,q4⟩)) fun b s9 ⟨H9,I9,R9,ok9,q9⟩=>?_
      have f9:=ok9.fin
      have hw:wipe σ8 (own.map (·.2))=wipe σ (own.map (·.2)):=hw8.trans wipe_wipe
      have fin:∀ {s':Shared}{H' R':Hp}{acc':List L3.D}{Z':Int->Bool}{nn':Nat}{od':Obj},L2.Inv (X.blk s3 H2 scope ce (D::fp)) ([(D,od')]++pinsAt fp s7.heap) σ8 H' s'->Fin S.c.wd R2 H2 R' H'->SetIO X.w od' Z' nn'->LnkI acc' Z' nn'->CompS KeyI g A T S.c.in (wipeD env (own.map (·.2))) (ds.drop (i+1)) acc' φ ->
          ∃ m,m<ds.length - i/\∃ i H' R' acc Z nn od,m=ds.length - i/\L2.Inv (X.blk s3 H2 scope ce (D::fp)) [(D,od)] (wipe σ (own.map (·.2))) H' s'/\tn i s'.heap/\(∀ b∈fp,H' b=none)/\Fin S.c.wd R2 H2 R' H'/\SetIO X.w od Z nn/\LnkI acc Z nn/\CompS KeyI g A T S.c.in (wipeD env (own.map (·.2))) (ds.drop i) acc φ:=fun {s' H' R' acc' Z' nn' od'} I' fI sd' ls' hq=>by
        have pin':∀ b∈fp,∀ o,s7.heap.get? b=some o->s'.heap.get? b=some o/\H' b=none:=fun b hb o e =>
          let z:=I'.pin (b,o) (List.mem_append_right _ (List.mem_append_right _ (mem_pinsAt hb e)))
          ⟨z.1,z.2.1⟩
        have hl:(wipe σ (own.map (·.2))).length=σ8.length:=by rw[<- hw,wipe_length]
        refine⟨ds.length - (i+1),by omega,i+1,H',R',acc',Z',nn',od',rfl,I'.unpinned.weak hl (fun j v e=>?_),tt.keep _ _ _ st7 fun b hb o e=>(pin' b hb o e).1,fun b hb=>?_,fI,sd',ls',hq⟩
        . rw[<- hw] at e
          exact(wipe_some e).1
        . obtain⟨o,e,_⟩:=tt.obj _ _ st7 b hb
          exact(pin' b hb o e).2
      cases b with
      | false =>
        simp only[Bool.false_eq_true,if_false] at q9 ⊢
        exact fin I9 ((f5.trans f7).trans f9) sd ls q9
      | true =>
        simp only[if_true] at q9 ⊢
        refine thnF (pe.run _ s9 σ8 H9 (fun y H10=>∃ R10 dy,Fin S.c.wd R7 H8 R10 H10/\Rep X.K R10 dy y/\(acc.length+1<64/\KeyI dy)/\CompS KeyI g A T S.c.in (wipeD env (own.map (·.2))) (ds.drop (i+1)) (acc++[dy]) φ)
          I9 (tD.ask lk_in ok9 q9 fun R10 H10 dy y f10 ok10 ry q10=>⟨R10,dy,ok10.fin,ry,q10.1,q10.2⟩)) fun z s10 ⟨yv,H10,I10,r10,R10,dy,f10,ry,⟨hl10,kk,ek⟩,q10⟩=>?_
        subst ek
        have ry:yv=V.int kk:=ry
        subst ry
        obtain⟨tk0,rfl⟩:∃ t,z=Value.int kk t:=r10
        have f210:=(f5.trans f7).trans f10
        have I10':L2.Inv (X.blk s3 H2 scope ce (D::fp)) ((D,od)::pinsAt fp s7.heap) σ8 H10 s10:=I10
        obtain⟨g1,g2⟩:=aside_at I10'
        have SR:SetR X.w s10.heap D Z nn:=sd.full g1
        have A10:Asd (X.blk s3 H2 scope ce (D::fp)) (pinsAt fp s7.heap) D:=⟨AD.loc,AD.fs,AD.new,AD.cell,fun q hq=>by
          rcases List.mem_append.mp hq with y | y
          . exact AD.pn q (List.mem_append_left _ y)
          . exact fdD _ (of_pinsAt y).1,AD.sys⟩
        refine setR_add SR (by have:=ls.len; unfold scanBound; omega) fun h' sb SR'=>?_
        obtain⟨od',w1,w2,w3⟩:=SetIO.obj SR'
        exact fin (aside_turn (t':=s10.toks+1) A10 I10' sb w1 w3) f210 w2 (ls.add kk hl10) q10
    . have e:ds.drop i=[]:=List.drop_eq_nil_of_le (by omega)
      rw[e] at q5
      have td:=tt.done (X.blk s3 H2 scope ce (D::fp)) rfl rfl rfl hc i _ s5 _ H5 (fun _ _=>False) I5 (stat I5 n5) st5 (io.stop i R5 H5 f5.up f5.bas (by omega))
      refine thnF td fun r s6 ⟨hr,I6⟩=>?_
      subst hr
      have I7:L2.Inv X pins σ H5 s6:=I3.call' (ch:=D::fp) I6.os I6.base I6.hok I6.bare fun b hb=>⟨(f3 b hb).1.2.2.2.1,(f3 b hb).1.2.1,(f3 b hb).1.2.2.2.2.1,(f3 b hb).1.2.2.2.2.2⟩
      have nC:H5 s3.heap.objs.size=none:=by
        have z:H5 ce.locals=none:=I6.free
        rw[cL] at z
        exact z
      obtain⟨m,hn,_⟩:=I6.loc
      have hn:s6.heap.Ns ce.locals m:=hn
      rw[cL] at hn
      exact hRR D s3.heap.objs.size s6 m H5 R5 Z nn od acc I7 (f2.trans f5) (aside_at I6).1 sd ls q5 hn (I3.fpOk (Nat.le_refl _) nC) (by rw[z3]; exact Nat.ne_of_lt (Nat.lt_succ_self _))
  exact PpSet.codeAny_compStart_set loop (tt.self X.A 0 _ _ _ st4 loop)
theorem de_sortScI {x : Str} {p pos' : Pos} {ifs : List Expr} {scope : Scope} {own : List (Str × Nat)} {U : TL} {g : TGD} (hc : X.calm = true) (hN : X.N.Nodup) (hu : X.A.units + 64 < cLine) (hg1 : Gl X x) (hm : X.mg x = none) (hv : bootBuiltins x = some (.builtin "sorted")) (hi : DI X W tg iter U) (ok : BlkOk X.N X.env.scope scope own)
    (hg:∀ (s:Shared) (H:Hp) (C:Addr) (cl:List (Str × Addr)) (fp:List Addr),DG (X.blk s H scope (compEnvC scope cl C X.env) fp) (own.map (·.2)) tg g)
    (ht:∀ (s:Shared) (H:Hp) (C:Addr) (cl:List (Str × Addr)) (fp:List Addr),PTs (X.blk s H scope (compEnvC scope cl C X.env) fp) ifs (tB3 X.K WF A))
    (he:∀ (s:Shared) (H:Hp) (C:Addr) (cl:List (Str × Addr)) (fp:List Addr),DE (X.blk s H scope (compEnvC scope cl C X.env) fp) WF elt T)
    (hn:x≠"__name__":=by decide) (hdb:(x==("__debug__":Str))=false:=by decide)
    (hs:∀ x,foldedSetIterable iter X.env x=pure x:=by intro _; rfl) :
    DE X W (.Call (.Name x p) [.SetComp elt [⟨tg,iter,ifs,0⟩] scope pos] [] pos') (TSortScI U g A T (own.map (·.2))):=by
  refine⟨fun pins s σ H Q I ⟨S,R,env,φ,lk,ok0,q,kQ⟩=>?_⟩
  refine Call_ (ld_blt I hg1 hm hv ?_ hn hdb)
  refine callWith_builtin1 (args_cons ?_ rfl) rfl rfl
  rw[PpSet.eval_SetComp]
  refine scI_core hc hN lk ok0 I hi ok (by omega) hg ht he hs q fun D C s' m H' R' Z n od acc I' f e sd ls qφ hn' fp ne=>⟨m,hn',fun h'' sb=>args_nil ?_⟩
  obtain⟨f0,f1,f2,f3,f4,f5⟩:=fp
  have I2:L2.Inv X pins σ H' {s' with heap:=h''}:=I'.turned (t':=s'.toks) (fun b o hb e=>(sb.2 b hb).trans e) f0 f1 f3 f4 f5
  have SR:SetR X.w h'' D Z n:=sd.full ((sb.2 D ne).trans e)
  refine sorted_set (s:={s' with heap:=h''}) SR (I.ok.hd hc) ls.few fun s3 p3 out c3 ns k g3 o3 hp hg3 hi3 pw mem hl3=>?_
  have q3:=qφ ns pw (fun i=>(mem i).trans (ls.mem i))
  have rv':=vals_of_ints hi3
  have hl':(ns.map V.int).length<=sizeLine:=by
    have:=ls.few
    rw[List.length_map,hl3,sizeLine_eq]
    omega
  have hn3:H' p3=none:=I2.hok.fresh hp
  have J:L2.Inv X pins σ (upd H' p3 (.lst (ns.map V.int))) {s' with heap:=s3.heap,gens:=s3.gens,drawn:=s3.drawn,toks:=s3.toks} :=
    L2.Inv.call (s:={s' with heap:=h''}) (ch:=[]) I2 (Un.laid (h:=h'') k hp hn3) (I2.hok.laid k hp ⟨hl',out.toList,c3,rv',hg3⟩) (by rw[g3]; exact I2.bare) (fun _ z=>nomatch z)
  have e9:s3={s' with heap:=s3.heap,gens:=s3.gens,drawn:=s3.drawn,toks:=s3.toks}:=by
    cases s3
    cases s'
    cases o3
    rfl
  rw[e9]
  refine⟨.ref p3,_,J,rfl,?_⟩
  obtain⟨R4,d4,f4',r4,q4⟩:=Pst.lst (c:=S.c) (φ:=φ) f.bas hn3 (reps_ints ns) q3
  exact kQ _ _ (Pst.from f ⟨R4,d4,f4',r4,q4⟩)
end
open PySem PySem.Spec PyProof.Rows L2
section
variable {X:Cx}{W:WX}{tg:Expr}{T:TD}
def TIlt(T:TD):TL:=fun c env φ=>T c env fun d=>(∃ ds,d=.lst ds/\φ ds)\/(∃ ds,d=.tup ds/\φ ds)
theorem di_lt {l:Expr} (h:DE X W l T):DI X W tg l (TIlt T) :=
  ⟨fun pins s σ H Rr I ⟨S,R,env,φ,lk,ok,q,hQ⟩=>by
    refine thn (h.run pins s σ H (fun x H1=>∃ R1 d,Fin S.c.wd R H R1 H1/\Ok3 X.K S R1 H1 σ env/\Rep X.K R1 d x/\((∃ ds,d=.lst ds/\φ ds)\/(∃ ds,d=.tup ds/\φ ds))) I (tD.ask lk ok q fun R1 H1 d v f1 ok1 r1 q1=>⟨R1,d,f1,ok1,r1,q1⟩)) fun u s1 ⟨x,H1,I1,rx,R1,d,f1,ok1,r1,q1⟩=>?_
    rcases q1 with ⟨ds,e,q1⟩ | ⟨ds,e,q1⟩
    . subst e
      obtain⟨p,xs,e,hh,hr⟩:=rep_lst r1
      subst e
      obtain rfl:u=Value.ref p:=rx
      obtain⟨its,rv,p0,hz⟩:=I1.list (SqL.of (ok1.bas.sub _ _ hh))
      refine wpAny_pyIter_list p0.isList ?_
      refine⟨s1.heap.objs.size,[s1.heap.objs.size],_,_,H1,rfl,I1.kept (t':=s1.toks) fun b o e=>Heap.get?_push_of_some _ e,turn_list p _,⟨_,Heap.get?_push_size _ rfl,rfl,rfl⟩,fun b hb=>?_,hQ _ _ R1 ds f1 (itok_list hh hr) q1⟩
      have e:b=s1.heap.objs.size:=by simpa using hb
      subst e
      exact I1.fpOk (Nat.le_refl _) (I1.hok.fresh (Nat.le_refl _))
    . subst e
      obtain⟨p,xs,e,hh,hr⟩:=rep_tup r1
      subst e
      obtain rfl:u=Value.ref p:=rx
      obtain⟨its,rv,p0,hz⟩:=I1.tuple (SqT.of (ok1.bas.sub _ _ hh))
      refine wpAny_pyIter_tuple (show s1.heap.IsTuple p its.toArray from p0) ?_
      refine⟨s1.heap.objs.size,[s1.heap.objs.size],_,_,H1,rfl,I1.kept (t':=s1.toks) fun b o e=>Heap.get?_push_of_some _ e,turn_tuple p _,⟨_,Heap.get?_push_size _ rfl,rfl,rfl⟩,fun b hb=>?_,hQ _ _ R1 ds f1 (itok_tup hh hr) q1⟩
      have e:b=s1.heap.objs.size:=by simpa using hb
      subst e
      exact I1.fpOk (Nat.le_refl _) (I1.hok.fresh (Nat.le_refl _))⟩
end
section
variable {X:Cx}{F:TF}{k:Nat}{f C:Addr}
def rOwnNin(K:PySem.W.Frag) (C:Addr) (F:TF):R2:=fun x y H Q=>∃ wd R dx dy,Bas wd R H/\Rep K R dx x/\Rep K R dy y/\(∃ fs,dy=.ins C fs) /\
  ∃ φ:D->Prop,F wd [dy,dx] (fun d=>∃ b,d=.bl b/\φ (.bl (!b))) (fun _=>False)/\∀ v R' H' d,Fin wd R H R' H'->Rep K R' d v->φ d->Q v H'
def ownNinF(C:Addr) (F:TF):Ct->F2:=fun c x y φ=>(∃ fs,y=.ins C fs)/\F c.wd [y,x] (fun d=>∃ b,d=.bl b/\φ (.bl (!b))) (fun _=>False)
theorem op_ownNin(q:CoK X.K C f) (G:Fn3 X.prog X.w X.K X.mg X.base k f F) (hr:Room k X.A):OpR X (compareOp .NotIn) (rOwnNin X.K C F):=by
  intro pins s σ H x y v u Q I rx ry ⟨wd,R,dx,dy,b,r1,r2,⟨fs,e⟩,φ,hF,hQ⟩
  subst e
  obtain⟨p,d',fvs,e1,hh,rf⟩:=rep_ins r2
  subst e1
  obtain rfl:u=Value.ref p:=ry
  obtain⟨mA,J,_⟩:=ins_get I.hok (b.sub _ _ hh)
  obtain⟨od,J,_⟩:=J.look
  obtain⟨m,hF0⟩:=I.fr
  refine PySem.W.notIn_K hF0 I.ok.mod.kin J q.co q.fn ?_
  refine thn (call_q (us:=[.ref p,v]) (vs:=[.ref p,x]) (Q:=fun v H'=>∃ kk,v=.bl kk/\Q (.bl (!kk)) H') G hr I.env0 I (.cons rfl (.cons rx .nil)) ⟨wd,R,[.ins C fs,dx],_,_,b,⟨_,_,rfl,r2,_,_,rfl,r1,rfl⟩,hF,fun v R' H' d f r z=>?_,fun _ _ _ _ _ _ _ z=>z.elim⟩) fun w s' ⟨z,H',I',rz,kk,ez,qq⟩=>?_
  . obtain⟨kk,ed,hφ⟩:=z
    subst ed
    exact⟨kk,r,hQ _ R' H' (.bl (!kk)) f rfl hφ⟩
  . subst ez
    obtain rfl:w=Value.bool kk:=rz
    exact wpAny_truthy_bool ⟨.bl (!kk),H',I',rfl,qq⟩
theorem opd_ownNin {K:PySem.W.Frag}{C:Addr}{F:TF}:OpDC K (rOwnNin K C F) (ownNinF C F):=fun c R H x y dx dy φ Q b r1 r2 ⟨h1,h4⟩ k =>
  ⟨c.wd,R,dx,dy,b,r1,r2,h1,φ,h4,fun v R' H' d f r q=>k v H' ⟨R',d,f,r,q⟩⟩
end
open PySem PySem.Spec PyProof.Rows L2
/-- the tuple at a,the list at b,walked side by side; every pair is new -/
def ItTL(K:PySem.W.Frag) (a b:Addr) (N M:Nat):It where
  go:=fun i H=>∃ (xs ys:List V) (x y:V),(SqT K H a xs/\xs[i]?=some x)/\SqL K H b ys/\ys[i]?=some y/\xs.length=N/\ys.length=M
  yld:=fun i H v H'=>∃ T x y,(v=.ref T/\H'=upd H T (.tup [x,y]))/\H T=none/\(∀ xs,SqT K H a xs->xs[i]?=some x)/\(∀ ys,SqL K H b ys->ys[i]?=some y)
  stop:=fun i H=>∃ xs ys:List V,(SqT K H a xs/\SqL K H b ys)/\(xs.length=N/\ys.length=M)/\(N<=i\/M<=i)
theorem itok_TL {K:PySem.W.Frag}{w:Wd}{R:Hp}{p q:Addr}{xs ys:List V}{ds es:List D} (hp:R p=some (.tup xs)) (rx:Reps K R ds xs) (hq:R q=some (.lst ys)) (ry:Reps K R es ys):ItOk K w (ItTL K p q ds.length es.length) R (zipD ds es) where
  go:=fun i R1 H d s b e=>by
    obtain⟨x,y,e1,e2,_⟩:=zipD_get e
    obtain⟨v,hv,_⟩:=rx.get e1
    obtain⟨u,hu,_⟩:=ry.get e2
    exact⟨xs,ys,v,u,⟨SqT.of (b.sub _ _ (s _ _ hp)),hv⟩,SqL.of (b.sub _ _ (s _ _ hq)),hu,rx.length,ry.length⟩
  stop:=fun i R1 H s b e=>by
    rw[zipD_len] at e
    refine⟨xs,ys,⟨SqT.of (b.sub _ _ (s _ _ hp)),SqL.of (b.sub _ _ (s _ _ hq))⟩,⟨rx.length,ry.length⟩,?_⟩
    omega
  yld:=fun i R1 H x H' d s b e ⟨T,x1,y1,⟨ex,eH⟩,hT,k1,k2⟩=>by
    subst ex eH
    obtain⟨dx,dy,e1,e2,e3⟩:=zipD_get e
    subst e3
    obtain⟨v,hv,rv⟩:=rx.get e1
    obtain⟨u,hu,ru⟩:=ry.get e2
    have a1:some v=some x1:=hv.symm.trans (k1 xs (SqT.of (b.sub _ _ (s _ _ hp))))
    have a2:some u=some y1:=hu.symm.trans (k2 ys (SqL.of (b.sub _ _ (s _ _ hq))))
    cases a1
    cases a2
    have fn:=Fin.alloc (o:=.tup [x1,y1]) b hT
    exact⟨_,fn,T,[x1,y1],rfl,upd_same,x1,[y1],rfl,(rv.mono s).mono fn.up,y1,[],rfl,(ru.mono s).mono fn.up,rfl⟩
/-- what is apart -/
structure SepTL (z t o i j a b:Addr):Prop where
  sp:ZipSep2 z t o i j [i,a] [j,b]
  ai:a≠i
  bj:b≠j
theorem SepTL.ne(S:SepTL z t o i j a b):o≠i/\o≠j/\z≠i/\z≠j:=by
  have h1:=S.sp.Tf1
  have h2:=S.sp.Tf2
  have h3:=S.sp.zf1
  have h4:=S.sp.zf2
  simp only[List.mem_cons,List.not_mem_nil,or_false,not_or] at h1 h2 h3 h4
  exact⟨h1.1,h2.1,h3.1,h4.1⟩
abbrev StTL (z t o i j a b:Addr) (N M n:Nat) (h:Heap):Prop:=(n<=N/\n<=M)/\(IsZip h z t o .none/\IsTupOf2 h t (.ref i) (.ref j)/\∃ x y,IsTupOf2 h o x y)/\h.IsTupleIter i a n/\h.IsListIter j b n
theorem turn_TL {P:Program}{w:World}{K:PySem.W.Frag}{els:List Expr}{kk:Nat}{tp:Pos}{z t o i j a b:Addr}{N M:Nat} (S:SepTL z t o i j a b):Turn P w K (.Tuple els kk tp) (ItTL K a b N M) [z,t,o,i,j] z (StTL z t o i j a b N M) where
  mem:=List.mem_cons_self
  obj:=fun n h st c hc=>by
    obtain⟨_,⟨hz,ht,x,y,ho⟩,⟨o1,e1,_,d1⟩,o2,e2,_,d2⟩:=st
    simp only[List.mem_cons,List.not_mem_nil,or_false] at hc
    rcases hc with q | q | q | q | q<;>subst q
    . exact⟨_,hz,fun v q=>nomatch q⟩
    . exact⟨_,ht,fun v q=>nomatch q⟩
    . exact⟨_,ho,fun v q=>nomatch q⟩
    . exact⟨o1,e1,fun v q=>by rw[d1] at q; cases q⟩
    . exact⟨o2,e2,fun v q=>by rw[d2] at q; cases q⟩
  keep:=fun n h h' ⟨hn,⟨hz,ht,x,y,ho⟩,h1,h2⟩ k =>
    ⟨hn,⟨k z (by simp) _ hz,k t (by simp) _ ht,x,y,k o (by simp) _ ho⟩,h1.at fun q e=>k i (by simp) q e,h2.at fun q e=>k j (by simp) q e⟩
  item:=by
    intro X hP hw hK hc n pins s σ H E I hf ⟨hn,⟨hz,ht,x0,y0,ho⟩,h1,h2⟩ ⟨xs,ys,x,y,⟨qx,hx⟩,qy,hy,lN,lM⟩
    subst hP hw hK
    obtain⟨its,rv,p,_⟩:=I.tuple qx
    obtain⟨jts,ru,r,_⟩:=I.list qy
    obtain⟨u,hu,ruu⟩:=rv.get hx
    obtain⟨v,hv,rvv⟩:=ru.get hy
    have hdl:X.A.in1.handled=none:=I.ok.hd hc
    have D1:=Draws.tuple (prog:=X.prog) (w:=X.w) (A:=X.A.in1) hdl i a S.ai its.toArray
    have D2:=Draws.list (prog:=X.prog) (w:=X.w) (A:=X.A.in1) hdl j b S.bj jts.toArray
    obtain⟨n1,n2,n3,n4⟩:=S.ne
    have hzl:z<s.heap.objs.size:=Heap.lt_size hz
    have b1:n<its.toArray.size:=by simpa using (List.getElem?_eq_some_iff.mp hu).1
    have b2:n<jts.toArray.size:=by simpa using (List.getElem?_eq_some_iff.mp hv).1
    refine wpAny_pyNext_zipD2_item S.sp D1 D2 hz ht ho ⟨h1,p⟩ ⟨h2,r.isList⟩ b1 b2 fun x1 x2 h' tk g1 g2 z' o' s1 s2 hT hsz hk=>?_
    have g1:its.toArray[n]?=some x1:=g1
    have g2:jts.toArray[n]?=some x2:=g2
    obtain rfl:u=x1:=by simpa [hu] using g1
    obtain rfl:v=x2:=by simpa [hv] using g2
    refine⟨_,rfl,wpAny_letOwnedTupleGo_zip (s:={s with heap:=h',toks:=tk}) z' fun h2' z2 sb=>?_⟩
    have hT2:=(sb.2 _ (Nat.ne_of_gt hzl)).trans hT
    have off:∀ c ob,c∉[z,t,o,i,j]->s.heap.get? c=some ob->h2'.get? c=some ob:=fun c ob hb e=>by
      simp only[List.mem_cons,List.not_mem_nil,or_false,not_or] at hb
      exact(sb.2 c hb.1).trans (hk c ob hb.1 hb.2.2.1 hb.2.2.2.1 hb.2.2.2.2 e)
    have new:ObjOk X.prog X.w (upd H s.heap.objs.size (.tup [x,y])) h2' s.heap.objs.size (.tup [x,y]):=⟨show 2<=sizeLine by decide,[u,v],.cons ruu (.cons rvv .nil),_,hT2,rfl,_,rfl⟩
    have J:=I.turnedNew (t':=tk) (ch:=[z,t,o,i,j]) off hf (Nat.le_refl _) new
    have low:∀ c∈[z,t,o,i,j],c<s.heap.objs.size:=fun c hc=>by
      simp only[List.mem_cons,List.not_mem_nil,or_false] at hc
      obtain⟨_,w1,_⟩:=h1
      obtain⟨_,w2,_⟩:=h2
      rcases hc with q | q | q | q | q<;>subst q
      . exact hzl
      . exact Heap.lt_size ht
      . exact Heap.lt_size ho
      . exact Heap.lt_size w1
      . exact Heap.lt_size w2
    refine⟨.ref s.heap.objs.size,_,J,rfl,⟨_,x,y,⟨rfl,rfl⟩,I.hok.fresh (Nat.le_refl _),fun l hl=>by rw[I.tuple_inj hl qx]; exact hx,fun l hl=>by rw[I.list_inj hl qy]; exact hy⟩,⟨⟨by have:=(List.getElem?_eq_some_iff.mp hx).1; omega,by have:=(List.getElem?_eq_some_iff.mp hy).1; omega⟩,⟨z2,(sb.2 _ S.sp.TIz).trans (hk _ _ S.sp.TIz S.sp.TITO S.sp.TIi1 S.sp.TIi2 ht),u,v,(sb.2 _ S.sp.TOz).trans o'⟩,s1.1.at fun q e=>(sb.2 _ n3.symm).trans e,s2.1.at fun q e=>(sb.2 _ n4.symm).trans e⟩,fun c hcm=>?_⟩
    rw[upd_ne (Nat.ne_of_lt (low c hcm))]
    exact(hf c hcm).1
  done:=by
    intro X hP hw hK hc n pins s σ H E I hf ⟨hn,⟨hz,ht,x0,y0,ho⟩,h1,h2⟩ ⟨xs,ys,⟨qx,qy⟩,⟨lN,lM⟩,he⟩
    subst hP hw hK
    obtain⟨its,rv,p,_⟩:=I.tuple qx
    obtain⟨jts,ru,r,_⟩:=I.list qy
    have hdl:X.A.in1.handled=none:=I.ok.hd hc
    have D1:=Draws.tuple (prog:=X.prog) (w:=X.w) (A:=X.A.in1) hdl i a S.ai its.toArray
    have D2:=Draws.list (prog:=X.prog) (w:=X.w) (A:=X.A.in1) hdl j b S.bj jts.toArray
    have e1:its.toArray.size=N:=by rw[List.size_toArray,<- rv.length,lN]
    have e2:jts.toArray.size=M:=by rw[List.size_toArray,<- ru.length,lM]
    rw[e1] at D1
    rw[e2] at D2
    refine wpAny_pyNext_zipD2_end S.sp D1 D2 hz ht ho ⟨h1,p⟩ ⟨h2,r.isList⟩ hn.1 hn.2 (by omega) fun h' tk hk=>⟨rfl,I.turnedL (t':=tk) (ch:=[z,t,o,i,j]) (fun c ob hb e=>?_) hf⟩
    simp only[List.mem_cons,List.not_mem_nil,or_false,not_or] at hb
    exact hk c ob hb.1 hb.2.2.1 hb.2.2.2.1 hb.2.2.2.2 e
  self:=fun A n s Q E st h=>wpAny_pyIter_zip st.2.1.1 h
section
variable {X:Cx}{W:WX}
def TIzM(U:TL):TL:=fun c env φ=>U c env fun ds=>∃ xs ys,ds=[.tup xs,.lst ys]/\φ (zipD xs ys)
theorem di_zipM {e e2 : Expr} {p pos tp : Pos} {els : List Expr} {kk : Nat} {U : TL} (hc : X.calm = true) (hg : Gl X "zip") (hm : X.mg "zip" = none) (ha : DA X W [e, e2] U)
    (hs:starEach [e,e2] X.env=(false,eval e X.env)::starEach [e2] X.env:=by rfl) (hpl:(backTo pos (starEach [e2] X.env)).any (·.1)=false:=by rfl):DI X W (.Tuple els kk tp) (.Call (.Name "zip" p) [e,e2] [] pos) (TIzM U) :=
  ⟨fun pins s σ H Rr I ⟨S,R,env,φ,lk,ok,q,hQ⟩=>by
    refine Call_ (ld_blt I hg hm PyProof.Rows.boot_zip (PyProof.Rows.callWith_type1 (thn (ha.run pos pins s σ H (fun vs H1=>∃ R1 ds,Fin S.c.wd R H R1 H1/\Ok3 X.K S R1 H1 σ env/\Reps X.K R1 ds vs/\∃ xs ys,ds=[.tup xs,.lst ys]/\φ (zipD xs ys)) I
      (tL3.ask lk ok q fun R1 H1 ds vs f1 ok1 r1 q1=>⟨R1,ds,f1,ok1,r1,q1⟩)) fun us s1 ⟨vs,H1,I1,r1,R1,ds,f1,ok1,rr,xs,ys,ed,q1⟩=>?_) hs hpl))
    subst ed
    obtain⟨v,u,ev,ra,rb⟩:=reps2 rr
    subst ev
    obtain⟨a,vs,ea,ha1,hra⟩:=rep_tup ra
    obtain⟨b,ws,eb,hb1,hrb⟩:=rep_lst rb
    subst ea eb
    cases r1 with | cons w1 r1=>?_
    cases r1 with | cons w2 r1=>?_
    cases r1
    cases w1
    cases w2
    have qa:=SqT.of (K:=X.K) (ok1.bas.sub _ _ ha1)
    have qb:=SqL.of (K:=X.K) (ok1.bas.sub _ _ hb1)
    obtain⟨its,rv,pa,_⟩:=I1.tuple qa
    obtain⟨jts,ru,pb,_⟩:=I1.list qb
    have la:a<s1.heap.objs.size:=by
      obtain⟨_,y,_⟩:=id pa
      exact Heap.lt_size y
    have lb:b<s1.heap.objs.size:=pb.lt
    refine zip_begins2 (begins_tuple a its.toArray) (begins_list b jts.toArray) pa pb.isList fun h' hz ht ho g1 g2 hsz hk=>wpAny_pyIter_zip hz ?_
    have sep:SepTL (s1.heap.objs.size+4) (s1.heap.objs.size+2) (s1.heap.objs.size+3) s1.heap.objs.size (s1.heap.objs.size+1) a b :=
      ⟨zip_sep2 (fp1:=[a]) (fp2:=[b]) (fun c hc=>by rw[List.mem_singleton.mp hc]; exact la) (fun c hc=>by rw[List.mem_singleton.mp hc]; exact lb),Nat.ne_of_lt la,Nat.ne_of_lt (Nat.lt_succ_of_lt lb)⟩
    have J:L2.Inv X pins σ H1 {s1 with heap:=h'}:=I1.kept (t':=s1.toks) hk
    refine⟨s1.heap.objs.size+4,[s1.heap.objs.size+4,s1.heap.objs.size+2,s1.heap.objs.size+3,s1.heap.objs.size,s1.heap.objs.size+1],_,_,H1,rfl,J,turn_TL (N:=xs.length) (M:=ys.length) sep,⟨⟨Nat.zero_le _,Nat.zero_le _⟩,⟨hz,ht,_,_,ho⟩,⟨_,g1,rfl,rfl⟩,_,g2,rfl,rfl⟩,fun c hcm=>?_,hQ _ _ R1 _ f1 (itok_TL ha1 hra hb1 hrb) q1⟩
    have hle:s1.heap.objs.size<=c:=by
      simp only[List.mem_cons,List.not_mem_nil,or_false] at hcm
      rcases hcm with q | q | q | q | q<;>subst q
      . exact Nat.le_add_right _ 4
      . exact Nat.le_add_right _ 2
      . exact Nat.le_add_right _ 3
      . exact Nat.le_refl _
      . exact Nat.le_add_right _ 1
    exact I1.fpOk hle (I1.hok.fresh hle)⟩
end
end L3
namespace K17
open PySem PySem.Spec PyProof.Rows L2 L3
abbrev XkC (P:Program) (w:World) (K:PySem.W.Frag) (mg:Str->Option Value) (base:Heap) (c:Str) (a:MkV) (b:MkD):=ExcKC P w K mg base 2 (He.ga K c) (He.ma K (He.ga K c) "__init__") a b
variable {P:Program}{w:World}{K:PySem.W.Frag}{mg:Str->Option Value}{base:Heap}
local macro_rules | `(tactic| simp! [$xs,*]) => `(tactic| simp [TLenOwn, TCallLam, slD, TVar, TC, TOp, TTst, fI, TAnd, TOr, TNot, TAndV, TOrV, TNotV, TIf, TChain, TChainB, TNoPart, TPart, TSl, TFld, TFldO, TCon, TNil, TCons, TTup, TLst, TCB, TM1, TFmt, TJs, TJoined, TNext, TSeq, TBreak, TCont, TNever, TRet, TRetN, TDrop, TIfS, L3.TSet, TAug, TPar, GName, GNil, GCons, GTup, TAsg, TIl, TIt, TIs, TIr1, TIr2, TIz, TFor, TOwn, TOwnL, TApp, TExt, TBor, TBorB, TFrz, TPutF, TYes, TLc, TLc2, TCall, TStar, TMake, TOpC, TParO1, TParO0, TPutJ, TBorN, TFldX, TIenT, TOwnLc, TMaxd, TCallK, lenF, isiAF, isiF, isiTF, PySem.W.kitAny, inF, sumF, allF, anyF, tupleF, int1F, max2F, joinF, ixF, addF, mulF, tyOf, TyK, clsOf, clsOfs, wipeD, hideS, flatD, putD, and_assoc, neNilF, TMeth, TMethK, TStar1, ownInF, L3.tGThen, L3.tGYield, L3.tGFor, L3.ForGn, L3.tG0, L3.tPl, L3.tGIf, TMethG, TMethGK, TListG, TDc, TIk, TIxK, TSortKey, TLam, inDF, inOwnF, TLone, slF, isF, isntF, isND, GUnl, TTell, TMakeK, TCMeth, TCMethK, TMakeV, TLcE, TOwnM, TRevL, TIndex, TAppPop, TParO2, TRaise0, $xs,*])
abbrev N_is_sign:List Str:=["value", "letter"]
theorem sc_is_sign:FnScope N_is_sign ["value"] (defScope s_is_sign):=⟨rfl,rfl,rfl,by decide +kernel,rfl,by decide +kernel,by decide +kernel⟩
abbrev N_Tree__init:List Str:=["self", "sign", "branches", "inner", "branch", "text"]
theorem sc_Tree__init:FnScope N_Tree__init ["self", "sign", "branches"] (defScope s_Tree__init):=⟨rfl,rfl,rfl,by decide +kernel,rfl,by decide +kernel,by decide +kernel⟩
abbrev N_head_of:List Str:=["tree"]
theorem sc_head_of:FnScope N_head_of ["tree"] (defScope s_head_of):=⟨rfl,rfl,rfl,by decide +kernel,rfl,by decide +kernel,by decide +kernel⟩
abbrev N_is_room:List Str:=["value"]
theorem sc_is_room:FnScope N_is_room ["value"] (defScope s_is_room):=⟨rfl,rfl,rfl,by decide +kernel,rfl,by decide +kernel,by decide +kernel⟩
abbrev N_is_rule:List Str:=["value", "room"]
theorem sc_is_rule:FnScope N_is_rule ["value"] (defScope s_is_rule):=⟨rfl,rfl,rfl,by decide +kernel,rfl,by decide +kernel,by decide +kernel⟩
abbrev N_Machine__init:List Str:=["self", "rules", "goals", "rule", "goal"]
theorem sc_Machine__init:FnScope N_Machine__init ["self", "rules", "goals"] (defScope s_Machine__init):=⟨rfl,rfl,rfl,by decide +kernel,rfl,by decide +kernel,by decide +kernel⟩
abbrev N_Machine_rules:List Str:=["self"]
theorem sc_Machine_rules:FnScope N_Machine_rules ["self"] (defScope s_Machine_rules):=⟨rfl,rfl,rfl,by decide +kernel,rfl,by decide +kernel,by decide +kernel⟩
abbrev N_Machine_goals:List Str:=["self"]
theorem sc_Machine_goals:FnScope N_Machine_goals ["self"] (defScope s_Machine_goals):=⟨rfl,rfl,rfl,by decide +kernel,rfl,by decide +kernel,by decide +kernel⟩
abbrev N_Machine_rooms_of:List Str:=["self", "tree", "branch"]
theorem sc_Machine_rooms_of:FnScope N_Machine_rooms_of ["self", "tree"] (defScope s_Machine_rooms_of):=⟨rfl,rfl,rfl,by decide +kernel,rfl,by decide +kernel,by decide +kernel⟩
abbrev N_Machine_rooms_above:List Str:=["self", "head", "lots", "found", "sign", "inner", "room", "kid", "lot"]
theorem sc_Machine_rooms_above:FnScope N_Machine_rooms_above ["self", "head", "lots"] (defScope s_Machine_rooms_above):=⟨rfl,rfl,rfl,by decide +kernel,rfl,by decide +kernel,by decide +kernel⟩
abbrev N_Machine__contains:List Str:=["self", "tree", "room"]
theorem sc_Machine__contains:FnScope N_Machine__contains ["self", "tree"] (defScope s_Machine__contains):=⟨rfl,rfl,rfl,by decide +kernel,rfl,by decide +kernel,by decide +kernel⟩
abbrev N_Machine__eq:List Str:=["self", "other"]
theorem sc_Machine__eq:FnScope N_Machine__eq ["self", "other"] (defScope s_Machine__eq):=⟨rfl,rfl,rfl,by decide +kernel,rfl,by decide +kernel,by decide +kernel⟩
abbrev N_Machine__repr:List Str:=["self"]
theorem sc_Machine__repr:FnScope N_Machine__repr ["self"] (defScope s_Machine__repr):=⟨rfl,rfl,rfl,by decide +kernel,rfl,by decide +kernel,by decide +kernel⟩
abbrev N_law_hand:List Str:=["_law_script", "_law_cells", "_law_mark", "_law_cell"]
theorem sc_law_hand:FnScope N_law_hand ["_law_script"] (defScope s_law_hand):=⟨rfl,rfl,rfl,by decide +kernel,rfl,by decide +kernel,by decide +kernel⟩
abbrev N_law_pick:List Str:=["_law_hand_here", "_law_many", "_law_cell", "_law_one", "_law_two", "_law_drawn_here"]
theorem sc_law_pick:FnScope N_law_pick ["_law_hand_here", "_law_many"] (defScope s_law_pick):=⟨rfl,rfl,rfl,by decide +kernel,rfl,by decide +kernel,by decide +kernel⟩
abbrev N_law_of:List Str:=["_law_hand_here", "_law_items"]
theorem sc_law_of:FnScope N_law_of ["_law_hand_here", "_law_items"] (defScope s_law_of):=⟨rfl,rfl,rfl,by decide +kernel,rfl,by decide +kernel,by decide +kernel⟩
abbrev N_law_same:List Str:=["_law_found", "_law_due", "_law_one", "_law_two"]
theorem sc_law_same:FnScope N_law_same ["_law_found", "_law_due"] (defScope s_law_same):=⟨rfl,rfl,rfl,by decide +kernel,rfl,by decide +kernel,by decide +kernel⟩
abbrev N_law_field:List Str:=["_law_e"]
theorem sc_law_field:FnScope N_law_field ["_law_e"] (defScope s_law_field):=⟨rfl,rfl,rfl,by decide +kernel,rfl,by decide +kernel,by decide +kernel⟩
abbrev N_law_why:List Str:=["_law_ask", "_law_said", "_law_e"]
theorem sc_law_why:FnScope N_law_why ["_law_ask"] (defScope s_law_why):=⟨rfl,rfl,rfl,by decide +kernel,rfl,by decide +kernel,by decide +kernel⟩
abbrev N_law_words:List Str:=["_law_asks", "_law_ask"]
theorem sc_law_words:FnScope N_law_words ["_law_asks"] (defScope s_law_words):=⟨rfl,rfl,rfl,by decide +kernel,rfl,by decide +kernel,by decide +kernel⟩
abbrev N_law_tree:List Str:=["_law_model", "_law_kids", "_law_kid"]
theorem sc_law_tree:FnScope N_law_tree ["_law_model"] (defScope s_law_tree):=⟨rfl,rfl,rfl,by decide +kernel,rfl,by decide +kernel,by decide +kernel⟩
abbrev N_law_size:List Str:=["_law_model", "_law_kid"]
theorem sc_law_size:FnScope N_law_size ["_law_model"] (defScope s_law_size):=⟨rfl,rfl,rfl,by decide +kernel,rfl,by decide +kernel,by decide +kernel⟩
abbrev N_law_head:List Str:=["_law_model"]
theorem sc_law_head:FnScope N_law_head ["_law_model"] (defScope s_law_head):=⟨rfl,rfl,rfl,by decide +kernel,rfl,by decide +kernel,by decide +kernel⟩
abbrev N_law_signs:List Str:=[]
theorem sc_law_signs:FnScope N_law_signs [] (defScope s_law_signs):=⟨rfl,rfl,rfl,by decide +kernel,rfl,by decide +kernel,by decide +kernel⟩
abbrev N_law_drawn:List Str:=["_law_hand_here", "_law_signs_here", "_law_room", "_law_fits", "_law_sign", "_law_many", "_law_kids", "_law_left", "_law_k", "_law_kid", "_law_pair"]
theorem sc_law_drawn:FnScope N_law_drawn ["_law_hand_here", "_law_signs_here", "_law_room"] (defScope s_law_drawn):=⟨rfl,rfl,rfl,by decide +kernel,rfl,by decide +kernel,by decide +kernel⟩
abbrev N_law_once:List Str:=["_law_items", "_law_found", "_law_item"]
theorem sc_law_once:FnScope N_law_once ["_law_items"] (defScope s_law_once):=⟨rfl,rfl,rfl,by decide +kernel,rfl,by decide +kernel,by decide +kernel⟩
abbrev N_law_rooms:List Str:=["_law_rules_z", "_law_model", "_law_lots", "_law_found", "_law_sign", "_law_inner", "_law_room", "_law_kid", "_law_lot"]
theorem sc_law_rooms:FnScope N_law_rooms ["_law_rules_z", "_law_model"] (defScope s_law_rooms):=⟨rfl,rfl,rfl,by decide +kernel,rfl,by decide +kernel,by decide +kernel⟩
abbrev N_law_rules:List Str:=["_law_hand_here", "_law_many", "_law_found", "_law_k", "_law_sign", "_law_width", "_law_j"]
theorem sc_law_rules:FnScope N_law_rules ["_law_hand_here", "_law_many"] (defScope s_law_rules):=⟨rfl,rfl,rfl,by decide +kernel,rfl,by decide +kernel,by decide +kernel⟩
abbrev N_law:List Str:=["_law_script", "_law_hand_here", "_law_turn", "_law_far", "_law_rules_z", "_law_goals_z", "_law_machine", "_law_again", "_law_k", "_law_model", "_law_due", "_law_tree_z", "_law_same_here", "_law_at", "_law_sign", "_law_bad", "_law_odd", "_law_asks", "_law_rooms_here", "_law_room_one", "_law_room"]
theorem sc_law:FnScope N_law ["_law_script"] (defScope s_law):=⟨rfl,rfl,rfl,by decide +kernel,rfl,by decide +kernel,by decide +kernel⟩
abbrev N_TradeError__init:List Str:=["self", "word"]
abbrev N_InvalidRules__init:List Str:=["self"]
structure Tx (K:PySem.W.Frag) (mg:Str->Option Value):Prop where
  mg_Tree:mg "Tree"=some (.ref (He.ga K "Tree"))
  cl_Tree:Cls K (He.ga K "Tree")
  mk_Tree:Mk K (He.ga K "Tree") (He.ma K (He.ga K "Tree") "__init__")
  in_Tree:InsK K (He.ga K "Tree")
  ki_Tree:PySem.W.kitOne K (.ref (He.ga K "Tree")) (.ref (He.ga K "Tree"))=some true
  na_Tree_sign:NoAttr K (He.ga K "Tree") "sign"
  na_Tree_branches:NoAttr K (He.ga K "Tree") "branches"
  na_Tree_size:NoAttr K (He.ga K "Tree") "size"
  na_Tree_depth:NoAttr K (He.ga K "Tree") "depth"
  na_Tree_text:NoAttr K (He.ga K "Tree") "text"
  na_Tree_inside:NoAttr K (He.ga K "Tree") "inside"
  na_Tree_key:NoAttr K (He.ga K "Tree") "key"
  mg_Machine:mg "Machine"=some (.ref (He.ga K "Machine"))
  cl_Machine:Cls K (He.ga K "Machine")
  mk_Machine:Mk K (He.ga K "Machine") (He.ma K (He.ga K "Machine") "__init__")
  in_Machine:InsK K (He.ga K "Machine")
  ki_Machine:PySem.W.kitOne K (.ref (He.ga K "Machine")) (.ref (He.ga K "Machine"))=some true
  na_Machine_own_rules:NoAttr K (He.ga K "Machine") "own_rules"
  na_Machine_own_goals:NoAttr K (He.ga K "Machine") "own_goals"
  mg_is_sign:mg "is_sign"=some (.ref (He.ga K "is_sign"))
  fd_is_sign:∃ fd,FunD K "is_sign" "is_sign" (defArgs s_is_sign) (defBody s_is_sign) (defScope s_is_sign) [] [] (He.ga K "is_sign") fd
  kp_is_sign:PySem.W.keepIn K (.ref (He.ga K "is_sign"))=true
  fd_Tree__init:∃ fd,FunD K "__init__" "Tree.__init__" (defArgs s_Tree__init) (defBody s_Tree__init) (defScope s_Tree__init) [] [] (He.ma K (He.ga K "Tree") "__init__") fd
  mg_head_of:mg "head_of"=some (.ref (He.ga K "head_of"))
  fd_head_of:∃ fd,FunD K "head_of" "head_of" (defArgs s_head_of) (defBody s_head_of) (defScope s_head_of) [] [] (He.ga K "head_of") fd
  kp_head_of:PySem.W.keepIn K (.ref (He.ga K "head_of"))=true
  mg_is_room:mg "is_room"=some (.ref (He.ga K "is_room"))
  fd_is_room:∃ fd,FunD K "is_room" "is_room" (defArgs s_is_room) (defBody s_is_room) (defScope s_is_room) [] [] (He.ga K "is_room") fd
  kp_is_room:PySem.W.keepIn K (.ref (He.ga K "is_room"))=true
  mg_is_rule:mg "is_rule"=some (.ref (He.ga K "is_rule"))
  fd_is_rule:∃ fd,FunD K "is_rule" "is_rule" (defArgs s_is_rule) (defBody s_is_rule) (defScope s_is_rule) [] [] (He.ga K "is_rule") fd
  kp_is_rule:PySem.W.keepIn K (.ref (He.ga K "is_rule"))=true
  fd_Machine__init:∃ fd,FunD K "__init__" "Machine.__init__" (defArgs s_Machine__init) (defBody s_Machine__init) (defScope s_Machine__init) [] [] (He.ma K (He.ga K "Machine") "__init__") fd
  fd_Machine_rules:∃ fd,FunD K "rules" "Machine.rules" (defArgs s_Machine_rules) (defBody s_Machine_rules) (defScope s_Machine_rules) [] [] (He.ma K (He.ga K "Machine") "rules") fd
  fd_Machine_goals:∃ fd,FunD K "goals" "Machine.goals" (defArgs s_Machine_goals) (defBody s_Machine_goals) (defScope s_Machine_goals) [] [] (He.ma K (He.ga K "Machine") "goals") fd
  fd_Machine_rooms_of:∃ fd,FunD K "rooms_of" "Machine.rooms_of" (defArgs s_Machine_rooms_of) (defBody s_Machine_rooms_of) (defScope s_Machine_rooms_of) [] [] (He.ma K (He.ga K "Machine") "rooms_of") fd
  fd_Machine_rooms_above:∃ fd,FunD K "rooms_above" "Machine.rooms_above" (defArgs s_Machine_rooms_above) (defBody s_Machine_rooms_above) (defScope s_Machine_rooms_above) [] [] (He.ma K (He.ga K "Machine") "rooms_above") fd
  fd_Machine__contains:∃ fd,FunD K "__contains__" "Machine.__contains__" (defArgs s_Machine__contains) (defBody s_Machine__contains) (defScope s_Machine__contains) [] [] (He.ma K (He.ga K "Machine") "__contains__") fd
  fd_Machine__eq:∃ fd,FunD K "__eq__" "Machine.__eq__" (defArgs s_Machine__eq) (defBody s_Machine__eq) (defScope s_Machine__eq) [] [] (He.ma K (He.ga K "Machine") "__eq__") fd
  fd_Machine__repr:∃ fd,FunD K "__repr__" "Machine.__repr__" (defArgs s_Machine__repr) (defBody s_Machine__repr) (defScope s_Machine__repr) [] [] (He.ma K (He.ga K "Machine") "__repr__") fd
  mg_law_hand:mg "_law_hand"=some (.ref (He.ga K "_law_hand"))
  fd_law_hand:∃ fd,FunD K "_law_hand" "_law_hand" (defArgs s_law_hand) (defBody s_law_hand) (defScope s_law_hand) [] [] (He.ga K "_law_hand") fd
  kp_law_hand:PySem.W.keepIn K (.ref (He.ga K "_law_hand"))=true
  mg_law_pick:mg "_law_pick"=some (.ref (He.ga K "_law_pick"))
  fd_law_pick:∃ fd,FunD K "_law_pick" "_law_pick" (defArgs s_law_pick) (defBody s_law_pick) (defScope s_law_pick) [] [] (He.ga K "_law_pick") fd
  kp_law_pick:PySem.W.keepIn K (.ref (He.ga K "_law_pick"))=true
  mg_law_of:mg "_law_of"=some (.ref (He.ga K "_law_of"))
  fd_law_of:∃ fd,FunD K "_law_of" "_law_of" (defArgs s_law_of) (defBody s_law_of) (defScope s_law_of) [] [] (He.ga K "_law_of") fd
  kp_law_of:PySem.W.keepIn K (.ref (He.ga K "_law_of"))=true
  mg_law_same:mg "_law_same"=some (.ref (He.ga K "_law_same"))
  fd_law_same:∃ fd,FunD K "_law_same" "_law_same" (defArgs s_law_same) (defBody s_law_same) (defScope s_law_same) [] [] (He.ga K "_law_same") fd
  kp_law_same:PySem.W.keepIn K (.ref (He.ga K "_law_same"))=true
  mg_law_field:mg "_law_field"=some (.ref (He.ga K "_law_field"))
  fd_law_field:∃ fd,FunD K "_law_field" "_law_field" (defArgs s_law_field) (defBody s_law_field) (defScope s_law_field) [] [] (He.ga K "_law_field") fd
  kp_law_field:PySem.W.keepIn K (.ref (He.ga K "_law_field"))=true
  mg_law_why:mg "_law_why"=some (.ref (He.ga K "_law_why"))
  fd_law_why:∃ fd,FunD K "_law_why" "_law_why" (defArgs s_law_why) (defBody s_law_why) (defScope s_law_why) [] [] (He.ga K "_law_why") fd
  kp_law_why:PySem.W.keepIn K (.ref (He.ga K "_law_why"))=true
  mg_law_words:mg "_law_words"=some (.ref (He.ga K "_law_words"))
  fd_law_words:∃ fd,FunD K "_law_words" "_law_words" (defArgs s_law_words) (defBody s_law_words) (defScope s_law_words) [] [] (He.ga K "_law_words") fd
  kp_law_words:PySem.W.keepIn K (.ref (He.ga K "_law_words"))=true
  mg_law_tree:mg "_law_tree"=some (.ref (He.ga K "_law_tree"))
  fd_law_tree:∃ fd,FunD K "_law_tree" "_law_tree" (defArgs s_law_tree) (defBody s_law_tree) (defScope s_law_tree) [] [] (He.ga K "_law_tree") fd
  kp_law_tree:PySem.W.keepIn K (.ref (He.ga K "_law_tree"))=true
  mg_law_size:mg "_law_size"=some (.ref (He.ga K "_law_size"))
  fd_law_size:∃ fd,FunD K "_law_size" "_law_size" (defArgs s_law_size) (defBody s_law_size) (defScope s_law_size) [] [] (He.ga K "_law_size") fd
  kp_law_size:PySem.W.keepIn K (.ref (He.ga K "_law_size"))=true
  mg_law_head:mg "_law_head"=some (.ref (He.ga K "_law_head"))
  fd_law_head:∃ fd,FunD K "_law_head" "_law_head" (defArgs s_law_head) (defBody s_law_head) (defScope s_law_head) [] [] (He.ga K "_law_head") fd
  kp_law_head:PySem.W.keepIn K (.ref (He.ga K "_law_head"))=true
  mg_law_signs:mg "_law_signs"=some (.ref (He.ga K "_law_signs"))
  fd_law_signs:∃ fd,FunD K "_law_signs" "_law_signs" (defArgs s_law_signs) (defBody s_law_signs) (defScope s_law_signs) [] [] (He.ga K "_law_signs") fd
  kp_law_signs:PySem.W.keepIn K (.ref (He.ga K "_law_signs"))=true
  mg_law_drawn:mg "_law_drawn"=some (.ref (He.ga K "_law_drawn"))
  fd_law_drawn:∃ fd,FunD K "_law_drawn" "_law_drawn" (defArgs s_law_drawn) (defBody s_law_drawn) (defScope s_law_drawn) [] [] (He.ga K "_law_drawn") fd
  kp_law_drawn:PySem.W.keepIn K (.ref (He.ga K "_law_drawn"))=true
  mg_law_once:mg "_law_once"=some (.ref (He.ga K "_law_once"))
  fd_law_once:∃ fd,FunD K "_law_once" "_law_once" (defArgs s_law_once) (defBody s_law_once) (defScope s_law_once) [] [] (He.ga K "_law_once") fd
  kp_law_once:PySem.W.keepIn K (.ref (He.ga K "_law_once"))=true
  mg_law_rooms:mg "_law_rooms"=some (.ref (He.ga K "_law_rooms"))
  fd_law_rooms:∃ fd,FunD K "_law_rooms" "_law_rooms" (defArgs s_law_rooms) (defBody s_law_rooms) (defScope s_law_rooms) [] [] (He.ga K "_law_rooms") fd
  kp_law_rooms:PySem.W.keepIn K (.ref (He.ga K "_law_rooms"))=true
  mg_law_rules:mg "_law_rules"=some (.ref (He.ga K "_law_rules"))
  fd_law_rules:∃ fd,FunD K "_law_rules" "_law_rules" (defArgs s_law_rules) (defBody s_law_rules) (defScope s_law_rules) [] [] (He.ga K "_law_rules") fd
  kp_law_rules:PySem.W.keepIn K (.ref (He.ga K "_law_rules"))=true
  mg_law:mg "law"=some (.ref (He.ga K "law"))
  fd_law:∃ fd,FunD K "law" "law" (defArgs s_law) (defBody s_law) (defScope s_law) [] [] (He.ga K "law") fd
  kp_law:PySem.W.keepIn K (.ref (He.ga K "law"))=true
  no_sorted:mg "sorted"=none
  no_isinstance:mg "isinstance"=none
  no_str:mg "str"=none
  no_len:mg "len"=none
  no_all:mg "all"=none
  no_int:mg "int"=none
  no_sum:mg "sum"=none
  no_max:mg "max"=none
  no_tuple:mg "tuple"=none
  no_bool:mg "bool"=none
  no_list:mg "list"=none
  no_zip:mg "zip"=none
  no_range:mg "range"=none
  no_super:mg "super"=none
  no_repr:mg "repr"=none
  no_enumerate:mg "enumerate"=none
  no_any:mg "any"=none
  mg_MOST_LETTERS:∃ t,mg "MOST_LETTERS"=some (.int 6 t)
  mg_MOST_BRANCHES_trees:∃ t,mg "MOST_BRANCHES_trees"=some (.int 3 t)
  mg_LETTERS:∃ t,mg "LETTERS"=some (.str "abcdefghijklmnopqrstuvwxyz" t)
  eq_Machine:EqK K (He.ga K "Machine") (He.ma K (He.ga K "Machine") "__eq__")
  me_rules:Meth K (He.ga K "Machine") "rules" (He.ma K (He.ga K "Machine") "rules")
  me_goals:Meth K (He.ga K "Machine") "goals" (He.ma K (He.ga K "Machine") "goals")
  me_rooms_of:Meth K (He.ga K "Machine") "rooms_of" (He.ma K (He.ga K "Machine") "rooms_of")
  me_rooms_above:Meth K (He.ga K "Machine") "rooms_above" (He.ma K (He.ga K "Machine") "rooms_above")
  nf_Tree_Tree:PySem.W.notFirst K (He.ga K "Tree") (.ref (He.ga K "Tree"))=true
  nf_Machine_Machine:PySem.W.notFirst K (He.ga K "Machine") (.ref (He.ga K "Machine"))=true
  mg_TradeError:mg "TradeError"=some (.ref (He.ga K "TradeError"))
  mg_Missing:mg "Missing"=some (.ref (He.ga K "Missing"))
  mg_NothingLeft:mg "NothingLeft"=some (.ref (He.ga K "NothingLeft"))
  mg_InvalidRules:mg "InvalidRules"=some (.ref (He.ga K "InvalidRules"))
  fs_TradeError__init:∃ fd,FunS K "__init__" "TradeError.__init__" (defArgs s_TradeError__init) (defBody s_TradeError__init) (defScope s_TradeError__init) (PySem.Challenge.pw_piecetrade_k17_machines_made_and_refused.main.file) ((He.ga K "TradeError")) (He.ma K (He.ga K "TradeError") "__init__") fd
  fs_InvalidRules__init:∃ fd,FunS K "__init__" "InvalidRules.__init__" (defArgs s_InvalidRules__init) (defBody s_InvalidRules__init) (defScope s_InvalidRules__init) (PySem.Challenge.pw_piecetrade_k17_machines_made_and_refused.main.file) ((He.ga K "InvalidRules")) (He.ma K (He.ga K "InvalidRules") "__init__") fd
  xc_InvalidRules:ExC K "ValueError" "ValueError.__new__" "ValueError.__init__" bmVE (He.ga K "InvalidRules")
  xf_InvalidRules:XfC K (He.ga K "InvalidRules")
  nx_InvalidRules:PySem.W.mroIn K (He.ga K "InvalidRules") (.ref (He.ga K "InvalidRules"))=some true/\PySem.W.ks_superIn K (He.ga K "InvalidRules") (He.ga K "InvalidRules") "__init__"=some (some (.ref (He.ma K (He.ga K "TradeError") "__init__")))/\PySem.W.nsIn K cStatics "thirdparty.any"=some none
  nxt_InvalidRules:PySem.W.mroIn K (He.ga K "InvalidRules") (.ref (He.ga K "TradeError"))=some true/\PySem.W.ks_superIn K (He.ga K "InvalidRules") (He.ga K "TradeError") "__init__"=some (some (.builtin "ValueError.__init__"))/\PySem.W.nsIn K cStatics "thirdparty.any"=some none
  sub_InvalidRules:PySem.W.subIn K (.ref (He.ga K "InvalidRules")) (.type "ValueError")=some true
  ic_InvalidRules:PySem.W.findIn K (.ref (He.ga K "InvalidRules")) "__init__"=some (some (.ref (He.ma K (He.ga K "InvalidRules") "__init__")))/\PySem.W.typeIn K (.ref (He.ma K (He.ga K "InvalidRules") "__init__"))=some (.type "function")
  nox_InvalidRules_word:PySem.W.findIn K (.ref (He.ga K "InvalidRules")) "word"=some none
  em_InvalidRules:PySem.W.exmAny K (.ref (He.ga K "InvalidRules")) [.ref (He.ga K "TradeError"),.ref (He.ga K "Missing")]=some true
  ty_TradeError:PySem.W.typeIn K (.ref (He.ma K (He.ga K "TradeError") "__init__"))=some (.type "function")/\PySem.W.fnIn K (He.ma K (He.ga K "TradeError") "__init__")=true
  te_Machine_contains:PySem.W.findIn K (.ref (He.ga K "Machine")) "__contains__"=some (some (.ref (He.ma K (He.ga K "Machine") "__contains__")))/\PySem.W.isFn K (.ref (He.ma K (He.ga K "Machine") "__contains__"))=true
  te_Machine_repr:PySem.W.findIn K (.ref (He.ga K "Machine")) "__repr__"=some (some (.ref (He.ma K (He.ga K "Machine") "__repr__")))/\PySem.W.isFn K (.ref (He.ma K (He.ga K "Machine") "__repr__"))=true
  cv_MB:CConK K (He.ga K "Tree") "MOST_BRANCHES" (.int 3)
  kil_Machine:PySem.W.kitOne K (.type "list") (.ref (He.ga K "Machine"))=some false
  nf_Machine_list:PySem.W.notFirst K (He.ga K "Machine") (.type "list")=true
theorem tx_of {K:PySem.W.Frag}{h:Heap}{mg:Str->Option Value} (X:K.In h) (G:h.Ns mainGlobals mg) (c0:SaysXU fa fn fs ex tf h K):Tx K mg:=by
  have c:=c0.s
  exact {
 mg_Tree:=He.glo_ok X G (c.fact 0 (f:=.glo "Tree") rfl)
 cl_Tree:=He.cls_ok (c.fact 1 (f:=.cls "Tree") rfl)
 mk_Tree:=He.mkr_ok (c.fact 2 (f:=.mkr "Tree") rfl)
 in_Tree:=insB_ok (c.ex_ 0 (f:=insB "Tree") rfl) (He.cls_ok (c.fact 1 (f:=.cls "Tree") rfl))
 ki_Tree:=kitB_ok (c.ex_ 1 (f:=kitB (rC "Tree") (rC "Tree") true) rfl)
 na_Tree_sign:=He.noat_ok (c.fact 3 (f:=.noat "Tree" "sign") rfl)
 na_Tree_branches:=He.noat_ok (c.fact 4 (f:=.noat "Tree" "branches") rfl)
 na_Tree_size:=He.noat_ok (c.fact 5 (f:=.noat "Tree" "size") rfl)
 na_Tree_depth:=He.noat_ok (c.fact 6 (f:=.noat "Tree" "depth") rfl)
 na_Tree_text:=He.noat_ok (c.fact 7 (f:=.noat "Tree" "text") rfl)
 na_Tree_inside:=He.noat_ok (c.fact 8 (f:=.noat "Tree" "inside") rfl)
 na_Tree_key:=He.noat_ok (c.fact 9 (f:=.noat "Tree" "key") rfl)
 mg_Machine:=He.glo_ok X G (c.fact 10 (f:=.glo "Machine") rfl)
 cl_Machine:=He.cls_ok (c.fact 11 (f:=.cls "Machine") rfl)
 mk_Machine:=He.mkr_ok (c.fact 12 (f:=.mkr "Machine") rfl)
 in_Machine:=insB_ok (c.ex_ 2 (f:=insB "Machine") rfl) (He.cls_ok (c.fact 11 (f:=.cls "Machine") rfl))
 ki_Machine:=kitB_ok (c.ex_ 3 (f:=kitB (rC "Machine") (rC "Machine") true) rfl)
 na_Machine_own_rules:=He.noat_ok (c.fact 13 (f:=.noat "Machine" "own_rules") rfl)
 na_Machine_own_goals:=He.noat_ok (c.fact 14 (f:=.noat "Machine" "own_goals") rfl)
 mg_is_sign:=He.glo_ok X G (c.fact 15 (f:=.glo "is_sign") rfl)
 fd_is_sign:=c.def_ 0 (d:=d_is_sign) rfl
 kp_is_sign:=(c.def_ 0 (d:=d_is_sign) rfl).choose_spec.kp
 fd_Tree__init:=c.def_ 1 (d:=d_Tree__init) rfl
 mg_head_of:=He.glo_ok X G (c.fact 16 (f:=.glo "head_of") rfl)
 fd_head_of:=c.def_ 2 (d:=d_head_of) rfl
 kp_head_of:=(c.def_ 2 (d:=d_head_of) rfl).choose_spec.kp
 mg_is_room:=He.glo_ok X G (c.fact 17 (f:=.glo "is_room") rfl)
 fd_is_room:=c.def_ 3 (d:=d_is_room) rfl
 kp_is_room:=(c.def_ 3 (d:=d_is_room) rfl).choose_spec.kp
 mg_is_rule:=He.glo_ok X G (c.fact 18 (f:=.glo "is_rule") rfl)
 fd_is_rule:=c.def_ 4 (d:=d_is_rule) rfl
 kp_is_rule:=(c.def_ 4 (d:=d_is_rule) rfl).choose_spec.kp
 fd_Machine__init:=c.def_ 5 (d:=d_Machine__init) rfl
 fd_Machine_rules:=c.def_ 6 (d:=d_Machine_rules) rfl
 fd_Machine_goals:=c.def_ 7 (d:=d_Machine_goals) rfl
 fd_Machine_rooms_of:=c.def_ 8 (d:=d_Machine_rooms_of) rfl
 fd_Machine_rooms_above:=c.def_ 9 (d:=d_Machine_rooms_above) rfl
 fd_Machine__contains:=c.def_ 10 (d:=d_Machine__contains) rfl
 fd_Machine__eq:=c.def_ 11 (d:=d_Machine__eq) rfl
 fd_Machine__repr:=c.def_ 12 (d:=d_Machine__repr) rfl
 mg_law_hand:=He.glo_ok X G (c.fact 19 (f:=.glo "_law_hand") rfl)
 fd_law_hand:=c.def_ 13 (d:=d_law_hand) rfl
 kp_law_hand:=(c.def_ 13 (d:=d_law_hand) rfl).choose_spec.kp
 mg_law_pick:=He.glo_ok X G (c.fact 20 (f:=.glo "_law_pick") rfl)
 fd_law_pick:=c.def_ 14 (d:=d_law_pick) rfl
 kp_law_pick:=(c.def_ 14 (d:=d_law_pick) rfl).choose_spec.kp
 mg_law_of:=He.glo_ok X G (c.fact 21 (f:=.glo "_law_of") rfl)
 fd_law_of:=c.def_ 15 (d:=d_law_of) rfl
 kp_law_of:=(c.def_ 15 (d:=d_law_of) rfl).choose_spec.kp
 mg_law_same:=He.glo_ok X G (c.fact 22 (f:=.glo "_law_same") rfl)
 fd_law_same:=c.def_ 16 (d:=d_law_same) rfl
 kp_law_same:=(c.def_ 16 (d:=d_law_same) rfl).choose_spec.kp
 mg_law_field:=He.glo_ok X G (c.fact 23 (f:=.glo "_law_field") rfl)
 fd_law_field:=c.def_ 17 (d:=d_law_field) rfl
 kp_law_field:=(c.def_ 17 (d:=d_law_field) rfl).choose_spec.kp
 mg_law_why:=He.glo_ok X G (c.fact 24 (f:=.glo "_law_why") rfl)
 fd_law_why:=c.def_ 18 (d:=d_law_why) rfl
 kp_law_why:=(c.def_ 18 (d:=d_law_why) rfl).choose_spec.kp
 mg_law_words:=He.glo_ok X G (c.fact 25 (f:=.glo "_law_words") rfl)
 fd_law_words:=c.def_ 19 (d:=d_law_words) rfl
 kp_law_words:=(c.def_ 19 (d:=d_law_words) rfl).choose_spec.kp
 mg_law_tree:=He.glo_ok X G (c.fact 26 (f:=.glo "_law_tree") rfl)
 fd_law_tree:=c.def_ 20 (d:=d_law_tree) rfl
 kp_law_tree:=(c.def_ 20 (d:=d_law_tree) rfl).choose_spec.kp
 mg_law_size:=He.glo_ok X G (c.fact 27 (f:=.glo "_law_size") rfl)
 fd_law_size:=c.def_ 21 (d:=d_law_size) rfl
 kp_law_size:=(c.def_ 21 (d:=d_law_size) rfl).choose_spec.kp
 mg_law_head:=He.glo_ok X G (c.fact 28 (f:=.glo "_law_head") rfl)
 fd_law_head:=c.def_ 22 (d:=d_law_head) rfl
 kp_law_head:=(c.def_ 22 (d:=d_law_head) rfl).choose_spec.kp
 mg_law_signs:=He.glo_ok X G (c.fact 29 (f:=.glo "_law_signs") rfl)
 fd_law_signs:=c.def_ 23 (d:=d_law_signs) rfl
 kp_law_signs:=(c.def_ 23 (d:=d_law_signs) rfl).choose_spec.kp
 mg_law_drawn:=He.glo_ok X G (c.fact 30 (f:=.glo "_law_drawn") rfl)
 fd_law_drawn:=c.def_ 24 (d:=d_law_drawn) rfl
 kp_law_drawn:=(c.def_ 24 (d:=d_law_drawn) rfl).choose_spec.kp
 mg_law_once:=He.glo_ok X G (c.fact 31 (f:=.glo "_law_once") rfl)
 fd_law_once:=c.def_ 25 (d:=d_law_once) rfl
 kp_law_once:=(c.def_ 25 (d:=d_law_once) rfl).choose_spec.kp
 mg_law_rooms:=He.glo_ok X G (c.fact 32 (f:=.glo "_law_rooms") rfl)
 fd_law_rooms:=c.def_ 26 (d:=d_law_rooms) rfl
 kp_law_rooms:=(c.def_ 26 (d:=d_law_rooms) rfl).choose_spec.kp
 mg_law_rules:=He.glo_ok X G (c.fact 33 (f:=.glo "_law_rules") rfl)
 fd_law_rules:=c.def_ 27 (d:=d_law_rules) rfl
 kp_law_rules:=(c.def_ 27 (d:=d_law_rules) rfl).choose_spec.kp
 mg_law:=He.glo_ok X G (c.fact 34 (f:=.glo "law") rfl)
 fd_law:=c.def_ 28 (d:=d_law) rfl
 kp_law:=(c.def_ 28 (d:=d_law) rfl).choose_spec.kp
 no_sorted:=He.free_ok X G (c.fact 35 (f:=.free "sorted") rfl)
 no_isinstance:=He.free_ok X G (c.fact 36 (f:=.free "isinstance") rfl)
 no_str:=He.free_ok X G (c.fact 37 (f:=.free "str") rfl)
 no_len:=He.free_ok X G (c.fact 38 (f:=.free "len") rfl)
 no_all:=He.free_ok X G (c.fact 39 (f:=.free "all") rfl)
 no_int:=He.free_ok X G (c.fact 40 (f:=.free "int") rfl)
 no_sum:=He.free_ok X G (c.fact 41 (f:=.free "sum") rfl)
 no_max:=He.free_ok X G (c.fact 42 (f:=.free "max") rfl)
 no_tuple:=He.free_ok X G (c.fact 43 (f:=.free "tuple") rfl)
 no_bool:=He.free_ok X G (c.fact 44 (f:=.free "bool") rfl)
 no_list:=He.free_ok X G (c.fact 45 (f:=.free "list") rfl)
 no_zip:=He.free_ok X G (c.fact 46 (f:=.free "zip") rfl)
 no_range:=He.free_ok X G (c.fact 47 (f:=.free "range") rfl)
 no_super:=He.free_ok X G (c.fact 48 (f:=.free "super") rfl)
 no_repr:=He.free_ok X G (c.fact 49 (f:=.free "repr") rfl)
 no_enumerate:=He.free_ok X G (c.fact 50 (f:=.free "enumerate") rfl)
 no_any:=He.free_ok X G (c.fact 51 (f:=.free "any") rfl)
 mg_MOST_LETTERS:=He.int_ok X G (c.fact 52 (f:=.int "MOST_LETTERS" 6) rfl)
 mg_MOST_BRANCHES_trees:=He.int_ok X G (c.fact 53 (f:=.int "MOST_BRANCHES_trees" 3) rfl)
 mg_LETTERS:=He.str_ok X G (c.fact 54 (f:=.str "LETTERS" "abcdefghijklmnopqrstuvwxyz") rfl)
 eq_Machine:=eqB_ok (c.ex_ 4 (f:=eqB "Machine") rfl)
 me_rules:=He.meth_ok (c.fact 55 (f:=.meth "Machine" "rules") rfl)
 me_goals:=He.meth_ok (c.fact 56 (f:=.meth "Machine" "goals") rfl)
 me_rooms_of:=He.meth_ok (c.fact 57 (f:=.meth "Machine" "rooms_of") rfl)
 me_rooms_above:=He.meth_ok (c.fact 58 (f:=.meth "Machine" "rooms_above") rfl)
 nf_Tree_Tree:=c.ex_ 5 (f:=nfB "Tree" (rC "Tree")) rfl
 nf_Machine_Machine:=c.ex_ 6 (f:=nfB "Machine" (rC "Machine")) rfl
 mg_TradeError:=He.glo_ok X G (c.fact 59 (f:=.glo "TradeError") rfl)
 mg_Missing:=He.glo_ok X G (c.fact 60 (f:=.glo "Missing") rfl)
 mg_NothingLeft:=He.glo_ok X G (c.fact 61 (f:=.glo "NothingLeft") rfl)
 mg_InvalidRules:=He.glo_ok X G (c.fact 62 (f:=.glo "InvalidRules") rfl)
 fs_TradeError__init:=c0.def_s 0 (d:=ds_TradeError__init) rfl
 fs_InvalidRules__init:=c0.def_s 1 (d:=ds_InvalidRules__init) rfl
 xc_InvalidRules:=excB_ok bsVE (c.ex_ 7 (f:=excB "InvalidRules" "ValueError.__new__" bmVE) rfl)
 xf_InvalidRules:=xfB_ok (c.ex_ 8 (f:=(fun K=>xfB K (He.ga K "InvalidRules"))) rfl)
 nx_InvalidRules:=of_decide_eq_true (c.ex_ 9 (f:=(fun K=>decide (PySem.W.mroIn K (He.ga K "InvalidRules") (.ref (He.ga K "InvalidRules"))=some true/\PySem.W.ks_superIn K (He.ga K "InvalidRules") (He.ga K "InvalidRules") "__init__"=some (some (.ref (He.ma K (He.ga K "TradeError") "__init__")))/\PySem.W.nsIn K cStatics "thirdparty.any"=some none))) rfl)
 nxt_InvalidRules:=of_decide_eq_true (c.ex_ 10 (f:=(fun K=>decide (PySem.W.mroIn K (He.ga K "InvalidRules") (.ref (He.ga K "TradeError"))=some true/\PySem.W.ks_superIn K (He.ga K "InvalidRules") (He.ga K "TradeError") "__init__"=some (some (.builtin "ValueError.__init__"))/\PySem.W.nsIn K cStatics "thirdparty.any"=some none))) rfl)
 sub_InvalidRules:=of_decide_eq_true (c.ex_ 11 (f:=(fun K=>decide (PySem.W.subIn K (.ref (He.ga K "InvalidRules")) (.type "ValueError")=some true))) rfl)
 ic_InvalidRules:=of_decide_eq_true (c.ex_ 12 (f:=(fun K=>decide (PySem.W.findIn K (.ref (He.ga K "InvalidRules")) "__init__"=some (some (.ref (He.ma K (He.ga K "InvalidRules") "__init__")))/\PySem.W.typeIn K (.ref (He.ma K (He.ga K "InvalidRules") "__init__"))=some (.type "function")))) rfl)
 nox_InvalidRules_word:=of_decide_eq_true (c.ex_ 13 (f:=(fun K=>decide (PySem.W.findIn K (.ref (He.ga K "InvalidRules")) "word"=some none))) rfl)
 em_InvalidRules:=of_decide_eq_true (c.ex_ 14 (f:=(fun K=>decide (PySem.W.exmAny K (.ref (He.ga K "InvalidRules")) [.ref (He.ga K "TradeError"),.ref (He.ga K "Missing")]=some true))) rfl)
 ty_TradeError:=of_decide_eq_true (c.ex_ 15 (f:=(fun K=>decide (PySem.W.typeIn K (.ref (He.ma K (He.ga K "TradeError") "__init__"))=some (.type "function")/\PySem.W.fnIn K (He.ma K (He.ga K "TradeError") "__init__")=true))) rfl)
 te_Machine_contains:=of_decide_eq_true (c.ex_ 16 (f:=(fun K=>decide (PySem.W.findIn K (.ref (He.ga K "Machine")) "__contains__"=some (some (.ref (He.ma K (He.ga K "Machine") "__contains__")))/\PySem.W.isFn K (.ref (He.ma K (He.ga K "Machine") "__contains__"))=true))) rfl)
 te_Machine_repr:=of_decide_eq_true (c.ex_ 17 (f:=(fun K=>decide (PySem.W.findIn K (.ref (He.ga K "Machine")) "__repr__"=some (some (.ref (He.ma K (He.ga K "Machine") "__repr__")))/\PySem.W.isFn K (.ref (He.ma K (He.ga K "Machine") "__repr__"))=true))) rfl)
 cv_MB:=cvB_ok (crB_ok (c.ex_ 18 (f:=crB "Tree") rfl)) (c.ex_ 19 (f:=cvB "Tree" "MOST_BRANCHES" 3) rfl)
 kil_Machine:=kitB_ok (c.ex_ 20 (f:=kitB (fun _=>.type "list") (rC "Machine") false) rfl)
 nf_Machine_list:=c.ex_ 21 (f:=nfB "Machine" (fun _=>.type "list")) rfl
  }
open PySem PySem.Spec PyProof.Rows L2 L3
def mkW:MkV:=fun vs=>match vs with
  | [d]=>some [("word",d)]
  | _=>none
theorem scs_TradeError:FnScopeS N_TradeError__init ["self", "word"] (defScope s_TradeError__init):=⟨rfl,rfl,rfl,by decide +kernel,rfl,by decide +kernel,by decide +kernel,by decide +kernel,rfl,rfl⟩
/-- TradeError.__init__ at any own class below it -/
theorem ok_TradeError (tx : Tx K mg) (pf : PrgF P PySem.Challenge.pw_piecetrade_k17_machines_made_and_refused.main.file) {C : Addr} (xc : ExC K "ValueError" "ValueError.__new__" "ValueError.__init__" bmVE C)
    (nxt:NxtI K C (He.ga K "TradeError") (.builtin "ValueError.__init__")) (sub:PySem.W.subIn K (.ref C) (.type "ValueError")=some true) (nox:PySem.W.findIn K (.ref C) "word"=some none):FnRC P w K mg base (L2C.CX P w) 1 (He.ma K (He.ga K "TradeError") "__init__") (spX (fun c=>c=C) mkW):=by
  obtain⟨fd,FS⟩:=tx.fs_TradeError__init
  refine(exi_basO (N:=N_TradeError__init) (ps:=["self", "word"]) (mk:=mkW) (sn:="self") (ta:=tCons (L2.tVar 1) L2.tNil) (tr:=tOstX K "word" (L2.tVar 0) (L2.tVar 1)) FS scs_TradeError pf tx.no_super rfl rfl rfl
    xc nxt sub (fun ws fs h=>?_) (fun _ _ _=>rfl) (fun _ _ _=>rfl) (fun _ _ _=>rfl)
    (fun cd cc A outer s H E=>pa_cons (pe_var (i:=1) rfl (Or.inl rfl)) pa_nil) (fun cd cc A outer s H E=>pss_one (ps_ostX (pe_var (i:=0) (x:="self") rfl (Or.inl rfl)) (pe_var (i:=1) (x:="word") rfl (Or.inl rfl)))) (fun σ H Q Q' ⟨v,e,q⟩ k=>⟨v,e,k _ _ q⟩) (fun a ws fs H h=>?_) (fun a ws fs H D h hA k=>?_)).raw (FunS.bindsN FS fun _ _ _ _ _ _ _ us hl=>match us,hl with | [_,_],_=>rfl)
  . match ws,h with
    | [_],_=>rfl
  . match ws,h with
    | [g],_=>exact⟨g,g,rfl,rfl,rfl⟩
  . match ws,h with
    | [g],h =>
      have e:[(("word":Str),g)]=fs:=Option.some.inj h
      subst e
      exact⟨g,rfl,.ref a,rfl,a,C,_,_,_,_,rfl,xc,nox,.inl ⟨hA,k⟩⟩
def mkv_InvalidRules:MkV:=fun vs=>match vs with
  | []=>some [(("word":Str),V.str "InvalidRules")]
  | _=>none
def mkd_InvalidRules:MkD:=fun ds=>match ds with
  | []=>some [(("word":Str),D.str "InvalidRules")]
  | _=>none
theorem scs_InvalidRules:FnScopeS N_InvalidRules__init ["self"] (defScope s_InvalidRules__init):=⟨rfl,rfl,rfl,by decide +kernel,rfl,by decide +kernel,by decide +kernel,by decide +kernel,rfl,rfl⟩
theorem ok_xInvalidRules(tx:Tx K mg) (pf:PrgF P PySem.Challenge.pw_piecetrade_k17_machines_made_and_refused.main.file):∃ fd,FnOkC P w K mg base (L2C.CX P w) 2 (He.ma K (He.ga K "InvalidRules") "__init__") fd ["self"] (spX (fun c=>c=(He.ga K "InvalidRules")) mkv_InvalidRules)/\Binds K fd ["self"] []:=by
  obtain⟨fd,FS⟩:=tx.fs_InvalidRules__init
  refine⟨fd,exi_ownO (N:=N_InvalidRules__init) (ps:=["self"]) (mk:=mkv_InvalidRules) (mk2:=mkW) (sn:="self") (ta:=tCons (L2.tC (.str "InvalidRules")) L2.tNil) (tr:=L2.tNext) FS scs_InvalidRules pf tx.no_super rfl rfl rfl
    ⟨tx.nx_InvalidRules.1,tx.nx_InvalidRules.2.1,tx.nx_InvalidRules.2.2⟩ tx.ty_TradeError.1 tx.ty_TradeError.2 (ok_TradeError tx pf tx.xc_InvalidRules ⟨tx.nxt_InvalidRules.1,tx.nxt_InvalidRules.2.1,tx.nxt_InvalidRules.2.2⟩ tx.sub_InvalidRules tx.nox_InvalidRules_word) (fun ws fs h=>?_) (fun _ _ _=>rfl) (fun _ _ _=>rfl) (fun _ _ _=>rfl)
    (fun cd cc A outer s H E=>pa_cons pe_str pa_nil) (fun cd cc A outer s H E=>pss_nil) (fun σ H Q Q' q k=>k _ _ q) (fun a ws fs H h=>?_),FunS.bindsN FS fun _ _ _ _ _ _ _ us hl=>match us,hl with | [_],_=>rfl⟩
  . match ws,h with
    | [],_=>rfl
  . match ws,h with
    | [],h =>
      have e:[(("word":Str),V.str "InvalidRules")]=fs:=Option.some.inj h
      subst e
      refine⟨.str "InvalidRules",⟨rfl,rfl⟩,_,rfl,fun dx D n1 n2 k=>?_⟩
      exact k
theorem rel_InvalidRules {K:PySem.W.Frag} (R:Hp) (ds:List D) (vs:List V) (fs:List (Str × D)) (r:Reps K R ds vs) (h:mkd_InvalidRules ds=some fs):∃ fvs,mkv_InvalidRules vs=some fvs/\RepF K R fs fvs:=by
  match ds,r,h with
  | [],r,h =>
    obtain rfl:vs=[]:=r
    have e:[(("word":Str),D.str "InvalidRules")]=fs:=Option.some.inj h
    subst e
    exact⟨_,rfl,.str "InvalidRules",[],rfl,rfl,rfl⟩
theorem x_InvalidRules(tx:Tx K mg) (pf:PrgF P PySem.Challenge.pw_piecetrade_k17_machines_made_and_refused.main.file):XkC P w K mg base "InvalidRules" mkv_InvalidRules mkd_InvalidRules:=by
  obtain⟨fd,G,hb⟩:=ok_xInvalidRules (w:=w) (base:=base) tx pf
  exact⟨⟨_,_,_,_,tx.xc_InvalidRules⟩,tx.ic_InvalidRules.1,tx.ic_InvalidRules.2,G.raw hb,rel_InvalidRules⟩
open PySem PySem.Spec PyProof.Rows L2 L3
abbrev big:Nat:=1000000
def F_is_sign:TF:=fun _ ds φ _=>∃ x:Str,ds=[.str x]/\x.length<=sizeLine/\φ (.bl (isSg (lc x)))
def F_init(C:Addr):TFI:=fun _ ds φ _=>∃ s ks,ds=.str (mks s)::ks.map (trD C)/\(Tr.nd s ks).ok/\(Tr.nd s ks).txt.length<=big/\φ ((Tr.nd s ks).fld C)
@[simp] theorem fnb_sign_branches:((("sign":Str)==("branches":Str))=false):=by decide +kernel
@[simp] theorem fne_sign_branches:((("sign":Str)=("branches":Str))=False):=eq_false (by decide +kernel)
@[simp] theorem fnb_sign_size:((("sign":Str)==("size":Str))=false):=by decide +kernel
@[simp] theorem fne_sign_size:((("sign":Str)=("size":Str))=False):=eq_false (by decide +kernel)
@[simp] theorem fnb_sign_depth:((("sign":Str)==("depth":Str))=false):=by decide +kernel
@[simp] theorem fne_sign_depth:((("sign":Str)=("depth":Str))=False):=eq_false (by decide +kernel)
@[simp] theorem fnb_sign_text:((("sign":Str)==("text":Str))=false):=by decide +kernel
@[simp] theorem fne_sign_text:((("sign":Str)=("text":Str))=False):=eq_false (by decide +kernel)
@[simp] theorem fnb_sign_inside:((("sign":Str)==("inside":Str))=false):=by decide +kernel
@[simp] theorem fne_sign_inside:((("sign":Str)=("inside":Str))=False):=eq_false (by decide +kernel)
@[simp] theorem fnb_sign_key:((("sign":Str)==("key":Str))=false):=by decide +kernel
@[simp] theorem fne_sign_key:((("sign":Str)=("key":Str))=False):=eq_false (by decide +kernel)
@[simp] theorem fnb_branches_sign:((("branches":Str)==("sign":Str))=false):=by decide +kernel
@[simp] theorem fne_branches_sign:((("branches":Str)=("sign":Str))=False):=eq_false (by decide +kernel)
@[simp] theorem fnb_branches_size:((("branches":Str)==("size":Str))=false):=by decide +kernel
@[simp] theorem fne_branches_size:((("branches":Str)=("size":Str))=False):=eq_false (by decide +kernel)
@[simp] theorem fnb_branches_depth:((("branches":Str)==("depth":Str))=false):=by decide +kernel
@[simp] theorem fne_branches_depth:((("branches":Str)=("depth":Str))=False):=eq_false (by decide +kernel)
@[simp] theorem fnb_branches_text:((("branches":Str)==("text":Str))=false):=by decide +kernel
@[simp] theorem fne_branches_text:((("branches":Str)=("text":Str))=False):=eq_false (by decide +kernel)
@[simp] theorem fnb_branches_inside:((("branches":Str)==("inside":Str))=false):=by decide +kernel
@[simp] theorem fne_branches_inside:((("branches":Str)=("inside":Str))=False):=eq_false (by decide +kernel)
@[simp] theorem fnb_branches_key:((("branches":Str)==("key":Str))=false):=by decide +kernel
@[simp] theorem fne_branches_key:((("branches":Str)=("key":Str))=False):=eq_false (by decide +kernel)
@[simp] theorem fnb_size_sign:((("size":Str)==("sign":Str))=false):=by decide +kernel
@[simp] theorem fne_size_sign:((("size":Str)=("sign":Str))=False):=eq_false (by decide +kernel)
@[simp] theorem fnb_size_branches:((("size":Str)==("branches":Str))=false):=by decide +kernel
@[simp] theorem fne_size_branches:((("size":Str)=("branches":Str))=False):=eq_false (by decide +kernel)
@[simp] theorem fnb_size_depth:((("size":Str)==("depth":Str))=false):=by decide +kernel
@[simp] theorem fne_size_depth:((("size":Str)=("depth":Str))=False):=eq_false (by decide +kernel)
@[simp] theorem fnb_size_text:((("size":Str)==("text":Str))=false):=by decide +kernel
@[simp] theorem fne_size_text:((("size":Str)=("text":Str))=False):=eq_false (by decide +kernel)
@[simp] theorem fnb_size_inside:((("size":Str)==("inside":Str))=false):=by decide +kernel
@[simp] theorem fne_size_inside:((("size":Str)=("inside":Str))=False):=eq_false (by decide +kernel)
@[simp] theorem fnb_size_key:((("size":Str)==("key":Str))=false):=by decide +kernel
@[simp] theorem fne_size_key:((("size":Str)=("key":Str))=False):=eq_false (by decide +kernel)
@[simp] theorem fnb_depth_sign:((("depth":Str)==("sign":Str))=false):=by decide +kernel
@[simp] theorem fne_depth_sign:((("depth":Str)=("sign":Str))=False):=eq_false (by decide +kernel)
@[simp] theorem fnb_depth_branches:((("depth":Str)==("branches":Str))=false):=by decide +kernel
@[simp] theorem fne_depth_branches:((("depth":Str)=("branches":Str))=False):=eq_false (by decide +kernel)
@[simp] theorem fnb_depth_size:((("depth":Str)==("size":Str))=false):=by decide +kernel
@[simp] theorem fne_depth_size:((("depth":Str)=("size":Str))=False):=eq_false (by decide +kernel)
@[simp] theorem fnb_depth_text:((("depth":Str)==("text":Str))=false):=by decide +kernel
@[simp] theorem fne_depth_text:((("depth":Str)=("text":Str))=False):=eq_false (by decide +kernel)
@[simp] theorem fnb_depth_inside:((("depth":Str)==("inside":Str))=false):=by decide +kernel
@[simp] theorem fne_depth_inside:((("depth":Str)=("inside":Str))=False):=eq_false (by decide +kernel)
@[simp] theorem fnb_depth_key:((("depth":Str)==("key":Str))=false):=by decide +kernel
@[simp] theorem fne_depth_key:((("depth":Str)=("key":Str))=False):=eq_false (by decide +kernel)
@[simp] theorem fnb_text_sign:((("text":Str)==("sign":Str))=false):=by decide +kernel
@[simp] theorem fne_text_sign:((("text":Str)=("sign":Str))=False):=eq_false (by decide +kernel)
@[simp] theorem fnb_text_branches:((("text":Str)==("branches":Str))=false):=by decide +kernel
@[simp] theorem fne_text_branches:((("text":Str)=("branches":Str))=False):=eq_false (by decide +kernel)
@[simp] theorem fnb_text_size:((("text":Str)==("size":Str))=false):=by decide +kernel
@[simp] theorem fne_text_size:((("text":Str)=("size":Str))=False):=eq_false (by decide +kernel)
@[simp] theorem fnb_text_depth:((("text":Str)==("depth":Str))=false):=by decide +kernel
@[simp] theorem fne_text_depth:((("text":Str)=("depth":Str))=False):=eq_false (by decide +kernel)
@[simp] theorem fnb_text_inside:((("text":Str)==("inside":Str))=false):=by decide +kernel
@[simp] theorem fne_text_inside:((("text":Str)=("inside":Str))=False):=eq_false (by decide +kernel)
@[simp] theorem fnb_text_key:((("text":Str)==("key":Str))=false):=by decide +kernel
@[simp] theorem fne_text_key:((("text":Str)=("key":Str))=False):=eq_false (by decide +kernel)
@[simp] theorem fnb_inside_sign:((("inside":Str)==("sign":Str))=false):=by decide +kernel
@[simp] theorem fne_inside_sign:((("inside":Str)=("sign":Str))=False):=eq_false (by decide +kernel)
@[simp] theorem fnb_inside_branches:((("inside":Str)==("branches":Str))=false):=by decide +kernel
@[simp] theorem fne_inside_branches:((("inside":Str)=("branches":Str))=False):=eq_false (by decide +kernel)
@[simp] theorem fnb_inside_size:((("inside":Str)==("size":Str))=false):=by decide +kernel
@[simp] theorem fne_inside_size:((("inside":Str)=("size":Str))=False):=eq_false (by decide +kernel)
@[simp] theorem fnb_inside_depth:((("inside":Str)==("depth":Str))=false):=by decide +kernel
@[simp] theorem fne_inside_depth:((("inside":Str)=("depth":Str))=False):=eq_false (by decide +kernel)
@[simp] theorem fnb_inside_text:((("inside":Str)==("text":Str))=false):=by decide +kernel
@[simp] theorem fne_inside_text:((("inside":Str)=("text":Str))=False):=eq_false (by decide +kernel)
@[simp] theorem fnb_inside_key:((("inside":Str)==("key":Str))=false):=by decide +kernel
@[simp] theorem fne_inside_key:((("inside":Str)=("key":Str))=False):=eq_false (by decide +kernel)
@[simp] theorem fnb_key_sign:((("key":Str)==("sign":Str))=false):=by decide +kernel
@[simp] theorem fne_key_sign:((("key":Str)=("sign":Str))=False):=eq_false (by decide +kernel)
@[simp] theorem fnb_key_branches:((("key":Str)==("branches":Str))=false):=by decide +kernel
@[simp] theorem fne_key_branches:((("key":Str)=("branches":Str))=False):=eq_false (by decide +kernel)
@[simp] theorem fnb_key_size:((("key":Str)==("size":Str))=false):=by decide +kernel
@[simp] theorem fne_key_size:((("key":Str)=("size":Str))=False):=eq_false (by decide +kernel)
@[simp] theorem fnb_key_depth:((("key":Str)==("depth":Str))=false):=by decide +kernel
@[simp] theorem fne_key_depth:((("key":Str)=("depth":Str))=False):=eq_false (by decide +kernel)
@[simp] theorem fnb_key_text:((("key":Str)==("text":Str))=false):=by decide +kernel
@[simp] theorem fne_key_text:((("key":Str)=("text":Str))=False):=eq_false (by decide +kernel)
@[simp] theorem fnb_key_inside:((("key":Str)==("inside":Str))=false):=by decide +kernel
@[simp] theorem fne_key_inside:((("key":Str)=("inside":Str))=False):=eq_false (by decide +kernel)
theorem ok_is_sign(tx:Tx K mg):Fn3 P w K mg base 1 (He.ga K "is_sign") F_is_sign:=by
  obtain⟨fd,FD⟩:=tx.fd_is_sign
  refine fn3 FD sc_is_sign (FD.bindsN fun _ _ _ _ _ _ us hl=>match us,hl with | [_],_=>rfl) ?hn (fun cdv A outer s H E hr=>(dss_one (ds_ret (de_and (de_callB (L3.CallR.or call_isi call_isiT) (cd_isiA (K:=K)) rfl tx.no_isinstance (by decide +kernel) (da_cons (dv 0) (da_cons (de_bty rfl tx.no_str) da_nil))) (de_and (de_chain op_le opd_le op_le opd_le de_int (de_len rfl tx.no_len (da_cons (dv 0) da_nil)) (de_gint rfl tx.mg_MOST_LETTERS)) (de_one (de_callB (cr_all rfl) cd_all rfl tx.no_all (by decide +kernel) (da_cons (de_lc (own:=[("letter",1)]) rfl sc_is_sign.nd (di_str (dv 0)) (blkOk_by (own:=[("letter",1)]) (N:=N_is_sign) (sc:=defScope s_is_sign) (by decide +kernel)) (fun _ _ _ _ _=>(dg_name (i:=1) sc_is_sign.nd rfl (Or.inl rfl))) (fun _ _ _ _ _=>dts_nil) (fun _ _ _ _ _=>(de_cmp op_inA opd_in (dv 1) (de_gstr rfl tx.mg_LETTERS) rfl))) da_nil)))))))) ?hT
  case hn =>
    rintro wd ds φ ε ⟨x,rfl,_⟩
    rfl
  case hT =>
    rintro wd ds φ ε ⟨x,rfl,hz,q⟩
    rw[show startD N_is_sign [.str x]=[.v (.str x),.no] from rfl]
    simp![]
    refine⟨hz,?_⟩
    have hl:x.length=(lc x).length:=by show x.cps.size=_; simp
    unfold isSg at q
    rw[hl]
    by_cases h1:1<=(lc x).length
    . refine .inr ⟨by omega,?_⟩
      by_cases h2:(lc x).length<=6
      . refine .inr ⟨by omega,compD_map (f:=fun c=>.bl (isLet c)) _ _ (fun c _ acc ψ hl q=>?_) ?_ ?_⟩
        . simp![]
          exact⟨hl,q⟩
        . show 0+(lc x).length<=_
          rw[sizeLine_eq]
          omega
        . refine⟨(lc x).map isLet,?_,?_⟩
          . rw[<- blsD_map,List.map_map]
            rfl
          . rw[decide_eq_true h1,decide_eq_true h2] at q
            simpa [List.all_map] using q
      . refine .inl ⟨by omega,?_⟩
        rw[decide_eq_false h2] at q
        simpa using q
    . refine .inl ⟨by omega,?_⟩
      rw[decide_eq_false h1] at q
      simpa using q
theorem ok_init(tx:Tx K mg):FnI P w K mg base 2 (He.ga K "Tree") (He.ma K (He.ga K "Tree") "__init__") (F_init (He.ga K "Tree")):=by
  obtain⟨fd,FD⟩:=tx.fd_Tree__init
  have g_is_sign:Fn3 P w K mg base 1 (He.ga K "is_sign") F_is_sign:=ok_is_sign tx
  refine fnI3star (N := N_Tree__init) (ps := ["self", "sign"]) (pv := "branches") FD sc_Tree__init (by decide) (fun kV doc pm an cdv ct us rest hl => match us, hl, rest with | [_, _], _, [] => rfl | [_, _], _, _ :: _ => rfl) ?hn (by decide) (fun cdv A outer s H E hr => (dss_cons (ds_if (dt_not (dt_val (de_call g_is_sign (hr.mono (by omega)) rfl tx.mg_is_sign tx.kp_is_sign tk3 (da_cons (dv 1) da_nil))))
     (dss_one ds_never)
     dss_nil)
    (dss_cons (ds_if (dt_bool (dw_or (dt_cmp op_gt opd_gt (de_len rfl tx.no_len (da_cons (dv 2) da_nil)) (de_gint rfl tx.mg_MOST_BRANCHES_trees) (nomark _)) (dw_or1 (dt_not (dt_val (de_callB (cr_all rfl) cd_all rfl tx.no_all (by decide +kernel) (da_cons (de_lc (own:=[("branch",4)]) rfl sc_Tree__init.nd (di_tup (dv 2)) (blkOk_by (own:=[("branch",4)]) (N:=N_Tree__init) (sc:=defScope s_Tree__init) (by decide +kernel)) (fun _ _ _ _ _=>(dg_name (i:=4) sc_Tree__init.nd rfl (Or.inl rfl))) (fun _ _ _ _ _=>dts_nil) (fun _ _ _ _ _=>(de_callB (L3.CallR.or call_isi call_isiT) (cd_isiA (K:=K)) rfl tx.no_isinstance (by decide +kernel) (da_cons (dv 4) (da_cons (de_gref rfl tx.mg_Tree) da_nil))))) da_nil)))))))
     (dss_one ds_never)
     dss_nil)
    (dss_cons (ds_putFK (K:=K) 0 (dv 1))
    (dss_cons (ds_putFK (K:=K) 0 (dv 2))
    (dss_cons (ds_putFK (K:=K) 0 (de_add de_int (de_callB (cr_sum rfl) cd_sum rfl tx.no_sum (by decide +kernel) (da_cons (de_lc (own:=[("branch",4)]) rfl sc_Tree__init.nd (di_tup (dv 2)) (blkOk_by (own:=[("branch",4)]) (N:=N_Tree__init) (sc:=defScope s_Tree__init) (by decide +kernel)) (fun _ _ _ _ _=>(dg_name (i:=4) sc_Tree__init.nd rfl (Or.inl rfl))) (fun _ _ _ _ _=>dts_nil) (fun _ _ _ _ _=>(de_fldK (K:=K) (dv 4)))) da_nil))))
    (dss_cons (ds_putFK (K:=K) 0 (de_add de_int (de_maxd rfl hr.units rfl tx.no_max (de_lc (own:=[("branch",4)]) rfl sc_Tree__init.nd (di_tup (dv 2)) (blkOk_by (own:=[("branch",4)]) (N:=N_Tree__init) (sc:=defScope s_Tree__init) (by decide +kernel)) (fun _ _ _ _ _=>(dg_name (i:=4) sc_Tree__init.nd rfl (Or.inl rfl))) (fun _ _ _ _ _=>dts_nil) (fun _ _ _ _ _=>(de_fldK (K:=K) (dv 4)))) de_int)))
    (dss_cons (ds_set (i:=3) sc_Tree__init.nd rfl (Or.inl rfl) (de_join de_str (de_lc (own:=[("branch",4)]) rfl sc_Tree__init.nd (di_tup (dv 2)) (blkOk_by (own:=[("branch",4)]) (N:=N_Tree__init) (sc:=defScope s_Tree__init) (by decide +kernel)) (fun _ _ _ _ _=>(dg_name (i:=4) sc_Tree__init.nd rfl (Or.inl rfl))) (fun _ _ _ _ _=>dts_nil) (fun _ _ _ _ _=>(de_fldK (K:=K) (dv 4))))))
    (dss_cons (ds_putFK (K:=K) 0 (de_ifExp (dt_cmp (op_eqD hr.units) opd_eq (de_len rfl tx.no_len (da_cons (dv 2) da_nil)) de_int (nomark _)) (dv 1) (de_joined (DJ.cons (de_fmt (dv 1)) (DJ.cons de_str (DJ.cons (de_fmt (dv 3)) (DJ.cons de_str DJ.nil)))))))
    (dss_cons (ds_putFK (K:=K) 0 (de_add (de_callTy call_tuple_of cd_tuple rfl tx.no_tuple (by decide +kernel) (da_cons (de_lc2 (own:=[("branch",4),("text",5)]) (vs1:=[5]) rfl sc_Tree__init.nd (di_tup (dv 2)) (blkOk_by (own:=[("branch",4),("text",5)]) (N:=N_Tree__init) (sc:=defScope s_Tree__init) (by decide +kernel)) (by decide) (fun _ _ _ _ _=>(dg_name (i:=4) sc_Tree__init.nd rfl (Or.inl rfl))) (fun _ _ _ _ _=>dts_nil) (fun _ _ _ _ _=>(di_tup (de_fldK (K:=K) (dv 4)))) (fun _ _ _ _ _=>(dg_name (i:=5) sc_Tree__init.nd rfl (Or.inl rfl))) (fun _ _ _ _ _=>dts_nil) (fun _ _ _ _ _=>(dv 5))) da_nil)) (de_tup (da_cons (de_fldOK (K:=K) 0) da_nil))))
    (dss_one (ds_putFK (K:=K) 0 (de_tup (da_cons (de_fldOK (K:=K) 0) (da_cons (dv 1) (da_cons (de_len rfl tx.no_len (da_cons (dv 2) da_nil)) (da_cons (de_callTy call_tuple_of cd_tuple rfl tx.no_tuple (by decide +kernel) (da_cons (de_lc (own:=[("branch",4)]) rfl sc_Tree__init.nd (di_tup (dv 2)) (blkOk_by (own:=[("branch",4)]) (N:=N_Tree__init) (sc:=defScope s_Tree__init) (by decide +kernel)) (fun _ _ _ _ _=>(dg_name (i:=4) sc_Tree__init.nd rfl (Or.inl rfl))) (fun _ _ _ _ _=>dts_nil) (fun _ _ _ _ _=>(de_fldK (K:=K) (dv 4)))) da_nil)) da_nil))))))))))))))))) ?hT
  case hn =>
    rintro wd ds φ ε ⟨s,ks,rfl,⟨h1,h2,h3⟩,_⟩
    refine⟨?_,?_⟩
    . show 2<=(ks.map (trD (He.ga K "Tree"))).length+1+1
      omega
    . rw[List.length_cons,List.length_map,sizeLine_eq]
      omega
  case hT =>
    rintro a wd ds φ ε ⟨s,ks,rfl,⟨h1,h2,h3⟩,hl,q⟩
    have hsg:=(ok_sg_len h1)
    show TSeq _ _ _ _ [.oi a (He.ga K "Tree") [],.v (.str (mks s)),.v (.tup (ks.map (trD (He.ga K "Tree")))),.no,.no,.no]
    have t1:AtK K (He.ga K "Tree") "sign":=⟨tx.cl_Tree,tx.na_Tree_sign⟩
    have t2:AtK K (He.ga K "Tree") "branches":=⟨tx.cl_Tree,tx.na_Tree_branches⟩
    have t3:AtK K (He.ga K "Tree") "size":=⟨tx.cl_Tree,tx.na_Tree_size⟩
    have t4:AtK K (He.ga K "Tree") "depth":=⟨tx.cl_Tree,tx.na_Tree_depth⟩
    have t5:AtK K (He.ga K "Tree") "text":=⟨tx.cl_Tree,tx.na_Tree_text⟩
    have t6:AtK K (He.ga K "Tree") "inside":=⟨tx.cl_Tree,tx.na_Tree_inside⟩
    have t7:AtK K (He.ga K "Tree") "key":=⟨tx.cl_Tree,tx.na_Tree_key⟩
    have e1:(Str.ofString ",":Str)=mks [44]:=by decide +kernel
    have e2:(Str.ofString "(":Str)=mks [40]:=by decide +kernel
    have e3:(Str.ofString ")":Str)=mks [41]:=by decide +kernel
    have e4:Str.empty=mks []:=rfl
    have hL:sizeLine=16777216:=sizeLine_eq
    have hB:big=1000000:=rfl
    have hz:1+sizs ks<=big:=Nat.le_trans (siz_txt (t:=.nd s ks) ⟨h1,h2,h3⟩) hl
    have hw:=wrapL_len s (txts ks)
    have hwl:(wrapL s (txts ks)).length<=big:=hl
    have hj:=joinL_le (txts ks)
    have htl:(txts ks).length=ks.length:=by rw[txts_eq,List.length_map]
    simp![F_is_sign,t1,t2,t3,t4,t5,t6,t7,lc_mks,len_mks,h1,List.lookup_cons]
    refine⟨by omega,by omega,compD_map (f:=fun _=>.bl true) ks [] (fun t ht acc ψ hl q=>?_) (by simp; omega) ⟨ks.map fun _=>true,?_,?_,compD_map (f:=fun t=>.int (t.siz:Nat)) ks [] (fun t ht acc ψ hl q=>?_) (by simp; omega) ⟨ks.map fun t=>((t.siz:Nat):Int),?_,
      compD_map (f:=fun t=>.int (t.dep:Nat)) ks [] (fun t ht acc ψ hl q=>?_) (by simp; omega) ⟨ks.map fun t=>((t.dep:Nat):Int),?_,?_⟩⟩⟩⟩
    . simp![trD_ins,tx.in_Tree,tx.ki_Tree,hl,q]
    . rw[<- blsD_map,List.map_map]; rfl
    . simp
    . simp![trD_ins,t3,hl,q,fld_size]
    . rw[<- intsD_map,List.map_map]; rfl
    . simp![trD_ins,t4,hl,q,fld_depth]
    . rw[List.map_map]; rfl
    rw[mxD_deps]
    refine compD_map (f:=fun t=>.str (mks t.txt)) ks [] (fun t ht acc ψ hl q=>?_) (by simp; omega) ⟨(txts ks).map mks,?_,?_,?_⟩
    . simp![trD_ins,t5,hl,q,fld_text]
    . rw[<- strsD_map,txts_eq,List.map_map,List.map_map]; rfl
    . rw[e1,List.map_map,len_mks,List.length_map]
      have:((txts ks).map (fun x=>Str.length (mks x)))=(txts ks).map List.length:=List.map_congr_left fun x _=>len_mks x
      show((txts ks).map (fun x=>Str.length (mks x))).sum+_<=_
      rw[this,htl]
      simp
      omega
    rw[fld_nd] at q
    rw[e1,e2,e3,e4,join_mks]
    simp only[mks_app,len_mks,List.nil_append]
    have hins:=inss_map_len ks
    by_cases hk:ks=[]
    . refine .inr ⟨hk,compD2_map (f:=fun t=>t.ins.map fun l=>D.str (mks l)) ks [] (fun t ht acc ψ hl q=>?_) (by show 0+_<=_; omega) ⟨by show(ks.flatMap fun t=>t.ins.map fun l=>D.str (mks l)).length+1<=_; omega,compD_map (f:=Tr.key) ks [] (fun t ht acc ψ hl q=>?_) (by simp; omega) ?_⟩⟩
      . simp![trD_ins,t6,fld_inside]
        refine compD1_map (enc:=fun l=>D.str (mks l)) (f:=fun l=>D.str (mks l)) t.ins acc (fun l hl2 acc ψ hl q=>?_) (by simpa using hl) q
        simp![hl,q]
      . simp![trD_ins,t7,hl,q,fld_key]
      . subst hk
        exact q
    . have ew:wrapL s (txts ks)=s++[40]++joinL (txts ks)++[41]:=by
        cases ks with
        | nil=>exact absurd rfl hk
        | cons t r =>
          show s++40::(joinL (txts (t::r))++[41])=_
          simp
      have ewl:(s++[40]++joinL (txts ks)++[41]).length<=big:=by rw[<- ew]; exact hl
      simp at ewl
      refine .inl ⟨hk,by omega,by omega,by simp; omega,by omega,by simp; omega,by simp; omega,compD2_map (f:=fun t=>t.ins.map fun l=>D.str (mks l)) ks [] (fun t ht acc ψ hl q=>?_) (by show 0+_<=_; omega) ⟨by show(ks.flatMap fun t=>t.ins.map fun l=>D.str (mks l)).length+1<=_; omega,compD_map (f:=Tr.key) ks [] (fun t ht acc ψ hl q=>?_) (by simp; omega) ?_⟩⟩
      . simp![trD_ins,t6,fld_inside]
        refine compD1_map (enc:=fun l=>D.str (mks l)) (f:=fun l=>D.str (mks l)) t.ins acc (fun l hl2 acc ψ hl q=>?_) (by simpa using hl) q
        simp![hl,q]
      . simp![trD_ins,t7,hl,q,fld_key]
      . rw[<- ew]
        exact q
open PySem PySem.Spec PyProof.Rows L2 L3
/-- the law's table of code objects -/
def TT(K:PySem.W.Frag):List (Addr × Str):=[((He.cT K (("law":Str),none)).2,(("law":Str)++".<locals>.")++"<lambda>")]
theorem hu_law {K:PySem.W.Frag}{mg:Str->Option Value} (tx:Tx K mg):∀ p∈TT K,p.1=(He.cT K (("law":Str),none)).2->p.2=(("law":Str)++".<locals>.")++"<lambda>":=fun p hp e=>by
  have z:=List.mem_singleton.mp hp
  rw[z]
theorem ok_pick(tx:Tx K mg):Fn3 P w K mg base 1 (He.ga K "_law_pick") (F_pickT (TT K)):=by
  obtain⟨fd,FD⟩:=tx.fd_law_pick
  refine pick_ofT (T:=TT K) ?_
  have G:FnOk P w K mg base (L2C.CX P w) 1 (He.ga K "_law_pick") fd ["_law_hand_here", "_law_many"] sp_pick:=by
    refine FD.ok sc_law_pick (fun vs H Q E h=>?_) fun cdv A outer s H vs Q E hr h=>⟨_,show PSs (cx3 P w K mg base N_law_pick "_law_pick" (defScope s_law_pick) (He.ga K "_law_pick") cdv A outer s H E) _ _ from(pss_cons (ps_if (pt_cmpR op_lt (pe_ix ix_h (pv 0) pe_int (fun _ _=>rfl)) pe_int (nomark _)) (pss_cons (ps_asg (pe_op op_add (pe_ix ix_h (pv 0) pe_int (fun _ _=>rfl)) pe_int) (pg_sub (pv 0) pe_int set_list))
    (pss_cons (ps_set (i:=2) sc_law_pick.nd rfl (Or.inl rfl) (pe_op op_add (pe_ix ix_h (pv 0) pe_int (fun _ _=>rfl)) (pe_op op_mul (pe_ix ix_h (pv 0) pe_int (fun _ _=>rfl)) pe_int)))
    (pss_cons (ps_if (pt_cmpR op_le (pe_ix ix_h (pv 0) pe_int (fun _ _=>rfl)) (pe_callB call_hlen rfl tx.no_len boot_len (pa_cons (pe_ix ix_h (pv 0) pe_int (fun _ _=>rfl)) pa_nil)) (nomark _)) (pss_one (ps_set (i:=2) sc_law_pick.nd rfl (Or.inl rfl) (pe_ix ix_h (pe_ix ix_h (pv 0) pe_int (fun _ _=>rfl)) (pe_op op_sub (pe_ix ix_h (pv 0) pe_int (fun _ _=>rfl)) pe_int) (fun _ _=>rfl)))) pss_nil)
    (pss_cons (ps_if (PW.pt (pw_or (pt_cmpR op_gt (pe_ix ix_h (pv 0) pe_int (fun _ _=>rfl)) (pe_callB call_hlen rfl tx.no_len boot_len (pa_cons (pe_ix ix_h (pv 0) pe_int (fun _ _=>rfl)) pa_nil)) (nomark _)) (pw_or1 (pt_cmpR op_lt (pv 2) (pe_op op_pow pe_int pe_int) (nomark _))))) (pss_cons (ps_set (i:=3) sc_law_pick.nd rfl (Or.inl rfl) (pe_op op_mod (pe_callTy call_int1 rfl tx.no_int (by decide +kernel) (pa_cons (pe_op op_add (pe_op op_add (pe_op op_mul (pv 2) pe_int) (pe_op op_mul (pe_ix ix_h (pv 0) pe_int (fun _ _=>rfl)) pe_int)) (pe_ix ix_h (pv 0) pe_int (fun _ _=>rfl))) pa_nil)) pe_int))
    (pss_cons (ps_set (i:=4) sc_law_pick.nd rfl (Or.inl rfl) (pe_op op_mod (pe_callTy call_int1 rfl tx.no_int (by decide +kernel) (pa_cons (pe_op op_add (pe_op op_mul (pv 3) (pv 3)) (pe_op op_mul (pe_ix ix_h (pv 0) pe_int (fun _ _=>rfl)) pe_int)) pa_nil)) pe_int))
    (pss_one (ps_ret (pe_op op_mod (pe_op op_fdiv (pe_op op_mod (pe_callTy call_int1 rfl tx.no_int (by decide +kernel) (pa_cons (pe_op op_add (pe_op op_mul (pv 4) pe_int) (pv 3)) pa_nil)) pe_int) pe_int) (pv 1)))))) pss_nil)
    (pss_one (ps_asg (pv 2) (pg_sub (pv 0) pe_int set_list))))))) pss_nil)
    (pss_cons (ps_set (i:=5) sc_law_pick.nd rfl (Or.inl rfl) (pe_op op_mod (pe_callTy call_int1 rfl tx.no_int (by decide +kernel) (pa_cons (pe_ix ix_h (pv 0) pe_int (fun _ _=>rfl)) pa_nil)) (pv 1)))
    (pss_cons (ps_asg (pe_op op_fdiv (pe_callTy call_int1 rfl tx.no_int (by decide +kernel) (pa_cons (pe_ix ix_h (pv 0) pe_int (fun _ _=>rfl)) pa_nil)) (pv 1)) (pg_sub (pv 0) pe_int set_list))
    (pss_one (ps_ret (pv 5)))))),?_⟩
    . obtain⟨h,c,cells,i,j,m,many,rfl,_⟩:=h
      rfl
    . obtain⟨h,c,cells,i,j,m,many,rfl,h0,hn,g1,g2,hm,hm2,q⟩:=h
      show tSeq _ _ _ [some (.ref h),some (.int many),none,none,none,none] H
      have cm:∀ (a b:Int),-(2 ^ 64)<b->b<2 ^ 64->CMul a b:=fun _ _ h1 h2=>.inr ⟨h1,h2⟩
      have tail:∀ (i j:Int) (H':Hp) (σ2 σ3 σ4:Option V),0<=i->H' h=some (.lst [.ref c,.int i,.int j,.int m])->(∀ i' j' r:Int,0<=i'->0<=r->r<many->Q (.int r) (upd H' h (.lst [.ref c,.int i',.int j',.int m]))) ->
          tSeq (tAsg (tOp (rI (fun _ j=>0<j) fun i j=>.int (i % j)) (tCB (fun xs H Q=>(∃ i,xs=[.int i]/\Q (.int i) H)\/∃ k,xs=[.bl k]/\Q (.int (if k then 1 else 0)) H) (tCons (tOp rHx (tVar 0) (tC (.int 2))) tNil)) (tVar 1)) (gName 5))
            (tSeq (tAsg (tOp (rI CDiv fun i j=>.int (i / j)) (tCB (fun xs H Q=>(∃ i,xs=[.int i]/\Q (.int i) H)\/∃ k,xs=[.bl k]/\Q (.int (if k then 1 else 0)) H) (tCons (tOp rHx (tVar 0) (tC (.int 2))) tNil)) (tVar 1)) (gSub (tVar 0) (tC (.int 2)) rSetL))
              (tRet (tVar 5))) {nx:=fun _ H'=>Q .non H',rt:=Q} [some (.ref h),some (.int many),σ2,σ3,σ4,none] H':=fun i j H' σ2 σ3 σ4 hi g1 q =>
        ⟨.ref h,rfl,h,_,2,_,rfl,rfl,g1,rfl,.inl ⟨j,rfl,.int many,rfl,j,many,rfl,rfl,hm,
          .ref h,rfl,h,_,2,_,rfl,rfl,g1,rfl,.inl ⟨j,rfl,.int many,rfl,j,many,rfl,rfl,⟨hm,by omega⟩,.ref h,rfl,h,_,2,2,rfl,rfl,g1,rfl,.int (j % many),rfl,q i (j / many) (j % many) hi (Int.emod_nonneg _ (by omega)) (Int.emod_lt_of_pos _ hm)⟩⟩⟩
      refine⟨.ref h,rfl,h,_,2,_,rfl,rfl,g1,rfl,j,2,rfl,rfl,decide (j<2),rfl,?_⟩
      by_cases hj:j<2
      . rw[decide_eq_true hj]
        refine iteT ?_
        refine⟨.ref h,rfl,h,_,1,_,rfl,rfl,g1,rfl,i,1,rfl,rfl,.ref h,rfl,h,_,1,1,rfl,rfl,g1,rfl,?_⟩
        have g1':(upd H h (.lst ([V.ref c,.int i,.int j,.int m].set 1 (.int (i+1))))) h=some (.lst [.ref c,.int (i+1),.int j,.int m]):=upd_same
        have gc:(upd H h (.lst ([V.ref c,.int i,.int j,.int m].set 1 (.int (i+1))))) c=some (.lst (cells.map V.int)):=by rw[upd_ne hn.symm]; exact g2
        have q1:∀ i' j' r:Int,0<=i'->0<=r->r<many->Q (.int r) (upd (upd H h (.lst ([V.ref c,.int i,.int j,.int m].set 1 (.int (i+1))))) h (.lst [.ref c,.int i',.int j',.int m])):=fun i' j' r a b c=>by
          rw[upd_upd]
          exact q i' j' r a b c
        generalize (upd H h (.lst ([V.ref c,.int i,.int j,.int m].set 1 (.int (i+1)))))=H1 at g1' gc q1 ⊢
        refine⟨.ref h,rfl,h,_,3,_,rfl,rfl,g1',rfl,.ref h,rfl,h,_,1,_,rfl,rfl,g1',rfl,i+1,8677,rfl,rfl,cm _ _ (by decide) (by decide),m,(i+1) * 8677,rfl,rfl,?_⟩
        refine⟨.ref h,rfl,h,_,1,_,rfl,rfl,g1',rfl,.ref h,rfl,h,_,0,_,rfl,rfl,g1',rfl,c,_,rfl,gc,i+1,_,rfl,rfl,decide ((i+1)<=(((cells.map V.int).length:Nat):Int)),rfl,?_⟩
        -- what follows,whatever the cell
        have rest:∀ x:Int,(tSeq (tIfS (tOr (tTest (tOp (rI0 fun i j=>V.bl (decide (j<i))) (tOp rHx (tVar 0) (tC (V.int 1))) (tCB rHlen (tCons (tOp rHx (tVar 0) (tC (V.int 0))) tNil)))) (tTest (tOp (rI0 fun i j=>V.bl (decide (i<j))) (tVar 2) (tOp (rI CPow fun i j=>V.int (i ^ j.toNat)) (tC (V.int 10)) (tC (V.int 18)))))) (tSeq (tAsg (tOp (rI (fun x j=>0<j) fun i j=>V.int (i % j)) (tCB (fun xs H Q=>(∃ i,xs=[V.int i]/\Q (V.int i) H)\/∃ k,xs=[V.bl k]/\Q (V.int (if k=true then 1 else 0)) H) (tCons (tOp (rI0 fun i j=>V.int (i+j)) (tOp (rI0 fun i j=>V.int (i+j)) (tOp (rI CMul fun i j=>V.int (i * j)) (tVar 2) (tC (V.int 40693))) (tOp (rI CMul fun i j=>V.int (i * j)) (tOp rHx (tVar 0) (tC (V.int 1))) (tC (V.int 39373)))) (tOp rHx (tVar 0) (tC (V.int 3)))) tNil)) (tC (V.int 2147483647))) (gName 3)) (tSeq (tAsg (tOp (rI (fun x j=>0<j) fun i j=>V.int (i % j)) (tCB (fun xs H Q=>(∃ i,xs=[V.int i]/\Q (V.int i) H)\/∃ k,xs=[V.bl k]/\Q (V.int (if k=true then 1 else 0)) H) (tCons (tOp (rI0 fun i j=>V.int (i+j)) (tOp (rI CMul fun i j=>V.int (i * j)) (tVar 3) (tVar 3)) (tOp (rI CMul fun i j=>V.int (i * j)) (tOp rHx (tVar 0) (tC (V.int 1))) (tC (V.int 52774)))) tNil)) (tC (V.int 998244353))) (gName 4)) (tRet (tOp (rI (fun x j=>0<j) fun i j=>V.int (i % j)) (tOp (rI CDiv fun i j=>V.int (i / j)) (tOp (rI (fun x j=>0<j) fun i j=>V.int (i % j)) (tCB (fun xs H Q=>(∃ i,xs=[V.int i]/\Q (V.int i) H)\/∃ k,xs=[V.bl k]/\Q (V.int (if k=true then 1 else 0)) H) (tCons (tOp (rI0 fun i j=>V.int (i+j)) (tOp (rI CMul fun i j=>V.int (i * j)) (tVar 4) (tC (V.int 48271))) (tVar 3)) tNil)) (tC (V.int 2147483629))) (tC (V.int 17))) (tVar 1))))) tNext) (tAsg (tVar 2) (gSub (tVar 0) (tC (V.int 2)) rSetL))) {nx:=tSeq (tAsg (tOp (rI (fun _ j=>0<j) fun i j=>.int (i % j)) (tCB (fun xs H Q=>(∃ i,xs=[.int i]/\Q (.int i) H)\/∃ k,xs=[.bl k]/\Q (.int (if k then 1 else 0)) H) (tCons (tOp rHx (tVar 0) (tC (.int 2))) tNil)) (tVar 1)) (gName 5)) (tSeq (tAsg (tOp (rI CDiv fun i j=>.int (i / j)) (tCB (fun xs H Q=>(∃ i,xs=[.int i]/\Q (.int i) H)\/∃ k,xs=[.bl k]/\Q (.int (if k then 1 else 0)) H) (tCons (tOp rHx (tVar 0) (tC (.int 2))) tNil)) (tVar 1)) (gSub (tVar 0) (tC (.int 2)) rSetL)) (tRet (tVar 5))) {nx:=fun _ H'=>Q .non H',rt:=Q},rt:=Q} [some (.ref h),some (.int many),some (.int x),none,none,none] H1:=fun x=>by
          refine⟨.ref h,rfl,h,_,1,_,rfl,rfl,g1',rfl,.ref h,rfl,h,_,0,_,rfl,rfl,g1',rfl,c,_,rfl,gc,i+1,_,rfl,rfl,decide ((((cells.map V.int).length:Nat):Int)<i+1),rfl,?_⟩
          have hs:upd H1 h (.lst [.ref c,.int (i+1),.int j,.int m])=H1:=by
            funext b
            by_cases hb:b=h
            . subst hb
              rw[upd_same,g1']
            . rw[upd_ne hb]
          have ret:(tSeq (tAsg (tOp (rI (fun x j=>0<j) fun i j=>V.int (i % j)) (tCB (fun xs H Q=>(∃ i,xs=[V.int i]/\Q (V.int i) H)\/∃ k,xs=[V.bl k]/\Q (V.int (if k=true then 1 else 0)) H) (tCons (tOp (rI0 fun i j=>V.int (i+j)) (tOp (rI0 fun i j=>V.int (i+j)) (tOp (rI CMul fun i j=>V.int (i * j)) (tVar 2) (tC (V.int 40693))) (tOp (rI CMul fun i j=>V.int (i * j)) (tOp rHx (tVar 0) (tC (V.int 1))) (tC (V.int 39373)))) (tOp rHx (tVar 0) (tC (V.int 3)))) tNil)) (tC (V.int 2147483647))) (gName 3)) (tSeq (tAsg (tOp (rI (fun x j=>0<j) fun i j=>V.int (i % j)) (tCB (fun xs H Q=>(∃ i,xs=[V.int i]/\Q (V.int i) H)\/∃ k,xs=[V.bl k]/\Q (V.int (if k=true then 1 else 0)) H) (tCons (tOp (rI0 fun i j=>V.int (i+j)) (tOp (rI CMul fun i j=>V.int (i * j)) (tVar 3) (tVar 3)) (tOp (rI CMul fun i j=>V.int (i * j)) (tOp rHx (tVar 0) (tC (V.int 1))) (tC (V.int 52774)))) tNil)) (tC (V.int 998244353))) (gName 4)) (tRet (tOp (rI (fun x j=>0<j) fun i j=>V.int (i % j)) (tOp (rI CDiv fun i j=>V.int (i / j)) (tOp (rI (fun x j=>0<j) fun i j=>V.int (i % j)) (tCB (fun xs H Q=>(∃ i,xs=[V.int i]/\Q (V.int i) H)\/∃ k,xs=[V.bl k]/\Q (V.int (if k=true then 1 else 0)) H) (tCons (tOp (rI0 fun i j=>V.int (i+j)) (tOp (rI CMul fun i j=>V.int (i * j)) (tVar 4) (tC (V.int 48271))) (tVar 3)) tNil)) (tC (V.int 2147483629))) (tC (V.int 17))) (tVar 1))))) {nx:=(tAsg (tVar 2) (gSub (tVar 0) (tC (V.int 2)) rSetL)) {nx:=tSeq (tAsg (tOp (rI (fun _ j=>0<j) fun i j=>.int (i % j)) (tCB (fun xs H Q=>(∃ i,xs=[.int i]/\Q (.int i) H)\/∃ k,xs=[.bl k]/\Q (.int (if k then 1 else 0)) H) (tCons (tOp rHx (tVar 0) (tC (.int 2))) tNil)) (tVar 1)) (gName 5)) (tSeq (tAsg (tOp (rI CDiv fun i j=>.int (i / j)) (tCB (fun xs H Q=>(∃ i,xs=[.int i]/\Q (.int i) H)\/∃ k,xs=[.bl k]/\Q (.int (if k then 1 else 0)) H) (tCons (tOp rHx (tVar 0) (tC (.int 2))) tNil)) (tVar 1)) (gSub (tVar 0) (tC (.int 2)) rSetL)) (tRet (tVar 5))) {nx:=fun _ H'=>Q .non H',rt:=Q},rt:=Q},rt:=Q} [some (.ref h),some (.int many),some (.int x),none,none,none] H1:=by
            refine⟨.int x,rfl,x,40693,rfl,rfl,cm _ _ (by decide) (by decide),.ref h,rfl,h,_,1,_,rfl,rfl,g1',rfl,i+1,39373,rfl,rfl,cm _ _ (by decide) (by decide),_,_,rfl,rfl,.ref h,rfl,h,_,3,_,rfl,rfl,g1',rfl,_,_,rfl,rfl,.inl ⟨_,rfl,_,2147483647,rfl,rfl,(show(0:Int)<2147483647 by decide),?_⟩⟩
            dsimp only[List.set]
            have b1:=Int.emod_nonneg (x * 40693+(i+1) * 39373+m) (show(2147483647:Int)≠0 by decide)
            have b2:=Int.emod_lt_of_pos (x * 40693+(i+1) * 39373+m) (show(0:Int)<2147483647 by decide)
            generalize (x * 40693+(i+1) * 39373+m) % 2147483647=one at b1 b2 ⊢
            refine⟨.int one,rfl,.int one,rfl,one,one,rfl,rfl,cm _ _ (by omega) (by omega),.ref h,rfl,h,_,1,_,rfl,rfl,g1',rfl,i+1,52774,rfl,rfl,cm _ _ (by decide) (by decide),_,_,rfl,rfl,.inl ⟨_,rfl,_,998244353,rfl,rfl,(show(0:Int)<998244353 by decide),?_⟩⟩
            dsimp only[List.set]
            generalize (one * one+(i+1) * 52774) % 998244353=two
            refine⟨.int two,rfl,two,48271,rfl,rfl,cm _ _ (by decide) (by decide),.int one,rfl,_,_,rfl,rfl,.inl ⟨_,rfl,_,2147483629,rfl,rfl,(show(0:Int)<2147483629 by decide),_,17,rfl,rfl,⟨by decide,by decide⟩,.int many,rfl,_,many,rfl,rfl,hm,?_⟩⟩
            have:=q1 (i+1) j ((two * 48271+one) % 2147483629 / 17 % many) (by omega) (Int.emod_nonneg _ (by omega)) (Int.emod_lt_of_pos _ hm)
            rw[hs] at this
            exact this
          by_cases hb:(((cells.map V.int).length:Nat):Int)<i+1
          . rw[decide_eq_true hb]
            exact iteT (iteT ret)
          . rw[decide_eq_false hb]
            refine iteF ⟨.int x,rfl,10,18,rfl,rfl,⟨by decide,by decide,by decide⟩,x,_,rfl,rfl,decide (x<10 ^ (18:Int).toNat),rfl,?_⟩
            by_cases hx:x<10 ^ (18:Int).toNat
            . rw[decide_eq_true hx]
              exact iteT ret
            . rw[decide_eq_false hx]
              refine iteF ?_
              refine⟨.int x,rfl,.ref h,rfl,h,_,2,2,rfl,rfl,g1',rfl,?_⟩
              exact tail (i+1) x _ _ _ _ (by omega) upd_same fun i' j' r a b c=>by
                rw[upd_upd]
                exact q1 i' j' r a b c
        by_cases hi:(i+1)<=(((cells.map V.int).length:Nat):Int)
        . rw[decide_eq_true hi]
          refine iteT ?_
          obtain⟨x,hx⟩:∃ x:Int,atI (cells.map V.int) (i+1 - 1)=some (.int x):=by
            have e:i+1 - 1=((i.toNat:Nat):Int):=by omega
            rw[List.length_map] at hi
            rw[e,L3.atI_nat (by rw[List.length_map]; omega),List.getElem?_map]
            have:i.toNat<cells.length:=by omega
            rw[List.getElem?_eq_getElem this]
            exact⟨_,rfl⟩
          exact⟨.ref h,rfl,h,_,0,_,rfl,rfl,g1',rfl,.ref h,rfl,h,_,1,_,rfl,rfl,g1',rfl,i+1,1,rfl,rfl,c,_,i+1 - 1,_,rfl,rfl,gc,hx,rest x⟩
        . rw[decide_eq_false hi]
          refine iteF ?_
          exact rest _
      . rw[decide_eq_false hj]
        refine iteF ?_
        exact tail i j H _ _ _ h0 g1 q
  have z:=G.raw (ds:=[]) (dvs:=[]) (FD.bindsN fun _ _ _ _ _ _ us hl=>match us,hl with | [_,_],_=>rfl) .nil
  intro A outer s H us vs Q E hr e0 r hs
  exact z A outer s H us vs Q E hr e0 r (by show sp_pick (vs++[]) H Q E; rw[List.append_nil]; exact hs)
open PySem PySem.Spec PyProof.Rows L2 L3
def pl:Nat->D->Prop
  | _,.non=>True
  | _,.bl _=>True
  | _,.int _=>True
  | _,.str x=>SeqAt.shaped (.str x)=true
  | n+1,.lst ds=>ds.length<=sizeLine/\∀ d∈ds,pl n d
  | n+1,.tup ds=>ds.length<=sizeLine/\∀ d∈ds,pl n d
  | _,_=>False
mutual
def plB:Nat->D->Bool
  | _,.non=>true
  | _,.bl _=>true
  | _,.int _=>true
  | _,.str x=>SeqAt.shaped (.str x)
  | n+1,.lst ds=>decide (ds.length<=sizeLine)&&plBs n ds
  | n+1,.tup ds=>decide (ds.length<=sizeLine)&&plBs n ds
  | _,_=>false
def plBs:Nat->List D->Bool
  | _,[]=>true
  | n,d::r=>plB n d&&plBs n r
end
theorem plBs_all {n:Nat}:∀ {ds:List D},plBs n ds=true->∀ d∈ds,plB n d=true
  | d::r,h,x,hx=>by
    unfold plBs at h
    rw[Bool.and_eq_true] at h
    rcases List.mem_cons.mp hx with e | hx
    . rw[e]; exact h.1
    . exact plBs_all h.2 x hx
theorem pl_of:∀ {n:Nat}{d:D},plB n d=true->pl n d
  | n,.non,_=>by cases n<;>trivial
  | n,.bl _,_=>by cases n<;>trivial
  | n,.int _,_=>by cases n<;>trivial
  | n,.str x,h=>by cases n<;>exact h
  | n+1,.lst ds,h=>by
    unfold plB at h
    rw[Bool.and_eq_true,decide_eq_true_eq] at h
    exact⟨h.1,fun d hd=>pl_of (plBs_all h.2 d hd)⟩
  | n+1,.tup ds,h=>by
    unfold plB at h
    rw[Bool.and_eq_true,decide_eq_true_eq] at h
    exact⟨h.1,fun d hd=>pl_of (plBs_all h.2 d hd)⟩
  | 0,.lst ds,h=>by cases h
  | 0,.tup ds,h=>by cases h
  | 0,.ty _,h=>by cases h
  | n+1,.ty _,h=>by cases h
  | 0,.ref _,h=>by cases h
  | n+1,.ref _,h=>by cases h
  | 0,.ins _ _,h=>by cases h
  | n+1,.ins _ _,h=>by cases h
  | 0,.exc _ _,h=>by cases h
  | n+1,.exc _ _,h=>by cases h
  | 0,.clo _ _,h=>by cases h
  | n+1,.clo _ _,h=>by cases h
  | 0,.lam _ _,h=>by cases h
  | n+1,.lam _ _,h=>by cases h
  | 0,.dic _,h=>by cases h
  | n+1,.dic _,h=>by cases h
theorem cut_lo {xs:List D}{k:Nat} (h:k<=xs.length):L3.cutD xs none (some (k:Int))=xs.take k:=by
  unfold L3.cutD
  rw[HT.sIx_none,HT.sIx_nat,List.drop_zero,Nat.min_eq_left h,Nat.sub_zero]
theorem cut_hi {xs:List D}{k:Nat} (h:k<=xs.length):L3.cutD xs (some (k:Int)) none=xs.drop k:=by
  unfold L3.cutD
  rw[HT.sIx_none,HT.sIx_nat,Nat.min_eq_left h]
  exact List.take_of_length_le (by rw[List.length_drop]; omega)
def F_same:Nat->TF
  | 0=>fun _ _ _ _=>False
  | n+1=>fun _ ds φ _=>∃ d,ds=[d,d]/\pl n d/\φ (.bl true)
mutual
def mD:Tr->D
  | .nd s ks=>.tup [.str (mks s),.tup (mDs ks)]
def mDs:List Tr->List D
  | []=>[]
  | t::r=>mD t::mDs r
end
theorem mDs_eq:∀ ks:List Tr,mDs ks=ks.map mD
  | []=>rfl
  | t::r=>congrArg (mD t::·) (mDs_eq r)
theorem mD_nd(s:List Nat) (ks:List Tr):mD (.nd s ks)=.tup [.str (mks s),.tup (ks.map mD)]:=by
  show D.tup [.str (mks s),.tup (mDs ks)]=_
  rw[mDs_eq]
theorem zip_self:∀ ds:List D,zipD ds ds=ds.map fun d=>.tup [d,d]
  | []=>rfl
  | d::r=>congrArg (D.tup [d,d]::·) (zip_self r)
theorem le_sum:∀ {l:List Nat}{x:Nat},x∈l->x<=l.sum
  | y::l,x,h=>by
    rw[List.sum_cons]
    rcases List.mem_cons.mp h with e | e
    . omega
    . have:=le_sum e
      omega
theorem all_true {α:Type}:∀ ds:List α,(ds.map fun _=>true).all id=true
  | []=>rfl
  | _::r=>all_true r
theorem fn_false {k:Nat}{f:Addr}{F:TF} (h:∀ wd ds φ ε,¬F wd ds φ ε):Fn3 P w K mg base k f F:=by
  intro A outer s H us vs Q E hr e0 r ⟨wd,R,ds,φ,ε,b,rr,z,_⟩
  exact absurd z (h _ _ _ _)
def F_mtree(C:Addr) (n:Nat):TF:=fun _ ds φ _=>∃ t:Tr,ds=[mD t]/\t.ok/\t.dep<=n/\t.txt.length<=big/\φ (trD C t)
def F_size(n:Nat):TF:=fun _ ds φ _=>∃ t:Tr,ds=[mD t]/\t.ok/\t.dep<=n/\φ (.int (t.siz:Nat))
theorem ok_law_of(tx:Tx K mg):Fn3 P w K mg base 2 (He.ga K "_law_of") (F_ofT (TT K)):=by
  obtain⟨fd,FD⟩:=tx.fd_law_of
  have g_law_pick:=ok_pick (P:=P) (w:=w) (base:=base) tx
  refine fn3 FD sc_law_of (FD.bindsN fun _ _ _ _ _ _ us hl=>match us,hl with | [_,_],_=>rfl) ?hn (fun cdv A outer s H E hr=>(dss_one (ds_ret (de_ix (dv 1) (de_call g_law_pick (hr.mono (by omega)) rfl tx.mg_law_pick tx.kp_law_pick tk3 (da_cons (dv 0) (da_cons (de_len rfl tx.no_len (da_cons (dv 1) da_nil)) da_nil))))))) ?hT
  case hn =>
    rintro wd ds φ ε ⟨h,c,cells,es,rfl,rfl,_⟩
    rfl
  case hT =>
    rintro wd ds φ ε ⟨h,c,cells,es,rfl,rfl,hne,hl,q⟩
    show TRet _ _ _ [.v (.ref h),.v (.lst es)]
    simp![]
    have hp:0<es.length:=List.length_pos_iff.mpr hne
    refine⟨h,c,cells,(es.length:Nat),rfl,rfl,by omega,by omega,fun r h1 h2=>?_⟩
    have hr:r.toNat<es.length:=by omega
    have e:r=((r.toNat:Nat):Int):=by omega
    refine⟨es[r.toNat],?_,q _ (List.getElem_mem hr)⟩
    have e2:=L3.atI_nat hr
    rw[<- e] at e2
    rw[e2]
    exact List.getElem?_eq_getElem hr
theorem ok_law_hand(tx:Tx K mg):Fn3 P w K mg base 1 (He.ga K "_law_hand") (F_hand2 K):=by
  obtain⟨fd,FD⟩:=tx.fd_law_hand
  refine fn3 FD sc_law_hand (FD.bindsN fun _ _ _ _ _ _ us hl=>match us,hl with | [_],_=>rfl) ?hn (fun cdv A outer s H E hr=>(dss_cons (ds_setLc (i:=1) (own:=[("_law_cell",3)]) rfl sc_law_hand.nd rfl rfl (sw_true rfl rfl rfl (by decide +kernel)) (di_list (de_sliceS (K:=K) (dv 0) do_none (do_some de_int))) (blkOk_by (own:=[("_law_cell",3)]) (N:=N_law_hand) (sc:=defScope s_law_hand) (by decide +kernel)) (fun _ _ _ _ _=>(dg_name (i:=3) sc_law_hand.nd rfl (Or.inl rfl))) (fun _ _ _ _ _=>dts_nil) (fun _ _ _ _ _=>(de_callTy call_int1 cd_int1 rfl tx.no_int (by decide +kernel) (da_cons (dv 3) da_nil))))
    (dss_cons (ds_set (i:=2) sc_law_hand.nd rfl (Or.inl rfl) (de_add de_int (de_mul de_int (de_len rfl tx.no_len (da_cons (dv 1) da_nil)))))
    (dss_cons (ds_for (vs:=[3]) ps3 rfl (di_list (dv 1)) (dg_name (i:=3) sc_law_hand.nd rfl (Or.inl rfl))
     (dss_one (ds_set (i:=2) sc_law_hand.nd rfl (Or.inl rfl) (de_mod (de_callTy call_int1 cd_int1 rfl tx.no_int (by decide +kernel) (da_cons (de_add (de_mul (dv 2) de_int) (dv 3)) da_nil)) de_int))))
    (dss_one (ds_ret (de_lst (da_cons (dv 1) (da_cons de_int (da_cons de_int (da_cons (dv 2) da_nil))))))))))) ?hT
  case hn =>
    rintro wd ds φ ε ⟨a,ns,rfl,_⟩
    rfl
  case hT =>
    rintro wd ds φ ε ⟨a,ns,rfl,hS,hl,q⟩
    show TSeq _ _ _ _ [.v (.ref a),.no,.no,.no]
    have hc:L3.cutD (ns.map D.int) none (some 63)=ns.map D.int:=by
      unfold L3.cutD
      have e:(63:Int)=((63:Nat):Int):=rfl
      rw[HT.sIx_none,e,HT.sIx_nat,List.length_map,List.drop_zero]
      exact List.take_of_length_le (by rw[List.length_map]; omega)
    have hL:sizeLine=16777216:=sizeLine_eq
    simp![TSlS]
    refine⟨ns,hS,?_⟩
    rw[hc]
    refine compD_map (enc:=D.int) (f:=D.int) ns [] (fun n hn acc ψ hl q=>?_) (by show 0+_<=_; omega) ?_
    . simp![hl,q]
    rw[List.nil_append,List.length_map]
    refine⟨.inl ⟨by decide,by decide⟩,?_⟩
    refine forD_of (enc:=D.int) (fun xs env=>∃ (m:Int) (sl:Sl),env=[.v (.ref a),.v (.lst (ns.map D.int)),.v (.int m),sl]) ns _ ⟨5621+97 * (ns.length:Nat),.no,by simp⟩ ?_ ?_
    . rintro n rest env D2 - h1 - - ⟨m,sl,rfl⟩
      simp![CMul]
      exact h1 _ ⟨_,_,rfl⟩
    . rintro env ⟨m,sl,rfl⟩
      simp![]
      exact q m
theorem ok_same {P:Program}{w:World}{K:PySem.W.Frag}{mg:Str->Option Value}{base:Heap} (tx:Tx K mg):∀ n:Nat,Fn3 P w K mg base (1+n) (He.ga K "_law_same") (F_same n)
  | 0=>fn_false (fun _ _ _ _ h=>h)
  | n+1=>by
    obtain⟨fd,FD⟩:=tx.fd_law_same
    have g_law_same:Fn3 P w K mg base (1+n) (He.ga K "_law_same") (F_same n):=ok_same tx n
    refine fn3 (k:=1+n) FD sc_law_same (FD.bindsN fun _ _ _ _ _ _ us hl=>match us,hl with | [_,_],_=>rfl) ?hn (fun cdv A outer s H E hr=>(dss_cons (ds_if (dt_cmp op_isN opd_is (dv 1) de_non (nomark _))
     (dss_one (ds_ret (de_cmp op_isN opd_is (dv 0) de_non (nomark _))))
     dss_nil)
    (dss_cons (ds_if (dt_bool (dw_or (dt_val (de_callB (L3.CallR.or call_isi call_isiT) (cd_isiA (K:=K)) rfl tx.no_isinstance (by decide +kernel) (da_cons (dv 1) (da_cons (de_bty rfl tx.no_bool) da_nil)))) (dw_or1 (dt_val (de_callB (L3.CallR.or call_isi call_isiT) (cd_isiA (K:=K)) rfl tx.no_isinstance (by decide +kernel) (da_cons (dv 0) (da_cons (de_bty rfl tx.no_bool) da_nil)))))))
     (dss_one (ds_ret (de_and (de_callB (L3.CallR.or call_isi call_isiT) (cd_isiA (K:=K)) rfl tx.no_isinstance (by decide +kernel) (da_cons (dv 1) (da_cons (de_bty rfl tx.no_bool) da_nil))) (de_and (de_callB (L3.CallR.or call_isi call_isiT) (cd_isiA (K:=K)) rfl tx.no_isinstance (by decide +kernel) (da_cons (dv 0) (da_cons (de_bty rfl tx.no_bool) da_nil))) (de_one (de_cmp (op_eqD hr.units) opd_eq (dv 0) (dv 1) (nomark _)))))))
     dss_nil)
    (dss_cons (ds_if (dt_val (de_callB (L3.CallR.or call_isi call_isiT) (cd_isiA (K:=K)) rfl tx.no_isinstance (by decide +kernel) (da_cons (dv 1) (da_cons (de_tup (da_cons (de_bty rfl tx.no_int) (da_cons (de_bty rfl tx.no_str) da_nil))) da_nil))))
     (dss_one (ds_ret (de_and (de_callB (L3.CallR.or call_isi call_isiT) (cd_isiA (K:=K)) rfl tx.no_isinstance (by decide +kernel) (da_cons (dv 0) (da_cons (de_tup (da_cons (de_bty rfl tx.no_int) (da_cons (de_bty rfl tx.no_str) da_nil))) da_nil))) (de_and (de_cmp (op_eqD hr.units) opd_eq (de_callB (L3.CallR.or call_isi call_isiT) (cd_isiA (K:=K)) rfl tx.no_isinstance (by decide +kernel) (da_cons (dv 0) (da_cons (de_bty rfl tx.no_int) da_nil))) (de_callB (L3.CallR.or call_isi call_isiT) (cd_isiA (K:=K)) rfl tx.no_isinstance (by decide +kernel) (da_cons (dv 1) (da_cons (de_bty rfl tx.no_int) da_nil))) (nomark _)) (de_one (de_cmp (op_eqD hr.units) opd_eq (dv 0) (dv 1) (nomark _)))))))
     dss_nil)
    (dss_cons (ds_if (dt_bool (dw_or (dt_cmp (op_neD hr.units) opd_ne (de_callB (L3.CallR.or call_isi call_isiT) (cd_isiA (K:=K)) rfl tx.no_isinstance (by decide +kernel) (da_cons (dv 1) (da_cons (de_bty rfl tx.no_list) da_nil))) (de_callB (L3.CallR.or call_isi call_isiT) (cd_isiA (K:=K)) rfl tx.no_isinstance (by decide +kernel) (da_cons (dv 0) (da_cons (de_bty rfl tx.no_list) da_nil))) (nomark _)) (dw_or1 (dt_cmp (op_neD hr.units) opd_ne (de_callB (L3.CallR.or call_isi call_isiT) (cd_isiA (K:=K)) rfl tx.no_isinstance (by decide +kernel) (da_cons (dv 1) (da_cons (de_bty rfl tx.no_tuple) da_nil))) (de_callB (L3.CallR.or call_isi call_isiT) (cd_isiA (K:=K)) rfl tx.no_isinstance (by decide +kernel) (da_cons (dv 0) (da_cons (de_bty rfl tx.no_tuple) da_nil))) (nomark _)))))
     (dss_one (ds_ret de_bl))
     dss_nil)
    (dss_one (ds_ret (de_and (de_cmp (op_eqD hr.units) opd_eq (de_len rfl tx.no_len (da_cons (dv 0) da_nil)) (de_len rfl tx.no_len (da_cons (dv 1) da_nil)) (nomark _)) (de_one (de_callB (cr_all rfl) cd_all rfl tx.no_all (by decide +kernel) (da_cons (de_lc (own:=[("_law_one",2),("_law_two",3)]) rfl sc_law_same.nd (di_zip rfl tx.no_zip (da_cons (dv 0) (da_cons (dv 1) da_nil))) (blkOk_by (own:=[("_law_one",2),("_law_two",3)]) (N:=N_law_same) (sc:=defScope s_law_same) (by decide +kernel)) (fun _ _ _ _ _=>(dg_tup (n:=2) rfl (dgs_cons (dg_name (i:=2) sc_law_same.nd rfl (Or.inl rfl)) (dgs_cons (dg_name (i:=3) sc_law_same.nd rfl (Or.inl rfl)) dgs_nil)))) (fun _ _ _ _ _=>dts_nil) (fun _ _ _ _ _=>(de_call g_law_same (hr.mono (by omega)) rfl tx.mg_law_same tx.kp_law_same takesN (da_cons (dv 2) (da_cons (dv 3) da_nil))))) da_nil))))))))))) ?hT
    case hn =>
      rintro wd ds φ ε ⟨d,rfl,_⟩
      rfl
    case hT =>
      rintro wd ds φ ε ⟨d,rfl,hd,q⟩
      show TSeq _ _ _ _ [.v d,.v d,.no,.no]
      have hL:sizeLine=16777216:=sizeLine_eq
      cases d with
      | non=>simp![q]
      | bl b=>simp![q]
      | int i=>simp![q]
      | str z=>
        have hz:SeqAt.shaped (.str z)=true:=by cases n<;>exact hd
        simp![q,hz]
      | lst ds =>
        cases n with
        | zero=>exact absurd hd id
        | succ n =>
          obtain⟨hl,hm⟩:=hd
          simp![zipF,zip_self]
          refine compD_map (enc:=fun d=>D.tup [d,d]) (f:=fun _=>.bl true) ds [] (fun d hd acc ψ hl q=>?_) (by show 0+_<=_; omega) ⟨ds.map fun _=>true,?_,?_⟩
          . simp![]
            exact⟨d,rfl,hm d hd,hl,q⟩
          . rw[<- blsD_map,List.map_map]; rfl
          . rw[all_true]; exact q
      | tup ds =>
        cases n with
        | zero=>exact absurd hd id
        | succ n =>
          obtain⟨hl,hm⟩:=hd
          simp![zipF,zip_self]
          refine compD_map (enc:=fun d=>D.tup [d,d]) (f:=fun _=>.bl true) ds [] (fun d hd acc ψ hl q=>?_) (by show 0+_<=_; omega) ⟨ds.map fun _=>true,?_,?_⟩
          . simp![]
            exact⟨d,rfl,hm d hd,hl,q⟩
          . rw[<- blsD_map,List.map_map]; rfl
          . rw[all_true]; exact q
      | ty _=>cases n<;>exact absurd hd id
      | ref _=>cases n<;>exact absurd hd id
      | ins _ _=>cases n<;>exact absurd hd id
      | exc _ _=>cases n<;>exact absurd hd id
      | clo _ _=>cases n<;>exact absurd hd id
      | lam _ _=>cases n<;>exact absurd hd id
      | dic _=>cases n<;>exact absurd hd id
      | dicT _=>cases n<;>exact absurd hd id
theorem ok_tree {P:Program}{w:World}{K:PySem.W.Frag}{mg:Str->Option Value}{base:Heap} (tx:Tx K mg):∀ n:Nat,Fn3 P w K mg base (3+n) (He.ga K "_law_tree") ((F_mtree (He.ga K "Tree")) n)
  | 0=>fn_false (fun _ _ _ _ ⟨t,_,_,h,_⟩=>by have:=dep_pos t; omega)
  | n+1=>by
    obtain⟨fd,FD⟩:=tx.fd_law_tree
    have g_law_tree:Fn3 P w K mg base (3+n) (He.ga K "_law_tree") ((F_mtree (He.ga K "Tree")) n):=ok_tree tx n
    have g_Tree_init:FnI P w K mg base 2 (He.ga K "Tree") (He.ma K (He.ga K "Tree") "__init__") (F_init (He.ga K "Tree")):=ok_init tx
    refine fn3 (k:=3+n) FD sc_law_tree (FD.bindsN fun _ _ _ _ _ _ us hl=>match us,hl with | [_],_=>rfl) ?hn (fun cdv A outer s H E hr=>(dss_cons (ds_setLc (i:=1) (own:=[("_law_kid",2)]) rfl sc_law_tree.nd rfl rfl (sw_true rfl rfl rfl (by decide +kernel)) (di_tup (de_ix (dv 0) de_int)) (blkOk_by (own:=[("_law_kid",2)]) (N:=N_law_tree) (sc:=defScope s_law_tree) (by decide +kernel)) (fun _ _ _ _ _=>(dg_name (i:=2) sc_law_tree.nd rfl (Or.inl rfl))) (fun _ _ _ _ _=>dts_nil) (fun _ _ _ _ _=>(de_call g_law_tree (hr.mono (by omega)) rfl tx.mg_law_tree tx.kp_law_tree takesN (da_cons (dv 2) da_nil))))
    (dss_cons (ds_if (dt_cmp (op_eqD hr.units) opd_eq (de_len rfl tx.no_len (da_cons (dv 1) da_nil)) de_int (nomark _))
     (dss_one (ds_ret (de_make tx.mk_Tree g_Tree_init (hr.mono (by omega)) rfl tx.mg_Tree tk3 (da_cons (de_ix (dv 0) de_int) da_nil))))
     dss_nil)
    (dss_cons (ds_if (dt_cmp (op_eqD hr.units) opd_eq (de_len rfl tx.no_len (da_cons (dv 1) da_nil)) de_int (nomark _))
     (dss_one (ds_ret (de_make tx.mk_Tree g_Tree_init (hr.mono (by omega)) rfl tx.mg_Tree tk3 (da_cons (de_ix (dv 0) de_int) (da_cons (de_ix (dv 1) de_int) da_nil)))))
     dss_nil)
    (dss_one (ds_ret (de_ifExp (dt_cmp (op_eqD hr.units) opd_eq (de_len rfl tx.no_len (da_cons (dv 1) da_nil)) de_int (nomark _)) (de_make tx.mk_Tree g_Tree_init (hr.mono (by omega)) rfl tx.mg_Tree tk3 (da_cons (de_ix (dv 0) de_int) (da_cons (de_ix (dv 1) de_int) (da_cons (de_ix (dv 1) de_int) da_nil)))) (de_make tx.mk_Tree g_Tree_init (hr.mono (by omega)) rfl tx.mg_Tree tk3 (da_cons (de_ix (dv 0) de_int) (da_cons (de_ix (dv 1) de_int) (da_cons (de_ix (dv 1) de_int) (da_cons (de_ix (dv 1) de_int) da_nil)))))))))))) ?hT
    case hn =>
      rintro wd ds φ ε ⟨t,rfl,_⟩
      rfl
    case hT =>
      rintro wd ds φ ε ⟨⟨s,ks⟩,rfl,⟨h1,h2,h3⟩,hd,hl,q⟩
      rw[mD_nd]
      show TSeq _ _ _ _ [.v (.tup [.str (mks s),.tup (ks.map mD)]),.no,.no]
      have hL:sizeLine=16777216:=sizeLine_eq
      have hB:big=1000000:=rfl
      have hks:=oks_iff.mp h3
      have hdd:deps ks<=n:=by
        have:1+deps ks<=n+1:=hd
        omega
      have hw:=wrapL_len s (txts ks)
      have hwl:(wrapL s (txts ks)).length<=big:=hl
      have hkl:∀ t∈ks,t.txt.length<=big:=fun t ht=>by
        have:t.txt.length∈(txts ks).map List.length:=by
          rw[txts_eq,List.map_map]
          exact List.mem_map.mpr ⟨t,ht,rfl⟩
        have:=le_sum this
        omega
      simp![]
      refine compD_map (enc:=mD) (f:=trD (He.ga K "Tree")) ks [] (fun t ht acc ψ hl q=>?_) (by show 0+_<=_; omega) ?_
      . simp![]
        exact⟨t,rfl,hks t ht,Nat.le_trans (deps_le ht) hdd,hkl t ht,hl,q⟩
      . have fin:F_init (He.ga K "Tree") wd (.str (mks s)::ks.map (trD (He.ga K "Tree"))) (fun fs=>φ (.ins (He.ga K "Tree") fs)) (fun ex=>ε ex):=⟨s,ks,rfl,⟨h1,h2,h3⟩,hl,by rw[trD_ins] at q; exact q⟩
        match ks,h2,fin with
        | [],_,fin=>simpa [TLenOwn,TCallLam,slD,TVar,TC,TOp,TTst,fI,TAnd,TOr,TNot,TAndV,TOrV,TNotV,TIf,TChain,TChainB,TNoPart,TPart,TSl,TFld,TFldO,TCon,TNil,TCons,TTup,TLst,TCB,TM1,TFmt,TJs,TJoined,TNext,TSeq,TBreak,TCont,TNever,TRet,TRetN,TDrop,TIfS,L3.TSet,TAug,TPar,GName,GNil,GCons,GTup,TAsg,TIl,TIt,TIs,TIr1,TIr2,TIz,TFor,TOwn,TOwnL,TApp,TExt,TBor,TBorB,TFrz,TPutF,TYes,TLc,TLc2,TCall,TStar,TMake,TOpC,TParO1,TParO0,TPutJ,TBorN,TFldX,TIenT,TOwnLc,TMaxd,TCallK,lenF,isiAF,isiF,isiTF,PySem.W.kitAny,inF,sumF,allF,anyF,tupleF,int1F,max2F,joinF,ixF,addF,mulF,tyOf,TyK,clsOf,clsOfs,wipeD,hideS,flatD,putD,and_assoc,neNilF,TMeth,TMethK,TStar1,ownInF,L3.tGThen,L3.tGYield,L3.tGFor,L3.ForGn,L3.tG0,L3.tPl,L3.tGIf,TMethG,TMethGK,TListG,TDc,TIk,TIxK,TSortKey,TLam,inDF,inOwnF,TLone,slF,isF,isntF,isND,GUnl,TTell,TMakeK,TCMeth,TCMethK,TMakeV,TLcE,TOwnM,TRevL,TIndex,TAppPop,TParO2] using fin
        | [a],_,fin=>simpa [TLenOwn,TCallLam,slD,TVar,TC,TOp,TTst,fI,TAnd,TOr,TNot,TAndV,TOrV,TNotV,TIf,TChain,TChainB,TNoPart,TPart,TSl,TFld,TFldO,TCon,TNil,TCons,TTup,TLst,TCB,TM1,TFmt,TJs,TJoined,TNext,TSeq,TBreak,TCont,TNever,TRet,TRetN,TDrop,TIfS,L3.TSet,TAug,TPar,GName,GNil,GCons,GTup,TAsg,TIl,TIt,TIs,TIr1,TIr2,TIz,TFor,TOwn,TOwnL,TApp,TExt,TBor,TBorB,TFrz,TPutF,TYes,TLc,TLc2,TCall,TStar,TMake,TOpC,TParO1,TParO0,TPutJ,TBorN,TFldX,TIenT,TOwnLc,TMaxd,TCallK,lenF,isiAF,isiF,isiTF,PySem.W.kitAny,inF,sumF,allF,anyF,tupleF,int1F,max2F,joinF,ixF,addF,mulF,tyOf,TyK,clsOf,clsOfs,wipeD,hideS,flatD,putD,and_assoc,neNilF,TMeth,TMethK,TStar1,ownInF,L3.tGThen,L3.tGYield,L3.tGFor,L3.ForGn,L3.tG0,L3.tPl,L3.tGIf,TMethG,TMethGK,TListG,TDc,TIk,TIxK,TSortKey,TLam,inDF,inOwnF,TLone,slF,isF,isntF,isND,GUnl,TTell,TMakeK,TCMeth,TCMethK,TMakeV,TLcE,TOwnM,TRevL,TIndex,TAppPop,TParO2] using fin
        | [a,b],_,fin=>simpa [TLenOwn,TCallLam,slD,TVar,TC,TOp,TTst,fI,TAnd,TOr,TNot,TAndV,TOrV,TNotV,TIf,TChain,TChainB,TNoPart,TPart,TSl,TFld,TFldO,TCon,TNil,TCons,TTup,TLst,TCB,TM1,TFmt,TJs,TJoined,TNext,TSeq,TBreak,TCont,TNever,TRet,TRetN,TDrop,TIfS,L3.TSet,TAug,TPar,GName,GNil,GCons,GTup,TAsg,TIl,TIt,TIs,TIr1,TIr2,TIz,TFor,TOwn,TOwnL,TApp,TExt,TBor,TBorB,TFrz,TPutF,TYes,TLc,TLc2,TCall,TStar,TMake,TOpC,TParO1,TParO0,TPutJ,TBorN,TFldX,TIenT,TOwnLc,TMaxd,TCallK,lenF,isiAF,isiF,isiTF,PySem.W.kitAny,inF,sumF,allF,anyF,tupleF,int1F,max2F,joinF,ixF,addF,mulF,tyOf,TyK,clsOf,clsOfs,wipeD,hideS,flatD,putD,and_assoc,neNilF,TMeth,TMethK,TStar1,ownInF,L3.tGThen,L3.tGYield,L3.tGFor,L3.ForGn,L3.tG0,L3.tPl,L3.tGIf,TMethG,TMethGK,TListG,TDc,TIk,TIxK,TSortKey,TLam,inDF,inOwnF,TLone,slF,isF,isntF,isND,GUnl,TTell,TMakeK,TCMeth,TCMethK,TMakeV,TLcE,TOwnM,TRevL,TIndex,TAppPop,TParO2] using fin
        | [a,b,c],_,fin=>simpa [TLenOwn,TCallLam,slD,TVar,TC,TOp,TTst,fI,TAnd,TOr,TNot,TAndV,TOrV,TNotV,TIf,TChain,TChainB,TNoPart,TPart,TSl,TFld,TFldO,TCon,TNil,TCons,TTup,TLst,TCB,TM1,TFmt,TJs,TJoined,TNext,TSeq,TBreak,TCont,TNever,TRet,TRetN,TDrop,TIfS,L3.TSet,TAug,TPar,GName,GNil,GCons,GTup,TAsg,TIl,TIt,TIs,TIr1,TIr2,TIz,TFor,TOwn,TOwnL,TApp,TExt,TBor,TBorB,TFrz,TPutF,TYes,TLc,TLc2,TCall,TStar,TMake,TOpC,TParO1,TParO0,TPutJ,TBorN,TFldX,TIenT,TOwnLc,TMaxd,TCallK,lenF,isiAF,isiF,isiTF,PySem.W.kitAny,inF,sumF,allF,anyF,tupleF,int1F,max2F,joinF,ixF,addF,mulF,tyOf,TyK,clsOf,clsOfs,wipeD,hideS,flatD,putD,and_assoc,neNilF,TMeth,TMethK,TStar1,ownInF,L3.tGThen,L3.tGYield,L3.tGFor,L3.ForGn,L3.tG0,L3.tPl,L3.tGIf,TMethG,TMethGK,TListG,TDc,TIk,TIxK,TSortKey,TLam,inDF,inOwnF,TLone,slF,isF,isntF,isND,GUnl,TTell,TMakeK,TCMeth,TCMethK,TMakeV,TLcE,TOwnM,TRevL,TIndex,TAppPop,TParO2] using fin
        | _::_::_::_::_,h2,_=>simp at h2
theorem ok_size {P:Program}{w:World}{K:PySem.W.Frag}{mg:Str->Option Value}{base:Heap} (tx:Tx K mg):∀ n:Nat,Fn3 P w K mg base (1+n) (He.ga K "_law_size") (F_size n)
  | 0=>fn_false (fun _ _ _ _ ⟨t,_,_,h,_⟩=>by have:=dep_pos t; omega)
  | n+1=>by
    obtain⟨fd,FD⟩:=tx.fd_law_size
    have g_law_size:Fn3 P w K mg base (1+n) (He.ga K "_law_size") (F_size n):=ok_size tx n
    refine fn3 (k:=1+n) FD sc_law_size (FD.bindsN fun _ _ _ _ _ _ us hl=>match us,hl with | [_],_=>rfl) ?hn (fun cdv A outer s H E hr=>(dss_one (ds_ret (de_add de_int (de_callB (cr_sum rfl) cd_sum rfl tx.no_sum (by decide +kernel) (da_cons (de_lc (own:=[("_law_kid",1)]) rfl sc_law_size.nd (di_tup (de_ix (dv 0) de_int)) (blkOk_by (own:=[("_law_kid",1)]) (N:=N_law_size) (sc:=defScope s_law_size) (by decide +kernel)) (fun _ _ _ _ _=>(dg_name (i:=1) sc_law_size.nd rfl (Or.inl rfl))) (fun _ _ _ _ _=>dts_nil) (fun _ _ _ _ _=>(de_call g_law_size (hr.mono (by omega)) rfl tx.mg_law_size tx.kp_law_size takesN (da_cons (dv 1) da_nil)))) da_nil)))))) ?hT
    case hn =>
      rintro wd ds φ ε ⟨t,rfl,_⟩
      rfl
    case hT =>
      rintro wd ds φ ε ⟨⟨s,ks⟩,rfl,⟨h1,h2,h3⟩,hd,q⟩
      rw[mD_nd]
      show TRet _ _ _ [.v (.tup [.str (mks s),.tup (ks.map mD)]),.no]
      have hL:sizeLine=16777216:=sizeLine_eq
      have hB:big=1000000:=rfl
      have hks:=oks_iff.mp h3
      have hdd:deps ks<=n:=by
        have:1+deps ks<=n+1:=hd
        omega
      simp![]
      refine compD_map (enc:=mD) (f:=fun t=>.int (t.siz:Nat)) ks [] (fun t ht acc ψ hl q=>?_) (by show 0+_<=_; omega) ⟨ks.map fun t=>((t.siz:Nat):Int),?_,?_⟩
      . simp![]
        exact⟨t,rfl,hks t ht,Nat.le_trans (deps_le ht) hdd,hl,q⟩
      . rw[<- intsD_map,List.map_map]; rfl
      . rw[<- sizs_int]
        exact q
open PySem PySem.Spec PyProof.Rows L2 L3
def sgL:List (List Nat × Nat):=[([97],0),([98],0),([99],0),([102],1),([103],2),([102],2),([104],3)]
def sgD(p:List Nat × Nat):D:=.tup [.str (mks p.1),.int (p.2:Nat)]
def F_signs:TF:=fun _ ds φ _=>ds=[]/\φ (.lst (sgL.map sgD))
structure SgOk (sg:List (List Nat × Nat)):Prop where
  all:∀ p∈sg,isSg p.1=true/\p.2<=3
  leaf:∃ p∈sg,p.2=0
  len:sg.length<=100
theorem sgL_ok:SgOk sgL:=⟨by decide +kernel,⟨([97],0),by decide,rfl⟩,by decide⟩
mutual
/-- each sign stands in the list,with its number of branches -/
def fits(sg:List (List Nat × Nat)):Tr->Prop
  | .nd s ks=>(s,ks.length)∈sg/\fitss sg ks
def fitss(sg:List (List Nat × Nat)):List Tr->Prop
  | []=>True
  | t::r=>fits sg t/\fitss sg r
end
theorem fitss_app {sg:List (List Nat × Nat)}:∀ {a b:List Tr},fitss sg a->fitss sg b->fitss sg (a++b)
  | [],_,_,h=>h
  | _::_,_,h,h2=>⟨h.1,fitss_app h.2 h2⟩
theorem oks_app:∀ {a b:List Tr},oks a->oks b->oks (a++b)
  | [],_,_,h=>h
  | _::_,_,h,h2=>⟨h.1,oks_app h.2 h2⟩
def F_drawn(T:List (Addr × Str)):Nat->TF
  | 0=>fun _ _ _ _=>False
  | n+1=>fun wd ds φ _=>∃ (h c:Addr) (cells:List Int) (room:Int) (sg:List (List Nat × Nat)),wd=hwT T h c cells/\ds=[.ref h,.lst (sg.map sgD),.int room]/\SgOk sg/\1<=room/\room<=(n+1:Nat)/\room<=30/\∀ t:Tr,t.ok->(t.siz:Int)<=room->fits sg t->φ (mD t)
theorem ok_law_signs(tx:Tx K mg):Fn3 P w K mg base 1 (He.ga K "_law_signs") F_signs:=by
  obtain⟨fd,FD⟩:=tx.fd_law_signs
  refine fn3 FD sc_law_signs (FD.bindsN fun _ _ _ _ _ _ us hl=>match us,hl with | [],_=>rfl) ?hn (fun cdv A outer s H E hr=>(dss_one (ds_ret (de_lst (da_cons (de_tup (da_cons de_str (da_cons de_int da_nil))) (da_cons (de_tup (da_cons de_str (da_cons de_int da_nil))) (da_cons (de_tup (da_cons de_str (da_cons de_int da_nil))) (da_cons (de_tup (da_cons de_str (da_cons de_int da_nil))) (da_cons (de_tup (da_cons de_str (da_cons de_int da_nil))) (da_cons (de_tup (da_cons de_str (da_cons de_int da_nil))) (da_cons (de_tup (da_cons de_str (da_cons de_int da_nil))) da_nil))))))))))) ?hT
  case hn =>
    rintro wd ds φ ε ⟨rfl,_⟩
    rfl
  case hT =>
    rintro wd ds φ ε ⟨rfl,q⟩
    show TRet _ _ _ []
    simp![]
    have e:sgL.map sgD=[D.tup [.str "a",.int 0],.tup [.str "b",.int 0],.tup [.str "c",.int 0],.tup [.str "f",.int 1],.tup [.str "g",.int 2],.tup [.str "f",.int 2],.tup [.str "h",.int 3]]:=by
      have ea:(Str.ofString "a")=mks [97]:=by decide +kernel
      have eb:(Str.ofString "b")=mks [98]:=by decide +kernel
      have ec:(Str.ofString "c")=mks [99]:=by decide +kernel
      have ef:(Str.ofString "f")=mks [102]:=by decide +kernel
      have eg:(Str.ofString "g")=mks [103]:=by decide +kernel
      have eh:(Str.ofString "h")=mks [104]:=by decide +kernel
      rw[ea,eb,ec,ef,eg,eh]
      rfl
    rw[e] at q
    exact q
theorem ok_drawn {P:Program}{w:World}{K:PySem.W.Frag}{mg:Str->Option Value}{base:Heap} (tx:Tx K mg):∀ n:Nat,Fn3 P w K mg base (50+n) (He.ga K "_law_drawn") (F_drawn (TT K) n)
  | 0=>fn_false fun _ _ _ _ h=>h
  | n+1=>by
    obtain⟨fd,FD⟩:=tx.fd_law_drawn
    have g_law_drawn:Fn3 P w K mg base (50+n) (He.ga K "_law_drawn") (F_drawn (TT K) n):=ok_drawn tx n
    have g_law_pick:=ok_pick (P:=P) (w:=w) (base:=base) tx
    have g_law_of:=ok_law_of (P:=P) (w:=w) (base:=base) tx
    have g_law_size:=ok_size (P:=P) (w:=w) (base:=base) tx 40
    refine fn3 (k:=50+n) FD sc_law_drawn (FD.bindsN fun _ _ _ _ _ _ us hl=>match us,hl with | [_,_,_],_=>rfl) ?hn (fun cdv A outer s H E hr=>(dss_cons (ds_setLc (i:=3) (own:=[("_law_pair",10)]) rfl sc_law_drawn.nd rfl rfl (sw_true rfl rfl rfl (by decide +kernel)) (di_list (dv 1)) (blkOk_by (own:=[("_law_pair",10)]) (N:=N_law_drawn) (sc:=defScope s_law_drawn) (by decide +kernel)) (fun _ _ _ _ _=>(dg_name (i:=10) sc_law_drawn.nd rfl (Or.inl rfl))) (fun _ _ _ _ _=>(dts_one (dt_bool (dw_or (dt_cmp op_lt opd_lt (de_ix (dv 10) de_int) (dv 2) (nomark _)) (dw_or1 (dt_cmp (op_eqD hr.units) opd_eq (de_ix (dv 10) de_int) de_int (nomark _))))))) (fun _ _ _ _ _=>(dv 10)))
    (dss_cons (ds_asg (vs:=[4,5]) (de_call g_law_of (hr.mono (by omega)) rfl tx.mg_law_of tx.kp_law_of tk3 (da_cons (dv 0) (da_cons (dv 3) da_nil))) (dg_tup (n:=2) rfl (dgs_cons (dg_name (i:=4) sc_law_drawn.nd rfl (Or.inl rfl)) (dgs_cons (dg_name (i:=5) sc_law_drawn.nd rfl (Or.inl rfl)) dgs_nil))))
    (dss_cons (ds_parOwn0 (i:=6) (j:=7) rfl sc_law_drawn.nd rfl rfl (by decide) rfl rfl (de_sub (dv 2) de_int))
    (dss_cons (ds_for (vs:=[8]) ps3 rfl (di_range1 rfl tx.no_range (da_cons (dv 5) da_nil)) (dg_name (i:=8) sc_law_drawn.nd rfl (Or.inl rfl))
     (dss_cons (ds_set (i:=9) sc_law_drawn.nd rfl (Or.inl rfl) (de_call g_law_drawn (hr.mono (by omega)) rfl tx.mg_law_drawn tx.kp_law_drawn tk3 (da_cons (dv 0) (da_cons (dv 1) (da_cons (de_add de_int (de_call g_law_pick (hr.mono (by omega)) rfl tx.mg_law_pick tx.kp_law_pick tk3 (da_cons (dv 0) (da_cons (de_sub (dv 7) (de_sub (de_sub (dv 5) (dv 8)) de_int)) da_nil)))) da_nil)))))
    (dss_cons (ds_set (i:=7) sc_law_drawn.nd rfl (Or.inl rfl) (de_sub (dv 7) (de_call g_law_size (hr.mono (by omega)) rfl tx.mg_law_size tx.kp_law_size tk3 (da_cons (dv 9) da_nil))))
    (dss_one (ds_append 6 (dv 9))))))
    (dss_frz 6 (dss_one (ds_ret (de_tup (da_cons (dv 4) (da_cons (de_callTy call_tuple_of cd_tuple rfl tx.no_tuple (by decide +kernel) (da_cons (dv 6) da_nil)) da_nil))))))))))) ?hT
    case hn =>
      rintro wd ds φ ε ⟨h,c,cells,room,sg,rfl,rfl,_⟩
      rfl
    case hT =>
      rintro wd ds φ ε ⟨h,c,cells,room,sg,rfl,rfl,hsg,h1,h2,h30,q⟩
      show TSeq _ _ _ _ [.v (.ref h),.v (.lst (sg.map sgD)),.v (.int room),.no,.no,.no,.no,.no,.no,.no,.no]
      have hL:sizeLine=16777216:=sizeLine_eq
      simp![]
      refine compD_fil (enc:=sgD) (f:=fun p=>if (p.2:Int)<room\/(p.2:Int)=0 then some (sgD p) else none) sg [] (fun p hp acc ψ hl q=>?_) (by have:=hsg.len; show 0+_<=_; omega) ?_
      . unfold sgD at q ⊢
        simp![]
        by_cases ha:(p.2:Int)<room
        . have q':ψ (acc++[D.tup [D.str (mks p.1),D.int (p.2:Nat)]]):=by simpa [ha] using q
          exact .inr ⟨ha,hl,q'⟩
        . by_cases hb:p.2=0
          . have q':ψ (acc++[D.tup [D.str (mks p.1),D.int (p.2:Nat)]]):=by simpa [hb] using q
            exact .inl ⟨by omega,.inr ⟨hb,hl,q'⟩⟩
          . have q':ψ acc:=by simpa [ha,hb] using q
            exact .inl ⟨by omega,.inl ⟨hb,q'⟩⟩
      rw[List.nil_append]
      refine⟨h,c,cells,_,rfl,rfl,?_,?_,fun d hd=>?_⟩
      . intro e
        obtain⟨p0,hp0,hz0⟩:=hsg.leaf
        have:sgD p0∈sg.filterMap (fun p=>if (p.2:Int)<room\/(p.2:Int)=0 then some (sgD p) else none):=List.mem_filterMap.mpr ⟨p0,hp0,by rw[if_pos (.inr (by rw[hz0]; rfl))]⟩
        rw[e] at this
        cases this
      . have:=List.length_filterMap_le (fun p:List Nat × Nat=>if (p.2:Int)<room\/(p.2:Int)=0 then some (sgD p) else none) sg
        have h7:=hsg.len
        omega
      obtain⟨⟨s,N⟩,hp,e⟩:=List.mem_filterMap.mp hd
      have hc:(N:Int)<room\/(N:Int)=0:=by
        by_cases hc:(N:Int)<room\/(N:Int)=0
        . exact hc
        . rw[if_neg hc] at e
          cases e
      rw[if_pos hc] at e
      have ed:d=.tup [.str (mks s),.int (N:Nat)]:=(Option.some.inj e).symm
      subst ed
      have hN:=hsg.all _ hp
      have hN3:N<=3:=hN.2
      refine⟨_,rfl,rfl,_,_,rfl,_,_,rfl,rfl,fun p=>⟨_,rfl,by omega,by omega,?_⟩⟩
      rw[Int.toNat_natCast]
      refine forD_of (enc:=fun i:Nat=>D.int (i:Nat)) (fun xs env=>∃ (j:Nat) (ts:List Tr) (left:Int) (s3 s8 s9:Sl),xs=List.range' j (N - j)/\j<=N/\ts.length=j/\oks ts/\fitss sg ts/\left=room - 1 - (sizs ts:Nat)/\(N:Int) - j<=left /\
        env=[.v (.ref h),.v (.lst (sg.map sgD)),.v (.int room),s3,.v (.str (mks s)),.v (.int (N:Nat)),.ol p (ts.map mD),.v (.int left),s8,s9,.no]) _ _
        ⟨0,[],room - 1,_,.no,.no,by rw[List.range_eq_range']; rfl,Nat.zero_le _,rfl,trivial,trivial,by show room - 1=room - 1 - 0; omega,by omega,rfl⟩ ?_ ?_
      . rintro x rest env D2 - hnx - - ⟨j,ts,left,s3,s8,s9,hx,hj,htl,hts,hfs,hleft,hge,rfl⟩
        have hjN:j<N:=by
          rcases Nat.lt_or_ge j N with z | z
          . exact z
          . have:N - j=0:=by omega
            rw[this] at hx
            cases hx
        have hr:List.range' j (N - j)=j::List.range' (j+1) (N - (j+1)):=by
          have:N - j=(N - (j+1))+1:=by omega
          rw[this,List.range'_succ]
        rw[hr] at hx
        injection hx with hx1 hx2
        subst hx1 hx2
        simp![]
        refine⟨h,c,cells,_,rfl,rfl,by omega,by omega,fun r hr1 hr2=>?_⟩
        simp![]
        have hn:∃ n',n=n'+1:=⟨n - 1,by omega⟩
        obtain⟨n',rfl⟩:=hn
        refine⟨h,c,cells,1+r,sg,rfl,rfl,hsg,by omega,by omega,by omega,fun t ht hs hft=>?_⟩
        simp![]
        refine⟨t,rfl,ht,by have:=dep_siz t; omega,?_⟩
        have hsz:=siz_pos t
        simp![]
        refine⟨by omega,hnx _ ⟨x+1,ts++[t],left - (t.siz:Nat),_,_,_,rfl,by omega,by rw[List.length_append,htl]; rfl,oks_app hts ⟨ht,trivial⟩,fitss_app hfs ⟨hft,trivial⟩,by rw[sizs_snoc]; omega,by omega,by rw[List.map_append]; rfl⟩⟩
      . rintro env ⟨j,ts,left,s3,s8,s9,hx,hj,htl,hts,hfs,hleft,hge,rfl⟩
        have hjN:j=N:=by
          have:=congrArg List.length hx
          simp at this
          omega
        subst hjN
        simp![]
        have:=q (.nd s ts) ⟨hN.1,by omega,hts⟩ (by show((1+sizs ts:Nat):Int)<=room; omega) ⟨by rw[htl]; exact hp,hfs⟩
        rw[mD_nd] at this
        exact this
open PySem PySem.Spec PyProof.Rows L2 L3
/-- an own error,its word,its fields as the law tells them -/
def isErr(K:PySem.W.Frag) (ex:Er) (wd:Str) (fl:List D):Prop:=(ex=⟨(He.ga K "InvalidRules"),[("word",.str "InvalidRules")]⟩/\wd="InvalidRules"/\fl=[])
theorem isErr_InvalidRules {K:PySem.W.Frag} :isErr K ⟨(He.ga K "InvalidRules"),[("word",.str "InvalidRules")]⟩ "InvalidRules" []:=⟨rfl,rfl,rfl⟩
def F_field(K:PySem.W.Frag):TF:=fun _ ds φ _=>∃ ex wd fl,isErr K ex wd fl/\ds=[.exc ex.C ex.fs]/\φ (.tup fl)
theorem ok_field(tx:Tx K mg):FnC P w K mg base 1 (He.ga K "_law_field") (F_field K):=by
  obtain⟨fd,FD⟩:=tx.fd_law_field
  refine fnC3 FD sc_law_field (FD.bindsN fun _ _ _ _ _ _ us hl => match us, hl with | [_], _ => rfl) ?hn (fun cdv A outer s H E hr => (dss_cons (ds_if (dt_cmp op_inA opd_in (de_fldXK (K := K) (dv 0)) (de_tup (da_cons de_str (da_cons de_str (da_cons de_str (da_cons de_str (da_cons de_str (da_cons de_str da_nil))))))) rfl)
     (dss_one (ds_ret (de_tup (da_cons (de_fldXK (K:=K) (dv 0)) da_nil))))
     dss_nil)
    (dss_cons (ds_if (dt_cmp op_inA opd_in (de_fldXK (K:=K) (dv 0)) (de_tup (da_cons de_str (da_cons de_str da_nil))) rfl)
     (dss_one (ds_ret (de_tup (da_cons (de_fldXK (K:=K) (dv 0)) da_nil))))
     dss_nil)
    (dss_cons (ds_if (dt_cmp (op_eqD hr.units) opd_eq (de_fldXK (K:=K) (dv 0)) de_str (nomark _))
     (dss_one (ds_ret (de_tup (da_cons (de_fldXK (K:=K) (dv 0)) (da_cons (de_fldXK (K:=K) (dv 0)) da_nil)))))
     dss_nil)
    (dss_cons (ds_if (dt_cmp op_inA opd_in (de_fldXK (K:=K) (dv 0)) (de_tup (da_cons de_str (da_cons de_str (da_cons de_str (da_cons de_str (da_cons de_str da_nil)))))) rfl)
     (dss_one (ds_ret (de_tup (da_cons (de_fldXK (K:=K) (dv 0)) da_nil))))
     dss_nil)
    (dss_cons (ds_if (dt_cmp op_inA opd_in (de_fldXK (K:=K) (dv 0)) (de_tup (da_cons de_str (da_cons de_str (da_cons de_str da_nil)))) rfl)
     (dss_one (ds_ret (de_ifExp (dt_cmp (op_eqD hr.units) opd_eq (de_fldXK (K:=K) (dv 0)) de_str (nomark _)) (de_tup (da_cons (de_fldXK (K:=K) (dv 0)) da_nil)) (de_ifExp (dt_cmp (op_eqD hr.units) opd_eq (de_fldXK (K:=K) (dv 0)) de_str (nomark _)) (de_tup (da_cons (de_fldXK (K:=K) (dv 0)) da_nil)) (de_tup (da_cons (de_fldXK (K:=K) (dv 0)) da_nil))))))
     dss_nil)
    (dss_cons (ds_if (dt_cmp (op_eqD hr.units) opd_eq (de_fldXK (K:=K) (dv 0)) de_str (nomark _))
     (dss_one (ds_ret (de_tup (da_cons (de_fldK (K:=K) (de_fldXK (K:=K) (dv 0))) da_nil))))
     dss_nil)
    (dss_one (ds_ret (de_ifExp (dt_cmp (op_eqD hr.units) opd_eq (de_fldXK (K:=K) (dv 0)) de_str (nomark _)) (de_tup (da_cons (de_fldXK (K:=K) (dv 0)) (da_cons (de_fldXK (K:=K) (dv 0)) da_nil))) (de_tup da_nil))))))))))) ?hT
  case hn =>
    rintro wd ds φ ε ⟨ex,w,fl,_,rfl,_⟩
    rfl
  case hT =>
    rintro wd ds φ ε ⟨ex,w,fl,he,rfl,q⟩
    have st:SeqAt.shaped (.str (Str.ofString "TooMany"))=true:=by decide +kernel
    have sn:SeqAt.shaped (.str (Str.ofString "NotThere"))=true:=by decide +kernel
    have sa:SeqAt.shaped (.str (Str.ofString "Aborted"))=true:=by decide +kernel
    have sp1:SeqAt.shaped (.str (Str.ofString "InvalidStep"))=true:=by decide +kernel
    have sp2:SeqAt.shaped (.str (Str.ofString "InvalidPage"))=true:=by decide +kernel
    rcases he with ⟨rfl,rfl,rfl⟩
    show TSeq _ _ _ _ [.v (.exc (He.ga K "InvalidRules") [("word",.str "InvalidRules")])]
    have l_word:([("word",.str "InvalidRules")]:List (Str × D)).lookup ("word":Str)=some (.str "InvalidRules"):=rfl
    have n_word:NoA K (He.ga K "InvalidRules") "word":=tx.nox_InvalidRules_word
    have i0:inV (.str "InvalidRules") [.str "InvalidSign",.str "InvalidPath",.str "InvalidText",.str "InvalidIndex",.str "InvalidSize",.str "InvalidLimit"]=false:=by decide +kernel
    have i1:inV (.str "InvalidRules") [.str "TooLarge",.str "TooLong"]=false:=by decide +kernel
    have i3:inV (.str "InvalidRules") [.str "InvalidName",.str "DuplicateName",.str "WrongKind",.str "UnknownName",.str "Restless"]=false:=by decide +kernel
    have i4:inV (.str "InvalidRules") [.str "InvalidStep",.str "InvalidPage",.str "CapacityExceeded"]=false:=by decide +kernel
    have s0:SeqAt.shaped (.str (Str.ofString "InvalidRules"))=true:=by decide +kernel
    have d0:¬Str.ofString "InvalidRules"=Str.ofString "TooMany":=by decide +kernel
    have d1:¬Str.ofString "InvalidRules"=Str.ofString "NotThere":=by decide +kernel
    have d2:¬Str.ofString "InvalidRules"=Str.ofString "Aborted":=by decide +kernel
    have d3:¬Str.ofString "InvalidRules"=Str.ofString "InvalidStep":=by decide +kernel
    have d4:¬Str.ofString "InvalidRules"=Str.ofString "InvalidPage":=by decide +kernel
    simp![l_word,n_word,tx.xf_InvalidRules,i0,i1,i3,i4,d0,d1,d2,d3,d4,s0,st,sn,sa,sp1,sp2,flV,q]
theorem _root_.L3.LamF.weak {k:Nat}{L:LamC}{F:TF} (h:LamF P w K mg base k L F):LamF P w K mg base k L (fun wd ds φ ε=>∃ ε0,F wd ds φ ε0/\∀ ex,ε0 ex->ε ex) :=
  fun A outer s H R f cl us ds wd φ ε Q E hr e0 b la ca rr ⟨ε0,hF,hw⟩ hQ hE=>h A outer s H R f cl us ds wd φ ε0 Q E hr e0 b la ca rr hF hQ fun cls od R' H' ex f' x z=>hE cls od R' H' ex f' x (hw ex z)
def F_why(P:Program) (w:World) (K:PySem.W.Frag) (mg:Str->Option Value) (base:Heap) (k:Nat):TF:=fun wd ds φ _=>∃ (L:LamC) (vals:List D) (FL:TF),ds=[.clo L vals]/\LamF P w K mg base k L FL /\
  FL wd vals (fun d=>φ (.tup [.str "",d])) fun ex=>∃ wrd fl,isErr K ex wrd fl/\φ (.tup [.str wrd,.tup fl])
theorem ok_why(tx:Tx K mg) (k:Nat):Fn3 P w K mg base (k+2) (He.ga K "_law_why") (F_why P w K mg base k):=by
  obtain⟨fd,FD⟩:=tx.fd_law_why
  have g_field:=ok_field (P:=P) (w:=w) (base:=base) tx
  refine fn3 (k:=k+1) FD sc_law_why (FD.bindsN fun _ _ _ _ _ _ us hl=>match us,hl with | [_],_=>rfl) ?hn (fun cdv A outer s H E hr =>
    (dss_cons (ds_set (i:=1) sc_law_why.nd rfl (Or.inl rfl) (de_tup (da_cons de_str (da_cons de_non da_nil))))
    (dss_cons (ds_try_whyK (K:=K) (i:=2) (j:=1) (k:=1) (F:=F_field K) rfl rfl sc_law_why.nd rfl rfl rfl rfl (by decide) tk3 (.two ⟨rfl,by decide +kernel,.inl tx.mg_TradeError⟩ ⟨rfl,by decide +kernel,.inl tx.mg_Missing⟩) (.one ⟨rfl,by decide +kernel,.inl tx.mg_NothingLeft⟩) g_field (hr.mono (by omega)) rfl tx.mg_law_field tx.kp_law_field
      (fun W pn xe tk po=>dss_one (ds_set (i:=1) sc_law_why.nd rfl (Or.inl rfl) (de_tup (da_cons de_str (da_cons (de_cloK (P:=P) (w:=w) (K:=K) (mg:=mg) (base:=base) (k:=k) 0 (hr.mono (by omega)) tk) da_nil))))))
    (dss_one (ds_ret (dv 1)))))) ?hT
  case hn =>
    rintro wd ds φ ε ⟨L,vals,FL,rfl,_⟩
    rfl
  case hT =>
    rintro wd ds φ ε ⟨L,vals,FL,rfl,hL,hF⟩
    show TSeq _ _ _ _ [.v (.clo L vals),.no,.no]
    simp![TWhy,TClo]
    refine⟨_,hL.weak,_,hF,fun ex ⟨wrd,fl,he,q⟩=>?_⟩
    have pq:plainD (.tup fl)=true:=by
      rcases he with ⟨rfl,rfl,rfl⟩
      exact rfl
    refine⟨by show 2<3; omega,true,?_,fun _=>?_,fun z=>by cases z⟩
    . rcases he with ⟨rfl,rfl,rfl⟩
      exact tx.em_InvalidRules
    . have key:XfC K ex.C/\NoA K ex.C "word"/\ex.fs.lookup ("word":Str)=some (.str wrd):=by
        rcases he with ⟨rfl,rfl,rfl⟩
        exact⟨tx.xf_InvalidRules,tx.nox_InvalidRules_word,rfl⟩
      exact⟨key.1,key.2.1,.str wrd,key.2.2,ex,wrd,fl,he,rfl,pq,_,rfl,q⟩
def F_words(P:Program) (w:World) (K:PySem.W.Frag) (mg:Str->Option Value) (base:Heap) (k:Nat):TF:=fun wd ds φ _=>∃ (cs:List (LamC × List D)) (f:LamC × List D->D),ds=[.lst (cs.map fun p=>.clo p.1 p.2)]/\cs.length<=1000 /\
  (∀ p∈cs,∀ ψ:D->Prop,ψ (f p)->F_why P w K mg base k wd [.clo p.1 p.2] ψ fun _=>False)/\φ (.lst (cs.map f))
theorem ok_words(tx:Tx K mg) (k:Nat):Fn3 P w K mg base (k+3) (He.ga K "_law_words") (F_words P w K mg base k):=by
  obtain⟨fd,FD⟩:=tx.fd_law_words
  have g_law_why:=ok_why (P:=P) (w:=w) (base:=base) tx k
  refine fn3 (k:=k+2) FD sc_law_words (FD.bindsN fun _ _ _ _ _ _ us hl=>match us,hl with | [_],_=>rfl) ?hn (fun cdv A outer s H E hr=>(dss_one (ds_ret (de_lc (own:=[("_law_ask",1)]) rfl sc_law_words.nd (di_list (dv 0)) (blkOk_by (own:=[("_law_ask",1)]) (N:=N_law_words) (sc:=defScope s_law_words) (by decide +kernel)) (fun _ _ _ _ _=>(dg_name (i:=1) sc_law_words.nd rfl (Or.inl rfl))) (fun _ _ _ _ _=>dts_nil) (fun _ _ _ _ _=>(de_call g_law_why (hr.mono (by omega)) rfl tx.mg_law_why tx.kp_law_why takesN (da_cons (dv 1) da_nil))))))) ?hT
  case hn =>
    rintro wd ds φ ε ⟨cs,f,rfl,_⟩
    rfl
  case hT =>
    rintro wd ds φ ε ⟨cs,f,rfl,hl,hF,q⟩
    show TRet _ _ _ [.v (.lst (cs.map fun p=>.clo p.1 p.2)),.no]
    have hL:sizeLine=16777216:=sizeLine_eq
    simp![]
    refine compD_map (enc:=fun p:LamC × List D=>D.clo p.1 p.2) (f:=f) cs [] (fun p hp acc ψ hl2 q=>?_) (by show 0+_<=_; omega) (by simpa using q)
    simp![]
    exact hF p hp _ ⟨hl2,q⟩
open PySem PySem.Spec PyProof.Rows L2 L3
open PySem.W (EachIs AllAlike Sortable dataLe)
theorem shp {d:PyData} (h1:d.canLay0=true) (h2:d.depth<=64):SeqAt.shaped d=true:=by
  unfold SeqAt.shaped
  rw[h1,decide_eq_true h2]; rfl
/-- plain data that can be compared -/
def gd(d:D):Prop:=isP d=true/\(toP d).canLay0=true/\(toP d).depth<=60
theorem gds {ds:List D} (h:∀ d∈ds,gd d):isPs ds=true/\PyData.canLayAll0 (toPs ds)=true/\PyData.depthAll (toPs ds)<=60:=by
  induction ds with
  | nil=>exact⟨rfl,rfl,Nat.zero_le _⟩
  | cons d r ih =>
    obtain⟨a1,a2,a3⟩:=h d List.mem_cons_self
    obtain⟨b1,b2,b3⟩:=ih fun x hx=>h x (List.mem_cons_of_mem _ hx)
    refine⟨?_,?_,?_⟩
    . show(isP d&&isPs r)=true
      rw[a1,b1]; rfl
    . show((toP d).canLay0&&PyData.canLayAll0 (toPs r))=true
      rw[a2,b2]; rfl
    . show max (toP d).depth (PyData.depthAll (toPs r))<=60
      omega
theorem gd_sh {d:D} (h:gd d):SeqAt.shaped (toP d)=true:=shp h.2.1 (by have:=h.2.2; omega)
theorem gd_shL {ds:List D} (h:∀ d∈ds,gd d):SeqAt.shaped (toP (.lst ds))=true:=by
  obtain⟨_,h2,h3⟩:=gds h
  exact shp (d:=.list (toPs ds)) h2 (by show PyData.depthAll _+1<=64; omega)
def onS(acc:List D) (d:D):List D:=if (acc.any fun z=>PyData.eqv (toP z) (toP d))=true then acc else acc++[d]
def onD(zs:List D):List D:=zs.foldl onS []
theorem onS_len(acc:List D) (d:D):(onS acc d).length<=acc.length+1:=by
  unfold onS
  split
  . omega
  . simp
def F_once:TF:=fun _ ds φ _=>∃ zs:List D,ds=[.lst zs]/\(∀ d∈zs,gd d)/\zs.length<=1000/\φ (.lst (onD zs))
theorem ok_law_once(tx:Tx K mg):Fn3 P w K mg base 1 (He.ga K "_law_once") F_once:=by
  obtain⟨fd,FD⟩:=tx.fd_law_once
  refine fn3 FD sc_law_once (FD.bindsN fun _ _ _ _ _ _ us hl=>match us,hl with | [_],_=>rfl) ?hn (fun cdv A outer s H E hr=>(dss_cons (ds_own (i:=1) sc_law_once.nd rfl (Or.inl rfl) da_nil)
    (dss_cons (ds_for (vs:=[2]) ps3 rfl (di_list (dv 0)) (dg_name (i:=2) sc_law_once.nd rfl (Or.inl rfl))
     (dss_one (ds_if (dt_bor 1 (dt_cmp (op_notInD hr.units65) opd_ninD (dv 2) (dv 1) rfl))
     (dss_one (ds_append 1 (dv 2)))
     dss_nil)))
    (dss_frz 1 (dss_one (ds_ret (dv 1))))))) ?hT
  case hn =>
    rintro wd ds φ ε ⟨x,rfl,_⟩
    rfl
  case hT =>
    rintro wd ds φ ε ⟨zs,rfl,hx,hl,q⟩
    show TSeq _ _ _ _ [.v (.lst zs),.no,.no]
    have hL:sizeLine=16777216:=sizeLine_eq
    simp![]
    intro p
    have eid:zs=zs.map id:=(List.map_id zs).symm
    rw[eid]
    refine forD_of (enc:=id) (fun rest env=>∃ (acc:List D) (sl:Sl),rest.foldl onS acc=onD zs/\(∀ u∈acc,gd u)/\(∀ u∈rest,gd u)/\acc.length+rest.length<=1000/\env=[.v (.lst (zs.map id)),.ol p acc,sl]) zs _ ⟨[],.no,rfl,fun u (hu:u∈[])=>(nomatch hu),hx,by rw[List.length_nil]; omega,rfl⟩ ?_ ?_
    . rintro x rest env D2 hrt hnx - - ⟨acc,sl,h1,h2,h3,h4,rfl⟩
      rw[List.length_cons] at h4
      have hxk:=h3 x List.mem_cons_self
      have hw:∀ ψ:Bool->Prop,ψ (!(acc.any fun z=>PyData.eqv (toP z) (toP x)))->TBorB 1 (TTst (TOp (inDF true) (TVar 2) (TVar 1))) ⟨wd,fun ex _=>ε ex⟩ [.v (.lst (zs.map id)),.ol p acc,.v x] ψ:=fun ψ hψ =>
        ⟨p,_,rfl,_,rfl,_,rfl,_,rfl,hxk.1,(gds h2).1,gd_sh hxk,gd_shL h2,_,rfl,by rw[if_pos rfl]; exact hψ⟩
      have hS:onS acc x=if (acc.any fun z=>PyData.eqv (toP z) (toP x))=true then acc else acc++[x]:=rfl
      have hlen:=onS_len acc x
      simp only[GName,List.set,id]
      unfold TIfS
      by_cases c:(acc.any fun z=>PyData.eqv (toP z) (toP x))=true
      . rw[if_pos c] at hS
        refine go_else (fun ψ hψ=>hw ψ (by rw[c]; exact hψ)) (hnx _ ⟨acc,_,by rw[<- h1,List.foldl_cons,hS],h2,fun u hu=>h3 u (List.mem_cons_of_mem _ hu),by omega,rfl⟩)
      . rw[if_neg c] at hS
        refine go_then (fun ψ hψ=>hw ψ (by rw[Bool.eq_false_iff.mpr c]; exact hψ)) ?_
        refine⟨p,_,rfl,_,rfl,by omega,hnx _ ⟨acc++[x],_,by rw[<- h1,List.foldl_cons,hS],fun u hu=>?_,fun u hu=>h3 u (List.mem_cons_of_mem _ hu),by rw[hS] at hlen; omega,rfl⟩⟩
        rcases List.mem_append.mp hu with z | z
        . exact h2 u z
        . rw[List.mem_singleton.mp z]; exact hxk
    . rintro env ⟨acc,sl,h1,-,-,-,rfl⟩
      simp![]
      have h1:acc=onD zs:=h1
      rw[h1]
      exact q
open PySem PySem.Spec PyProof.Rows L2 L3
open PySem.W (EachIs AllAlike Sortable dataLe)
def on1 {α:Type} [DecidableEq α] (acc:List α) (x:α):List α:=if x∈acc then acc else acc++[x]
def on {α:Type} [DecidableEq α] (xs:List α):List α:=xs.foldl on1 []
section
variable {α:Type} [DecidableEq α]
theorem on1_mem {acc:List α}{x y:α}:y∈on1 acc x↔y∈acc\/y=x:=by
  unfold on1
  split
  . rename_i h
    exact⟨.inl,fun z=>z.elim id fun e=>e▸h⟩
  . rw[List.mem_append,List.mem_singleton]
theorem on1_nd {acc:List α}{x:α} (h:acc.Nodup):(on1 acc x).Nodup:=by
  unfold on1
  split
  . exact h
  . rename_i hx
    exact List.nodup_append.mpr ⟨h,List.pairwise_singleton _ _,fun a ha b hb e=>hx (by rw[List.mem_singleton.mp hb] at e; exact e▸ha)⟩
theorem onf_mem:∀ (xs acc:List α) {y:α},y∈xs.foldl on1 acc↔y∈acc\/y∈xs
  | [],acc,y=>by simp
  | x::r,acc,y=>by
    rw[List.foldl_cons,onf_mem r,on1_mem,List.mem_cons]
    exact or_assoc
theorem onf_nd:∀ (xs acc:List α),acc.Nodup->(xs.foldl on1 acc).Nodup
  | [],_,h=>h
  | x::r,acc,h=>onf_nd r _ (on1_nd h)
theorem on_mem {xs:List α}{y:α}:y∈on xs↔y∈xs:=by
  unfold on
  rw[onf_mem]
  simp
theorem on_nd(xs:List α):(on xs).Nodup:=onf_nd xs [] List.nodup_nil
theorem on1_len(acc:List α) (x:α):(on1 acc x).length<=acc.length+1:=by
  unfold on1
  split
  . omega
  . simp
theorem onf_len:∀ (xs acc:List α),(xs.foldl on1 acc).length<=acc.length+xs.length
  | [],_=>Nat.le_refl _
  | x::r,acc=>by
    have h1:=onf_len r (on1 acc x)
    have h2:=on1_len acc x
    rw[List.foldl_cons,List.length_cons]
    omega
theorem on_len(xs:List α):(on xs).length<=xs.length:=by
  have:=onf_len xs []
  rw[List.length_nil,Nat.zero_add] at this
  exact this
theorem on_perm {xs ys:List α} (h:∀ z,z∈xs↔z∈ys):(on xs).Perm (on ys):=(List.perm_ext_iff_of_nodup (on_nd xs) (on_nd ys)).mpr fun z=>by rw[on_mem,on_mem]; exact h z
theorem onD_enc {enc:α->D}:∀ (xs acc:List α),(∀ x∈acc++xs,∀ y∈acc++xs,PyData.eqv (toP (enc x)) (toP (enc y))=decide (x=y))->(xs.map enc).foldl onS (acc.map enc)=(xs.foldl on1 acc).map enc
  | [],_,_=>rfl
  | x::r,acc,h=>by
    have e0:((acc.map enc).any fun z=>PyData.eqv (toP z) (toP (enc x)))=decide (x∈acc):=by
      rw[List.any_map,Bool.eq_iff_iff,List.any_eq_true,decide_eq_true_iff]
      constructor
      . rintro ⟨u,hu,e⟩
        have e:PyData.eqv (toP (enc u)) (toP (enc x))=true:=e
        rw[h u (List.mem_append_left _ hu) x (List.mem_append_right _ List.mem_cons_self),decide_eq_true_iff] at e
        exact e▸hu
      . intro hx
        refine⟨x,hx,?_⟩
        show PyData.eqv (toP (enc x)) (toP (enc x))=true
        rw[h x (List.mem_append_left _ hx) x (List.mem_append_left _ hx),decide_eq_true_iff]
    have e:onS (acc.map enc) (enc x)=(on1 acc x).map enc:=by
      unfold onS on1
      rw[e0]
      by_cases hx:x∈acc
      . rw[if_pos (decide_eq_true hx),if_pos hx]
      . rw[if_neg (by rw[decide_eq_false hx]; decide),if_neg hx,List.map_append]
        rfl
    rw[List.map_cons,List.foldl_cons,List.foldl_cons,e]
    have sub:∀ z,z∈on1 acc x++r->z∈acc++x::r:=fun z hz=>by
      rcases List.mem_append.mp hz with hz | hz
      . rcases on1_mem.mp hz with hz | hz
        . exact List.mem_append_left _ hz
        . exact List.mem_append_right _ (hz▸List.mem_cons_self)
      . exact List.mem_append_right _ (List.mem_cons_of_mem _ hz)
    exact onD_enc r _ fun y hy z hz=>h y (sub y hy) z (sub z hz)
theorem onD_map {enc:α->D}{xs:List α} (h:∀ x∈xs,∀ y∈xs,PyData.eqv (toP (enc x)) (toP (enc y))=decide (x=y)):onD (xs.map enc)=(on xs).map enc:=onD_enc xs [] h
end
abbrev leD:D->D->Bool:=dataLe false toP
theorem leD_eq(a b:D):leD a b=!PyProof.Rows.lexLt itemOrd (PySem.W.keyToks (toP b)) (PySem.W.keyToks (toP a)):=rfl
theorem leD_total(a b:D):(leD a b||leD b a)=true:=by
  rw[leD_eq,leD_eq]
  cases h1:PyProof.Rows.lexLt itemOrd (PySem.W.keyToks (toP b)) (PySem.W.keyToks (toP a)) with
  | false=>rfl
  | true =>
    cases h2:PyProof.Rows.lexLt itemOrd (PySem.W.keyToks (toP a)) (PySem.W.keyToks (toP b)) with
    | false=>rfl
    | true =>
      have h3:=lex_trans (O:=itemOrd) _ _ _ h1 h2
      rw[lex_irrefl (O:=itemOrd)] at h3
      cases h3
theorem leD_trans(a b c:D) (h1:leD a b=true) (h2:leD b c=true):leD a c=true:=by
  rw[leD_eq,Bool.not_eq_true'] at h1 h2 ⊢
  cases h3:PyProof.Rows.lexLt itemOrd (PySem.W.keyToks (toP c)) (PySem.W.keyToks (toP a)) with
  | false=>rfl
  | true =>
    rcases lex_negTrans (O:=itemOrd) _ (PySem.W.keyToks (toP b)) _ h3 with z | z
    . rw[h2] at z; cases z
    . rw[h1] at z; cases z
theorem leD_anti {a b:D} (h1:leD a b=true) (h2:leD b a=true):PySem.W.keyToks (toP a)=PySem.W.keyToks (toP b):=by
  rw[leD_eq,Bool.not_eq_true'] at h1 h2
  exact lex_total (O:=itemOrd) _ _ h2 h1
theorem merge_uni {xs ys:List D} (p:xs.Perm ys) (inj:∀ a∈xs,∀ b∈xs,PySem.W.keyToks (toP a)=PySem.W.keyToks (toP b)->a=b):xs.mergeSort leD=ys.mergeSort leD:=by
  have p1:=List.mergeSort_perm xs leD
  have p2:=List.mergeSort_perm ys leD
  refine List.Perm.eq_of_pairwise (le:=fun a b=>leD a b=true) (fun a b ha hb h1 h2=>?_) (List.pairwise_mergeSort leD_trans leD_total xs) (List.pairwise_mergeSort leD_trans leD_total ys) ((p1.trans p).trans p2.symm)
  exact inj a (p1.mem_iff.mp ha) b (p.mem_iff.mpr (p2.mem_iff.mp hb)) (leD_anti h1 h2)
def leI(a b:Int):Bool:=leD (.int a) (.int b)
def sortI(gs:List Int):List Int:=(on gs).mergeSort leI
theorem tok_int {a b:Int} (h:PySem.W.keyToks (toP (.int a))=PySem.W.keyToks (toP (.int b))):a=b:=by
  have h:[(Sum.inl a:Int ⊕ List Nat)]=[.inl b]:=h
  injection h with h _
  injection h
theorem int_uni(gs:List Int):∀ a∈gs.map D.int,∀ b∈gs.map D.int,PySem.W.keyToks (toP a)=PySem.W.keyToks (toP b)->a=b:=fun a ha b hb e=>by
  obtain⟨x,_,rfl⟩:=List.mem_map.mp ha
  obtain⟨y,_,rfl⟩:=List.mem_map.mp hb
  rw[tok_int e]
theorem sortI_D(gs:List Int):((on gs).map D.int).mergeSort leD=(sortI gs).map D.int:=(List.map_mergeSort (r:=leI) (s:=leD) (f:=D.int) (l:=on gs) fun _ _ _ _=>rfl).symm
theorem sortI_perm(gs:List Int):(sortI gs).Perm (on gs):=List.mergeSort_perm _ _
theorem sortI_mem {gs:List Int}{x:Int}:x∈sortI gs↔x∈gs:=(sortI_perm gs).mem_iff.trans on_mem
theorem sortI_len(gs:List Int):(sortI gs).length<=gs.length:=by rw[(sortI_perm gs).length_eq]; exact on_len gs
theorem int_inj_map {xs ys:List Int} (h:xs.map D.int=ys.map D.int):xs=ys:=List.map_inj_right (fun _ _ e=>D.int.inj e) |>.mp h
theorem sortI_of {ns gs:List Int} (nd:ns.Nodup) (h:∀ z,z∈ns↔z∈gs):(ns.map D.int).mergeSort leD=(sortI gs).map D.int:=by
  rw[<- sortI_D]
  exact merge_uni (((List.perm_ext_iff_of_nodup nd (on_nd gs)).mpr fun z=>by rw[on_mem]; exact h z).map _) (int_uni ns)
theorem sortI_ext {gs hs:List Int} (h:∀ z,z∈gs↔z∈hs):sortI gs=sortI hs:=by
  apply int_inj_map
  rw[<- sortI_D,<- sortI_D]
  exact merge_uni ((on_perm h).map _) (int_uni _)
theorem leI_lt {a b:Int} (h:a<b):leI a b=true:=by
  show(!PyProof.Rows.lexLt itemOrd [Sum.inl b] [Sum.inl a])=true
  rw[PySem.W.lex_one]
  show(!decide (b<a))=true
  rw[decide_eq_false (by omega)]
  rfl
theorem sortI_asc {ns gs:List Int} (pw:ns.Pairwise (·<·)) (h:∀ z,z∈ns↔z∈gs):ns=sortI gs:=by
  have nd:ns.Nodup:=pw.imp fun h e=>by omega
  apply int_inj_map
  rw[<- sortI_of nd h]
  have hp:(ns.map D.int).Pairwise (fun a b=>leD a b=true):=List.pairwise_map.mpr (pw.imp fun h=>leI_lt h)
  exact(List.mergeSort_of_pairwise hp).symm
theorem alike_ints(gs:List Int):AllAlike ((gs.map D.int).map toP):=fun a ha b hb=>by
  obtain⟨x,hx,rfl⟩:=List.mem_map.mp ha
  obtain⟨i,_,rfl⟩:=List.mem_map.mp hx
  obtain⟨y,hy,rfl⟩:=List.mem_map.mp hb
  obtain⟨j,_,rfl⟩:=List.mem_map.mp hy
  rfl
theorem sortable_ints(gs:List Int):Sortable ((gs.map D.int).map toP):=.inr fun a ha=>by
  obtain⟨x,hx,rfl⟩:=List.mem_map.mp ha
  obtain⟨i,_,rfl⟩:=List.mem_map.mp hx
  exact⟨fun z=>(nomatch z),fun xs z=>(nomatch z)⟩
theorem ps_ints:∀ gs:List Int,isPs (gs.map D.int)=true
  | []=>rfl
  | _::r=>ps_ints r
theorem lay_ints:∀ gs:List Int,PyData.canLayAll0 (toPs (gs.map D.int))=true
  | []=>rfl
  | _::r=>lay_ints r
theorem dep_ints:∀ gs:List Int,PyData.depthAll (toPs (gs.map D.int))=0
  | []=>rfl
  | g::r=>by
    show max 0 (PyData.depthAll (toPs (r.map D.int)))=0
    rw[dep_ints r]
    rfl
theorem eqv_ints:∀ a b:List Int,PyData.eqvAll (toPs (a.map D.int)) (toPs (b.map D.int))=decide (a=b)
  | [],[]=>rfl
  | [],_::_=>rfl
  | _::_,[]=>rfl
  | x::a,y::b=>by
    show((x==y)&&PyData.eqvAll (toPs (a.map D.int)) (toPs (b.map D.int)))=_
    rw[eqv_ints a b,Bool.eq_iff_iff,Bool.and_eq_true,decide_eq_true_iff,decide_eq_true_iff,beq_iff_eq,List.cons.injEq]
theorem eqv_int(x y:Int):PyData.eqv (toP (.int x)) (toP (.int y))=decide (x=y):=by
  show(x==y)=_
  rw[Bool.eq_iff_iff,beq_iff_eq,decide_eq_true_iff]
theorem gd_int(i:Int):gd (.int i):=⟨rfl,rfl,Nat.zero_le _⟩
abbrev R3:=List Nat × List Int × Int
def rD(r:R3):D:=.tup [.str (mks r.1),.tup (r.2.1.map .int),.int r.2.2]
theorem rD_P(r:R3):toP (rD r)=.tuple [.str (mks r.1),.tuple (toPs (r.2.1.map .int)),.int r.2.2]:=rfl
theorem ints_app:∀ {a b:List Int}{l m:List (Int ⊕ List Nat)},PySem.W.keyToksAll (toPs (a.map D.int))++l=PySem.W.keyToksAll (toPs (b.map D.int))++m->a=b/\l=m
  | [],[],l,m,h=>⟨rfl,by
    have h:(Sum.inl 0:Int ⊕ List Nat)::l=.inl 0::m:=h
    injection h⟩
  | [],y::b,l,m,h=>by
    have h:(Sum.inl 0:Int ⊕ List Nat)::l=.inl 1::_:=h
    injection h with h _
    injection h with h
    cases h
  | x::a,[],l,m,h=>by
    have h:(Sum.inl 1:Int ⊕ List Nat)::_=.inl 0::m:=h
    injection h with h _
    injection h with h
    cases h
  | x::a,y::b,l,m,h=>by
    have h:(Sum.inl 1:Int ⊕ List Nat)::(.inl x::(PySem.W.keyToksAll (toPs (a.map D.int))++l))=.inl 1::(.inl y::(PySem.W.keyToksAll (toPs (b.map D.int))++m)):=h
    injection h with _ h
    injection h with h1 h
    injection h1 with h1
    obtain⟨h2,h3⟩:=ints_app h
    exact⟨by rw[h1,h2],h3⟩
theorem tok_rule {r q:R3} (h:PySem.W.keyToks (toP (rD r))=PySem.W.keyToks (toP (rD q))):r=q:=by
  obtain⟨s,i,n⟩:=r
  obtain⟨t,j,m⟩:=q
  have h:(Sum.inl 1:Int ⊕ List Nat)::(.inr (mks s).cps.toList::(.inl 1::(PySem.W.keyToksAll (toPs (i.map D.int))++[.inl 1,.inl n,.inl 0])))=.inl 1::(.inr (mks t).cps.toList::(.inl 1::(PySem.W.keyToksAll (toPs (j.map D.int))++[.inl 1,.inl m,.inl 0]))):=h
  injection h with _ h
  injection h with h1 h
  injection h with _ h
  injection h1 with h1
  obtain⟨h2,h3⟩:=ints_app h
  injection h3 with _ h3
  injection h3 with h3 _
  injection h3 with h3
  have h1:s=t:=by
    have h1:lc (mks s)=lc (mks t):=h1
    rw[lc_mks,lc_mks] at h1
    exact h1
  rw[h1,h2,h3]
theorem rD_inj {r q:R3} (h:rD r=rD q):r=q:=tok_rule (by rw[h])
theorem eqv_rule(r q:R3):PyData.eqv (toP (rD r)) (toP (rD q))=decide (r=q):=by
  obtain⟨s,i,n⟩:=r
  obtain⟨t,j,m⟩:=q
  show((mks s==mks t)&&(PyData.eqvAll (toPs (i.map D.int)) (toPs (j.map D.int))&&((n==m)&&true)))=_
  rw[eqv_ints,Bool.eq_iff_iff,Bool.and_eq_true,Bool.and_eq_true,Bool.and_true,decide_eq_true_iff,decide_eq_true_iff,beq_iff_eq,beq_iff_eq,Prod.mk.injEq,Prod.mk.injEq]
  exact and_congr ⟨fun h=>mks_inj h,fun h=>by rw[h]⟩ Iff.rfl
theorem eqv_rules:∀ a b:List R3,PyData.eqvAll (toPs (a.map rD)) (toPs (b.map rD))=decide (a=b)
  | [],[]=>rfl
  | [],_::_=>rfl
  | _::_,[]=>rfl
  | x::a,y::b=>by
    show(PyData.eqv (toP (rD x)) (toP (rD y))&&PyData.eqvAll (toPs (a.map rD)) (toPs (b.map rD)))=_
    rw[eqv_rules a b,eqv_rule,Bool.eq_iff_iff,Bool.and_eq_true,decide_eq_true_iff,decide_eq_true_iff,decide_eq_true_iff,List.cons.injEq]
theorem alike_ints2:∀ a b:List Int,PySem.W.alikeAll (toPs (a.map D.int)) (toPs (b.map D.int))=true
  | [],b=>by cases b<;>rfl
  | _::_,[]=>rfl
  | _::a,_::b=>alike_ints2 a b
theorem alike_rules(rs:List R3):AllAlike ((rs.map rD).map toP):=fun a ha b hb=>by
  obtain⟨x,hx,rfl⟩:=List.mem_map.mp ha
  obtain⟨⟨s,i,n⟩,_,rfl⟩:=List.mem_map.mp hx
  obtain⟨y,hy,rfl⟩:=List.mem_map.mp hb
  obtain⟨⟨t,j,m⟩,_,rfl⟩:=List.mem_map.mp hy
  show(true&&(PySem.W.alikeAll (toPs (i.map D.int)) (toPs (j.map D.int))&&(true&&true)))=true
  rw[alike_ints2]
  rfl
theorem sortable_rules(rs:List R3):Sortable ((rs.map rD).map toP):=.inl fun a ha=>by
  obtain⟨x,hx,rfl⟩:=List.mem_map.mp ha
  obtain⟨r,_,rfl⟩:=List.mem_map.mp hx
  exact⟨_,_,rD_P r⟩
theorem dep_rule(r:R3):(toP (rD r)).depth<=2:=by
  show max 0 (max (PyData.depthAll (toPs (r.2.1.map D.int))+1) (max 0 0))+1<=2
  rw[dep_ints]
  decide
theorem p_rule(r:R3):isP (rD r)=true:=by
  show(true&&(isPs (r.2.1.map D.int)&&(true&&true)))=true
  rw[ps_ints]
  rfl
theorem ps_rules:∀ rs:List R3,isPs (rs.map rD)=true
  | []=>rfl
  | r::l=>by
    show(isP (rD r)&&isPs (l.map rD))=true
    rw[p_rule,ps_rules l]
    rfl
theorem nk_ints:∀ gs:List Int,nkDs (gs.map D.int)=some (gs.map NestedKey.num)
  | []=>rfl
  | g::r=>by
    show(match nkD (.int g),nkDs (r.map D.int) with
      | some k,some ks=>some (k::ks)
      | _,_=>none)=_
    rw[nk_ints r]
    rfl
theorem nkd_ints:∀ gs:List Int,NestedKey.depthAll (gs.map NestedKey.num)=0
  | []=>rfl
  | g::r=>by
    show max 0 (NestedKey.depthAll (r.map NestedKey.num))=0
    rw[nkd_ints r]
    rfl
theorem key_rule(r:R3):KeyN (rD r):=by
  refine⟨[.text (mks r.1),.tup (r.2.1.map .num),.num r.2.2],?_,?_⟩
  . show(match nkD (.str (mks r.1)),nkDs [.tup (r.2.1.map D.int),.int r.2.2] with
      | some k,some ks=>some (k::ks)
      | _,_=>none).map NestedKey.tup=_
    have e:nkDs [.tup (r.2.1.map D.int),.int r.2.2]=some [.tup (r.2.1.map .num),.num r.2.2]:=by
      show(match (nkDs (r.2.1.map D.int)).map NestedKey.tup,nkDs [.int r.2.2] with
        | some k,some ks=>some (k::ks)
        | _,_=>none)=_
      rw[nk_ints]
      rfl
    rw[e]
    rfl
  . show max 0 (max (NestedKey.depthAll (r.2.1.map .num)+1) (max 0 0))+1<=8
    rw[nkd_ints]
    decide
def leR(a b:R3):Bool:=leD (rD a) (rD b)
def sortR(rs:List R3):List R3:=(on rs).mergeSort leR
theorem rule_uni(rs:List R3):∀ a∈rs.map rD,∀ b∈rs.map rD,PySem.W.keyToks (toP a)=PySem.W.keyToks (toP b)->a=b:=fun a ha b hb e=>by
  obtain⟨x,_,rfl⟩:=List.mem_map.mp ha
  obtain⟨y,_,rfl⟩:=List.mem_map.mp hb
  rw[tok_rule e]
theorem sortR_D(rs:List R3):((on rs).map rD).mergeSort leD=(sortR rs).map rD:=(List.map_mergeSort (r:=leR) (s:=leD) (f:=rD) (l:=on rs) fun _ _ _ _=>rfl).symm
theorem sortR_perm(rs:List R3):(sortR rs).Perm (on rs):=List.mergeSort_perm _ _
theorem sortR_mem {rs:List R3}{x:R3}:x∈sortR rs↔x∈rs:=(sortR_perm rs).mem_iff.trans on_mem
theorem sortR_len(rs:List R3):(sortR rs).length=(on rs).length:=(sortR_perm rs).length_eq
theorem rD_inj_map {xs ys:List R3} (h:xs.map rD=ys.map rD):xs=ys:=List.map_inj_right (fun _ _ e=>rD_inj e) |>.mp h
theorem sortR_ext {rs qs:List R3} (h:∀ z,z∈rs↔z∈qs):sortR rs=sortR qs:=by
  apply rD_inj_map
  rw[<- sortR_D,<- sortR_D]
  exact merge_uni ((on_perm h).map _) (rule_uni _)
theorem nd_map_of {α β:Type}{f:α->β} (inj:∀ a b,f a=f b->a=b) {l:List α} (h:l.Nodup):(l.map f).Nodup:=List.pairwise_map.mpr (h.imp fun h e=>h (inj _ _ e))
theorem sortR_out {rs:List R3}{bs:List D} (nd:bs.Nodup) (h:∀ d,d∈bs↔d∈rs.map rD):∃ qs:List R3,bs=qs.map rD/\bs.mergeSort leD=(sortR rs).map rD:=by
  have hp:bs.Perm ((on rs).map rD):=(List.perm_ext_iff_of_nodup nd (nd_map_of (fun a b=>rD_inj) (on_nd rs))).mpr fun d=>by
    rw[h d,List.mem_map,List.mem_map]
    exact⟨fun⟨r,hr,e⟩=>⟨r,on_mem.mpr hr,e⟩,fun⟨r,hr,e⟩=>⟨r,on_mem.mp hr,e⟩⟩
  obtain⟨qs,e,_⟩:=perm_unmap hp.symm (on rs) rfl
  refine⟨qs,e,?_⟩
  rw[<- sortR_D]
  exact merge_uni hp (by rw[e]; exact rule_uni qs)
def isRoomB:D->Bool
  | .int i=>decide (0<=i)
  | _=>false
def isRuleB:D->Bool
  | .tup [.str x,.tup rs,r]=>isSg (lc x)&&(decide (rs.length<=3)&&(rs++[r]).all isRoomB)
  | _=>false
def okR(r:R3):Prop:=isSg r.1=true/\r.2.1.length<=3/\(∀ i∈r.2.1,0<=i)/\0<=r.2.2
theorem rule_ok {r:R3} (h:okR r):isRuleB (rD r)=true:=by
  obtain⟨h1,h2,h3,h4⟩:=h
  show(isSg (lc (mks r.1))&&(decide ((r.2.1.map D.int).length<=3)&&(r.2.1.map D.int++[D.int r.2.2]).all isRoomB))=true
  rw[lc_mks,h1,List.length_map,decide_eq_true h2,Bool.true_and,Bool.true_and,List.all_eq_true]
  intro d hd
  rcases List.mem_append.mp hd with hd | hd
  . obtain⟨i,hi,rfl⟩:=List.mem_map.mp hd
    exact decide_eq_true (h3 i hi)
  . rw[List.mem_singleton.mp hd]
    exact decide_eq_true h4
theorem sg_asc {s:List Nat} (h:isSg s=true):∀ c∈s,c<128:=fun c hc=>by
  have:=isLet_iff.mp ((ok_sg_len h).2.2 c hc)
  omega
theorem gd_rule {r:R3} (h:isSg r.1=true):gd (rD r):=by
  refine⟨p_rule r,?_,by have:=dep_rule r; omega⟩
  have hs:=shaped_mks (sg_asc h)
  unfold SeqAt.shaped at hs
  rw[Bool.and_eq_true] at hs
  have h0:PyData.canLay0 (.str (mks r.1))=true:=hs.1
  show(PyData.canLay0 (.str (mks r.1))&&(PyData.canLayAll0 (toPs (r.2.1.map D.int))&&(true&&true)))=true
  rw[h0,lay_ints]
  rfl
def cnd(s:List Nat) (n:Nat) (lots:List (List Int)) (r:R3):Bool:=decide (r.1=s/\r.2.1.length=n)&&((r.2.1.zip lots).all fun p=>decide (p.1∈p.2))
def fitR(rs:List R3) (s:List Nat) (n:Nat) (lots:List (List Int)):List Int:=(rs.filter (cnd s n lots)).map (·.2.2)
mutual
def rms(rs:List R3):Tr->List Int
  | .nd s ks=>sortI (fitR rs s ks.length (rmss rs ks))
def rmss(rs:List R3):List Tr->List (List Int)
  | []=>[]
  | t::r=>rms rs t::rmss rs r
end
theorem rmss_eq(rs:List R3):∀ ks:List Tr,rmss rs ks=ks.map (rms rs)
  | []=>rfl
  | t::r=>congrArg (rms rs t::·) (rmss_eq rs r)
theorem fitR_mem {rs qs:List R3} (h:∀ z,z∈rs↔z∈qs) {s:List Nat}{n:Nat}{lots:List (List Int)} (x:Int):x∈fitR rs s n lots↔x∈fitR qs s n lots:=by
  unfold fitR
  rw[List.mem_map,List.mem_map]
  constructor
  . rintro ⟨r,hr,e⟩
    rw[List.mem_filter] at hr
    exact⟨r,List.mem_filter.mpr ⟨(h r).mp hr.1,hr.2⟩,e⟩
  . rintro ⟨r,hr,e⟩
    rw[List.mem_filter] at hr
    exact⟨r,List.mem_filter.mpr ⟨(h r).mpr hr.1,hr.2⟩,e⟩
/-- the law's rooms -/
def lrm(rs:List R3):Tr->List Int
  | .nd s ks=>on (fitR rs s ks.length (rmss rs ks))
theorem lrm_mem {rs:List R3}{t:Tr}{x:Int}:x∈lrm rs t↔x∈rms rs t:=by
  cases t with
  | nd s ks =>
    show x∈on _↔x∈sortI _
    rw[on_mem,sortI_mem]
theorem lrm_sort {rs:List R3}{t:Tr}:sortI (lrm rs t)=rms rs t:=by
  cases t with
  | nd s ks =>
    show sortI (on _)=sortI _
    exact sortI_ext fun z=>on_mem
theorem lrm_on {rs:List R3}{t:Tr}:(lrm rs t).Nodup:=by
  cases t with
  | nd s ks=>exact on_nd _
theorem cnd_lots {f g:Tr->List Int} (h:∀ t x,x∈f t↔x∈g t) (s:List Nat) (n:Nat) (ks:List Tr) (r:R3):cnd s n (ks.map f) r=cnd s n (ks.map g) r:=by
  unfold cnd
  congr 1
  have go:∀ (inn:List Int) (ks:List Tr),((inn.zip (ks.map f)).all fun p=>decide (p.1∈p.2))=((inn.zip (ks.map g)).all fun p=>decide (p.1∈p.2)):=by
    intro inn
    induction inn with
    | nil=>intro _; rfl
    | cons x r ih =>
      intro ks
      cases ks with
      | nil=>rfl
      | cons t ks =>
        rw[List.map_cons,List.map_cons,List.zip_cons_cons,List.zip_cons_cons,List.all_cons,List.all_cons,ih ks]
        congr 1
        exact decide_eq_decide.mpr (h t x)
  exact go _ _
theorem fit_lots {f g:Tr->List Int} (h:∀ t x,x∈f t↔x∈g t) (rs:List R3) (s:List Nat) (n:Nat) (ks:List Tr):fitR rs s n (ks.map f)=fitR rs s n (ks.map g):=by
  unfold fitR
  rw[show cnd s n (ks.map f)=cnd s n (ks.map g) from funext fun r=>cnd_lots h s n ks r]
open PySem PySem.Spec PyProof.Rows L2 L3
def mfld(rs:List R3) (gs:List Int):List (Str × D):=[("own_rules",.lst ((sortR rs).map rD)),("own_goals",.lst ((sortI gs).map .int))]
def mchD(C:Addr) (rs:List R3) (gs:List Int):D:=.ins C (mfld rs gs)
theorem mfl_k {m:Str}{rs:List R3}{gs:List Int} (h1:m≠"own_rules") (h2:m≠"own_goals"):∀ (a:Str) (b:D),(a,b)∈mfld rs gs->¬m=a:=fun a b h=>by
  unfold mfld at h
  rcases List.mem_cons.mp h with e | h
  . cases e
    exact h1
  . cases List.mem_singleton.mp h
    exact h2
theorem rms_len {rs:List R3} (t:Tr):(rms rs t).length<=rs.length:=by
  cases t with
  | nd s ks =>
    have h1:=sortI_len (fitR rs s ks.length (rmss rs ks))
    have h2:(fitR rs s ks.length (rmss rs ks)).length<=rs.length:=by
      unfold fitR
      rw[List.length_map]
      exact List.length_filter_le _ _
    exact Nat.le_trans h1 h2
theorem mfl_rules(rs:List R3) (gs:List Int):(mfld rs gs).lookup ("own_rules":Str)=some (.lst ((sortR rs).map rD)):=rfl
theorem mfl_goals(rs:List R3) (gs:List Int):(mfld rs gs).lookup ("own_goals":Str)=some (.lst ((sortI gs).map .int)):=rfl
def F_is_room:TF:=fun _ ds φ _=>∃ d,ds=[d]/\pl 3 d/\φ (.bl (isRoomB d))
def anyR(d:D):Prop:=pl 4 d/\∀ a b c,d=.tup [a,b,c]->∃ x,a=.str x/\x.length<=1000
def F_is_rule:TF:=fun _ ds φ _=>∃ d,ds=[d]/\anyR d/\φ (.bl (isRuleB d))
def F_head_of(C:Addr):TF:=fun _ ds φ _=>∃ s ks,ds=[trD C (.nd s ks)]/\φ (.tup [.str (mks s),.int (ks.length:Nat)])
def okM(rs:List R3) (gs:List Int):Prop:=(∀ r∈rs,okR r)/\rs.length<63/\gs.length<63
/-- the machine is made,or the rules are refused -/
def minitF(C:Addr) (ds:List D) (φ:List (Str × D)->Prop) (ε:Er->Prop):Prop:=∃ rl gl g,ds=[.lst rl,g]/\(g=.lst gl\/g=.tup gl)/\(∀ d∈rl,anyR d)/\(∀ d∈gl,pl 3 d)/\rl.length<63/\gl.length<63 /\
  ((∃ rs gs,rl=rs.map rD/\gl=gs.map .int/\(∀ r∈rs,okR r)/\(∀ i∈gs,(0:Int)<=i)/\φ (mfld rs gs))\/((rl.all isRuleB&&gl.all isRoomB)=false/\ε ⟨C,[("word",.str "InvalidRules")]⟩))
def F_minit(C:Addr):TFI:=fun _ ds φ ε=>minitF C ds φ ε
def F_mrules(C:Addr):TF:=fun _ ds φ _=>∃ rs gs,ds=[mchD C rs gs]/\φ (.lst ((sortR rs).map rD))
def F_mgoals(C:Addr):TF:=fun _ ds φ _=>∃ rs gs,ds=[mchD C rs gs]/\φ (.lst ((sortI gs).map .int))
def F_mabove(C:Addr):TF:=fun _ ds φ _=>∃ rs gs s n lots,ds=[mchD C rs gs,.tup [.str (mks s),.int (n:Nat)],.lst (lots.map fun l:List Int=>.lst (l.map .int))]/\okM rs gs/\isSg s=true/\lots.length=n/\n<=3/\(∀ l∈lots,l.length<=1000)/\φ (.lst ((sortI (fitR rs s n lots)).map .int))
def F_mrooms(C D:Addr) (n:Nat):TF:=fun _ ds φ _=>∃ rs gs t,ds=[mchD C rs gs,trD D t]/\okM rs gs/\t.ok/\t.dep<=n/\φ (.lst ((rms rs t).map .int))
def F_mhas(C D:Addr):TF:=fun _ ds φ _=>∃ rs gs t,ds=[mchD C rs gs,trD D t]/\okM rs gs/\t.ok/\t.dep<=20/\φ (.bl ((rms rs t).any fun x=>decide (x∈gs)))
def F_meq(C:Addr):TF:=fun _ ds φ _=>∃ rs gs,(∃ qs hs,ds=[mchD C rs gs,mchD C qs hs]/\okM rs gs/\okM qs hs/\φ (.bl (decide (sortR rs=sortR qs)&&decide (sortI gs=sortI hs))))\/(∃ zs,ds=[mchD C rs gs,.lst zs]/\φ (.bl false))
def F_mrepr(C:Addr):TF:=fun _ ds φ _=>∃ rs gs,ds=[mchD C rs gs]/\okM rs gs/\φ (.str (Str.ofString "Machine("++Str.ofString ((sortR rs).length:Int).repr++Str.ofString " rules)"))
theorem eqF_rules {a b:List R3} (ha:∀ r∈a,isSg r.1=true) (hb:∀ r∈b,isSg r.1=true) {φ:D->Prop} (q:φ (.bl (decide (a=b)))):eqF (.lst (a.map rD)) (.lst (b.map rD)) φ:=by
  have sh:∀ {l:List R3},(∀ r∈l,isSg r.1=true)->SeqAt.shaped (toP (.lst (l.map rD)))=true:=fun h=>gd_shL fun d hd=>by
    obtain⟨r,hr,rfl⟩:=List.mem_map.mp hd
    exact gd_rule (h r hr)
  refine⟨ps_rules a,ps_rules b,sh ha,sh hb,?_⟩
  show φ (.bl (PyData.eqvAll (toPs (a.map rD)) (toPs (b.map rD))))
  rw[eqv_rules]
  exact q
theorem eqF_ints {a b:List Int}{φ:D->Prop} (q:φ (.bl (decide (a=b)))):eqF (.lst (a.map D.int)) (.lst (b.map D.int)) φ:=by
  have sh:∀ {l:List Int},SeqAt.shaped (toP (.lst (l.map D.int)))=true:=fun {l}=>gd_shL fun d hd=>by
    obtain⟨r,hr,rfl⟩:=List.mem_map.mp hd
    exact gd_int r
  refine⟨ps_ints a,ps_ints b,sh,sh,?_⟩
  show φ (.bl (PyData.eqvAll (toPs (a.map D.int)) (toPs (b.map D.int))))
  rw[eqv_ints]
  exact q
theorem eqF_head {t s:List Nat}{m n:Nat} (ht:isSg t=true) (hs:isSg s=true) {φ:D->Prop} (q:φ (.bl (decide (t=s/\m=n)))):eqF (.tup [.str (mks t),.int (m:Nat)]) (.tup [.str (mks s),.int (n:Nat)]) φ:=by
  have sh:∀ {u:List Nat}{k:Int},isSg u=true->SeqAt.shaped (toP (.tup [.str (mks u),.int k]))=true:=fun {u k} h=>by
    have h0:=shaped_mks (sg_asc h)
    unfold SeqAt.shaped at h0
    rw[Bool.and_eq_true] at h0
    have h1:PyData.canLay0 (.str (mks u))=true:=h0.1
    refine shp (d:=.tuple [.str (mks u),.int k]) ?_ (by show max 0 (max 0 0)+1<=64; decide)
    show(PyData.canLay0 (.str (mks u))&&(true&&true))=true
    rw[h1]
    rfl
  refine⟨rfl,rfl,sh ht,sh hs,?_⟩
  show φ (.bl ((mks t==mks s)&&(((m:Int)==(n:Int))&&true)))
  have e:((mks t==mks s)&&(((m:Int)==(n:Int))&&true))=decide (t=s/\m=n):=by
    rw[Bool.eq_iff_iff,Bool.and_eq_true,Bool.and_true,beq_iff_eq,beq_iff_eq,decide_eq_true_iff]
    exact and_congr ⟨fun h=>mks_inj h,fun h=>by rw[h]⟩ (by omega)
  rw[e]
  exact q
theorem inV_int(x:Int) (l:List Int):inV (flV (D.int x)) (l.map (flV∘D.int))=decide (x∈l):=by
  unfold inV
  rw[Bool.eq_iff_iff,List.any_map,List.any_eq_true,decide_eq_true_iff]
  constructor
  . rintro ⟨y,hy,e⟩
    have e:(y==x)=true:=e
    rw[<- beq_iff_eq.mp e]
    exact hy
  . intro h
    exact⟨x,h,show(x==x)=true from beq_self_eq_true x⟩
theorem zipD_mm {α β:Type}{f:α->D}{g:β->D}:∀ (xs:List α) (ys:List β),zipD (xs.map f) (ys.map g)=(xs.zip ys).map fun p=>.tup [f p.1,g p.2]
  | [],ys=>by cases ys<;>rfl
  | x::r,[]=>rfl
  | x::r,y::q=>congrArg (D.tup [f x,g y]::·) (zipD_mm r q)
theorem mrepr_has:∀ n:Nat,n<64->(Str.empty++Str.ofString "Machine(").length<=100/\n.log2<1920/\(Str.empty++Str.ofString "Machine("++Str.ofString (n:Int).repr).length<=100/\(Str.empty++Str.ofString "Machine("++Str.ofString (n:Int).repr++Str.ofString " rules)").length<=100 /\
    Str.empty++Str.ofString "Machine("++Str.ofString (n:Int).repr++Str.ofString " rules)"=Str.ofString "Machine("++Str.ofString (n:Int).repr++Str.ofString " rules)":=by decide +kernel
theorem pl_up:∀ {n m:Nat}{d:D},n<=m->pl n d->pl m d
  | n,m,.non,_,_=>by cases m<;>trivial
  | n,m,.bl _,_,_=>by cases m<;>trivial
  | n,m,.int _,_,_=>by cases m<;>trivial
  | n,m,.str x,_,h=>by
    have h:SeqAt.shaped (.str x)=true:=by cases n<;>exact h
    cases m<;>exact h
  | n+1,m+1,.lst ds,hl,h=>⟨h.1,fun d hd=>pl_up (by omega) (h.2 d hd)⟩
  | n+1,m+1,.tup ds,hl,h=>⟨h.1,fun d hd=>pl_up (by omega) (h.2 d hd)⟩
  | n+1,0,.lst ds,hl,_=>absurd hl (by omega)
  | n+1,0,.tup ds,hl,_=>absurd hl (by omega)
  | 0,_,.lst ds,_,h=>absurd h (by cases h)
  | 0,_,.tup ds,_,h=>absurd h (by cases h)
  | 0,_,.ty _,_,h=>by cases h
  | n+1,_,.ty _,_,h=>by cases h
  | 0,_,.ref _,_,h=>by cases h
  | n+1,_,.ref _,_,h=>by cases h
  | 0,_,.ins _ _,_,h=>by cases h
  | n+1,_,.ins _ _,_,h=>by cases h
  | 0,_,.exc _ _,_,h=>by cases h
  | n+1,_,.exc _ _,_,h=>by cases h
  | 0,_,.clo _ _,_,h=>by cases h
  | n+1,_,.clo _ _,_,h=>by cases h
  | 0,_,.lam _ _,_,h=>by cases h
  | n+1,_,.lam _ _,_,h=>by cases h
  | 0,_,.dic _,_,h=>by cases h
  | n+1,_,.dic _,_,h=>by cases h
  | 0,_,.dicT _,_,h=>by cases h
  | n+1,_,.dicT _,_,h=>by cases h
theorem kwI_of {K : PySem.W.Frag} {x qual : Str} {params : Arguments} {body : List Stmt} {scope : Scope} {f : Addr} {fd : FuncData} {ps ks : List Str} {ix : List Nat} (F : FunD K x qual params body scope [] [] f fd)
    (h:∀ (kV doc pm:Value) (an:Option Addr) (cdv ct:Value) (a:Addr) (ws:List Value),ws.length=ks.length->bindArgs (PySem.W.fnOf x qual params body scope .none kV doc pm an cdv ct) ⟨[.ref a],ks.zip ws⟩=pure (ps.zip (.ref a::permL ix ws))):KwI K fd ps ks ix:=by
  obtain⟨oc,od,dV,kV,doc,pm,an,cdv,ct,osl,rfl,lk,hcd,hD,hK⟩:=F.ex
  rcases hD with ⟨_,rfl⟩ | ⟨e,_⟩
  . exact fun s a ws _ h1=>.of_eq (h kV doc pm an cdv ct a ws h1)
  . exact absurd rfl e
def FO_mrules(C:Addr):TFO:=fun _ ds φ=>∃ rs gs,ds=[mchD C rs gs]/\φ ((sortR rs).map rD)
def FO_mgoals(C:Addr):TFO:=fun _ ds φ=>∃ rs gs,ds=[mchD C rs gs]/\φ ((sortI gs).map .int)
theorem ok_head_of(tx:Tx K mg):Fn3 P w K mg base 1 (He.ga K "head_of") (F_head_of (He.ga K "Tree")):=by
  obtain⟨fd,FD⟩:=tx.fd_head_of
  refine fn3 FD sc_head_of (FD.bindsN fun _ _ _ _ _ _ us hl=>match us,hl with | [_],_=>rfl) ?hn (fun cdv A outer s H E hr=>(dss_one (ds_ret (de_tup (da_cons (de_fldK (K:=K) (dv 0)) (da_cons (de_len rfl tx.no_len (da_cons (de_fldK (K:=K) (dv 0)) da_nil)) da_nil)))))) ?hT
  case hn =>
    rintro wd ds φ ε ⟨s,ks,rfl,_⟩
    rfl
  case hT =>
    rintro wd ds φ ε ⟨s,ks,rfl,q⟩
    show TRet _ _ _ [.v (trD (He.ga K "Tree") (.nd s ks))]
    have t1:AtK K (He.ga K "Tree") "sign":=⟨tx.cl_Tree,tx.na_Tree_sign⟩
    have t2:AtK K (He.ga K "Tree") "branches":=⟨tx.cl_Tree,tx.na_Tree_branches⟩
    simp![trD_ins,t1,t2,fld_sign,fld_branches]
    exact q
theorem ok_is_room(tx:Tx K mg):Fn3 P w K mg base 1 (He.ga K "is_room") F_is_room:=by
  obtain⟨fd,FD⟩:=tx.fd_is_room
  refine fn3 FD sc_is_room (FD.bindsN fun _ _ _ _ _ _ us hl=>match us,hl with | [_],_=>rfl) ?hn (fun cdv A outer s H E hr=>(dss_one (ds_ret (de_and (de_callB (L3.CallR.or call_isi call_isiT) (cd_isiA (K:=K)) rfl tx.no_isinstance (by decide +kernel) (da_cons (dv 0) (da_cons (de_bty rfl tx.no_int) da_nil))) (de_and (de_not (de_callB (L3.CallR.or call_isi call_isiT) (cd_isiA (K:=K)) rfl tx.no_isinstance (by decide +kernel) (da_cons (dv 0) (da_cons (de_bty rfl tx.no_bool) da_nil)))) (de_one (de_cmp op_ge opd_ge (dv 0) de_int (nomark _)))))))) ?hT
  case hn =>
    rintro wd ds φ ε ⟨d,rfl,_⟩
    rfl
  case hT =>
    rintro wd ds φ ε ⟨d,rfl,hd,q⟩
    show TRet _ _ _ [.v d]
    cases d with
    | non=>simp![]; simpa [isRoomB] using q
    | bl b=>simp![]; simpa [isRoomB] using q
    | int i=>simp![]; simpa [isRoomB] using q
    | str z=>simp![]; simpa [isRoomB] using q
    | lst ds=>simp![]; simpa [isRoomB] using q
    | tup ds=>simp![]; simpa [isRoomB] using q
    | ty _=>exact absurd hd id
    | ref _=>exact absurd hd id
    | ins _ _=>exact absurd hd id
    | exc _ _=>exact absurd hd id
    | clo _ _=>exact absurd hd id
    | lam _ _=>exact absurd hd id
    | dic _=>exact absurd hd id
    | dicT _=>exact absurd hd id
theorem ok_is_rule(tx:Tx K mg):Fn3 P w K mg base 2 (He.ga K "is_rule") F_is_rule:=by
  obtain⟨fd,FD⟩:=tx.fd_is_rule
  have g_is_sign:=ok_is_sign (P:=P) (w:=w) (base:=base) tx
  have g_is_room:=ok_is_room (P:=P) (w:=w) (base:=base) tx
  refine fn3 FD sc_is_rule (FD.bindsN fun _ _ _ _ _ _ us hl => match us, hl with | [_], _ => rfl) ?hn (fun cdv A outer s H E hr => (dss_cons (ds_if (dt_bool (dw_or (dt_not (dt_val (de_callB (L3.CallR.or call_isi call_isiT) (cd_isiA (K := K)) rfl tx.no_isinstance (by decide +kernel) (da_cons (dv 0) (da_cons (de_bty rfl tx.no_tuple) da_nil))))) (dw_or (dt_cmp (op_neD hr.units) opd_ne (de_len rfl tx.no_len (da_cons (dv 0) da_nil)) de_int (nomark _)) (dw_or (dt_not (dt_val (de_call g_is_sign (hr.mono (by omega)) rfl tx.mg_is_sign tx.kp_is_sign tk3 (da_cons (de_ix (dv 0) de_int) da_nil)))) (dw_or1 (dt_not (dt_val (de_callB (L3.CallR.or call_isi call_isiT) (cd_isiA (K := K)) rfl tx.no_isinstance (by decide +kernel) (da_cons (de_ix (dv 0) de_int) (da_cons (de_bty rfl tx.no_tuple) da_nil))))))))))
     (dss_one (ds_ret de_bl))
     dss_nil)
    (dss_one (ds_ret (de_and (de_cmp op_le opd_le (de_len rfl tx.no_len (da_cons (de_ix (dv 0) de_int) da_nil)) (de_ccon (K:=K) (de_gref rfl tx.mg_Tree)) (nomark _)) (de_one (de_callB (cr_all rfl) cd_all rfl tx.no_all (by decide +kernel) (da_cons (de_lc (own:=[("room",1)]) rfl sc_is_rule.nd (di_list (de_lst (da_star (de_ix (dv 0) de_int) (da_cons (de_ix (dv 0) de_int) da_nil)))) (blkOk_by (own:=[("room",1)]) (N:=N_is_rule) (sc:=defScope s_is_rule) (by decide +kernel)) (fun _ _ _ _ _=>(dg_name (i:=1) sc_is_rule.nd rfl (Or.inl rfl))) (fun _ _ _ _ _=>dts_nil) (fun _ _ _ _ _=>(de_call g_is_room (hr.mono (by omega)) rfl tx.mg_is_room tx.kp_is_room takesN (da_cons (dv 1) da_nil)))) da_nil)))))))) ?hT
  case hn =>
    rintro wd ds φ ε ⟨d,rfl,_⟩
    rfl
  case hT =>
    rintro wd ds φ ε ⟨d,rfl,⟨hd,hs⟩,q⟩
    show TSeq _ _ _ _ [.v d,.no]
    have hL:sizeLine=16777216:=sizeLine_eq
    cases d with
    | non=>simp![]; simpa [isRuleB] using q
    | bl b=>simp![]; simpa [isRuleB] using q
    | int i=>simp![]; simpa [isRuleB] using q
    | str z=>simp![]; simpa [isRuleB] using q
    | lst ds=>simp![]; simpa [isRuleB] using q
    | tup ds =>
      obtain⟨hl,hm⟩:=hd
      by_cases h3:ds.length=3
      . match ds,h3,hl,hm,hs,q with
        | [a,b,c],_,hl,hm,hs,q =>
          obtain⟨x,rfl,hx⟩:=hs a b c rfl
          have hb:pl 3 b:=hm b (by simp)
          have hc:pl 3 c:=hm c (by simp)
          have hx2:x.length<=sizeLine:=by omega
          simp![F_is_sign]
          refine⟨hx2,?_⟩
          cases hsg:isSg (lc x) with
          | false =>
            have e:isRuleB (.tup [.str x,b,c])=false:=by cases b<;>simp[isRuleB,hsg]
            rw[e] at q
            simpa using q
          | true =>
            simp
            cases b with
            | non=>simp; simpa [isRuleB] using q
            | bl b=>simp; simpa [isRuleB] using q
            | int i=>simp; simpa [isRuleB] using q
            | str z=>simp; simpa [isRuleB] using q
            | lst ds=>simp; simpa [isRuleB] using q
            | tup rs =>
              obtain⟨hbl,hbm⟩:=hb
              simp![TCCon]
              refine⟨_,tx.cv_MB,3,rfl,?_⟩
              have e:isRuleB (.tup [.str x,.tup rs,c])=(decide (rs.length<=3)&&(rs++[c]).all isRoomB):=by
                show(isSg (lc x)&&_)=_
                rw[hsg,Bool.true_and]
              rw[e] at q
              by_cases h4:rs.length<=3
              . rw[decide_eq_true h4,Bool.true_and] at q
                refine .inr ⟨by omega,by omega,?_⟩
                have eid:rs++[c]=(rs++[c]).map id:=(List.map_id _).symm
                rw[eid]
                refine compD_map (enc:=id) (f:=fun d=>.bl (isRoomB d)) (rs++[c]) [] (fun d hd acc ψ hl q=>?_) (by rw[List.length_append]; show 0+(rs.length+1)<=_; omega) ?_
                . simp![F_is_room]
                  refine⟨?_,hl,q⟩
                  rcases List.mem_append.mp hd with z | z
                  . have:=hbm d z
                    exact pl_up (n:=2) (by decide) this
                  . rw[List.mem_singleton.mp z]; exact hc
                . refine⟨(rs++[c]).map isRoomB,?_,?_⟩
                  . rw[<- blsD_map,List.map_map]
                    rfl
                  . rw[List.all_map]
                    exact q
              . rw[decide_eq_false h4,Bool.false_and] at q
                exact .inl ⟨by omega,q⟩
            | ty _=>exact absurd hb id
            | ref _=>exact absurd hb id
            | ins _ _=>exact absurd hb id
            | exc _ _=>exact absurd hb id
            | clo _ _=>exact absurd hb id
            | lam _ _=>exact absurd hb id
            | dic _=>exact absurd hb id
            | dicT _=>exact absurd hb id
      . simp![]
        refine .inr ⟨by omega,?_⟩
        have e:isRuleB (.tup ds)=false:=by
          match ds,h3 with
          | [],_=>rfl
          | [a],_=>cases a<;>rfl
          | [a,b],_=>cases a<;>cases b<;>rfl
          | a::b::c::d::r,_=>cases a<;>cases b<;>rfl
        rw[e] at q
        exact q
    | ty _=>exact absurd hd id
    | ref _=>exact absurd hd id
    | ins _ _=>exact absurd hd id
    | exc _ _=>exact absurd hd id
    | clo _ _=>exact absurd hd id
    | lam _ _=>exact absurd hd id
    | dic _=>exact absurd hd id
    | dicT _=>exact absurd hd id
@[simp] theorem fnb_own_rules_own_goals:((("own_rules":Str)==("own_goals":Str))=false):=by decide +kernel
@[simp] theorem fne_own_rules_own_goals:((("own_rules":Str)=("own_goals":Str))=False):=eq_false (by decide +kernel)
@[simp] theorem fnb_own_goals_own_rules:((("own_goals":Str)==("own_rules":Str))=false):=by decide +kernel
@[simp] theorem fne_own_goals_own_rules:((("own_goals":Str)=("own_rules":Str))=False):=eq_false (by decide +kernel)
theorem oko_minit(tx:Tx K mg) (x_InvalidRules:XkC P w K mg base "InvalidRules" mkv_InvalidRules mkd_InvalidRules):∃ fd,FnIO P w K mg base 6 (He.ga K "Machine") (He.ma K (He.ga K "Machine") "__init__") fd ["self", "rules", "goals"] (F_minit (He.ga K "InvalidRules"))/\Binds K fd ["self", "rules", "goals"] []/\KwI K fd ["self", "rules", "goals"] ["goals", "rules"] [1,0]:=by
  obtain⟨fd,FD⟩:=tx.fd_Machine__init
  have hb:Binds K fd ["self", "rules", "goals"] []:=FD.bindsN fun _ _ _ _ _ _ us hl=>match us,hl with | [_,_,_],_=>rfl
  have g_is_rule:=ok_is_rule (P:=P) (w:=w) (base:=base) tx
  have g_is_room:=ok_is_room (P:=P) (w:=w) (base:=base) tx
  have x_InvalidRules:=x_InvalidRules.mono (k:=4) (by omega)
  refine ⟨fd, fnI3O (N := N_Machine__init) (ps := ["self", "rules", "goals"]) (C := (He.ga K "Machine")) (k := 5) FD sc_Machine__init (by decide) hb ?hn (fun cdv A outer s H E hr => (dss_cons (ds_if (dt_bool (dw_or (dt_not (dt_val (de_callB (cr_all rfl) cd_all rfl tx.no_all (by decide +kernel) (da_cons (de_lc (own := [("rule", 3)]) rfl sc_Machine__init.nd (di_list (dv 1)) (blkOk_by (own := [("rule", 3)]) (N := N_Machine__init) (sc := defScope s_Machine__init) (by decide +kernel)) (fun _ _ _ _ _ => (dg_name (i := 3) sc_Machine__init.nd rfl (Or.inl rfl))) (fun _ _ _ _ _ => dts_nil) (fun _ _ _ _ _ => (de_call g_is_rule (hr.mono (by omega)) rfl tx.mg_is_rule tx.kp_is_rule takesN (da_cons (dv 3) da_nil)))) da_nil)))) (dw_or1 (dt_not (dt_val (de_callB (cr_all rfl) cd_all rfl tx.no_all (by decide +kernel) (da_cons (de_lc (own := [("goal", 4)]) rfl sc_Machine__init.nd (di_lt (dv 2)) (blkOk_by (own := [("goal", 4)]) (N := N_Machine__init) (sc := defScope s_Machine__init) (by decide +kernel)) (fun _ _ _ _ _ => (dg_name (i := 4) sc_Machine__init.nd rfl (Or.inl rfl))) (fun _ _ _ _ _ => dts_nil) (fun _ _ _ _ _ => (de_call g_is_room (hr.mono (by omega)) rfl tx.mg_is_room tx.kp_is_room takesN (da_cons (dv 4) da_nil)))) da_nil)))))))
     (dss_one (ds_raise0 x_InvalidRules (hr.mono (by omega)) rfl tx.mg_InvalidRules tk3))
     dss_nil)
    (dss_cons (ds_putFK (K:=K) 0 (de_sortSc (own:=[("rule",3)]) rfl sc_Machine__init.nd hr.units rfl tx.no_sorted (by decide +kernel) (di_list (dv 1)) (blkOk_by (own:=[("rule",3)]) (N:=N_Machine__init) (sc:=defScope s_Machine__init) (by decide +kernel)) (fun _ _ _ _ _=>(dg_name (i:=3) sc_Machine__init.nd rfl (Or.inl rfl))) (fun _ _ _ _ _=>dts_nil) (fun _ _ _ _ _=>(dv 3))))
    (dss_one (ds_putFK (K:=K) 0 (de_sortScI (own:=[("goal",4)]) rfl sc_Machine__init.nd hr.units rfl tx.no_sorted (by decide +kernel) (di_lt (dv 2)) (blkOk_by (own:=[("goal",4)]) (N:=N_Machine__init) (sc:=defScope s_Machine__init) (by decide +kernel)) (fun _ _ _ _ _=>(dg_name (i:=4) sc_Machine__init.nd rfl (Or.inl rfl))) (fun _ _ _ _ _=>dts_nil) (fun _ _ _ _ _=>(dv 4)))))))) ?hT,hb,kwI_of FD fun _ _ _ _ _ _ _ ws h=>match ws,h with | [_,_],_=>rfl⟩
  case hn =>
    rintro wd ds φ ε ⟨rl,gl,g,rfl,_⟩
    rfl
  case hT =>
    rintro p wd ds φ ε ⟨rl,gl,g,rfl,hg,hr,hgp,hl1,hl2,q⟩
    show TSeq _ _ _ _ [.oi p (He.ga K "Machine") [],.v (.lst rl),.v g,.no,.no]
    have hL:sizeLine=16777216:=sizeLine_eq
    have b1:AtK K (He.ga K "Machine") "own_rules":=⟨tx.cl_Machine,tx.na_Machine_own_rules⟩
    have b2:AtK K (He.ga K "Machine") "own_goals":=⟨tx.cl_Machine,tx.na_Machine_own_goals⟩
    have eid:∀ l:List D,l=l.map id:=fun l=>(List.map_id l).symm
    have wr:∀ (env:Ev) (θ:List D->Prop),env=[Sl.no,Sl.v (.lst rl),Sl.v g,Sl.no,Sl.no]->θ (rl.map fun d=>.bl (isRuleB d))->CompD (GName 3) TYes (TCall F_is_rule (TCons (TVar 3) TNil)) (⟨wd,fun ex _=>ε ex⟩:Ct).in env rl [] θ:=by
      rintro env θ rfl hθ
      have h2:=compD_map (enc:=id) (f:=fun d=>.bl (isRuleB d)) (g:=GName 3) (A:=TYes) (T:=TCall F_is_rule (TCons (TVar 3) TNil)) (c:=(⟨wd,fun ex _=>ε ex⟩:Ct).in) (env:=[Sl.no,Sl.v (.lst rl),Sl.v g,Sl.no,Sl.no]) (φ:=θ) rl [] (fun d hd acc ψ hl q=>by
        simp![TIzM,TIlt,TSortSc,TSortScI,F_is_rule]
        exact⟨hr d hd,hl,q⟩) (by show 0+_<=_; omega) hθ
      rw[<- eid rl] at h2
      exact h2
    have wg:∀ (env:Ev) (θ:List D->Prop),env=[Sl.no,Sl.v (.lst rl),Sl.v g,Sl.no,Sl.no]->θ (gl.map fun d=>.bl (isRoomB d))->CompD (GName 4) TYes (TCall F_is_room (TCons (TVar 4) TNil)) (⟨wd,fun ex _=>ε ex⟩:Ct).in env gl [] θ:=by
      rintro env θ rfl hθ
      have h2:=compD_map (enc:=id) (f:=fun d=>.bl (isRoomB d)) (g:=GName 4) (A:=TYes) (T:=TCall F_is_room (TCons (TVar 4) TNil)) (c:=(⟨wd,fun ex _=>ε ex⟩:Ct).in) (env:=[Sl.no,Sl.v (.lst rl),Sl.v g,Sl.no,Sl.no]) (φ:=θ) gl [] (fun d hd acc ψ hl q=>by
        simp![TIzM,TIlt,TSortSc,TSortScI,F_is_room]
        exact⟨hgp d hd,hl,q⟩) (by show 0+_<=_; omega) hθ
      rw[<- eid gl] at h2
      exact h2
    have br:blsD (rl.map fun d=>.bl (isRuleB d))=some (rl.map isRuleB):=by rw[<- blsD_map,List.map_map]; rfl
    have bg:blsD (gl.map fun d=>.bl (isRoomB d))=some (gl.map isRoomB):=by rw[<- blsD_map,List.map_map]; rfl
    have fr:false∈rl.map isRuleB↔rl.all isRuleB=false:=by
      rw[List.all_eq_false,List.mem_map]
      exact⟨fun⟨d,h1,h2⟩=>⟨d,h1,by rw[h2]; decide⟩,fun⟨d,h1,h2⟩=>⟨d,h1,Bool.eq_false_iff.mpr h2⟩⟩
    simp only[TSeq,TIfS]
    have cond:∀ ψ:Bool->Prop,ψ (!(rl.all isRuleB&&gl.all isRoomB))->∃ ns,blsD (rl.map fun d=>.bl (isRuleB d))=some ns/\if false∈ns then ψ true else (∃ ds,g=.lst ds/\CompD (GName 4) TYes (TCall F_is_room (TCons (TVar 4) TNil)) (⟨wd,fun ex _=>ε ex⟩:Ct).in [Sl.no,Sl.v (.lst rl),Sl.v g,Sl.no,Sl.no] ds [] fun out=>∃ ns,blsD out=some ns/\ψ !ns.all id) \/
        ∃ ds,g=.tup ds/\CompD (GName 4) TYes (TCall F_is_room (TCons (TVar 4) TNil)) (⟨wd,fun ex _=>ε ex⟩:Ct).in [Sl.no,Sl.v (.lst rl),Sl.v g,Sl.no,Sl.no] ds [] fun out=>∃ ns,blsD out=some ns/\ψ !ns.all id:=by
      intro ψ hψ
      refine⟨_,br,?_⟩
      by_cases hf:false∈rl.map isRuleB
      . rw[if_pos hf]
        rw[fr.mp hf] at hψ
        exact hψ
      . rw[if_neg hf]
        have h1:rl.all isRuleB=true:=by
          cases h:rl.all isRuleB with
          | true=>rfl
          | false=>exact absurd (fr.mpr h) hf
        rw[h1,Bool.true_and] at hψ
        have h2:(gl.map isRoomB).all id=gl.all isRoomB:=by rw[List.all_map]; rfl
        rcases hg with e | e
        . exact .inl ⟨gl,e,wg _ _ rfl ⟨_,bg,by rw[h2]; exact hψ⟩⟩
        . exact .inr ⟨gl,e,wg _ _ rfl ⟨_,bg,by rw[h2]; exact hψ⟩⟩
    have good:∀ (rs:List R3) (gs:List Int),rl=rs.map rD->gl=gs.map .int->(∀ r∈rs,okR r)->(∀ i∈gs,(0:Int)<=i)->(rl.all isRuleB&&gl.all isRoomB)=true:=fun rs gs e1 e2 h1 h2=>by
      subst e1 e2
      rw[Bool.and_eq_true,List.all_eq_true,List.all_eq_true]
      constructor
      . intro d hd
        obtain⟨r,hr,rfl⟩:=List.mem_map.mp hd
        exact rule_ok (h1 r hr)
      . intro d hd
        obtain⟨i,hi,rfl⟩:=List.mem_map.mp hd
        exact decide_eq_true (h2 i hi)
    cases hb:rl.all isRuleB&&gl.all isRoomB with
    | false =>
      refine go_then (fun ψ hψ=>?_) ?_
      . simp![TIzM,TIlt,TSortSc,TSortScI]
        exact wr _ _ rfl (cond ψ (by rw[hb]; exact hψ))
      . simp![TIzM,TIlt,TSortSc,TSortScI,mkd_InvalidRules]
        rcases q with ⟨rs,gs,e1,e2,h1,h2,_⟩ | ⟨_,q⟩
        . rw[good rs gs e1 e2 h1 h2] at hb
          cases hb
        . exact q
    | true =>
      refine go_else (fun ψ hψ=>?_) ?_
      . simp![TIzM,TIlt,TSortSc,TSortScI]
        exact wr _ _ rfl (cond ψ (by rw[hb]; exact hψ))
      . rcases q with ⟨rs,gs,e1,e2,h1,h2,q⟩ | ⟨z,_⟩
        . subst e1 e2
          rw[List.length_map] at hl1 hl2
          simp![TIzM,TIlt,TSortSc,TSortScI]
          refine compS_map (enc:=rD) (f:=rD) rs [] (fun r hr acc ψ hl q=>?_) (by show 0+_<_; omega) ?_
          . simp![TIzM,TIlt,TSortSc,TSortScI]
            exact⟨hl,key_rule r,q⟩
          . intro bs nd hm
            obtain⟨qs,e,hs⟩:=sortR_out nd hm
            refine⟨by rw[e]; exact alike_rules qs,by rw[e]; exact sortable_rules qs,fun d hd=>?_,b1,?_⟩
            . rw[e] at hd
              obtain⟨r,_,rfl⟩:=List.mem_map.mp hd
              have:=dep_rule r
              omega
            have hs:bs.mergeSort (PySem.W.dataLe false toP)=(sortR rs).map rD:=hs
            rw[hs]
            have walk:CompS KeyI (GName 4) TYes (TVar 4) (⟨wd,fun ex _=>ε ex⟩:Ct).in [Sl.no,Sl.v (.lst (rs.map rD)),Sl.v g,Sl.no,Sl.no] (gs.map D.int) [] (SortOutI fun d=>AtK K (He.ga K "Machine") "own_goals"/\φ [("own_rules",.lst ((sortR rs).map rD)),("own_goals",d)]):=by
              refine compS_map (enc:=D.int) (f:=D.int) gs [] (fun i hi acc ψ hl q=>?_) (by show 0+_<_; omega) ?_
              . simp![TIzM,TIlt,TSortSc,TSortScI]
                exact⟨hl,⟨i,rfl⟩,q⟩
              . intro ns pw hmem
                have hmem:∀ z,z∈ns↔z∈gs:=fun z=>(hmem z).trans ⟨fun h=>by
                  obtain⟨i,hi,e⟩:=List.mem_map.mp h
                  cases e
                  exact hi,fun h=>List.mem_map.mpr ⟨z,h,rfl⟩⟩
                rw[sortI_asc pw hmem]
                exact⟨b2,q⟩
            rcases hg with e | e
            . exact .inl ⟨_,e,walk⟩
            . exact .inr ⟨_,e,walk⟩
        . rw[hb] at z
          cases z
theorem ok_Machine_rules(tx:Tx K mg):Fn3 P w K mg base 1 (He.ma K (He.ga K "Machine") "rules") (F_mrules (He.ga K "Machine")):=by
  obtain⟨fd,FD⟩:=tx.fd_Machine_rules
  refine fn3 FD sc_Machine_rules (FD.bindsN fun _ _ _ _ _ _ us hl=>match us,hl with | [_],_=>rfl) ?hn (fun cdv A outer s H E hr=>(dss_one (ds_ret (de_callTy call_list_of cd_list rfl tx.no_list (by decide +kernel) (da_cons (de_fldK (K:=K) (dv 0)) da_nil))))) ?hT
  case hn =>
    rintro wd ds φ ε ⟨rs,gs,rfl,_⟩
    rfl
  case hT =>
    rintro wd ds φ ε ⟨rs,gs,rfl,q⟩
    show TRet _ _ _ [.v (mchD (He.ga K "Machine") rs gs)]
    have b1:AtK K (He.ga K "Machine") "own_rules":=⟨tx.cl_Machine,tx.na_Machine_own_rules⟩
    simp![mchD,b1,mfl_rules]
    exact q
theorem ok_Machine_goals(tx:Tx K mg):Fn3 P w K mg base 1 (He.ma K (He.ga K "Machine") "goals") (F_mgoals (He.ga K "Machine")):=by
  obtain⟨fd,FD⟩:=tx.fd_Machine_goals
  refine fn3 FD sc_Machine_goals (FD.bindsN fun _ _ _ _ _ _ us hl=>match us,hl with | [_],_=>rfl) ?hn (fun cdv A outer s H E hr=>(dss_one (ds_ret (de_callTy call_list_of cd_list rfl tx.no_list (by decide +kernel) (da_cons (de_fldK (K:=K) (dv 0)) da_nil))))) ?hT
  case hn =>
    rintro wd ds φ ε ⟨rs,gs,rfl,_⟩
    rfl
  case hT =>
    rintro wd ds φ ε ⟨rs,gs,rfl,q⟩
    show TRet _ _ _ [.v (mchD (He.ga K "Machine") rs gs)]
    have b2:AtK K (He.ga K "Machine") "own_goals":=⟨tx.cl_Machine,tx.na_Machine_own_goals⟩
    simp![mchD,b2,mfl_goals]
    exact q
theorem ok_Machine__repr(tx:Tx K mg):Fn3 P w K mg base 1 (He.ma K (He.ga K "Machine") "__repr__") (F_mrepr (He.ga K "Machine")):=by
  obtain⟨fd,FD⟩:=tx.fd_Machine__repr
  refine fn3 FD sc_Machine__repr (FD.bindsN fun _ _ _ _ _ _ us hl=>match us,hl with | [_],_=>rfl) ?hn (fun cdv A outer s H E hr=>(dss_one (ds_ret (de_joined (DJ.cons de_str (DJ.cons (de_fmt (de_len rfl tx.no_len (da_cons (de_fldK (K:=K) (dv 0)) da_nil))) (DJ.cons de_str DJ.nil))))))) ?hT
  case hn =>
    rintro wd ds φ ε ⟨rs,gs,rfl,_⟩
    rfl
  case hT =>
    rintro wd ds φ ε ⟨rs,gs,rfl,hk,q⟩
    show TRet _ _ _ [.v (mchD (He.ga K "Machine") rs gs)]
    have b1:AtK K (He.ga K "Machine") "own_rules":=⟨tx.cl_Machine,tx.na_Machine_own_rules⟩
    have hl:(sortR rs).length<63:=by
      have:=on_len rs
      rw[sortR_len]
      have:=hk.2.1
      omega
    have hL:sizeLine=16777216:=sizeLine_eq
    obtain⟨h1,h2,h3,h4,h5⟩:=mrepr_has (sortR rs).length (by omega)
    simp![mchD,b1,mfl_rules]
    rw[h5]
    refine⟨by omega,h2,by omega,by rw[<- h5]; omega,q⟩
theorem ok_Machine__eq(tx:Tx K mg):Fn3 P w K mg base 1 (He.ma K (He.ga K "Machine") "__eq__") (F_meq (He.ga K "Machine")):=by
  obtain⟨fd,FD⟩:=tx.fd_Machine__eq
  refine fn3 FD sc_Machine__eq (FD.bindsN fun _ _ _ _ _ _ us hl=>match us,hl with | [_,_],_=>rfl) ?hn (fun cdv A outer s H E hr=>(dss_one (ds_ret (de_and (de_callB (L3.CallR.or call_isi call_isiT) (cd_isiA (K:=K)) rfl tx.no_isinstance (by decide +kernel) (da_cons (dv 1) (da_cons (de_gref rfl tx.mg_Machine) da_nil))) (de_and (de_cmp (op_eqD hr.units) opd_eq (de_fldK (K:=K) (dv 0)) (de_fldK (K:=K) (dv 1)) (nomark _)) (de_one (de_cmp (op_eqD hr.units) opd_eq (de_fldK (K:=K) (dv 0)) (de_fldK (K:=K) (dv 1)) (nomark _)))))))) ?hT
  case hn =>
    rintro wd ds φ ε ⟨rs,gs,⟨qs,hs,rfl,_⟩ | ⟨zs,rfl,_⟩⟩
    . rfl
    . rfl
  case hT =>
    rintro wd ds φ ε ⟨rs,gs,h⟩
    have b1:AtK K (He.ga K "Machine") "own_rules":=⟨tx.cl_Machine,tx.na_Machine_own_rules⟩
    have b2:AtK K (He.ga K "Machine") "own_goals":=⟨tx.cl_Machine,tx.na_Machine_own_goals⟩
    rcases h with ⟨qs,hs,rfl,hk,hk2,q⟩ | ⟨zs,rfl,q⟩
    . show TRet _ _ _ [.v (mchD (He.ga K "Machine") rs gs),.v (mchD (He.ga K "Machine") qs hs)]
      simp![mchD,b1,b2,mfl_rules,mfl_goals,tx.in_Machine,tx.ki_Machine]
      have sg:∀ {l:List R3},(∀ r∈l,okR r)->∀ r∈sortR l,isSg r.1=true:=fun h r hr=>(h r (sortR_mem.mp hr)).1
      refine eqF_rules (sg hk.1) (sg hk2.1) ?_
      by_cases e:sortR rs=sortR qs
      . refine .inr ⟨by rw[decide_eq_true e],eqF_ints ?_⟩
        rw[decide_eq_true e,Bool.true_and] at q
        exact q
      . refine .inl ⟨by rw[decide_eq_false e],?_⟩
        rw[decide_eq_false e,Bool.false_and] at q
        exact q
    . show TRet _ _ _ [.v (mchD (He.ga K "Machine") rs gs),.v (.lst zs)]
      simp![mchD,b1,b2,mfl_rules,mfl_goals,tx.in_Machine,tx.ki_Machine,tx.kil_Machine]
      exact q
theorem ok_Machine_rooms_above(tx:Tx K mg):Fn3 P w K mg base 1 (He.ma K (He.ga K "Machine") "rooms_above") (F_mabove (He.ga K "Machine")):=by
  obtain⟨fd,FD⟩:=tx.fd_Machine_rooms_above
  refine fn3 FD sc_Machine_rooms_above (FD.bindsN fun _ _ _ _ _ _ us hl=>match us,hl with | [_,_,_],_=>rfl) ?hn (fun cdv A outer s H E hr=>(dss_cons (ds_own (i:=3) sc_Machine_rooms_above.nd rfl (Or.inl rfl) da_nil)
    (dss_cons (ds_for (vs:=[4,5,6]) ps3 rfl (di_list (de_fldK (K:=K) (dv 0))) (dg_tup (n:=3) rfl (dgs_cons (dg_name (i:=4) sc_Machine_rooms_above.nd rfl (Or.inl rfl)) (dgs_cons (dg_name (i:=5) sc_Machine_rooms_above.nd rfl (Or.inl rfl)) (dgs_cons (dg_name (i:=6) sc_Machine_rooms_above.nd rfl (Or.inl rfl)) dgs_nil))))
     (dss_one (ds_if (dt_bor 3 (dt_bool (dw_and (dt_cmp (op_eqD hr.units) opd_eq (de_tup (da_cons (dv 4) (da_cons (de_len rfl tx.no_len (da_cons (dv 5) da_nil)) da_nil))) (dv 1) (nomark _)) (dw_and1 (dt_cmp op_ninA opd_nin (dv 6) (dv 3) rfl)))))
     (dss_one (ds_if (dt_val (de_callB (cr_all rfl) cd_all rfl tx.no_all (by decide +kernel) (da_cons (de_lc (own:=[("kid",7),("lot",8)]) rfl sc_Machine_rooms_above.nd (di_zipM rfl rfl tx.no_zip (da_cons (dv 5) (da_cons (dv 2) da_nil))) (blkOk_by (own:=[("kid",7),("lot",8)]) (N:=N_Machine_rooms_above) (sc:=defScope s_Machine_rooms_above) (by decide +kernel)) (fun _ _ _ _ _=>(dg_tup (n:=2) rfl (dgs_cons (dg_name (i:=7) sc_Machine_rooms_above.nd rfl (Or.inl rfl)) (dgs_cons (dg_name (i:=8) sc_Machine_rooms_above.nd rfl (Or.inl rfl)) dgs_nil)))) (fun _ _ _ _ _=>dts_nil) (fun _ _ _ _ _=>(de_cmp op_inA opd_in (dv 7) (dv 8) rfl))) da_nil)))
     (dss_one (ds_append 3 (dv 6)))
     dss_nil))
     dss_nil)))
    (dss_frz 3 (dss_one (ds_ret (de_callB (cr_sortedDt hr.units) cd_sortedDt rfl tx.no_sorted (by decide +kernel) (da_cons (dv 3) da_nil)))))))) ?hT
  case hn =>
    rintro wd ds φ ε ⟨rs,gs,s,n,lots,rfl,_⟩
    rfl
  case hT =>
    rintro wd ds φ ε ⟨rs,gs,s,n,lots,rfl,hk,hs,hln,hn3,hll,q⟩
    show TSeq _ _ _ _ [.v (mchD (He.ga K "Machine") rs gs),.v (.tup [.str (mks s),.int (n:Nat)]),.v (.lst (lots.map fun l:List Int=>.lst (l.map .int))),.no,.no,.no,.no,.no,.no]
    have b1:AtK K (He.ga K "Machine") "own_rules":=⟨tx.cl_Machine,tx.na_Machine_own_rules⟩
    have hL:sizeLine=16777216:=sizeLine_eq
    have hl:(sortR rs).length<63:=by
      have:=on_len rs
      rw[sortR_len]
      have:=hk.2.1
      omega
    simp![TIzM,TIlt,TSortSc,TSortScI,mchD,b1,mfl_rules]
    intro p
    refine forD_of (enc:=rD) (fun rest env=>∃ (acc:List Int) (s4 s5 s6:Sl),acc.length+rest.length<=63/\(∀ r∈rest,r∈sortR rs)/\((rest.filter (cnd s n lots)).map (·.2.2)).foldl on1 acc=on (fitR (sortR rs) s n lots) /\
      env=[.v (mchD (He.ga K "Machine") rs gs),.v (.tup [.str (mks s),.int (n:Nat)]),.v (.lst (lots.map fun l:List Int=>.lst (l.map .int))),.ol p (acc.map D.int),s4,s5,s6,.no,.no]) (sortR rs) _ ⟨[],.no,.no,.no,by rw[List.length_nil]; omega,fun r hr=>hr,rfl,rfl⟩ ?_ ?_
    . rintro ⟨t,inn,rm⟩ rest env D2 hrt hnx - - ⟨acc,s4,s5,s6,h1,h2,h3,rfl⟩
      rw[List.length_cons] at h1
      have hsg:isSg t=true:=(hk.1 _ (sortR_mem.mp (h2 _ List.mem_cons_self))).1
      have hil:inn.length<=3:=(hk.1 _ (sortR_mem.mp (h2 _ List.mem_cons_self))).2.1
      simp![TIzM,TIlt,TSortSc,TSortScI,rD]
      have same:cnd s n lots (t,inn,rm)=false\/rm∈acc->((rest.filter (cnd s n lots)).map (·.2.2)).foldl on1 acc=on (fitR (sortR rs) s n lots):=fun h=>by
        rw[<- h3,List.filter_cons]
        cases hc:cnd s n lots (t,inn,rm) with
        | false=>rw[if_neg (by decide)]
        | true =>
          rcases h with h | h
          . rw[hc] at h
            cases h
          . rw[if_pos rfl,List.map_cons,List.foldl_cons]
            have e:on1 acc rm=acc:=by unfold on1; rw[if_pos h]
            show _=List.foldl on1 (on1 acc rm) _
            rw[e]
      have more:cnd s n lots (t,inn,rm)=true->rm∉acc->((rest.filter (cnd s n lots)).map (·.2.2)).foldl on1 (acc++[rm])=on (fitR (sortR rs) s n lots):=fun hc h=>by
        rw[<- h3,List.filter_cons,if_pos hc,List.map_cons,List.foldl_cons]
        have e:on1 acc rm=acc++[rm]:=by unfold on1; rw[if_neg h]
        show _=List.foldl on1 (on1 acc rm) _
        rw[e]
      refine eqF_head hsg hs ?_
      by_cases hh:t=s/\inn.length=n
      . rw[decide_eq_true hh]
        refine .inr ⟨rfl,?_⟩
        rw[inV_int]
        by_cases hm:rm∈acc
        . exact .inl ⟨decide_eq_true hm,hnx _ ⟨acc,_,_,_,by omega,fun r hr=>h2 r (List.mem_cons_of_mem _ hr),same (.inr hm),rfl⟩⟩
        . refine .inr ⟨decide_eq_false hm,?_⟩
          rw[zipD_mm]
          refine compD_map (enc:=fun p:Int × List Int=>D.tup [.int p.1,.lst (p.2.map .int)]) (f:=fun p=>.bl (decide (p.1∈p.2))) (inn.zip lots) [] (fun z hz ac ψ hl q=>?_) (by rw[List.length_zip]; show 0+_<=_; omega) ?_
          . simp![TIzM,TIlt,TSortSc,TSortScI]
            rw[inV_int]
            exact⟨hl,q⟩
          . rw[List.nil_append]
            refine⟨(inn.zip lots).map fun p=>decide (p.1∈p.2),by rw[<- blsD_map,List.map_map]; rfl,?_⟩
            by_cases hf:false∈(inn.zip lots).map fun p=>decide (p.1∈p.2)
            . rw[if_pos hf]
              refine hnx _ ⟨acc,_,_,_,by omega,fun r hr=>h2 r (List.mem_cons_of_mem _ hr),same (.inl ?_),rfl⟩
              unfold cnd
              rw[Bool.and_eq_false_iff]
              refine .inr ?_
              obtain⟨z,hz,e⟩:=List.mem_map.mp hf
              exact List.all_eq_false.mpr ⟨z,hz,by rw[e]; decide⟩
            . rw[if_neg hf]
              refine⟨by omega,hnx _ ⟨acc++[rm],_,_,_,by rw[List.length_append,List.length_singleton]; omega,fun r hr=>h2 r (List.mem_cons_of_mem _ hr),more ?_ hm,by rw[List.map_append]; rfl⟩⟩
              unfold cnd
              rw[Bool.and_eq_true]
              refine⟨decide_eq_true hh,List.all_eq_true.mpr fun z hz=>?_⟩
              cases e:decide (z.1∈z.2) with
              | true=>rfl
              | false=>exact absurd (List.mem_map.mpr ⟨z,hz,e⟩) hf
      . rw[decide_eq_false hh]
        refine .inl ⟨rfl,hnx _ ⟨acc,_,_,_,by omega,fun r hr=>h2 r (List.mem_cons_of_mem _ hr),same (.inl ?_),rfl⟩⟩
        unfold cnd
        rw[decide_eq_false hh]
        rfl
    . rintro env ⟨acc,s4,s5,s6,h1,h2,h3,rfl⟩
      simp![TIzM,TIlt,TSortSc,TSortScI]
      have e:acc=on (fitR (sortR rs) s n lots):=h3
      have nd:acc.Nodup:=by rw[e]; exact on_nd _
      refine⟨acc.map D.int,rfl,ps_ints acc,alike_ints acc,sortable_ints acc,fun d hd=>?_,?_⟩
      . obtain⟨i,_,rfl⟩:=List.mem_map.mp hd
        exact Nat.zero_le _
      . have hs2:(acc.map D.int).mergeSort leD=(sortI (fitR rs s n lots)).map D.int:=by
          have hm:∀ z,z∈acc↔z∈fitR rs s n lots:=fun z=>by
            rw[e,on_mem]
            exact fitR_mem (fun r=>sortR_mem) z
          exact sortI_of nd hm
        have hs2:(acc.map D.int).mergeSort (PySem.W.dataLe false toP)=(sortI (fitR rs s n lots)).map D.int:=hs2
        rw[hs2]
        exact q
theorem ok_mrooms {P:Program}{w:World}{K:PySem.W.Frag}{mg:Str->Option Value}{base:Heap} (tx:Tx K mg):∀ n:Nat,Fn3 P w K mg base (5+n) (He.ma K (He.ga K "Machine") "rooms_of") (F_mrooms (He.ga K "Machine") (He.ga K "Tree") n)
  | 0=>fn_false (by rintro wd ds φ ε ⟨rs,gs,t,_,_,_,h,_⟩; have:=dep_pos t; omega)
  | n+1=>by
    obtain⟨fd,FD⟩:=tx.fd_Machine_rooms_of
    have g_Machine_rooms_of:Fn3 P w K mg base (5+n) (He.ma K (He.ga K "Machine") "rooms_of") (F_mrooms (He.ga K "Machine") (He.ga K "Tree") n):=ok_mrooms tx n
    have g_Machine_rooms_above:=ok_Machine_rooms_above (P:=P) (w:=w) (base:=base) tx
    have g_head_of:=ok_head_of (P:=P) (w:=w) (base:=base) tx
    refine fn3 (k:=5+n) FD sc_Machine_rooms_of (FD.bindsN fun _ _ _ _ _ _ us hl=>match us,hl with | [_,_],_=>rfl) ?hn (fun cdv A outer s H E hr=>(dss_one (ds_ret (de_meth (dv 0) tx.cl_Machine tx.me_rooms_above g_Machine_rooms_above (hr.mono (by omega)) tk3 (da_cons (de_call g_head_of (hr.mono (by omega)) rfl tx.mg_head_of tx.kp_head_of tk3 (da_cons (dv 1) da_nil)) (da_cons (de_lc (own:=[("branch",2)]) rfl sc_Machine_rooms_of.nd (di_tup (de_fldK (K:=K) (dv 1))) (blkOk_by (own:=[("branch",2)]) (N:=N_Machine_rooms_of) (sc:=defScope s_Machine_rooms_of) (by decide +kernel)) (fun _ _ _ _ _=>(dg_name (i:=2) sc_Machine_rooms_of.nd rfl (Or.inl rfl))) (fun _ _ _ _ _=>dts_nil) (fun _ _ _ _ _=>(de_meth (dv 0) tx.cl_Machine tx.me_rooms_of g_Machine_rooms_of (hr.mono (by omega)) takesN (da_cons (dv 2) da_nil)))) da_nil)))))) ?hT
    case hn =>
      rintro wd ds φ ε ⟨rs,gs,t,rfl,_⟩
      rfl
    case hT =>
      rintro wd ds φ ε ⟨rs,gs,⟨s,ks⟩,rfl,hk,⟨o1,o2,o3⟩,hd,q⟩
      show TRet _ _ _ [.v (mchD (He.ga K "Machine") rs gs),.v (trD (He.ga K "Tree") (.nd s ks)),.no]
      have t2:AtK K (He.ga K "Tree") "branches":=⟨tx.cl_Tree,tx.na_Tree_branches⟩
      have hL:sizeLine=16777216:=sizeLine_eq
      have hmo:mchD (He.ga K "Machine") rs gs=.ins (He.ga K "Machine") (mfld rs gs):=rfl
      simp![TIzM,TIlt,TSortSc,TSortScI,hmo,F_head_of,F_mabove]
      refine⟨mfl_k (by decide +kernel) (by decide +kernel),s,ks,rfl,(He.ga K "Tree"),(Tr.nd s ks).fld (He.ga K "Tree"),trD_ins _,t2,_,fld_branches _,_,rfl,?_⟩
      refine compD_map (enc:=trD (He.ga K "Tree")) (f:=fun t=>.lst ((rms rs t).map .int)) ks [] (fun t ht acc ψ hl q=>?_) (by show 0+_<=_; omega) ?_
      . have hdt:t.dep<=n:=by
          have h1:=deps_le ht
          have h2:1+deps ks<=n+1:=hd
          omega
        simp![TIzM,TIlt,TSortSc,TSortScI,F_mrooms]
        exact⟨mfl_k (by decide +kernel) (by decide +kernel),rs,gs,rfl,t,rfl,hk,oks_iff.mp o3 t ht,hdt,hl,q⟩
      . refine⟨rs,gs,rfl,s,rfl,ks.length,rfl,ks.map (rms rs),by rw[List.map_map,List.nil_append]; rfl,hk,o1,by rw[List.length_map],o2,fun l hl=>?_,?_⟩
        . obtain⟨t,_,rfl⟩:=List.mem_map.mp hl
          have h1:=rms_len (rs:=rs) t
          have h2:=hk.2.1
          omega
        . have e:rms rs (.nd s ks)=sortI (fitR rs s ks.length (ks.map (rms rs))):=by
            show sortI (fitR rs s ks.length (rmss rs ks))=_
            rw[rmss_eq]
          rw[e] at q
          exact q
theorem ok_Machine__contains(tx:Tx K mg):Fn3 P w K mg base 30 (He.ma K (He.ga K "Machine") "__contains__") (F_mhas (He.ga K "Machine") (He.ga K "Tree")):=by
  obtain⟨fd,FD⟩:=tx.fd_Machine__contains
  have g_Machine_rooms_of:=ok_mrooms (P:=P) (w:=w) (base:=base) tx 20
  refine fn3 FD sc_Machine__contains (FD.bindsN fun _ _ _ _ _ _ us hl=>match us,hl with | [_,_],_=>rfl) ?hn (fun cdv A outer s H E hr=>(dss_one (ds_ret (de_callB (cr_any rfl) cd_any rfl tx.no_any (by decide +kernel) (da_cons (de_lc (own:=[("room",2)]) rfl sc_Machine__contains.nd (di_list (de_meth (dv 0) tx.cl_Machine tx.me_rooms_of g_Machine_rooms_of (hr.mono (by omega)) tk3 (da_cons (dv 1) da_nil))) (blkOk_by (own:=[("room",2)]) (N:=N_Machine__contains) (sc:=defScope s_Machine__contains) (by decide +kernel)) (fun _ _ _ _ _=>(dg_name (i:=2) sc_Machine__contains.nd rfl (Or.inl rfl))) (fun _ _ _ _ _=>dts_nil) (fun _ _ _ _ _=>(de_cmp op_inA opd_in (dv 2) (de_fldK (K:=K) (dv 0)) rfl))) da_nil))))) ?hT
  case hn =>
    rintro wd ds φ ε ⟨rs,gs,t,rfl,_⟩
    rfl
  case hT =>
    rintro wd ds φ ε ⟨rs,gs,t,rfl,hk,ht,hd,q⟩
    show TRet _ _ _ [.v (mchD (He.ga K "Machine") rs gs),.v (trD (He.ga K "Tree") t),.no]
    have b2:AtK K (He.ga K "Machine") "own_goals":=⟨tx.cl_Machine,tx.na_Machine_own_goals⟩
    have hL:sizeLine=16777216:=sizeLine_eq
    have hmo:mchD (He.ga K "Machine") rs gs=.ins (He.ga K "Machine") (mfld rs gs):=rfl
    have hrl:=rms_len (rs:=rs) t
    have hrk:=hk.2.1
    simp![TIzM,TIlt,TSortSc,TSortScI,hmo,F_mrooms,mfl_goals,b2]
    refine⟨mfl_k (by decide +kernel) (by decide +kernel),rs,gs,rfl,t,rfl,hk,ht,hd,?_⟩
    refine compD_map (enc:=D.int) (f:=fun x=>.bl (decide (x∈gs))) (rms rs t) [] (fun x hx acc ψ hl q=>?_) (by show 0+_<=_; omega) ?_
    . simp![TIzM,TIlt,TSortSc,TSortScI,mfl_goals,b2]
      rw[inV_int]
      have e:decide (x∈sortI gs)=decide (x∈gs):=decide_eq_decide.mpr sortI_mem
      rw[e]
      exact⟨hl,q⟩
    . rw[List.nil_append]
      refine⟨(rms rs t).map fun x=>decide (x∈gs),by rw[<- blsD_map,List.map_map]; rfl,?_⟩
      have e:((rms rs t).map fun x=>decide (x∈gs)).any id=(rms rs t).any fun x=>decide (x∈gs):=by rw[List.any_map]; rfl
      rw[e]
      exact q
theorem okl_Machine_rules(tx:Tx K mg):Fn3L P w K mg base 2 (He.ma K (He.ga K "Machine") "rules") (FO_mrules (He.ga K "Machine")):=by
  obtain⟨fd,FD⟩:=tx.fd_Machine_rules
  refine fn3L (k:=1) (N:=N_Machine_rules) (ps:=["self"]) FD sc_Machine_rules (FD.bindsN fun _ _ _ _ _ _ us hl=>match us,hl with | [_],_=>rfl) ?hn (fun cdv A outer s H E hr=>pss_one (ps_ret (pe_callTy call_list_of rfl tx.no_list (by decide +kernel) (da_cons (de_fldK (K:=K) (dv 0)) da_nil)))) ?hT
  case hn =>
    rintro wd ds φ ⟨rs,gs,rfl,_⟩
    rfl
  case hT =>
    rintro wd ds φ ⟨rs,gs,rfl,q⟩
    show TCons _ _ _ [.v (mchD (He.ga K "Machine") rs gs)] _
    have b1:AtK K (He.ga K "Machine") "own_rules":=⟨tx.cl_Machine,tx.na_Machine_own_rules⟩
    have b2:AtK K (He.ga K "Machine") "own_goals":=⟨tx.cl_Machine,tx.na_Machine_own_goals⟩
    simp![mchD,b1,mfl_rules]
    exact q
theorem okl_Machine_goals(tx:Tx K mg):Fn3L P w K mg base 2 (He.ma K (He.ga K "Machine") "goals") (FO_mgoals (He.ga K "Machine")):=by
  obtain⟨fd,FD⟩:=tx.fd_Machine_goals
  refine fn3L (k:=1) (N:=N_Machine_goals) (ps:=["self"]) FD sc_Machine_goals (FD.bindsN fun _ _ _ _ _ _ us hl=>match us,hl with | [_],_=>rfl) ?hn (fun cdv A outer s H E hr=>pss_one (ps_ret (pe_callTy call_list_of rfl tx.no_list (by decide +kernel) (da_cons (de_fldK (K:=K) (dv 0)) da_nil)))) ?hT
  case hn =>
    rintro wd ds φ ⟨rs,gs,rfl,_⟩
    rfl
  case hT =>
    rintro wd ds φ ⟨rs,gs,rfl,q⟩
    show TCons _ _ _ [.v (mchD (He.ga K "Machine") rs gs)] _
    have b1:AtK K (He.ga K "Machine") "own_rules":=⟨tx.cl_Machine,tx.na_Machine_own_rules⟩
    have b2:AtK K (He.ga K "Machine") "own_goals":=⟨tx.cl_Machine,tx.na_Machine_own_goals⟩
    simp![mchD,b2,mfl_goals]
    exact q
theorem oko_mrooms(tx:Tx K mg):∃ fd,Fn3O P w K mg base 30 (He.ma K (He.ga K "Machine") "rooms_of") fd ["self", "tree"] (F_mrooms (He.ga K "Machine") (He.ga K "Tree") 20)/\KwI K fd ["self", "tree"] ["tree"] [0]:=by
  obtain⟨fd,FD⟩:=tx.fd_Machine_rooms_of
  have g_Machine_rooms_of:Fn3 P w K mg base (5+20) (He.ma K (He.ga K "Machine") "rooms_of") (F_mrooms (He.ga K "Machine") (He.ga K "Tree") 20):=ok_mrooms tx 20
  have g_Machine_rooms_above:=ok_Machine_rooms_above (P:=P) (w:=w) (base:=base) tx
  have g_head_of:=ok_head_of (P:=P) (w:=w) (base:=base) tx
  refine⟨fd,fn3O (k:=29) (N:=N_Machine_rooms_of) FD sc_Machine_rooms_of ?hn (fun cdv A outer s H E hr=>(dss_one (ds_ret (de_meth (dv 0) tx.cl_Machine tx.me_rooms_above g_Machine_rooms_above (hr.mono (by omega)) tk3 (da_cons (de_call g_head_of (hr.mono (by omega)) rfl tx.mg_head_of tx.kp_head_of tk3 (da_cons (dv 1) da_nil)) (da_cons (de_lc (own:=[("branch",2)]) rfl sc_Machine_rooms_of.nd (di_tup (de_fldK (K:=K) (dv 1))) (blkOk_by (own:=[("branch",2)]) (N:=N_Machine_rooms_of) (sc:=defScope s_Machine_rooms_of) (by decide +kernel)) (fun _ _ _ _ _=>(dg_name (i:=2) sc_Machine_rooms_of.nd rfl (Or.inl rfl))) (fun _ _ _ _ _=>dts_nil) (fun _ _ _ _ _=>(de_meth (dv 0) tx.cl_Machine tx.me_rooms_of g_Machine_rooms_of (hr.mono (by omega)) takesN (da_cons (dv 2) da_nil)))) da_nil)))))) ?hT,kwI_of FD fun _ _ _ _ _ _ _ ws h=>match ws,h with | [_],_=>rfl⟩
  case hn =>
    rintro wd ds φ ε ⟨rs,gs,t,rfl,_⟩
    rfl
  case hT =>
    rintro wd ds φ ε ⟨rs,gs,⟨s,ks⟩,rfl,hk,⟨o1,o2,o3⟩,hd,q⟩
    show TRet _ _ _ [.v (mchD (He.ga K "Machine") rs gs),.v (trD (He.ga K "Tree") (.nd s ks)),.no]
    have t2:AtK K (He.ga K "Tree") "branches":=⟨tx.cl_Tree,tx.na_Tree_branches⟩
    have hL:sizeLine=16777216:=sizeLine_eq
    have hmo:mchD (He.ga K "Machine") rs gs=.ins (He.ga K "Machine") (mfld rs gs):=rfl
    simp![TIzM,TIlt,TSortSc,TSortScI,hmo,F_head_of,F_mabove]
    refine⟨mfl_k (by decide +kernel) (by decide +kernel),s,ks,rfl,(He.ga K "Tree"),(Tr.nd s ks).fld (He.ga K "Tree"),trD_ins _,t2,_,fld_branches _,_,rfl,?_⟩
    refine compD_map (enc:=trD (He.ga K "Tree")) (f:=fun t=>.lst ((rms rs t).map .int)) ks [] (fun t ht acc ψ hl q=>?_) (by show 0+_<=_; omega) ?_
    . have hdt:t.dep<=20:=by
        have h1:=deps_le ht
        have h2:1+deps ks<=20:=hd
        omega
      simp![TIzM,TIlt,TSortSc,TSortScI,F_mrooms]
      exact⟨mfl_k (by decide +kernel) (by decide +kernel),rs,gs,rfl,t,rfl,hk,oks_iff.mp o3 t ht,hdt,hl,q⟩
    . refine⟨rs,gs,rfl,s,rfl,ks.length,rfl,ks.map (rms rs),by rw[List.map_map,List.nil_append]; rfl,hk,o1,by rw[List.length_map],o2,fun l hl=>?_,?_⟩
      . obtain⟨t,_,rfl⟩:=List.mem_map.mp hl
        have h1:=rms_len (rs:=rs) t
        have h2:=hk.2.1
        omega
      . have e:rms rs (.nd s ks)=sortI (fitR rs s ks.length (ks.map (rms rs))):=by
          show sortI (fitR rs s ks.length (rmss rs ks))=_
          rw[rmss_eq]
        rw[e] at q
        exact q
open PySem PySem.Spec PyProof.Rows L2 L3
def F_lhead:TF:=fun _ ds φ _=>∃ s ks,ds=[mD (.nd s ks)]/\φ (.tup [.str (mks s),.int (ks.length:Nat)])
def F_lrooms(n:Nat):TF:=fun _ ds φ _=>∃ rs t,ds=[.lst (rs.map rD),mD t]/\(∀ r∈rs,okR r)/\rs.length<63/\t.ok/\t.dep<=n/\φ (.lst ((lrm rs t).map .int))
/-- a drawn rule -/
def drR(r:R3):Prop:=(r.1,r.2.1.length)∈sgL/\(∀ i∈r.2.1,0<=i/\i<6)/\0<=r.2.2/\r.2.2<6
theorem drR.ok {r:R3} (h:drR r):okR r:=by
  have h1:=sgL_ok.all _ h.1
  exact⟨h1.1,h1.2,fun i hi=>(h.2.1 i hi).1,h.2.2.1⟩
def F_lrules(T:List (Addr × Str)):TF:=fun wd ds φ _=>∃ (h c:Addr) (cells:List Int) (m:Int),wd=hwT T h c cells/\ds=[.ref h,.int m]/\1<=m/\m<=30/\∀ rs:List R3,rs≠[]->(rs.length:Int)<=m->(∀ r∈rs,drR r)->φ (.lst (rs.map rD))
theorem compD_of {α:Type}{g:TGD}{A:TB}{T:TD}{c:Ct}{env:Ev}{enc:α->D}{φ:List D->Prop} (I:List α->List D->Prop):∀ (xs:List α) (acc:List D),I xs acc ->
    (∀ x rest acc (ψ:List D->Prop),I (x::rest) acc->(∀ acc',I rest acc'->ψ acc')->g (enc x) env fun env'=>A c env' fun k=>if k=true then T c env' fun y=>acc.length<sizeLine/\ψ (acc++[y]) else ψ acc) ->
    (∀ acc,I [] acc->φ acc)->CompD g A T c env (xs.map enc) acc φ
  | [],acc,h,_,k=>k acc h
  | x::r,acc,h,s,k=>s x r acc _ h fun acc' h'=>compD_of I r acc' h' s k
theorem lrm_len {rs:List R3} (t:Tr):(lrm rs t).length<=rs.length:=by
  cases t with
  | nd s ks =>
    have h1:=on_len (fitR rs s ks.length (rmss rs ks))
    have h2:(fitR rs s ks.length (rmss rs ks)).length<=rs.length:=by
      unfold fitR
      rw[List.length_map]
      exact List.length_filter_le _ _
    exact Nat.le_trans h1 h2
theorem ok_law_head(tx:Tx K mg):Fn3 P w K mg base 1 (He.ga K "_law_head") F_lhead:=by
  obtain⟨fd,FD⟩:=tx.fd_law_head
  refine fn3 FD sc_law_head (FD.bindsN fun _ _ _ _ _ _ us hl=>match us,hl with | [_],_=>rfl) ?hn (fun cdv A outer s H E hr=>(dss_one (ds_ret (de_tup (da_cons (de_ix (dv 0) de_int) (da_cons (de_len rfl tx.no_len (da_cons (de_ix (dv 0) de_int) da_nil)) da_nil)))))) ?hT
  case hn =>
    rintro wd ds φ ε ⟨s,ks,rfl,_⟩
    rfl
  case hT =>
    rintro wd ds φ ε ⟨s,ks,rfl,q⟩
    rw[mD_nd]
    show TRet _ _ _ [.v (.tup [.str (mks s),.tup (ks.map mD)])]
    simp![]
    exact q
theorem ok_lrooms {P:Program}{w:World}{K:PySem.W.Frag}{mg:Str->Option Value}{base:Heap} (tx:Tx K mg):∀ n:Nat,Fn3 P w K mg base (5+n) (He.ga K "_law_rooms") (F_lrooms n)
  | 0=>fn_false (by rintro wd ds φ ε ⟨rs,t,_,_,_,_,h,_⟩; have:=dep_pos t; omega)
  | n+1=>by
    obtain⟨fd,FD⟩:=tx.fd_law_rooms
    have g_law_rooms:Fn3 P w K mg base (5+n) (He.ga K "_law_rooms") (F_lrooms n):=ok_lrooms tx n
    have g_law_head:=ok_law_head (P:=P) (w:=w) (base:=base) tx
    have g_law_once:=ok_law_once (P:=P) (w:=w) (base:=base) tx
    refine fn3 (k:=5+n) FD sc_law_rooms (FD.bindsN fun _ _ _ _ _ _ us hl=>match us,hl with | [_,_],_=>rfl) ?hn (fun cdv A outer s H E hr=>(dss_cons (ds_setLc (i:=2) (own:=[("_law_kid",7)]) rfl sc_law_rooms.nd rfl rfl (sw_true rfl rfl rfl (by decide +kernel)) (di_tup (de_ix (dv 1) de_int)) (blkOk_by (own:=[("_law_kid",7)]) (N:=N_law_rooms) (sc:=defScope s_law_rooms) (by decide +kernel)) (fun _ _ _ _ _=>(dg_name (i:=7) sc_law_rooms.nd rfl (Or.inl rfl))) (fun _ _ _ _ _=>dts_nil) (fun _ _ _ _ _=>(de_call g_law_rooms (hr.mono (by omega)) rfl tx.mg_law_rooms tx.kp_law_rooms takesN (da_cons (dv 0) (da_cons (dv 7) da_nil)))))
    (dss_cons (ds_own (i:=3) sc_law_rooms.nd rfl (Or.inl rfl) da_nil)
    (dss_cons (ds_for (vs:=[4,5,6]) ps3 rfl (di_list (dv 0)) (dg_tup (n:=3) rfl (dgs_cons (dg_name (i:=4) sc_law_rooms.nd rfl (Or.inl rfl)) (dgs_cons (dg_name (i:=5) sc_law_rooms.nd rfl (Or.inl rfl)) (dgs_cons (dg_name (i:=6) sc_law_rooms.nd rfl (Or.inl rfl)) dgs_nil))))
     (dss_one (ds_if (dt_bool (dw_and (dt_cmp (op_eqD hr.units) opd_eq (de_tup (da_cons (dv 4) (da_cons (de_len rfl tx.no_len (da_cons (dv 5) da_nil)) da_nil))) (de_call g_law_head (hr.mono (by omega)) rfl tx.mg_law_head tx.kp_law_head tk3 (da_cons (dv 1) da_nil)) (nomark _)) (dw_and1 (dt_val (de_callB (cr_all rfl) cd_all rfl tx.no_all (by decide +kernel) (da_cons (de_lc (own:=[("_law_kid",7),("_law_lot",8)]) rfl sc_law_rooms.nd (di_zipM rfl rfl tx.no_zip (da_cons (dv 5) (da_cons (dv 2) da_nil))) (blkOk_by (own:=[("_law_kid",7),("_law_lot",8)]) (N:=N_law_rooms) (sc:=defScope s_law_rooms) (by decide +kernel)) (fun _ _ _ _ _=>(dg_tup (n:=2) rfl (dgs_cons (dg_name (i:=7) sc_law_rooms.nd rfl (Or.inl rfl)) (dgs_cons (dg_name (i:=8) sc_law_rooms.nd rfl (Or.inl rfl)) dgs_nil)))) (fun _ _ _ _ _=>dts_nil) (fun _ _ _ _ _=>(de_cmp op_inA opd_in (dv 7) (dv 8) rfl))) da_nil))))))
     (dss_one (ds_append 3 (dv 6)))
     dss_nil)))
    (dss_frz 3 (dss_one (ds_ret (de_call g_law_once (hr.mono (by omega)) rfl tx.mg_law_once tx.kp_law_once tk3 (da_cons (dv 3) da_nil))))))))) ?hT
    case hn =>
      rintro wd ds φ ε ⟨rs,t,rfl,_⟩
      rfl
    case hT =>
      rintro wd ds φ ε ⟨rs,⟨s,ks⟩,rfl,hr,hl,⟨o1,o2,o3⟩,hd,q⟩
      rw[mD_nd]
      show TSeq _ _ _ _ [.v (.lst (rs.map rD)),.v (.tup [.str (mks s),.tup (ks.map mD)]),.no,.no,.no,.no,.no,.no,.no]
      have hL:sizeLine=16777216:=sizeLine_eq
      simp![TIzM,TIlt]
      refine compD_map (enc:=mD) (f:=fun t=>.lst ((lrm rs t).map .int)) ks [] (fun t ht acc ψ hl2 q=>?_) (by show 0+_<=_; omega) ?_
      . have hdt:t.dep<=n:=by
          have h1:=deps_le ht
          have h2:1+deps ks<=n+1:=hd
          omega
        simp![TIzM,TIlt,F_lrooms]
        exact⟨rs,rfl,t,rfl,fun a b c h=>hr _ h,hl,oks_iff.mp o3 t ht,hdt,hl2,q⟩
      rw[List.nil_append]
      intro p
      have eL:(ks.map fun t=>D.lst ((lrm rs t).map .int))=(ks.map (lrm rs)).map fun l:List Int=>D.lst (l.map .int):=by rw[List.map_map]; rfl
      rw[eL]
      generalize hlots:ks.map (lrm rs)=lots
      have hll:lots.length=ks.length:=by rw[<- hlots,List.length_map]
      refine forD_of (enc:=rD) (fun rest env=>∃ (acc:List Int) (s4 s5 s6:Sl),acc.length+rest.length<=63/\(∀ r∈rest,r∈rs)/\acc++(rest.filter (cnd s ks.length lots)).map (·.2.2)=fitR rs s ks.length lots /\
        env=[.v (.lst (rs.map rD)),.v (.tup [.str (mks s),.tup (ks.map mD)]),.v (.lst (lots.map fun l:List Int=>.lst (l.map .int))),.ol p (acc.map D.int),s4,s5,s6,.no,.no]) rs _ ⟨[],.no,.no,.no,by rw[List.length_nil]; omega,fun r hr=>hr,rfl,rfl⟩ ?_ ?_
      . rintro ⟨t,inn,rm⟩ rest env D2 hrt hnx - - ⟨acc,s4,s5,s6,h1,h2,h3,rfl⟩
        rw[List.length_cons] at h1
        have hsg:isSg t=true:=(hr _ (h2 _ List.mem_cons_self)).1
        have hil:inn.length<=3:=(hr _ (h2 _ List.mem_cons_self)).2.1
        have no:cnd s ks.length lots (t,inn,rm)=false->acc++(rest.filter (cnd s ks.length lots)).map (·.2.2)=fitR rs s ks.length lots:=fun h=>by
          rw[<- h3,List.filter_cons,if_neg (by rw[h]; decide)]
        have yes:cnd s ks.length lots (t,inn,rm)=true->(acc++[rm])++(rest.filter (cnd s ks.length lots)).map (·.2.2)=fitR rs s ks.length lots:=fun h=>by
          rw[<- h3,List.filter_cons,if_pos h,List.map_cons,List.append_assoc]
          rfl
        simp![TIzM,TIlt,rD,F_lhead]
        refine⟨s,ks,(mD_nd s ks).symm,eqF_head hsg o1 ?_⟩
        by_cases hh:t=s/\inn.length=ks.length
        . rw[decide_eq_true hh]
          refine .inr ⟨rfl,?_⟩
          rw[zipD_mm]
          refine compD_map (enc:=fun p:Int × List Int=>D.tup [.int p.1,.lst (p.2.map .int)]) (f:=fun p=>.bl (decide (p.1∈p.2))) (inn.zip lots) [] (fun z hz ac ψ hl q=>?_) (by rw[List.length_zip]; show 0+_<=_; omega) ?_
          . simp![TIzM,TIlt]
            rw[inV_int]
            exact⟨hl,q⟩
          . rw[List.nil_append]
            refine⟨(inn.zip lots).map fun p=>decide (p.1∈p.2),by rw[<- blsD_map,List.map_map]; rfl,?_⟩
            by_cases hf:false∈(inn.zip lots).map fun p=>decide (p.1∈p.2)
            . rw[if_pos hf]
              refine hnx _ ⟨acc,_,_,_,by omega,fun r hr=>h2 r (List.mem_cons_of_mem _ hr),no ?_,rfl⟩
              unfold cnd
              rw[Bool.and_eq_false_iff]
              refine .inr ?_
              obtain⟨z,hz,e⟩:=List.mem_map.mp hf
              exact List.all_eq_false.mpr ⟨z,hz,by rw[e]; decide⟩
            . rw[if_neg hf]
              refine⟨by omega,hnx _ ⟨acc++[rm],_,_,_,by rw[List.length_append,List.length_singleton]; omega,fun r hr=>h2 r (List.mem_cons_of_mem _ hr),yes ?_,by rw[List.map_append]; rfl⟩⟩
              unfold cnd
              rw[Bool.and_eq_true]
              refine⟨decide_eq_true hh,List.all_eq_true.mpr fun z hz=>?_⟩
              cases e:decide (z.1∈z.2) with
              | true=>rfl
              | false=>exact absurd (List.mem_map.mpr ⟨z,hz,e⟩) hf
        . rw[decide_eq_false hh]
          refine .inl ⟨rfl,hnx _ ⟨acc,_,_,_,by omega,fun r hr=>h2 r (List.mem_cons_of_mem _ hr),no ?_,rfl⟩⟩
          unfold cnd
          rw[decide_eq_false hh]
          rfl
      . rintro env ⟨acc,s4,s5,s6,h1,h2,h3,rfl⟩
        simp![TIzM,TIlt,F_once]
        rw[List.length_nil] at h1
        have h3:acc++[]=fitR rs s ks.length lots:=h3
        rw[List.append_nil] at h3
        refine⟨fun a _=>gd_int a,by omega,?_⟩
        rw[onD_map fun x _ y _=>eqv_int x y]
        have e:lrm rs (.nd s ks)=on acc:=by
          show on (fitR rs s ks.length (rmss rs ks))=_
          rw[h3,<- hlots,rmss_eq,fit_lots (fun t x=>(lrm_mem (rs:=rs) (t:=t) (x:=x)))]
        rw[e] at q
        exact q
theorem ok_law_rules(tx:Tx K mg):Fn3 P w K mg base 3 (He.ga K "_law_rules") (F_lrules (TT K)):=by
  obtain⟨fd,FD⟩:=tx.fd_law_rules
  have g_law_pick:=ok_pick (P:=P) (w:=w) (base:=base) tx
  have g_law_of:=ok_law_of (P:=P) (w:=w) (base:=base) tx
  have g_law_signs:=ok_law_signs (P:=P) (w:=w) (base:=base) tx
  refine fn3 FD sc_law_rules (FD.bindsN fun _ _ _ _ _ _ us hl=>match us,hl with | [_,_],_=>rfl) ?hn (fun cdv A outer s H E hr=>(dss_cons (ds_own (i:=2) sc_law_rules.nd rfl (Or.inl rfl) da_nil)
    (dss_cons (ds_for (vs:=[3]) ps3 rfl (di_range1 rfl tx.no_range (da_cons (de_add de_int (de_call g_law_pick (hr.mono (by omega)) rfl tx.mg_law_pick tx.kp_law_pick tk3 (da_cons (dv 0) (da_cons (dv 1) da_nil)))) da_nil)) (dg_name (i:=3) sc_law_rules.nd rfl (Or.inl rfl))
     (dss_cons (ds_asg (vs:=[4,5]) (de_call g_law_of (hr.mono (by omega)) rfl tx.mg_law_of tx.kp_law_of tk3 (da_cons (dv 0) (da_cons (de_call0 g_law_signs (hr.mono (by omega)) rfl tx.mg_law_signs tx.kp_law_signs tk3) da_nil))) (dg_tup (n:=2) rfl (dgs_cons (dg_name (i:=4) sc_law_rules.nd rfl (Or.inl rfl)) (dgs_cons (dg_name (i:=5) sc_law_rules.nd rfl (Or.inl rfl)) dgs_nil))))
    (dss_one (ds_append 2 (de_tup (da_cons (dv 4) (da_cons (de_callTy call_tuple_of cd_tuple rfl tx.no_tuple (by decide +kernel) (da_cons (de_lc (own:=[("_law_j",6)]) rfl sc_law_rules.nd (di_range1 rfl tx.no_range (da_cons (dv 5) da_nil)) (blkOk_by (own:=[("_law_j",6)]) (N:=N_law_rules) (sc:=defScope s_law_rules) (by decide +kernel)) (fun _ _ _ _ _=>(dg_name (i:=6) sc_law_rules.nd rfl (Or.inl rfl))) (fun _ _ _ _ _=>dts_nil) (fun _ _ _ _ _=>(de_call g_law_pick (hr.mono (by omega)) rfl tx.mg_law_pick tx.kp_law_pick takesN (da_cons (dv 0) (da_cons de_int da_nil))))) da_nil)) (da_cons (de_call g_law_pick (hr.mono (by omega)) rfl tx.mg_law_pick tx.kp_law_pick tk3 (da_cons (dv 0) (da_cons de_int da_nil))) da_nil))))))))
    (dss_frz 2 (dss_one (ds_ret (dv 2))))))) ?hT
  case hn =>
    rintro wd ds φ ε ⟨h,c,cells,m,rfl,rfl,_⟩
    rfl
  case hT =>
    rintro wd ds φ ε ⟨h,c,cells,m,rfl,rfl,h1,h30,q⟩
    show TSeq _ _ _ _ [.v (.ref h),.v (.int m),.no,.no,.no,.no,.no]
    have hL:sizeLine=16777216:=sizeLine_eq
    simp![TIzM,TIlt]
    intro p
    refine⟨h,c,cells,m,rfl,rfl,by omega,by omega,fun r r0 r1=>⟨1+r,rfl,by omega,by omega,?_⟩⟩
    refine forD_of (enc:=fun i:Nat=>D.int (i:Nat)) (fun rest env=>∃ (rs:List R3) (s3 s4 s5 s6:Sl),rs.length+rest.length=(1+r).toNat/\(∀ r∈rs,drR r)/\env=[.v (.ref h),.v (.int m),.ol p (rs.map rD),s3,s4,s5,s6]) (List.range (1+r).toNat) _ ⟨[],.no,.no,.no,.no,by simp,by simp,rfl⟩ ?_ ?_
    . rintro x rest env D2 hrt hnx - - ⟨rs,s3,s4,s5,s6,e1,e2,rfl⟩
      rw[List.length_cons] at e1
      simp![TIzM,TIlt,F_signs]
      refine⟨h,c,cells,sgL.map sgD,rfl,rfl,by decide,by decide,fun d hd=>?_⟩
      obtain⟨⟨sg,N⟩,hp,rfl⟩:=List.mem_map.mp hd
      have hN:=(sgL_ok.all _ hp).2
      have hN:N<=3:=hN
      refine⟨_,rfl,rfl,_,_,rfl,_,_,rfl,rfl,(N:Nat),rfl,by omega,by omega,?_⟩
      rw[Int.toNat_natCast]
      refine compD_of (enc:=fun i:Nat=>D.int (i:Nat)) (fun rest acc=>∃ is:List Int,acc=is.map D.int/\is.length+rest.length=N/\∀ i∈is,0<=i/\i<6) (List.range N) [] ⟨[],rfl,by simp,fun i hi=>nomatch hi⟩ ?_ ?_
      . rintro i rest acc ψ ⟨is,rfl,g1,g2⟩ k
        rw[List.length_cons] at g1
        simp![TIzM,TIlt]
        refine⟨h,c,cells,6,rfl,rfl,by decide,by decide,fun v v0 v1=>⟨by omega,k _ ⟨is++[v],by rw[List.map_append]; rfl,by rw[List.length_append,List.length_singleton]; omega,fun i hi=>?_⟩⟩⟩
        rcases List.mem_append.mp hi with z | z
        . exact g2 i z
        . rw[List.mem_singleton.mp z]
          exact⟨v0,v1⟩
      . rintro acc ⟨is,rfl,g1,g2⟩
        rw[List.length_nil,Nat.add_zero] at g1
        refine⟨h,c,cells,6,rfl,rfl,by decide,by decide,fun v v0 v1=>⟨by omega,hnx _ ⟨rs++[(sg,is,v)],_,_,_,_,by rw[List.length_append,List.length_singleton]; omega,fun r hr=>?_,by rw[List.map_append]; rfl⟩⟩⟩
        rcases List.mem_append.mp hr with z | z
        . exact e2 r z
        . rw[List.mem_singleton.mp z]
          exact⟨by rw[g1]; exact hp,g2,v0,v1⟩
    . rintro env ⟨rs,s3,s4,s5,s6,e1,e2,rfl⟩
      rw[List.length_nil] at e1
      simp![TIzM,TIlt]
      exact q rs (by intro e; rw[e] at e1; simp at e1; omega) (by omega) e2
open PySem PySem.Spec PyProof.Rows L2 L3
theorem seq_I {A B:TSD}{c:Ct}{D:EndD}{env:Ev} (I:Ev->Prop) (hA:∀ nx:Ev->Prop,(∀ e,I e->nx e)->A c {D with nx:=nx} env) (hB:∀ e,I e->B c D e):TSeq A B c D env:=hA _ hB
def zR:R3:=([122],[],7)
theorem zR_ok:okR zR:=⟨by decide +kernel,by decide,(fun i hi=>nomatch hi),by decide⟩
structure GoodR (rs:List R3):Prop where
  ok:∀ r∈rs,okR r
  ne:rs≠[]
  z:∀ r∈rs,r.1≠[122]
  len:rs.length<=12
structure GoodG (gs:List Int):Prop where
  ok:∀ g∈gs,0<=g/\g≠77
  len:gs.length<=3
theorem GoodR.m {rs:List R3}{gs:List Int} (h:GoodR rs) (g:GoodG gs):okM rs gs:=⟨h.ok,by have:=h.len; omega,by have:=g.len; omega⟩
def sclR(far:Int) (r:R3):R3:=(r.1,r.2.1.map (far * ·),far * r.2.2)
def isFar(far:Int):Prop:=far=1\/far=10 ^ 27
theorem far_pos {far:Int} (h:isFar far):0<far:=by rcases h with e | e<;>subst e<;>decide
theorem far_77 {far v:Int} (h:isFar far) (h0:0<=v) (h6:v<6):0<=far * v/\far * v≠77:=by
  rcases h with e | e<;>subst e<;>constructor<;>omega
theorem sgL_z:∀ p∈sgL,p.1≠[122]:=by decide
theorem scl_good {far:Int} (hf:isFar far) {rs:List R3} (h:∀ r∈rs,drR r) (hn:rs≠[]) (hl:(rs.length:Int)<=12):GoodR (rs.map (sclR far)):=by
  have fp:=far_pos hf
  refine⟨fun r hr=>?_,fun e=>hn (List.map_eq_nil_iff.mp e),fun r hr=>?_,by rw[List.length_map]; omega⟩
  . obtain⟨q,hq,rfl⟩:=List.mem_map.mp hr
    have hk:=(h q hq).ok
    refine⟨hk.1,by show(q.2.1.map _).length<=3; rw[List.length_map]; exact hk.2.1,fun i hi=>?_,Int.mul_nonneg (by omega) hk.2.2.2⟩
    obtain⟨j,hj,rfl⟩:=List.mem_map.mp hi
    exact Int.mul_nonneg (by omega) (hk.2.2.1 j hj)
  . obtain⟨q,hq,rfl⟩:=List.mem_map.mp hr
    exact sgL_z _ (h q hq).1
theorem sort_z {rs:List R3} (h:GoodR rs):sortR rs≠sortR (rs++[zR]):=fun e=>by
  have h1:zR∈sortR (rs++[zR]):=sortR_mem.mpr (List.mem_append_right _ List.mem_cons_self)
  rw[<- e] at h1
  exact h.z _ (sortR_mem.mp h1) rfl
theorem sort_77 {gs:List Int} (h:GoodG gs):sortI gs≠sortI (gs++[77]):=fun e=>by
  have h1:(77:Int)∈sortI (gs++[77]):=sortI_mem.mpr (List.mem_append_right _ List.mem_cons_self)
  rw[<- e] at h1
  exact(h.ok _ (sortI_mem.mp h1)).2 rfl
theorem any_rule {r:R3} (h:okR r):anyR (rD r):=by
  have hL:sizeLine=16777216:=sizeLine_eq
  refine⟨⟨by show 3<=sizeLine; omega,fun d hd=>?_⟩,fun a b c e=>?_⟩
  . rcases List.mem_cons.mp hd with e | hd
    . subst e
      exact shaped_mks (sg_asc h.1)
    . rcases List.mem_cons.mp hd with e | hd
      . subst e
        refine⟨by have:=h.2.1; rw[List.length_map]; omega,fun d hd=>?_⟩
        obtain⟨i,_,rfl⟩:=List.mem_map.mp hd
        trivial
      . rw[List.mem_singleton.mp hd]
        trivial
  . have e:D.tup [.str (mks r.1),.tup (r.2.1.map .int),.int r.2.2]=.tup [a,b,c]:=e
    injection e with e
    injection e with e _
    exact⟨_,e.symm,by rw[len_mks]; have:=(ok_sg_len h.1).2.1; omega⟩
theorem minit_good {C:Addr}{rs:List R3}{gs:List Int}{g:D}{φ:List (Str × D)->Prop}{ε:Er->Prop} (hg:g=.lst (gs.map .int)\/g=.tup (gs.map .int)) (h:∀ r∈rs,okR r) (h2:∀ i∈gs,(0:Int)<=i) (hl:rs.length<63) (hl2:gs.length<63) (q:φ (mfld rs gs)):minitF C [.lst (rs.map rD),g] φ ε :=
  ⟨_,gs.map .int,g,rfl,hg,fun d hd=>by
    obtain⟨r,hr,rfl⟩:=List.mem_map.mp hd
    exact any_rule (h r hr),fun d hd=>by
    obtain⟨i,_,rfl⟩:=List.mem_map.mp hd
    trivial,by rw[List.length_map]; exact hl,by rw[List.length_map]; exact hl2,.inl ⟨rs,gs,rfl,rfl,h,h2,q⟩⟩
/-- a value that is no rule -/
def badD(d:D):Prop:=anyR d/\isRuleB d=false/\plainD d=true
def oddD(d:D):Prop:=pl 3 d/\isRoomB d=false/\plainD d=true
def badL(z:Str):List D:=[.non,.int 3,.tup [],.tup [.str "a",.tup []],.tup [.str "A",.tup [],.int 0],.tup [.str "a",.lst [],.int 0],.tup [.str "a",.tup [],.int (-1)],.tup [.str "a",.tup [],.bl true],.tup [.str "a",.tup [.int 0,.non],.int 1],.tup [.str "f",.tup [.int 0,.int 0,.int 0,.int 0],.int 0],
  .lst [.str "a",.tup [],.int 0],.tup [.str z,.tup [.int (-1)],.int 0],.tup [.str z,.tup [],.int 0,.int 0],.tup [.str z,.tup [],.str "0"]]
def chkB(d:D):Bool:=plB 4 d&&(match d with
  | .tup [a,_,_]=>(match a with
    | .str x=>decide (x.length<=1000)
    | _=>false)
  | _=>true)&&(!isRuleB d&&plainD d)
theorem chk_bad {d:D} (h:chkB d=true):badD d:=by
  unfold chkB at h
  rw[Bool.and_eq_true,Bool.and_eq_true,Bool.and_eq_true,Bool.not_eq_true'] at h
  refine⟨⟨pl_of h.1.1,fun a b c e=>?_⟩,h.2.1,h.2.2⟩
  subst e
  have h2:=h.1.2
  cases a with
  | str x=>exact⟨x,rfl,of_decide_eq_true h2⟩
  | _=>cases h2
theorem badL_a:∀ d∈badL "a",chkB d=true:=by decide +kernel
theorem badL_f:∀ d∈badL "f",chkB d=true:=by decide +kernel
def oddL:List D:=[.non,.str "0",.bl true,.int (-1),.tup [.int 0]]
theorem oddL_ok:∀ d∈oddL,(plB 3 d&&(!isRoomB d&&plainD d))=true:=by decide +kernel
theorem odd_of {d:D} (h:d∈oddL):oddD d:=by
  have h:=oddL_ok d h
  rw[Bool.and_eq_true,Bool.and_eq_true,Bool.not_eq_true'] at h
  exact⟨pl_of h.1,h.2.1,h.2.2⟩
theorem bad_of {d:D}{z:Str} (hz:z="a"\/z="f") (h:d∈badL z):badD d:=by
  rcases hz with e | e<;>subst e
  . exact chk_bad (badL_a d h)
  . exact chk_bad (badL_f d h)
theorem plain_rules(rs:List R3):plainDs (rs.map rD)=true:=plainDs_iff.mpr fun d hd=>by
  obtain⟨r,_,rfl⟩:=List.mem_map.mp hd
  show(true&&(plainDs (r.2.1.map .int)&&(true&&true)))=true
  have e:plainDs (r.2.1.map D.int)=true:=plainDs_iff.mpr fun d hd=>by
    obtain⟨i,_,rfl⟩:=List.mem_map.mp hd
    rfl
  rw[e]
  rfl
theorem plain_ints(gs:List Int):plainDs (gs.map D.int)=true:=plainDs_iff.mpr fun d hd=>by
  obtain⟨r,_,rfl⟩:=List.mem_map.mp hd
  rfl
theorem minit_bad {C:Addr}{rl gl:List D}{φ:List (Str × D)->Prop}{ε:Er->Prop} (h:∀ d∈rl,anyR d) (h2:∀ d∈gl,pl 3 d) (hl:rl.length<63) (hl2:gl.length<63) (hb:(rl.all isRuleB&&gl.all isRoomB)=false) (q:ε ⟨C,[("word",.str "InvalidRules")]⟩):minitF C [.lst rl,.lst gl] φ ε :=
  ⟨rl,gl,_,rfl,.inl rfl,h,h2,hl,hl2,.inr ⟨hb,q⟩⟩
theorem eqM {K:PySem.W.Frag}{C:Addr} (nf:PySem.W.notFirst K C (.ref C)=true) {rs qs:List R3}{gs hs:List Int} (h1:okM rs gs) (h2:okM qs hs) {c:Ct}{φ:D->Prop} (q:φ (.bl (decide (sortR rs=sortR qs)&&decide (sortI gs=sortI hs)))):eqOwnF K C (F_meq C) false c (mchD C rs gs) (.ins C (mfld qs hs)) φ :=
  ⟨⟨_,rfl⟩,(fun e=>by cases e),nf,rs,gs,.inl ⟨qs,hs,rfl,h1,h2,_,rfl,q⟩⟩
theorem cut_bad {rs:List R3}{bad:D}{k:Nat} (hk:k<=rs.length) (hr:∀ r∈rs,okR r) (hb:badD bad):(∀ d∈(rs.map rD).take k++bad::(rs.map rD).drop k,anyR d)/\((rs.map rD).take k++bad::(rs.map rD).drop k).all isRuleB=false:=by
  refine⟨fun d hd=>?_,List.all_eq_false.mpr ⟨bad,List.mem_append_right _ List.mem_cons_self,by rw[hb.2.1]; decide⟩⟩
  have go:d∈rs.map rD->anyR d:=fun h=>by
    obtain⟨r,h1,rfl⟩:=List.mem_map.mp h
    exact any_rule (hr r h1)
  rcases List.mem_append.mp hd with z | z
  . exact go (List.mem_of_mem_take z)
  . rcases List.mem_cons.mp z with z | z
    . rw[z]; exact hb.1
    . exact go (List.mem_of_mem_drop z)
/-- what the two lambdas promise -/
def FL_r(C:Addr):TF:=fun _ ds _ ε=>∃ rs gs bad k,ds=[.lst (rs.map rD),.lst (gs.map .int),bad,.int (k:Nat)]/\k<=rs.length/\GoodR rs/\GoodG gs/\badD bad/\ε ⟨C,[("word",.str "InvalidRules")]⟩
def FL_g(C:Addr):TF:=fun _ ds _ ε=>∃ rs gs odd,ds=[.lst (rs.map rD),odd,.lst (gs.map .int)]/\GoodR rs/\GoodG gs/\oddD odd/\ε ⟨C,[("word",.str "InvalidRules")]⟩
theorem mrepr2:∀ n:Nat,n<64->n.log2<1920/\(Str.ofString "Machine(").length+(Str.ofString (n:Int).repr).length<=100/\(Str.ofString "Machine("++Str.ofString (n:Int).repr).length+(Str.ofString " rules)").length<=100:=by decide +kernel
theorem mrepr_sh:∀ n:Nat,n<64->SeqAt.shaped (.str (Str.ofString "Machine("++Str.ofString (n:Int).repr++Str.ofString " rules)"))=true:=by decide +kernel
theorem pl_rules {rs:List R3} (h:∀ r∈rs,okR r) (hl:rs.length<=100):pl 5 (.lst (rs.map rD)):=by
  have hL:sizeLine=16777216:=sizeLine_eq
  refine⟨by rw[List.length_map]; omega,fun d hd=>?_⟩
  obtain⟨r,hr,rfl⟩:=List.mem_map.mp hd
  exact(any_rule (h r hr)).1
theorem pl_ints {gs:List Int} (hl:gs.length<=100) {n:Nat}:pl (n+1) (.lst (gs.map D.int)):=by
  have hL:sizeLine=16777216:=sizeLine_eq
  refine⟨by rw[List.length_map]; omega,fun d hd=>?_⟩
  obtain⟨r,hr,rfl⟩:=List.mem_map.mp hd
  cases n<;>trivial
theorem told_pl {rs:List R3}{gs:List Int} (hr:GoodR rs) (hg:GoodG gs):pl 6 (.lst [.lst ((sortR rs).map rD),.lst ((sortI gs).map D.int),.str (Str.ofString "Machine("++Str.ofString ((sortR rs).length:Int).repr++Str.ofString " rules)")]):=by
  have hL:sizeLine=16777216:=sizeLine_eq
  have h1:=on_len rs
  have h2:=hr.len
  have h3:=hg.len
  have h4:=sortI_len gs
  have h5:=sortR_len rs
  refine⟨by show 3<=sizeLine; omega,fun d hd=>?_⟩
  simp only[List.mem_cons,List.not_mem_nil,or_false] at hd
  rcases hd with e | e | e<;>subst e
  . exact pl_rules (fun r h=>hr.ok r (sortR_mem.mp h)) (by omega)
  . exact pl_ints (by omega)
  . exact mrepr_sh _ (by omega)
theorem ok_law(tx:Tx K mg) (pf:PrgF P PySem.Challenge.pw_piecetrade_k17_machines_made_and_refused.main.file) (tbl:LamX.TabB base mg (He.codeOf K ("law",none)) (He.cT K ("law",none)).2) {fd:FuncData} (FD:FunD K "law" "law" (defArgs s_law) (defBody s_law) (defScope s_law) [] [] (He.ga K "law") fd):FnOk P w K mg base (L2C.CX P w) 201 (He.ga K "law") fd ["_law_script"] (sp_lawT K (TT K)):=by
  have xR:=x_InvalidRules (P:=P) (w:=w) (base:=base) tx pf
  have g_law_hand:=ok_law_hand (P:=P) (w:=w) (base:=base) tx
  have g_law_pick:=ok_pick (P:=P) (w:=w) (base:=base) tx
  have g_law_of:=ok_law_of (P:=P) (w:=w) (base:=base) tx
  have g_law_signs:=ok_law_signs (P:=P) (w:=w) (base:=base) tx
  have g_law_drawn:=ok_drawn (P:=P) (w:=w) (base:=base) tx 31
  have g_law_same:=ok_same (P:=P) (w:=w) (base:=base) tx 7
  have g_law_once:=ok_law_once (P:=P) (w:=w) (base:=base) tx
  have g_law_rooms:=ok_lrooms (P:=P) (w:=w) (base:=base) tx 20
  have g_law_rules:=ok_law_rules (P:=P) (w:=w) (base:=base) tx
  have g_law_tree:=ok_tree (P:=P) (w:=w) (base:=base) tx 40
  have g_law_words:=ok_words (P:=P) (w:=w) (base:=base) tx 120
  have g_Tree_init:=ok_init (P:=P) (w:=w) (base:=base) tx
  obtain⟨fdi,gi_Machine_init,bi,kwi_Machine⟩:=oko_minit (P:=P) (w:=w) (base:=base) tx xR
  have g_Machine_init:=gi_Machine_init.plain bi
  have g_Machine_rules:=ok_Machine_rules (P:=P) (w:=w) (base:=base) tx
  have g_Machine_goals:=ok_Machine_goals (P:=P) (w:=w) (base:=base) tx
  have gl_Machine_rules:=okl_Machine_rules (P:=P) (w:=w) (base:=base) tx
  have gl_Machine_goals:=okl_Machine_goals (P:=P) (w:=w) (base:=base) tx
  have g_Machine_repr:=ok_Machine__repr (P:=P) (w:=w) (base:=base) tx
  have g_Machine_eq:=ok_Machine__eq (P:=P) (w:=w) (base:=base) tx
  have g_Machine_contains:=ok_Machine__contains (P:=P) (w:=w) (base:=base) tx
  have g_Machine_rooms_of:=ok_mrooms (P:=P) (w:=w) (base:=base) tx 20
  obtain⟨fdo,go_Machine_rooms_of,kwi_rooms_of_tree⟩:=oko_mrooms (P:=P) (w:=w) (base:=base) tx
  refine FunD.okC (p := (("law" : Str), none)) FD rfl sc_law (fun vs H Q E h => ?_) fun A outer s H vs Q E hr h => ⟨_, pss_cons (ps_set (i := 1) sc_law.nd rfl (Or.inr rfl) (show DE (cx3 P w K mg base N_law "law" (defScope s_law) (He.ga K "law") (.ref (He.codeOf K ("law", none))) A outer s H E) (W3 E) _ _ from (de_call g_law_hand (hr.mono (by omega)) rfl tx.mg_law_hand tx.kp_law_hand tk3 (da_cons (dv 0) da_nil)))) (show DSs (cx3 P w K mg base N_law "law" (defScope s_law) (He.ga K "law") (.ref (He.codeOf K ("law", none))) A outer s H E) (W3 E) _ _ from (dss_cons (ds_for (vs := [2]) ps3 rfl (di_range1 rfl tx.no_range (da_cons de_int da_nil)) (dg_name (i := 2) sc_law.nd rfl (Or.inl rfl))
     (dss_cons (ds_set (i:=3) sc_law.nd rfl (Or.inr rfl) (de_call g_law_of (hr.mono (by omega)) rfl tx.mg_law_of tx.kp_law_of tk3 (da_cons (dv 1) (da_cons (de_lst (da_cons de_int (da_cons de_int (da_cons (de_pow de_int de_int) da_nil)))) da_nil))))
    (dss_cons (ds_set (i:=4) sc_law.nd rfl (Or.inr rfl) (de_lc (own:=[("_law_sign",14),("_law_rooms_here",18),("_law_room_one",19)]) rfl sc_law.nd (di_list (de_call g_law_rules (hr.mono (by omega)) rfl tx.mg_law_rules tx.kp_law_rules tk3 (da_cons (dv 1) (da_cons de_int da_nil)))) (blkOk_by (own:=[("_law_sign",14),("_law_rooms_here",18),("_law_room_one",19)]) (N:=N_law) (sc:=defScope s_law) (by decide +kernel)) (fun _ _ _ _ _=>(dg_tup (n:=3) rfl (dgs_cons (dg_name (i:=14) sc_law.nd rfl (Or.inl rfl)) (dgs_cons (dg_name (i:=18) sc_law.nd rfl (Or.inl rfl)) (dgs_cons (dg_name (i:=19) sc_law.nd rfl (Or.inl rfl)) dgs_nil))))) (fun _ _ _ _ _=>dts_nil) (fun _ _ _ _ _=>(de_tup (da_cons (dv 14) (da_cons (de_callTy call_tuple_of cd_tuple rfl tx.no_tuple (by decide +kernel) (da_cons (de_lc (own:=[("_law_room",20)]) rfl sc_law.nd (di_tup (dv 18)) (blkOk_by (own:=[("_law_room",20)]) (by kernel_rfl)) (fun _ _ _ _ _=>(dg_name (i:=20) sc_law.nd rfl (Or.inl rfl))) (fun _ _ _ _ _=>dts_nil) (fun _ _ _ _ _=>(de_mul (dv 3) (dv 20)))) da_nil)) (da_cons (de_mul (dv 3) (dv 19)) da_nil)))))))
    (dss_cons (ds_set (i:=5) sc_law.nd rfl (Or.inr rfl) (de_lc (own:=[("_law_k",8)]) rfl sc_law.nd (di_range1 rfl tx.no_range (da_cons (de_call g_law_pick (hr.mono (by omega)) rfl tx.mg_law_pick tx.kp_law_pick tk3 (da_cons (dv 1) (da_cons de_int da_nil))) da_nil)) (blkOk_by (own:=[("_law_k",8)]) (N:=N_law) (sc:=defScope s_law) (by decide +kernel)) (fun _ _ _ _ _=>(dg_name (i:=8) sc_law.nd rfl (Or.inl rfl))) (fun _ _ _ _ _=>dts_nil) (fun _ _ _ _ _=>(de_mul (dv 3) (de_call g_law_pick (hr.mono (by omega)) rfl tx.mg_law_pick tx.kp_law_pick takesN (da_cons (dv 1) (da_cons de_int da_nil)))))))
    (dss_cons (ds_set (i:=6) sc_law.nd rfl (Or.inl rfl) (de_make tx.mk_Machine g_Machine_init (hr.mono (by omega)) rfl tx.mg_Machine tk3 (da_cons (dv 4) (da_cons (dv 5) da_nil))))
    (dss_cons (ds_for (vs:=[7]) ps3 rfl (di_range1 rfl tx.no_range (da_cons de_int da_nil)) (dg_name (i:=7) sc_law.nd rfl (Or.inl rfl))
     (dss_cons (ds_if (dt_not (dt_val (de_call g_law_same (hr.mono (by omega)) rfl tx.mg_law_same tx.kp_law_same tk3 (da_cons (de_lst (da_cons (de_meth0 (dv 6) tx.cl_Machine tx.me_rules g_Machine_rules (hr.mono (by omega)) tk3) (da_cons (de_meth0 (dv 6) tx.cl_Machine tx.me_goals g_Machine_goals (hr.mono (by omega)) tk3) (da_cons (de_reprOwn ⟨tx.te_Machine_repr.1,tx.te_Machine_repr.2⟩ g_Machine_repr (hr.mono (by omega)) rfl tx.no_repr (dv 6)) da_nil)))) (da_cons (de_lst (da_cons (de_callB (cr_sortedDt hr.units) cd_sortedDt rfl tx.no_sorted (by decide +kernel) (da_cons (de_call g_law_once (hr.mono (by omega)) rfl tx.mg_law_once tx.kp_law_once tk3 (da_cons (dv 4) da_nil)) da_nil)) (da_cons (de_callB (cr_sortedDt hr.units) cd_sortedDt rfl tx.no_sorted (by decide +kernel) (da_cons (de_call g_law_once (hr.mono (by omega)) rfl tx.mg_law_once tx.kp_law_once tk3 (da_cons (dv 5) da_nil)) da_nil)) (da_cons (de_add (de_add de_str (de_callTy call_str_int cd_str rfl tx.no_str (by decide +kernel) (da_cons (de_len rfl tx.no_len (da_cons (de_call g_law_once (hr.mono (by omega)) rfl tx.mg_law_once tx.kp_law_once tk3 (da_cons (dv 4) da_nil)) da_nil)) da_nil))) de_str) da_nil)))) da_nil)))))
     (dss_one (ds_ret de_bl))
     dss_nil)
    (dss_cons (ds_ownClear (dv 6) tx.cl_Machine tx.me_rules gl_Machine_rules (hr.mono (by omega)) tk3)
    (dss_one (ds_ownApp (dv 6) tx.cl_Machine tx.me_goals gl_Machine_goals (hr.mono (by omega)) tk3 pe_int)))))
    (dss_cons (ds_for (vs:=[8]) ps3 rfl (di_range1 rfl tx.no_range (da_cons de_int da_nil)) (dg_name (i:=8) sc_law.nd rfl (Or.inl rfl))
     (dss_cons (ds_set (i:=9) sc_law.nd rfl (Or.inl rfl) (de_call g_law_drawn (hr.mono (by omega)) rfl tx.mg_law_drawn tx.kp_law_drawn tk3 (da_cons (dv 1) (da_cons (de_call0 g_law_signs (hr.mono (by omega)) rfl tx.mg_law_signs tx.kp_law_signs tk3) (da_cons (de_add de_int (de_call g_law_pick (hr.mono (by omega)) rfl tx.mg_law_pick tx.kp_law_pick tk3 (da_cons (dv 1) (da_cons de_int da_nil)))) da_nil)))))
    (dss_cons (ds_set (i:=10) sc_law.nd rfl (Or.inl rfl) (de_callB (cr_sortedDt hr.units) cd_sortedDt rfl tx.no_sorted (by decide +kernel) (da_cons (de_call g_law_rooms (hr.mono (by omega)) rfl tx.mg_law_rooms tx.kp_law_rooms tk3 (da_cons (dv 4) (da_cons (dv 9) da_nil))) da_nil)))
    (dss_cons (ds_set (i:=11) sc_law.nd rfl (Or.inl rfl) (de_call g_law_tree (hr.mono (by omega)) rfl tx.mg_law_tree tx.kp_law_tree tk3 (da_cons (dv 9) da_nil)))
    (dss_one (ds_if (dt_not (dt_val (de_call g_law_same (hr.mono (by omega)) rfl tx.mg_law_same tx.kp_law_same tk3 (da_cons (de_lst (da_cons (de_meth (dv 6) tx.cl_Machine tx.me_rooms_of g_Machine_rooms_of (hr.mono (by omega)) tk3 (da_cons (dv 11) da_nil)) (da_cons (de_methK0 (dv 6) tx.cl_Machine tx.me_rooms_of go_Machine_rooms_of kwi_rooms_of_tree (hr.mono (by omega)) tk3 (dk_cons (dv 11) dk_nil)) (da_cons (de_cmpC (op_ownIn ⟨tx.te_Machine_contains.1,tx.te_Machine_contains.2⟩ g_Machine_contains (hr.mono (by omega))) (opd_ownIn (K:=K)) (dv 11) (dv 6) rfl) da_nil)))) (da_cons (de_lst (da_cons (dv 10) (da_cons (dv 10) (da_cons (de_callB (cr_any rfl) cd_any rfl tx.no_any (by decide +kernel) (da_cons (de_lc (own:=[("_law_room",20)]) rfl sc_law.nd (di_list (dv 10)) (blkOk_by (own:=[("_law_room",20)]) (N:=N_law) (sc:=defScope s_law) (by decide +kernel)) (fun _ _ _ _ _=>(dg_name (i:=20) sc_law.nd rfl (Or.inl rfl))) (fun _ _ _ _ _=>dts_nil) (fun _ _ _ _ _=>(de_cmp op_inA opd_in (dv 20) (dv 5) rfl))) da_nil)) da_nil)))) da_nil)))))
     (dss_one (ds_ret de_bl))
     dss_nil))))))
    (dss_cons (ds_set (i:=12) sc_law.nd rfl (Or.inl rfl) (de_lst (da_cons (de_cmpC (op_ownEq tx.eq_Machine g_Machine_eq (hr.mono (by omega))) (opd_own (K:=K)) (dv 6) (de_make tx.mk_Machine g_Machine_init (hr.mono (by omega)) rfl tx.mg_Machine tk3 (da_cons (de_revL (dv 4)) (da_cons (de_callTy call_tuple_of cd_tuple rfl tx.no_tuple (by decide +kernel) (da_cons (dv 5) da_nil)) da_nil))) (nomark _)) (da_cons (de_cmpC (op_ownEq tx.eq_Machine g_Machine_eq (hr.mono (by omega))) (opd_own (K:=K)) (dv 6) (de_makeK0 tx.mk_Machine gi_Machine_init kwi_Machine (hr.mono (by omega)) rfl tx.mg_Machine tk3 (dk_cons (dv 5) (dk_cons (de_add (dv 4) (de_lst (da_cons (de_tup (da_cons de_str (da_cons (de_tup da_nil) (da_cons de_int da_nil)))) da_nil))) dk_nil))) (nomark _)) (da_cons (de_cmpC (op_ownEq tx.eq_Machine g_Machine_eq (hr.mono (by omega))) (opd_own (K:=K)) (dv 6) (de_make tx.mk_Machine g_Machine_init (hr.mono (by omega)) rfl tx.mg_Machine tk3 (da_cons (dv 4) (da_cons (de_add (dv 5) (de_lst (da_cons de_int da_nil))) da_nil))) (nomark _)) (da_cons (de_cmpC (op_ownEq tx.eq_Machine g_Machine_eq (hr.mono (by omega))) (opd_own (K:=K)) (dv 6) (dv 4) (nomark _)) da_nil))))))
    (dss_cons (ds_if (dt_not (dt_val (de_call g_law_same (hr.mono (by omega)) rfl tx.mg_law_same tx.kp_law_same tk3 (da_cons (dv 12) (da_cons (de_lst (da_cons de_bl (da_cons de_bl (da_cons de_bl (da_cons de_bl da_nil))))) da_nil)))))
     (dss_one (ds_ret de_bl))
     dss_nil)
    (dss_cons (ds_asg (vs:=[13,14]) (de_tup (da_cons (de_call g_law_pick (hr.mono (by omega)) rfl tx.mg_law_pick tx.kp_law_pick tk3 (da_cons (dv 1) (da_cons (de_add (de_len rfl tx.no_len (da_cons (dv 4) da_nil)) de_int) da_nil))) (da_cons (de_call g_law_of (hr.mono (by omega)) rfl tx.mg_law_of tx.kp_law_of tk3 (da_cons (dv 1) (da_cons (de_lst (da_cons de_str (da_cons de_str da_nil))) da_nil))) da_nil))) (dg_tup (n:=2) rfl (dgs_cons (dg_name (i:=13) sc_law.nd rfl (Or.inr rfl)) (dgs_cons (dg_name (i:=14) sc_law.nd rfl (Or.inl rfl)) dgs_nil))))
    (dss_cons (ds_set (i:=15) sc_law.nd rfl (Or.inr rfl) (de_call g_law_of (hr.mono (by omega)) rfl tx.mg_law_of tx.kp_law_of tk3 (da_cons (dv 1) (da_cons (de_lst (da_cons de_non (da_cons de_int (da_cons (de_tup da_nil) (da_cons (de_tup (da_cons de_str (da_cons (de_tup da_nil) da_nil))) (da_cons (de_tup (da_cons de_str (da_cons (de_tup da_nil) (da_cons de_int da_nil)))) (da_cons (de_tup (da_cons de_str (da_cons (de_lst da_nil) (da_cons de_int da_nil)))) (da_cons (de_tup (da_cons de_str (da_cons (de_tup da_nil) (da_cons (de_sub de_int de_int) da_nil)))) (da_cons (de_tup (da_cons de_str (da_cons (de_tup da_nil) (da_cons de_bl da_nil)))) (da_cons (de_tup (da_cons de_str (da_cons (de_tup (da_cons de_int (da_cons de_non da_nil))) (da_cons de_int da_nil)))) (da_cons (de_tup (da_cons de_str (da_cons (de_tup (da_cons de_int (da_cons de_int (da_cons de_int (da_cons de_int da_nil))))) (da_cons de_int da_nil)))) (da_cons (de_lst (da_cons de_str (da_cons (de_tup da_nil) (da_cons de_int da_nil)))) (da_cons (de_tup (da_cons (dv 14) (da_cons (de_tup (da_cons (de_sub de_int de_int) da_nil)) (da_cons de_int da_nil)))) (da_cons (de_tup (da_cons (dv 14) (da_cons (de_tup da_nil) (da_cons de_int (da_cons de_int da_nil))))) (da_cons (de_tup (da_cons (dv 14) (da_cons (de_tup da_nil) (da_cons de_str da_nil)))) da_nil))))))))))))))) da_nil))))
    (dss_cons (ds_set (i:=16) sc_law.nd rfl (Or.inr rfl) (de_call g_law_of (hr.mono (by omega)) rfl tx.mg_law_of tx.kp_law_of tk3 (da_cons (dv 1) (da_cons (de_lst (da_cons de_non (da_cons de_str (da_cons de_bl (da_cons (de_sub de_int de_int) (da_cons (de_tup (da_cons de_int da_nil)) da_nil)))))) da_nil))))
    (dss_cons (ds_set (i:=17) sc_law.nd rfl (Or.inl rfl) (de_lst (da_cons (de_lam (T:=TT K) tbl rfl List.mem_cons_self (hu_law tx) (by kernel_rfl) (by rfl)) (da_cons (de_lam (T:=TT K) tbl rfl List.mem_cons_self (hu_law tx) (by kernel_rfl) (by rfl)) da_nil))))
    (dss_one (ds_if (dt_not (dt_val (de_call g_law_same (hr.mono (by omega)) rfl tx.mg_law_same tx.kp_law_same tk3 (da_cons (de_callClo g_law_words (hr.mono (by omega)) rfl tx.mg_law_words tx.kp_law_words (da_cons (dv 17) da_nil)) (da_cons (de_mul (de_lst (da_cons (de_tup (da_cons de_str (da_cons (de_tup da_nil) da_nil))) da_nil)) de_int) da_nil)))))
     (dss_one (ds_ret de_bl))
     dss_nil)))))))))))))))
    (dss_one (ds_ret (de_and (de_cmp (op_eqD hr.units) opd_eq (de_meth (de_make tx.mk_Machine g_Machine_init (hr.mono (by omega)) rfl tx.mg_Machine tk3 (da_cons (de_lst da_nil) (da_cons (de_lst da_nil) da_nil))) tx.cl_Machine tx.me_rooms_of g_Machine_rooms_of (hr.mono (by omega)) tk3 (da_cons (de_make tx.mk_Tree g_Tree_init (hr.mono (by omega)) rfl tx.mg_Tree tk3 (da_cons de_str da_nil)) da_nil)) (de_lst da_nil) (nomark _)) (de_one (de_cmpC (op_ownNin ⟨tx.te_Machine_contains.1,tx.te_Machine_contains.2⟩ g_Machine_contains (hr.mono (by omega))) (opd_ownNin (K:=K)) (de_make tx.mk_Tree g_Tree_init (hr.mono (by omega)) rfl tx.mg_Tree tk3 (da_cons de_str da_nil)) (de_make tx.mk_Machine g_Machine_init (hr.mono (by omega)) rfl tx.mg_Machine tk3 (da_cons (de_lst da_nil) (da_cons (de_lst da_nil) da_nil))) rfl))))))),law_topT (by decide) ⟨E,h⟩ ?_ ?_⟩
  . obtain⟨a,ns,rfl,_⟩:=h
    rfl
  . intro wd a ns φ hS hl q
    exact⟨_,rfl,a,ns,rfl,hS,hl,q⟩
  . intro p c ns
    have hL:sizeLine=16777216:=sizeLine_eq
    have hB:big=1000000:=rfl
    show TSeq _ _ _ _ [.no,.v (.ref p),.no,.no,.no,.no,.no,.no,.no,.no,.no,.no,.no,.no,.no,.no,.no,.no,.no,.no,.no]
    refine seq_I (fun e=>∃ s2 s3 s4 s5 s6 s7 s8 s9 s10 s11 s12 s13 s14 s15 s16 s17 s18 s19 s20,e=[.no,.v (.ref p),s2,s3,s4,s5,s6,s7,s8,s9,s10,s11,s12,s13,s14,s15,s16,s17,s18,s19,s20]) (fun nxF hnxF=>?_) ?_
    . simp only[TFor,TIr1,TCons,TNil,TC]
      refine⟨4,rfl,by decide,by decide,?_⟩
      refine forD_of (enc:=fun i:Nat=>D.int (0+(i:Nat))) (fun _ env=>∃ s2 s3 s4 s5 s6 s7 s8 s9 s10 s11 s12 s13 s14 s15 s16 s17 s18 s19 s20,env=[.no,.v (.ref p),s2,s3,s4,s5,s6,s7,s8,s9,s10,s11,s12,s13,s14,s15,s16,s17,s18,s19,s20]) (List.range (4:Int).toNat) _ ⟨_,_,_,_,_,_,_,_,_,_,_,_,_,_,_,_,_,_,_,rfl⟩ ?_ ?_
      . rintro i0 rest env D2 - hnx - - ⟨s2,s3,s4,s5,s6,s7,s8,s9,s10,s11,s12,s13,s14,s15,s16,s17,s18,s19,s20,rfl⟩
        simp only[GName,List.set]
        generalize Sl.v (D.int (0+(i0:Int)))=sT
        refine seq_I (fun e=>∃ far:Int,isFar far/\e=[.no,.v (.ref p),sT,.v (.int far),s4,s5,s6,s7,s8,s9,s10,s11,s12,s13,s14,s15,s16,s17,s18,s19,s20]) (fun nx hx=>?_) ?_
        . simp![TIzM,TIlt,ownNinF,powF]
          refine⟨⟨by decide,by decide,by decide⟩,p,c,ns,_,rfl,rfl,by simp,by simp,fun d hd=>?_⟩
          simp only[List.mem_cons,List.not_mem_nil,or_false] at hd
          rcases hd with e | e | e<;>subst e
          . exact hx _ ⟨1,.inl rfl,rfl⟩
          . exact hx _ ⟨1,.inl rfl,rfl⟩
          . exact hx _ ⟨10 ^ 27,.inr rfl,rfl⟩
        rintro e ⟨far,hf,rfl⟩
        refine seq_I (fun e=>∃ rs:List R3,GoodR rs/\e=[.no,.v (.ref p),sT,.v (.int far),.v (.lst (rs.map rD)),s5,s6,s7,s8,s9,s10,s11,s12,s13,s14,s15,s16,s17,s18,s19,s20]) (fun nx hx=>?_) ?_
        . simp![TIzM,TIlt,ownNinF]
          refine⟨p,c,ns,12,rfl,rfl,by decide,by decide,fun rs hn hl hd=>⟨_,rfl,?_⟩⟩
          refine compD_map (enc:=rD) (f:=fun r=>rD (sclR far r)) rs [] (fun r hr acc ψ hl2 q=>?_) (by show 0+_<=_; omega) ?_
          . simp![TIzM,TIlt,ownNinF,rD]
            refine compD_map (enc:=D.int) (f:=fun i=>D.int (far * i)) r.2.1 [] (fun i hi ac ψ hl3 q=>?_) (by have:=(hd r hr).ok.2.1; show 0+_<=_; omega) ?_
            . have hi6:=(hd r hr).2.1 i hi
              simp![TIzM,TIlt,ownNinF,CMul]
              exact⟨.inr ⟨by omega,by omega⟩,hl3,q⟩
            . have h6:=(hd r hr).2.2
              refine⟨.inr ⟨by omega,by omega⟩,hl2,?_⟩
              rw[List.nil_append]
              have e:rD (sclR far r)=.tup [.str (mks r.1),.tup (r.2.1.map fun i=>.int (far * i)),.int (far * r.2.2)]:=by
                show D.tup [.str (mks r.1),.tup ((r.2.1.map (far * ·)).map .int),.int (far * r.2.2)]=_
                rw[List.map_map]
                rfl
              rw[e] at q
              exact q
          . rw[List.nil_append]
            have e:(rs.map fun r=>rD (sclR far r))=(rs.map (sclR far)).map rD:=by rw[List.map_map]; rfl
            rw[e]
            exact hx _ ⟨rs.map (sclR far),scl_good hf hd hn hl,rfl⟩
        rintro e ⟨rs,hr,rfl⟩
        refine seq_I (fun e=>∃ gs:List Int,GoodG gs/\e=[.no,.v (.ref p),sT,.v (.int far),.v (.lst (rs.map rD)),.v (.lst (gs.map .int)),s6,s7,s8,s9,s10,s11,s12,s13,s14,s15,s16,s17,s18,s19,s20]) (fun nx hx=>?_) ?_
        . simp![TIzM,TIlt,ownNinF]
          refine⟨p,c,ns,4,rfl,rfl,by decide,by decide,fun r r0 r1=>⟨r,rfl,by omega,by omega,?_⟩⟩
          refine compD_of (enc:=fun i:Nat=>D.int (i:Nat)) (fun rest acc=>∃ gs:List Int,acc=gs.map D.int/\gs.length+rest.length=r.toNat/\∀ g∈gs,0<=g/\g≠77) (List.range r.toNat) [] ⟨[],rfl,by simp,fun g hg=>nomatch hg⟩ ?_ ?_
          . rintro i rest acc ψ ⟨gs,rfl,h1,h2⟩ k
            rw[List.length_cons] at h1
            simp![TIzM,TIlt,ownNinF]
            refine⟨p,c,ns,6,rfl,rfl,by decide,by decide,fun v v0 v1=>?_⟩
            simp![TIzM,TIlt,ownNinF,CMul]
            refine⟨.inr ⟨by omega,by omega⟩,by omega,k _ ⟨gs++[far * v],by rw[List.map_append]; rfl,by rw[List.length_append,List.length_singleton]; omega,fun g hg=>?_⟩⟩
            rcases List.mem_append.mp hg with z | z
            . exact h2 g z
            . rw[List.mem_singleton.mp z]
              exact far_77 hf v0 v1
          . rintro acc ⟨gs,rfl,h1,h2⟩
            rw[List.length_nil] at h1
            exact hx _ ⟨gs,⟨h2,by omega⟩,rfl⟩
        rintro e ⟨gs,hg,rfl⟩
        have hm:=hr.m hg
        refine seq_I (fun e=>e=[.no,.v (.ref p),sT,.v (.int far),.v (.lst (rs.map rD)),.v (.lst (gs.map .int)),.v (mchD (He.ga K "Machine") rs gs),s7,s8,s9,s10,s11,s12,s13,s14,s15,s16,s17,s18,s19,s20]) (fun nx hx=>?_) ?_
        . simp![TIzM,TIlt,ownNinF]
          exact minit_good (.inl rfl) hr.ok (fun i hi=>(hg.ok i hi).1) hm.2.1 hm.2.2 (hx _ rfl)
        rintro e rfl
        have hrl:=hr.len
        have hgl:=hg.len
        have hon:=on_len rs
        have gdr:∀ (d:D) (x:List Nat) (x_1:List Int) (x_2:Int),(x,x_1,x_2)∈rs->rD (x,x_1,x_2)=d->gd d:=fun d a b c h e=>by
          subst e
          exact gd_rule (hr.ok _ h).1
        have mk1:=mfl_k (m:="rules") (rs:=rs) (gs:=gs) (by decide +kernel) (by decide +kernel)
        have mk2:=mfl_k (m:="goals") (rs:=rs) (gs:=gs) (by decide +kernel) (by decide +kernel)
        have mk3:=mfl_k (m:="rooms_of") (rs:=rs) (gs:=gs) (by decide +kernel) (by decide +kernel)
        refine seq_I (fun e=>∃ s7,e=[.no,.v (.ref p),sT,.v (.int far),.v (.lst (rs.map rD)),.v (.lst (gs.map .int)),.v (mchD (He.ga K "Machine") rs gs),s7,s8,s9,s10,s11,s12,s13,s14,s15,s16,s17,s18,s19,s20]) (fun nx hx=>?_) ?_
        . simp only[TFor,TIr1,TCons,TNil,TC]
          refine⟨2,rfl,by decide,by decide,?_⟩
          refine forD_of (enc:=fun i:Nat=>D.int (0+(i:Nat))) (fun _ env=>∃ s7,env=[.no,.v (.ref p),sT,.v (.int far),.v (.lst (rs.map rD)),.v (.lst (gs.map .int)),.v (mchD (He.ga K "Machine") rs gs),s7,s8,s9,s10,s11,s12,s13,s14,s15,s16,s17,s18,s19,s20]) (List.range (2:Int).toNat) _ ⟨_,rfl⟩ ?_ ?_
          . rintro i1 rest env D2 - hnx2 - - ⟨s7,rfl⟩
            simp only[GName,List.set]
            generalize Sl.v (D.int (0+(i1:Int)))=s7
            refine seq_I (fun e=>e=[.no,.v (.ref p),sT,.v (.int far),.v (.lst (rs.map rD)),.v (.lst (gs.map .int)),.v (mchD (He.ga K "Machine") rs gs),s7,s8,s9,s10,s11,s12,s13,s14,s15,s16,s17,s18,s19,s20]) (fun nx hx=>?_) ?_
            . refine go_else (fun ψ hψ=>?_) (hx _ rfl)
              simp![TIzM,TIlt,ownNinF,F_mrules,F_mgoals,F_mrepr,F_once]
              refine⟨_,rfl,mk1,rs,⟨gs,rfl⟩,_,rfl,mk2,rs,gs,rfl,⟨_,rfl⟩,rs,gs,rfl,hm,gdr,by omega,?_⟩
              rw[onD_map fun x _ y _=>eqv_rule x y]
              refine⟨_,rfl,ps_rules _,alike_rules _,sortable_rules _,fun d hd=>?_,fun i hi=>gd_int i,by omega,?_⟩
              . obtain⟨r,_,rfl⟩:=List.mem_map.mp hd
                have:=dep_rule r
                omega
              rw[onD_map fun x _ y _=>eqv_int x y]
              refine⟨_,rfl,ps_ints _,alike_ints _,sortable_ints _,fun d hd=>?_,gdr,by omega,?_⟩
              . obtain⟨r,_,rfl⟩:=List.mem_map.mp hd
                exact Nat.zero_le _
              obtain⟨n1,n2,n3⟩:=mrepr2 (sortR rs).length (by rw[sortR_len]; omega)
              rw[List.length_map,<- sortR_len]
              have e1:((on rs).map rD).mergeSort (PySem.W.dataLe false toP)=(sortR rs).map rD:=sortR_D rs
              have e2:((on gs).map D.int).mergeSort (PySem.W.dataLe false toP)=(sortI gs).map D.int:=sortI_D gs
              rw[e1,e2]
              have n2:(Str.ofString "Machine(").length+(Str.ofString (toString ((sortR rs).length:Int))).length<=100:=n2
              have n3:(Str.ofString "Machine("++Str.ofString (toString ((sortR rs).length:Int))).length+(Str.ofString " rules)").length<=100:=n3
              refine⟨n1,by omega,by omega,_,rfl,told_pl hr hg,.inr ⟨rfl,hψ⟩⟩
            rintro e rfl
            refine seq_I (fun e=>e=[.no,.v (.ref p),sT,.v (.int far),.v (.lst (rs.map rD)),.v (.lst (gs.map .int)),.v (mchD (He.ga K "Machine") rs gs),s7,s8,s9,s10,s11,s12,s13,s14,s15,s16,s17,s18,s19,s20]) (fun nx hx=>?_) ?_
            . simp![TIzM,TIlt,ownNinF,FO_mrules]
              exact⟨_,rfl,mk1,rs,⟨gs,rfl⟩,by rw[sortR_len]; omega,hx _ rfl⟩
            rintro e rfl
            simp![TIzM,TIlt,ownNinF,FO_mgoals]
            exact⟨_,rfl,mk2,rs,gs,rfl,by have:=sortI_len gs; omega,hnx2 _ ⟨_,rfl⟩⟩
          . rintro env ⟨s7,rfl⟩
            exact hx _ ⟨_,rfl⟩
        rintro e ⟨s7,rfl⟩
        refine seq_I (fun e=>∃ s8 s9 s10 s11,e=[.no,.v (.ref p),sT,.v (.int far),.v (.lst (rs.map rD)),.v (.lst (gs.map .int)),.v (mchD (He.ga K "Machine") rs gs),s7,s8,s9,s10,s11,s12,s13,s14,s15,s16,s17,s18,s19,s20]) (fun nx hx=>?_) ?_
        . simp only[TFor,TIr1,TCons,TNil,TC]
          refine⟨6,rfl,by decide,by decide,?_⟩
          refine forD_of (enc:=fun i:Nat=>D.int (0+(i:Nat))) (fun _ env=>∃ s8 s9 s10 s11,env=[.no,.v (.ref p),sT,.v (.int far),.v (.lst (rs.map rD)),.v (.lst (gs.map .int)),.v (mchD (He.ga K "Machine") rs gs),s7,s8,s9,s10,s11,s12,s13,s14,s15,s16,s17,s18,s19,s20]) (List.range (6:Int).toNat) _ ⟨_,_,_,_,rfl⟩ ?_ ?_
          . rintro i1 rest env D2 - hnx2 - - ⟨s8,s9,s10,s11,rfl⟩
            simp only[GName,List.set]
            generalize Sl.v (D.int (0+(i1:Int)))=s8
            refine seq_I (fun e=>∃ t:Tr,t.ok/\t.siz<=7/\e=[.no,.v (.ref p),sT,.v (.int far),.v (.lst (rs.map rD)),.v (.lst (gs.map .int)),.v (mchD (He.ga K "Machine") rs gs),s7,s8,.v (mD t),s10,s11,s12,s13,s14,s15,s16,s17,s18,s19,s20]) (fun nx hx=>?_) ?_
            . simp![TIzM,TIlt,ownNinF,F_signs]
              refine⟨p,c,ns,7,rfl,rfl,by decide,by decide,fun r r0 r1=>?_⟩
              simp![TIzM,TIlt,ownNinF]
              refine⟨p,c,ns,1+r,sgL,rfl,rfl,sgL_ok,by omega,?_,by omega,fun t ok0 z0 _=>hx _ ⟨t,ok0,by omega,rfl⟩⟩
              show 1+r<=((31:Nat):Int)
              omega
            rintro e ⟨t,ht,hz,rfl⟩
            have hdt:=dep_siz t
            have hll:=lrm_len (rs:=rs) t
            have hrl2:=rms_len (rs:=rs) t
            refine seq_I (fun e=>e=[.no,.v (.ref p),sT,.v (.int far),.v (.lst (rs.map rD)),.v (.lst (gs.map .int)),.v (mchD (He.ga K "Machine") rs gs),s7,s8,.v (mD t),.v (.lst ((rms rs t).map .int)),s11,s12,s13,s14,s15,s16,s17,s18,s19,s20]) (fun nx hx=>?_) ?_
            . simp![TIzM,TIlt,ownNinF,F_lrooms]
              refine⟨rs,rfl,t,rfl,fun a b c h=>hr.ok _ h,by omega,ht,by omega,?_⟩
              refine⟨_,rfl,ps_ints _,alike_ints _,sortable_ints _,fun d hd=>?_,?_⟩
              . obtain⟨r,_,rfl⟩:=List.mem_map.mp hd
                exact Nat.zero_le _
              have e2:((lrm rs t).map D.int).mergeSort (PySem.W.dataLe false toP)=(rms rs t).map D.int:=by
                rw[<- lrm_sort]
                exact sortI_of lrm_on fun z=>Iff.rfl
              rw[e2]
              exact hx _ rfl
            rintro e rfl
            refine seq_I (fun e=>e=[.no,.v (.ref p),sT,.v (.int far),.v (.lst (rs.map rD)),.v (.lst (gs.map .int)),.v (mchD (He.ga K "Machine") rs gs),s7,s8,.v (mD t),.v (.lst ((rms rs t).map .int)),.v (trD (He.ga K "Tree") t),s12,s13,s14,s15,s16,s17,s18,s19,s20]) (fun nx hx=>?_) ?_
            . simp![TIzM,TIlt,ownNinF,F_mtree]
              exact⟨t,rfl,ht,by omega,by have:=txt9 ht; omega,hx _ rfl⟩
            rintro e rfl
            refine go_else (fun ψ hψ=>?_) (hnx2 _ ⟨_,_,_,_,rfl⟩)
            simp![TIzM,TIlt,ownNinF,F_mrooms,F_mhas]
            refine⟨_,rfl,mk3,rs,gs,rfl,t,rfl,hm,ht,by omega,_,rfl,mk3,rs,gs,rfl,t,rfl,hm,ht,by omega,⟨_,rfl⟩,rs,gs,rfl,t,rfl,hm,ht,by omega,?_⟩
            refine compD_map (enc:=D.int) (f:=fun x=>.bl (decide (x∈gs))) (rms rs t) [] (fun x hx acc ψ hl q=>?_) (by show 0+_<=_; omega) ?_
            . simp![TIzM,TIlt,ownNinF]
              rw[inV_int]
              exact⟨hl,q⟩
            . rw[List.nil_append]
              refine⟨(rms rs t).map fun x=>decide (x∈gs),by rw[<- blsD_map,List.map_map]; rfl,?_⟩
              have e:((rms rs t).map fun x=>decide (x∈gs)).any id=(rms rs t).any fun x=>decide (x∈gs):=by rw[List.any_map]; rfl
              rw[e]
              refine⟨_,rfl,⟨by show 3<=sizeLine; omega,fun d hd=>?_⟩,.inr ⟨rfl,hψ⟩⟩
              simp only[List.mem_cons,List.not_mem_nil,or_false] at hd
              rcases hd with e | e | e<;>subst e
              . exact pl_ints (by omega)
              . exact pl_ints (by omega)
              . trivial
          . rintro env ⟨s8,s9,s10,s11,rfl⟩
            exact hx _ ⟨_,_,_,_,rfl⟩
        rintro e ⟨s8,s9,s10,s11,rfl⟩
        refine seq_I (fun e=>e=[.no,.v (.ref p),sT,.v (.int far),.v (.lst (rs.map rD)),.v (.lst (gs.map .int)),.v (mchD (He.ga K "Machine") rs gs),s7,s8,s9,s10,s11,.v (.lst [.bl true,.bl false,.bl false,.bl false]),s13,s14,s15,s16,s17,s18,s19,s20]) (fun nx hx=>?_) ?_
        . simp![TIzM,TIlt,ownNinF]
          have e1:(rs.map rD).reverse=rs.reverse.map rD:=by rw[List.map_reverse]
          rw[e1]
          have hzl:(rs++[zR]).length<63:=by rw[List.length_append,List.length_singleton]; omega
          have hz7:(gs++[77]).length<63:=by rw[List.length_append,List.length_singleton]; omega
          have okz:∀ r∈rs++[zR],okR r:=fun r h=>by
            rcases List.mem_append.mp h with z | z
            . exact hr.ok r z
            . rw[List.mem_singleton.mp z]; exact zR_ok
          have ok7:∀ i∈gs++[77],(0:Int)<=i:=fun i h=>by
            rcases List.mem_append.mp h with z | z
            . exact(hg.ok i z).1
            . rw[List.mem_singleton.mp z]; decide
          have okv:∀ r∈rs.reverse,okR r:=fun r h=>hr.ok r (List.mem_reverse.mp h)
          refine minit_good (.inr rfl) okv (fun i hi=>(hg.ok i hi).1) (by rw[List.length_reverse]; exact hm.2.1) hm.2.2 ?_
          refine eqM tx.nf_Machine_Machine hm ⟨okv,by rw[List.length_reverse]; exact hm.2.1,hm.2.2⟩ ?_
          refine⟨by omega,?_⟩
          have e2:rs.map rD++[D.tup [.str (Str.ofString "z"),.tup [],.int 7]]=(rs++[zR]).map rD:=by
            rw[List.map_append]
            have e9:(Str.ofString "z")=mks [122]:=by decide +kernel
            rw[e9]
            rfl
          rw[e2]
          refine minit_good (.inl rfl) okz (fun i hi=>(hg.ok i hi).1) hzl hm.2.2 ?_
          refine eqM tx.nf_Machine_Machine hm ⟨okz,hzl,hm.2.2⟩ ?_
          refine⟨by omega,?_⟩
          have e3:gs.map D.int++[D.int 77]=(gs++[77]).map D.int:=by rw[List.map_append]; rfl
          rw[e3]
          refine minit_good (.inl rfl) hr.ok ok7 hm.2.1 hz7 ?_
          refine eqM tx.nf_Machine_Machine hm ⟨hm.1,hm.2.1,hz7⟩ ?_
          refine⟨⟨_,rfl⟩,(fun e=>by cases e),tx.nf_Machine_list,rs,gs,.inr ⟨_,rfl,_,rfl,?_⟩⟩
          have f1:sortR rs=sortR rs.reverse:=sortR_ext fun z=>List.mem_reverse.symm
          rw[decide_eq_true f1,decide_eq_false (sort_z hr),decide_eq_true (rfl:sortR rs=sortR rs),decide_eq_true (rfl:sortI gs=sortI gs),decide_eq_false (sort_77 hg)]
          exact hx _ rfl
        rintro e rfl
        refine seq_I (fun e=>e=[.no,.v (.ref p),sT,.v (.int far),.v (.lst (rs.map rD)),.v (.lst (gs.map .int)),.v (mchD (He.ga K "Machine") rs gs),s7,s8,s9,s10,s11,.v (.lst [.bl true,.bl false,.bl false,.bl false]),s13,s14,s15,s16,s17,s18,s19,s20]) (fun nx hx=>?_) ?_
        . refine go_else (fun ψ hψ=>?_) (hx _ rfl)
          simp![TIzM,TIlt,ownNinF]
          exact⟨_,rfl,pl_of (by decide +kernel),.inr ⟨rfl,hψ⟩⟩
        rintro e rfl
        refine seq_I (fun e=>∃ (k:Nat) (sg:Str),k<=rs.length/\(sg="a"\/sg="f")/\e=[.no,.v (.ref p),sT,.v (.int far),.v (.lst (rs.map rD)),.v (.lst (gs.map .int)),.v (mchD (He.ga K "Machine") rs gs),s7,s8,s9,s10,s11,.v (.lst [.bl true,.bl false,.bl false,.bl false]),.v (.int (k:Nat)),.v (.str sg),s15,s16,s17,s18,s19,s20]) (fun nx hx=>?_) ?_
        . simp![TIzM,TIlt,ownNinF]
          refine⟨p,c,ns,_,rfl,rfl,by omega,by omega,fun r r0 r1=>?_⟩
          refine⟨p,c,ns,_,rfl,rfl,by simp,by simp,fun d hd=>?_⟩
          simp only[List.mem_cons,List.not_mem_nil,or_false] at hd
          have er:r=((r.toNat:Nat):Int):=by omega
          rw[er]
          rcases hd with e | e<;>subst e
          . exact hx _ ⟨r.toNat,_,by omega,.inl rfl,rfl⟩
          . exact hx _ ⟨r.toNat,_,by omega,.inr rfl,rfl⟩
        rintro e ⟨k,sg,hk,hsg,rfl⟩
        refine seq_I (fun e=>∃ bad:D,badD bad/\e=[.no,.v (.ref p),sT,.v (.int far),.v (.lst (rs.map rD)),.v (.lst (gs.map .int)),.v (mchD (He.ga K "Machine") rs gs),s7,s8,s9,s10,s11,.v (.lst [.bl true,.bl false,.bl false,.bl false]),.v (.int (k:Nat)),.v (.str sg),.v bad,s16,s17,s18,s19,s20]) (fun nx hx=>?_) ?_
        . simp![TIzM,TIlt,ownNinF]
          refine⟨by omega,p,c,ns,_,rfl,rfl,by simp,by simp,fun d hd=>hx _ ⟨d,bad_of hsg hd,rfl⟩⟩
        rintro e ⟨bad,hbad,rfl⟩
        refine seq_I (fun e=>∃ odd:D,oddD odd/\e=[.no,.v (.ref p),sT,.v (.int far),.v (.lst (rs.map rD)),.v (.lst (gs.map .int)),.v (mchD (He.ga K "Machine") rs gs),s7,s8,s9,s10,s11,.v (.lst [.bl true,.bl false,.bl false,.bl false]),.v (.int (k:Nat)),.v (.str sg),.v bad,.v odd,s17,s18,s19,s20]) (fun nx hx=>?_) ?_
        . simp![TIzM,TIlt,ownNinF]
          exact⟨p,c,ns,_,rfl,rfl,by simp,by simp,fun d hd=>hx _ ⟨d,odd_of hd,rfl⟩⟩
        rintro e ⟨odd,hodd,rfl⟩
        have pr:=plain_rules rs
        have pg:=plain_ints gs
        have erD:∀ l:List D,(∀ d∈l,plainD d=true)->plainDs l=true:=fun l h=>plainDs_iff.mpr h
        refine seq_I (fun e=>∃ d1 d2 La Lb,e=[.no,.v (.ref p),sT,.v (.int far),.v (.lst (rs.map rD)),.v (.lst (gs.map .int)),.v (mchD (He.ga K "Machine") rs gs),s7,s8,s9,s10,s11,.v (.lst [.bl true,.bl false,.bl false,.bl false]),.v (.int (k:Nat)),.v (.str sg),.v bad,.v odd,.v (.lst [d1,d2]),s18,s19,s20]/\CloD (mkrOf (cx3 P w K mg base N_law "law" (defScope s_law) (He.ga K "law") (.ref (He.codeOf K ("law",none))) A outer s H E)) e d1 (.clo La [.lst (rs.map rD),.lst (gs.map .int),bad,.int (k:Nat)])/\CloD (mkrOf (cx3 P w K mg base N_law "law" (defScope s_law) (He.ga K "law") (.ref (He.codeOf K ("law",none))) A outer s H E)) e d2 (.clo Lb [.lst (rs.map rD),odd,.lst (gs.map .int)]) /\
            LamF P w K mg base 120 La (FL_r (He.ga K "InvalidRules"))/\LamF P w K mg base 120 Lb (FL_g (He.ga K "InvalidRules"))) (fun nx hx=>?_) ?_
        . refine⟨hwT_wdt,hwT_wdt,(show 2<=sizeLine by omega),hx _ ⟨_,_,_,_,rfl,⟨_,[4,5,15,13],rfl,rfl,by kernel_rfl,by kernel_rfl,rfl,⟨_,_,rfl,rfl,_,_,rfl,rfl,_,_,rfl,rfl,_,_,rfl,rfl,rfl⟩,?_⟩,⟨_,[4,16,5],rfl,rfl,by kernel_rfl,by kernel_rfl,rfl,⟨_,_,rfl,rfl,_,_,rfl,rfl,_,_,rfl,rfl,rfl⟩,?_⟩,
            lamF (k:=119) (lamK_by (by kernel_rfl)) (fun _ _ _ _ _=>rfl) (fun cl f c' A outer s H E hr=>(de_make tx.mk_Machine g_Machine_init (hr.mono (by omega)) rfl tx.mg_Machine tkL (da_cons (de_add (de_add (de_slice (dv 0) do_none (do_some (dv 3))) (de_lst (da_cons (dv 2) da_nil))) (de_slice (dv 0) (do_some (dv 3)) do_none)) (da_cons (dv 1) da_nil)))) ?_,lamF (k:=119) (lamK_by (by kernel_rfl)) (fun _ _ _ _ _=>rfl) (fun cl f c' A outer s H E hr=>(de_make tx.mk_Machine g_Machine_init (hr.mono (by omega)) rfl tx.mg_Machine tkL (da_cons (dv 0) (da_cons (de_add (dv 2) (de_lst (da_cons (dv 1) da_nil))) da_nil)))) ?_⟩⟩
          . show(plainDs _&&(plainDs _&&(plainD bad&&(true&&true))))=true
            rw[pr,pg,hbad.2.2]
            rfl
          . show(plainDs _&&(plainD odd&&(plainDs _&&true)))=true
            rw[pr,pg,hodd.2.2]
            rfl
          . rintro wd ds φ ε ⟨rs,gs,bad,k,rfl,hk,hr,hg,hb,q⟩
            refine⟨?_,?_⟩
            . show(plainDs _&&(plainDs _&&(plainD bad&&(true&&true))))=true
              rw[plain_rules,plain_ints,hb.2.2]
              rfl
            . have hrl:=hr.len
              have hgl:=hg.len
              simp![TIzM,TIlt,ownNinF,TSlS]
              rw[cut_lo (by rw[List.length_map]; exact hk),cut_hi (by rw[List.length_map]; exact hk)]
              obtain⟨cb1,cb2⟩:=cut_bad hk hr.ok hb
              have l1:((rs.map rD).take k).length<=rs.length:=by rw[List.length_take,List.length_map]; omega
              have l2:((rs.map rD).drop k).length<=rs.length:=by rw[List.length_drop,List.length_map]; omega
              refine⟨by omega,by omega,minit_bad cb1 (fun d hd=>?_) (by rw[List.length_append,List.length_cons]; omega) (by rw[List.length_map]; omega) (by rw[cb2]; rfl) q⟩
              obtain⟨i,_,rfl⟩:=List.mem_map.mp hd
              trivial
          . rintro wd ds φ ε ⟨rs,gs,odd,rfl,hr,hg,ho,q⟩
            refine⟨?_,?_⟩
            . show(plainDs _&&(plainD odd&&(plainDs _&&true)))=true
              rw[plain_rules,plain_ints,ho.2.2]
              rfl
            . have hrl:=hr.len
              have hgl:=hg.len
              simp![TIzM,TIlt,ownNinF]
              refine⟨by omega,minit_bad (fun d hd=>?_) (fun d hd=>?_) (by rw[List.length_map]; omega) (by rw[List.length_append,List.length_map,List.length_singleton]; omega) ?_ q⟩
              . obtain⟨r,h1,rfl⟩:=List.mem_map.mp hd
                exact any_rule (hr.ok r h1)
              . rcases List.mem_append.mp hd with z | z
                . obtain⟨i,_,rfl⟩:=List.mem_map.mp z
                  trivial
                . rw[List.mem_singleton.mp z]; exact ho.1
              . rw[Bool.and_eq_false_iff]
                exact .inr (List.all_eq_false.mpr ⟨odd,List.mem_append_right _ List.mem_cons_self,by rw[ho.2.1]; decide⟩)
        rintro e ⟨d1,d2,La,Lb,rfl,C1,C2,F1,F2⟩
        generalize mkrOf (cx3 P w K mg base N_law "law" (defScope s_law) (He.ga K "law") (.ref (He.codeOf K ("law",none))) A outer s H E)=MM at C1 C2 ⊢
        refine go_else (fun ψ hψ=>?_) (hnx _ ⟨_,_,_,_,_,_,_,_,_,_,_,_,_,_,_,_,_,_,_,rfl⟩)
        have sh0:SeqAt.shaped (.str (Str.ofString "InvalidRules"))=true:=by decide +kernel
        refine⟨_,rfl,[.lst [.clo La [.lst (rs.map rD),.lst (gs.map .int),bad,.int (k:Nat)],.clo Lb [.lst (rs.map rD),odd,.lst (gs.map .int)]]],⟨_,_,rfl,⟨_,rfl,_,_,rfl,C1,_,_,rfl,C2,rfl⟩,rfl⟩,[(La,[.lst (rs.map rD),.lst (gs.map .int),bad,.int (k:Nat)]),(Lb,[.lst (rs.map rD),odd,.lst (gs.map .int)])],(fun _=>.tup [.str "InvalidRules",.tup []]),rfl,(show 2<=1000 by decide),fun q hq ψ hψ=>?_,rfl,(show 0<=sizeLine by omega),(show 2<=sizeLine by omega),(show 1<=sizeLine by omega),by decide,by decide,(show 1 * 2<=sizeLine by omega),.lst [.tup [.str "InvalidRules",.tup []],.tup [.str "InvalidRules",.tup []]],rfl,pl_of (by decide +kernel),true,rfl,hψ⟩
        simp only[List.mem_cons,List.not_mem_nil,or_false] at hq
        rcases hq with e | e<;>subst e
        . exact⟨_,_,_,rfl,F1,rs,gs,bad,k,rfl,hk,hr,hg,hbad,_,_,isErr_InvalidRules,hψ⟩
        . exact⟨_,_,_,rfl,F2,rs,gs,odd,rfl,hr,hg,hodd,_,_,isErr_InvalidRules,hψ⟩
      . rintro env ⟨s2,s3,s4,s5,s6,s7,s8,s9,s10,s11,s12,s13,s14,s15,s16,s17,s18,s19,s20,rfl⟩
        exact hnxF _ ⟨_,_,_,_,_,_,_,_,_,_,_,_,_,_,_,_,_,_,_,rfl⟩
    rintro e ⟨s2,s3,s4,s5,s6,s7,s8,s9,s10,s11,s12,s13,s14,s15,s16,s17,s18,s19,s20,rfl⟩
    have wA:(Str.ofString "a":Str)=mks [97]:=by decide +kernel
    simp![TIzM,TIlt,ownNinF]
    have okA:(Tr.nd [97] []).ok:=⟨by decide +kernel,by decide,trivial⟩
    have ok0:okM [] []:=⟨(fun r hr=>nomatch hr),(by decide),(by decide)⟩
    have rm0:rms [] (Tr.nd [97] [])=[]:=by
      have h:=rms_len (rs:=[]) (Tr.nd [97] [])
      exact List.eq_nil_of_length_eq_zero (Nat.le_zero.mp h)
    have goM:∀ φ:List (Str × D)->Prop,φ (mfld [] [])->minitF (He.ga K "InvalidRules") [.lst [],.lst []] φ fun _=>False:=fun φ q=>minit_good (rs:=[]) (gs:=[]) (.inl rfl) (fun r hr=>nomatch hr) (fun i hi=>nomatch hi) (by decide) (by decide) q
    have goT:∀ φ:List (Str × D)->Prop,φ ((Tr.nd [97] []).fld (He.ga K "Tree"))->F_init (He.ga K "Tree") (hwT (TT K) p c ns) [.str (Str.ofString "a")] φ fun _=>False:=fun φ q=>⟨[97],[],by rw[wA]; rfl,okA,by show 1<=big; omega,q⟩
    refine goM _ ⟨mfl_k (by decide +kernel) (by decide +kernel),goT _ ?_⟩
    refine⟨[],[],Tr.nd [97] [],by rw[<- trD_ins]; rfl,ok0,okA,by decide,?_⟩
    rw[rm0]
    refine eqF_ints (a:=[]) (b:=[]) ⟨rfl,goT _ (goM _ ⟨[],[],Tr.nd [97] [],by rw[<- trD_ins]; rfl,ok0,okA,by decide,?_⟩)⟩
    rw[rm0]
    rfl
end K17
open PySem PySem.W PySem.Calls PyProof.Rows
theorem PySem.Challenge.cw_piecetrade_k17_machines_made_and_refused_holds : PySem.Challenge.rw_piecetrade_k17_machines_made_and_refused.Holds := by
  w_on; o_law
  refine HandSHeadRun.head_any (r:=OpenLaw.row PySem.Challenge.rw_piecetrade_k17_machines_made_and_refused) (q:=view (OpenLaw.row PySem.Challenge.rw_piecetrade_k17_machines_made_and_refused).prog [40]) (H:=K17.hk) (ob:=K17.ob) (M:=6000) (loose:=K17.loose) (d:=HandSHeadRun.topDef (OpenLaw.row PySem.Challenge.rw_piecetrade_k17_machines_made_and_refused).prog 40) (kwd:=[]) K17.ob_eq
    (by kernel_rfl) (fun s=>by kernel_rfl) K17.run (by kernel_rfl) (by kernel_rfl) (by kernel_rfl) (by rfl) (by first | assumption | decide +kernel) (by decide +kernel) ⟨rfl,rfl,rfl,rfl,rfl,by decide +kernel⟩ ?hw ?hc
  case hw=>w_witness2
  case hc =>
    refine LamX.walk_ofTsE (l:=PySem.Challenge.rw_piecetrade_k17_machines_made_and_refused) (n:=63) (k:=201) (x:="_law_script") (CX:=fun w=>L2C.CX (PySem.Challenge.rw_piecetrade_k17_machines_made_and_refused).prog w) rfl (by decide) (by kernel_rfl) ⟨rfl,by decide,by decide⟩ ?F (fun _ _ _ _ _ z=>L3.cx_no z)
    intro w mg fa h Y G hmg0
    obtain⟨K,KX,c0⟩:=Y
    have tx:=K17.tx_of KX G c0
    have hmg:mg ("law":PySem.Str)=some (.ref fa):=by
      have e:(HandSHeadRun.topDef (OpenLaw.row PySem.Challenge.rw_piecetrade_k17_machines_made_and_refused).prog 40).name=("law":PySem.Str):=by kernel_rfl
      rw[<- e]
      exact hmg0
    have e:=hmg.symm.trans tx.mg_law
    cases e
    obtain⟨fd,FD⟩:=tx.fd_law
    have b:=L2.FunD.bindsA (ps:=["_law_script"]) FD fun _ _ _ _ _ _ us hl=>match us,hl with | [_],_=>rfl
    have pf:L3.PrgF (PySem.Challenge.rw_piecetrade_k17_machines_made_and_refused).prog PySem.Challenge.pw_piecetrade_k17_machines_made_and_refused.main.file:=⟨beq_self_eq_true _,by kernel_rfl⟩
    refine⟨K,KX,fd,[He.cT K ("law",none)],L3.sp_lawT K (K17.TT K),fun p hp=>?_,fun p hp=>?_,fun p hp=>?_,fun s v=>b s [v] rfl,fun H a ns hl _ hH hS=>⟨a,ns,rfl,fun p hp=>?_,hS,hl,fun _=>rfl⟩,fun base _ _ tb=>K17.ok_law tx pf (tb _ List.mem_cons_self) FD⟩
    . cases List.mem_singleton.mp hp
      exact c0.empty _ List.mem_cons_self
    . cases List.mem_singleton.mp hp
      exact c0.out _ List.mem_cons_self
    . cases List.mem_singleton.mp hp
      exact PySem.W.codeHd_of_K KX (c0.hd _ List.mem_cons_self)
    . cases List.mem_singleton.mp hp
      exact hH _ List.mem_cons_self
