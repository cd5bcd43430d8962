import PyProof.Rows.All
import Wide.All
import OpenK.AllK
import Wide.FinOn
import HandS.ExcInit
import KE.KExcSuper
import KE.KSuper
import PyProof.P3Statements
import PyProof.ReprReads
import HandS.Text
import KE.SortData
import HandS.ForMost
import HandS.ForExc
import HandS.TryMany
import HandS.Wide
import HandS.IsInst
import HandS.Zip
import HandS.TupAny
import HandS.SortInts
import HandS.Flow
import HandS.Style
import HandS.WordsExc
import HandS.Ends
import HandS.TupMul
import HandS.TupLe
import HandS.Deep
import HandS.Conv
import PyProof.ListRange
import HandS.ExcValue
import HandS.ExcOwn
import HandS.More
import HandS.WordsDict
import HandS.ExcIs
import HandS.ExcField
import HandS.SetFor
import KE.GoesEnum
import KE.GoesZip
import HandS.WideMore
import KE.KExcIs
import HandS.Dict
import PyProof.FitsInt
import PyProof.Rows.RegStrFacts
import PyProof.StrLawsRepr
import PySem.Challenge.RW_risesonce_k70_whole_products_and_sums_of
set_option Elab.async false
set_option autoImplicit false
set_option linter.all false
set_option maxRecDepth 100000
set_option maxHeartbeats 4000000
/-! an exception's class over ValueError whose __init__ says super().__init__(x) and stores x: its promise -/
namespace Pd
open PySem PySem.Spec PyProof.Rows L2
/-- what such an __init__ does -/
def spSI (C : Addr) (fld : Str) : Sp := fun vs H Q _ => ∃ (a : Addr) (y : V), vs = [.ref a, y] ∧ H a = some (exo a C none) ∧ ∀ dx, H dx = none → dx ≠ a → Q .non (upd (upd H dx (exd dx [(fld, y)])) a (exo a C (some dx)))
section
variable {P : Program} {w : World} {A : Around} {E : Value → Shared → Prop} {h : Heap} {g : Array GenState} {d : Drawn} {t : Nat} {os : OsState} {K : PySem.W.Frag}
/-- the bound __init__ of ValueError, called -/
theorem mw_call {C u e t0 : Addr} {us : List Value} {Q : Value → Shared → Prop} (T : OexC K C) (X : K.In h) (he : h.get? e = some (PySem.HandSPX.excO C t0)) (hu : h.get? u = some (PySem.W.kxs_mw "ValueError.__init__" e)) (hz : us.length ≤ sizeLine)
    (hq : ∀ h2 t2, (∀ b o, b ≠ e → h.get? b = some o → h2.get? b = some o) → h2.get? e = some (PySem.HandSPX.excO C t2) → Q .none ⟨h2, g, d, t, os⟩) :
    wpAny (model P w) A (call (.ref u) us) Q E ⟨h, g, d, t, os⟩ := by
  obtain ⟨nm, qn, N, bs, bm, sn, sub, ab, col, dd, k0, k1, k2, k3, k5, hC, hbm⟩ := T.cls
  refine wpAny_call (codeAny_of_tree ?_)
  show wpAny _ A.in1 (callAny (.ref u) ⟨us, []⟩) _ _ _
  simp only [callAny]
  refine wpAny_bind (wpAny_load hu ?_)
  have c1 : (Value.type "method-wrapper" == Value.type "method" || Value.type "method-wrapper" == Value.type "builtin_function_or_method" || Value.type "method-wrapper" == Value.type "method-wrapper") = true := by decide
  simp only [PySem.W.kxs_mw, c1, if_true]
  refine PySem.W.KFB.if_so (by decide) ?_
  refine wpAny_bind (PySem.W.check_bound_init PySem.F.excBase_ValueError.toExcCallFacts (X _ _ hC) he rfl ?_)
  refine wpAny_bind (wpAny_pure (wpAny_pure ?_))
  refine ⟨plainId_quiet PySem.F.excBase_ValueError.init.plain _, codeAny_builtin PySem.F.excBase_ValueError.initEntry ?_⟩
  exact PySem.W.exc_init_tree (cls := .ref C) (t0 := t0) (dv := none) (c2 := .none) (c3 := .none) (b4 := .bool false) he hz fun h2 k z _ => hq h2 _ k z
end
theorem ev_mc {env : Env} {o e : Expr} {name : Str} {apos pos : Pos} (hl : (apos.endLine == pos.line) = true) (h1 : starEach [e] env = [(false, eval e env)] := by rfl) : eval (.Call (.Attribute o name apos) [e] [] pos) env = (do
      let ov ← attributeBase o name env (eval o env)
      standAt apos.atName
      let (f, first) ← holding [ov] (getMethod ov name (do return (← importBound o env).getD true))
      callWith pos f first (backTo pos (starEach [e] env)) []) := by
  rw [arm_eval_Call]
  congr 1
  funext ov
  congr 1
  funext u
  have hform : methodCallForm ([e].length + ([] : List Keyword).length) (backTo pos (starEach [e] env)) (backToKw pos (keywordEach [] env)) = true := by rw [h1]; rfl
  have hpos : methodCallPos true o env apos pos = pure pos := by unfold methodCallPos; simp [hl]
  unfold methodCall
  rw [hform, hpos]
  rfl
section
variable {P : Program} {w : World} {K : PySem.W.Frag} {mg : Str → Option Value} {base : Heap} {CX : CXT} {k : Nat}
theorem fn_si {f cc cda C : Addr} {qual : Str} {params : Arguments} {body : List Stmt} {scope : Scope} {dV kV doc pm ct oc ccl cl : Value} {an od cdd cld : Option Addr} {osl ccs csl : Array (Option Value)} {vs : Array Value} {file fld x self : Str} {tf : Tok} {ar : Arg} {cdD : ClassData} {p0 p1 p2 p3 p4 p5 p6 p7 p8 p9 : Pos}
    (lk : K.lookup f = some ⟨oc, od, .func (PySem.W.fnX "__init__" qual params body scope [("__class__", cc)] dV kV doc pm an (.ref cda) ct), osl⟩) (hcd : PySem.W.codeIn K (.ref cda) qual = true)
    (hbody : body = [.Expr (.Call (.Attribute (.Call (.Name "super" p0) [] [] p1) "__init__" p2) [.Name x p3] [] p4) p5, .Assign [.Attribute (.Name self p6) fld p7] (.Name x p8) p9])
    (hpar : (params.posonlyargs ++ params.args).head? = some ar) (har : ar.arg = self) (hk : scope.kind = .function) (hco : scope.isCoroutine = false) (hgen : scope.isGenerator = false)
    (hsx : scope.names.lookup x = some .local) (hss : scope.names.lookup self = some .local) (hks : scope.names.lookup ("super" : Str) = some .globalImplicit) (hkc : scope.names.lookup ("__class__" : Str) = some .free) (hcell : ∀ y ∈ scope.names, y.2 ≠ .cell)
    (code : K.lookup cda = some ⟨ccl, cdd, .fields vs, ccs⟩) (hvs : vs[2]? = some (.str file tf)) (hfile : ((P.main.file : Str) == file) = true) (cell : K.lookup cc = some ⟨cl, cld, .cell (some (.ref C)), csl⟩)
    (hsuper : mg "super" = none) (htop : (P.main.scope.names.lookup ("super" : Str)).isSome = false) (T : OexC K C) (hD : PySem.W.clsIn K C = some cdD) (hsub : PySem.W.mroIn K C (.ref C) = some true)
    (hm : PySem.W.ks_superIn K C C "__init__" = some (some (.builtin "ValueError.__init__"))) (hB : PySem.W.subIn K (.ref C) (.type "ValueError") = some true) (ho : PySem.W.nsIn K cStatics "thirdparty.any" = some none)
    (hno : PySem.W.findIn K (.ref C) fld = some none) (hne : x ≠ self) (hdx : (x == ("__debug__" : Str)) = false) (hl : (p2.endLine == p4.line) = true) (hds : (self == ("__debug__" : Str)) = false) :
    FnOk P w K mg base CX k f (PySem.W.fnX "__init__" qual params body scope [("__class__", cc)] dV kV doc pm an (.ref cda) ct) [self, x] (spSI C fld) := by
  refine ⟨fun vs H Q E h => by obtain ⟨a, y, rfl, _⟩ := h; rfl, fun A outer s H args us vs' Q E hr e0 hb r hsp => ?_⟩
  obtain ⟨a, y, rfl, ea, hq⟩ := hsp
  obtain ⟨ux, rfl, ry⟩ : ∃ ux, us = [.ref a, ux] ∧ RelV y ux := by
    cases r with
    | @cons _ u0 _ ur ra rw' =>
      obtain rfl : u0 = Value.ref a := ra
      cases rw' with
      | @cons _ u1 _ ur rb rn =>
        cases rn
        exact ⟨u1, rfl, rb⟩
  have KX : K.In s.heap := e0.mod.kin.keeps fun b o e => (e0.bs b o e).1
  have lim : s.heap.NoLimit := e0.mod.nolimit.keeps fun b o e => (e0.bs b o e).1
  obtain ⟨t1, hx⟩ := exo_at e0.hok ea
  have up0 : ∀ b o, base.get? b = some o → s.heap.get? b = some o := fun b o e => (e0.bs b o e).1
  obtain ⟨mb, B0, hmb⟩ := e0.mod.blt
  refine ks_codeAny_call_defAt (fd := PySem.W.fnX "__init__" qual params body scope [("__class__", cc)] dV kV doc pm an (.ref cda) ct) (body := body) hr.depth (KX _ _ lk) rfl lim (PySem.W.codeRec_of KX hcd) rfl hb hcell (fun z hz => ?_) (fun h0 hns k0 => ?_) hco hgen hk
  · rcases List.mem_cons.mp hz with rfl | hz
    · exact hss
    · rcases List.mem_cons.mp hz with rfl | hz
      · exact hsx
      · cases hz
  have hva : (([self, x].zip [Value.ref a, ux]).reverse.lookup self) = some (.ref a) := by
    show List.lookup self [(x, ux), (self, Value.ref a)] = _
    have e1 : (self == x) = false := by simpa using Ne.symm hne
    rw [List.lookup, e1]
    simp [List.lookup]
  have hvx : (([self, x].zip [Value.ref a, ux]).reverse.lookup x) = some ux := by
    show List.lookup x [(x, ux), (self, Value.ref a)] = _
    simp [List.lookup]
  subst hbody
  have X0 : K.In h0 := KX.keeps k0
  have G0 : h0.Ns mainGlobals mg := e0.mod.glob.keeps fun b o e => k0 b o (up0 b o e)
  have B1 : h0.Ns builtinsNs mb := B0.keeps fun b o e => k0 b o (up0 b o e)
  obtain ⟨oD, hD1, hD2⟩ : ∃ oD, h0.get? C = some oD ∧ oD.data = .cls cdD := by
    unfold PySem.W.clsIn at hD
    split at hD
    · cases hD
      exact ⟨_, X0 _ _ (by assumption), rfl⟩
    · cases hD
  have hx0 := k0 _ _ hx
  refine ks_wpAt_execs_cons (ks_wpAt_Expr_any (hi := by unfold interactive; simp [callEnv, newEnv, hk]) (ks_wpAt_MethodCall (he := ev_mc hl) (ks_wpAt_super_base hks hkc rfl rfl (X0 _ _ lk) rfl hpar rfl (X0 _ _ code) rfl hvs hfile htop ?_)))
  refine PySem.W.ks_loadName_global hk hks (Calls.loadGlobal_builtin G0 hsuper B1 ((hmb _ (by decide +kernel)).trans (by rfl)) ⟨rfl, ?_⟩)
  refine wpAny_loadName_free hk hkc rfl ⟨_, X0 _ _ cell, rfl⟩ ?_
  refine wpAny_loadName_local hk (by rw [har]; exact hss) hns (by rw [har]; exact hva) ?_
  refine ks_wpAny_isType_cls hD1 hD2 ⟨rfl, ?_⟩
  refine ks_wpAny_call_super hD1 hD2 hx0 rfl (fun c z => by cases z) (PySem.W.looks_mroIn X0 hsub) (fun h1 e1 k1 => ?_)
  have X1 : K.In h1 := X0.keeps k1
  have I1 : PySem.W.InstAt h1 a { cls := .ref C, dict := none, data := .fields #[.ref t1, .none, .none, .none, .bool false, .none] } C none := ⟨k1 _ _ hx0, rfl, rfl, trivial⟩
  have hxC : a ≠ C := PySem.W.ks_ne X1 I1 hD
  unfold PySem.W.ks_superIn at hm
  rw [hD] at hm
  refine PySem.W.kxs_getMethod PySem.W.kxs_ValueError e1 (PySem.W.looks_opaque X1 ho) (l₀ := cdD.mro) (fun A Q E s k q => wpAny_bind ((PySem.W.looks_clsIn X1 hD) A _ E s k (wpAny_pure q))) rfl X1 hm (I1.type.andThen (PySem.W.looks_subIn X1 hB)) hxC rfl ?_
  have k2 : ∀ b o, h1.get? b = some o → (h1.push (PySem.W.kxs_mw "ValueError.__init__" a)).get? b = some o := fun b o e => Heap.get?_push_of_some _ e
  have hu : (h1.push (PySem.W.kxs_mw "ValueError.__init__" a)).get? h1.objs.size = some (PySem.W.kxs_mw "ValueError.__init__" a) := Heap.get?_push_at rfl rfl
  have nsx : ∀ {h' : Heap}, (∀ b o, h0.get? b = some o → h'.get? b = some o) → h'.Ns s.heap.objs.size (fun y => ([self, x].zip [Value.ref a, ux]).reverse.lookup y) := fun kk => hns.keeps kk
  refine PySem.W.kxs_callWith (i := "ValueError.__init__") (x := a) rfl (Calls.evalArgs_plain (Calls.spliced_cons (wpAny_Name (wpAny_loadName_local hk hsx (nsx fun b o e => k2 _ _ (k1 _ _ e)) hvx (Calls.spliced_nil ⟨hu, ?_⟩)) hdx)))
  refine mw_call T (X1.keeps k2) (t0 := t1) (k2 _ _ (k1 _ _ hx0)) hu (by rw [sizeLine_eq]; simp) fun h3 t3 k3 hx3 => ?_
  have aL : a ≠ s.heap.objs.size := Nat.ne_of_lt (Heap.lt_size hx)
  obtain ⟨nm, qn, N, bs, bm, sn, sub, ab, col, dd, j0, j1, j2, j3, j5, hC, hbm⟩ := T.cls
  have hcl : PySem.W.clsIn K C = some { name := nm, bases := bs, mro := .ref C :: bm, ns := N, qualname := qn, hasDict := true, slotNames := sn, subclasses := sub, abstract := ab, collection := col, hasDel := false } := by unfold PySem.W.clsIn; rw [hC]
  have kb : ∀ b o, h0.get? b = some o → (h1.push (PySem.W.kxs_mw "ValueError.__init__" a)).get? b = some o := fun b o e => k2 _ _ (k1 _ _ e)
  have hnK : ∀ b o, K.lookup b = some o → b ≠ a := fun b o z q => by
    have z1 := (e0.bs b o (e0.mod.kin _ _ z)).2
    rw [q, ea] at z1
    cases z1
  have X3 : K.In h3 := fun b o z => k3 b o (hnK b o z) (kb _ _ (X0 _ _ z))
  have ns3 : h3.Ns s.heap.objs.size (fun y => ([self, x].zip [Value.ref a, ux]).reverse.lookup y) := by
    obtain ⟨oL, es, ep, hL, rr⟩ := hns
    exact ⟨oL, es, ep, k3 _ _ (Ne.symm aL) (kb _ _ hL), rr⟩
  have sz : s.heap.objs.size < h3.objs.size := by
    obtain ⟨oL, es, ep, hL, rr⟩ := ns3
    exact Heap.lt_size hL
  show _root_.PySem.wpAt _ _ _ (execs _ _) _ _ _
  refine ks_wpAt_execs_cons (ks_wpAt_Assign_Attr (wpAt_of_wpAny (wpAny_Name (wpAny_loadName_local hk hsx ns3 hvx ?_) hdx)))
  refine wpAny_Name (wpAny_loadName_local hk hss ns3 hva ?_) hds
  refine PySem.W.set_plain X3 (ox := { cls := .ref C, dict := none, data := .fields #[.ref t3, .none, .none, .none, .bool false, .none] }) (od := none) ⟨hx3, rfl, rfl, trivial⟩ T.sa ?_
  refine PySem.HandSPX.exc_osa X3 hx3 hcl (show PySem.HandSPX.refsVE (.ref C :: bm) = true from hbm) rfl hno (fun h' tk' dx k4 dn dne hx4 hn4 => ?_)
  refine wpAt_of_wpAny (wpAny_execs_nil ?_)
  have k : ∀ b o, b ≠ a → s.heap.get? b = some o → h'.get? b = some o := fun b o n q => k4 b o n (k3 b o n (kb b o (k0 b o q)))
  have dn' : h3.objs.size ≤ dx := dn
  have hnd : H dx = none := e0.hok.fresh (by omega)
  have nd : ∀ {b : Addr} {o : Obj}, s.heap.get? b = some o → b ≠ dx := fun {b o} q => Nat.ne_of_lt (Nat.lt_of_lt_of_le (Heap.lt_size q) (by omega))
  have na : ∀ {b : Addr}, H b = none → b ≠ a := fun {b} n z => by
    rw [z, ea] at n
    cases n
  refine ⟨.non, upd (upd H dx (exd dx [(fld, y)])) a (exo a C (some dx)), rfl, e0.bare, ?_, fun b o q => ?_, rfl, hq dx hnd dne⟩
  · exact {
      keep := fun b o q n _ _ => k b o (na n) q
      slot := fun b o q n _ _ => ⟨o.slots, k b o (na n) q⟩
      free := fun b o q n _ => by rw [upd_ne (na n), upd_ne (nd q)]; exact n
      there := fun b o q _ => by
        by_cases hb : b = a
        · exact ⟨_, by rw [hb]; exact hx4⟩
        · exact ⟨o, k b o hb q⟩
      tups := fun b xs q => by rw [upd_ne (at_ne ea q exo_tup), upd_ne (ne_of_none q hnd)]; exact q
      frzs := fun b o v q => by rw [upd_ne (at_ne ea q exo_frz), upd_ne (ne_of_none q hnd)]; exact q
      tbls := fun b ps q => ⟨#[], by rw [upd_ne (at_ne ea q exo_tbl), upd_ne (ne_of_none q hnd), q]; simp⟩ }
  · by_cases hb : b = a
    · subst hb
      rw [upd_same] at q
      cases q
      exact exo_ok hx4
    · rw [upd_ne hb] at q
      by_cases hd : b = dx
      · subst hd
        rw [upd_same] at q
        cases q
        exact exd_ok hn4 (relO_put (fs := []) ry fun g => True.intro)
      · rw [upd_ne hd] at q
        exact (e0.hok b o q).stay (fun c v hc z => k c v (by
            rcases hc with hc | hc
            · rw [hc]
              exact hb
            · exact at_ne ea hc exo_own) z)
          (fun c hc => by rw [upd_ne (at_ne ea hc exo_own), upd_ne (ne_of_none hc hnd)]; exact hc) (fun c xs hc => by rw [upd_ne (at_ne ea hc exo_tup), upd_ne (ne_of_none hc hnd)]; exact hc)
end
end Pd
set_option autoImplicit false
/-! The pure interpreter: values as trees, a small syntax, its evaluation. -/
namespace Pd
open PySem (Str)

/-- a value as a tree -/
inductive D where
  | non | bl (b : Bool) | int (i : Int) | str (x : Str)
  | tup (ds : List D) | lst (ds : List D)
  | fn (f : Nat)
  | dic (ks : List (Sum Int Str)) (ds : List D)
  | scr (ds : List D)
  | rng (lo hi : Int)
  deriving Inhabited

/-- the greatest length that the interpreter lets a list have -/
def cap : Nat := 1000000

mutual
def D.eqv : D → D → Bool
  | .non, .non => true
  | .bl a, .bl b => a == b
  | .bl a, .int j => (if a then 1 else 0) == j
  | .int i, .bl b => i == (if b then 1 else 0)
  | .int i, .int j => i == j
  | .str x, .str y => x == y
  | .lst xs, .lst ys => D.eqvs xs ys
  | .tup xs, .tup ys => D.eqvs xs ys
  | _, _ => false
def D.eqvs : List D → List D → Bool
  | [], [] => true
  | x :: xs, y :: ys => D.eqv x y && D.eqvs xs ys
  | _, _ => false
end
mutual
/-- plain data, at most so deep: what == and repr may look at -/
def D.plain : Nat → D → Bool
  | _, .non | _, .bl _ | _, .int _ => true
  | _, .str x => x.cps.all fun c => decide (c < 1114112)
  | 0, _ => false
  | n + 1, .lst xs => D.plains n xs
  | n + 1, .tup xs => D.plains n xs
  | _, _ => false
def D.plains : Nat → List D → Bool
  | _, [] => true
  | n, x :: xs => D.plain n x && D.plains n xs
end

/-- an exception: its class, its one field -/
structure Xn where
  c : Nat
  a : Option D

inductive Slot where
  | un
  | val (d : D)
  | own (d : D)
  | ex (x : Xn)
abbrev Env := List Slot

/-- what an expression gives: a value that may be shared, a new list, the list of a slot -/
inductive Opd where
  | val (d : D)
  | fresh (d : D)
  | slot (i : Nat)

inductive Res (α : Type) where
  | ok (a : α) (env : Env)
  | exc (x : Xn) (env : Env)
  | stk

def Res.bind {α β : Type} : Res α → (α → Env → Res β) → Res β
  | .ok a e, f => f a e
  | .exc x e, _ => .exc x e
  | .stk, _ => .stk
@[simp] theorem Res.bind_ok {α β : Type} (a : α) (e : Env) (f : α → Env → Res β) : (Res.ok a e).bind f = f a e := rfl
@[simp] theorem Res.bind_exc {α β : Type} (x : Xn) (e : Env) (f : α → Env → Res β) : (Res.exc x e : Res α).bind f = .exc x e := rfl
@[simp] theorem Res.bind_stk {α β : Type} (f : α → Env → Res β) : (Res.stk : Res α).bind f = .stk := rfl

inductive Fl where
  | nx (env : Env) | bk (env : Env) | ct (env : Env)
  | rt (o : Opd) (env : Env)
  | exc (x : Xn) (env : Env)
  | stk

/-- a call's end: its value (new or not), what the parameters that are lent hold then -/
inductive CRes where
  | ok (d : D) (new : Bool) (outs : List D)
  | exc (x : Xn) (outs : List D)
  | stk

/-- a function's text as the interpreter has it: how many slots, which parameters are lent -/
abbrev Caller := Nat → List Slot → CRes

inductive BOp where | add | sub | mul | fdiv | mod | pow
inductive UOp where | neg
inductive COp where | eq | ne | lt | le | gt | ge | isN | notN | inn | nin
  deriving DecidableEq
inductive Ty where | int | bool | str | tuple | list | dict
  deriving DecidableEq
inductive Blt where
  | len | abs | int | tuple | list | sum | max | min | max2 | min2 | all | any | sorted | str | bool | repr | range1 | range2
  | isi (t : Ty)
  deriving DecidableEq
inductive Met where | split | count | index | partition | join | get
  deriving DecidableEq

/-- a target: a slot, or several -/
inductive Tg where
  | nm (i : Nat)
  | tp (a b : Nat)
  | tp3 (a b c : Nat)

mutual
inductive E where
  | var (i : Nat)
  | con (d : D)
  | glob (x : Str) (d : D)
  | bin (op : BOp) (a b : E)
  | un (op : UOp) (a : E)
  | cmp (op : COp) (a b : E)
  | chn (op op' : COp) (a b c : E)
  | and (a b : E)
  | or (a b : E)
  | not (a : E)
  | ite (c : T) (a b : E)
  | tup (es : Es)
  | lst (es : Es)
  | call (f : Nat) (ms : List Bool) (es : Es)
  | callv (fl : List Nat) (e : E) (es : Es)
  | blt (b : Blt) (es : Es)
  | met (m : Met) (o : E) (es : Es)
  | idx (a b : E)
  | sli (a : E) (lo hi : Eo)
  | rev (a : E)
  | evy (k : Nat) (a : E)
  | spl (a b : E)
  | dix (ks : List Str) (es : Es) (a : E)
  | comp (elt : E) (t : Tg) (it : It) (c : T) (own : List Nat)
  | comp2 (elt : E) (t : Tg) (it : It) (t' : Tg) (it' : It) (c : T) (own own' : List Nat)
  | dnew
  | dlit (ks : List Str) (es : Es)
  | done1 (a b : E)
  | didx (a b : E)
  | din (neg : Bool) (b a : E)
  | kix (x : Str) (ks : List Str) (ds : List D) (a : E)
  | kin (neg : Bool) (x : Str) (ks : List Str) (ds : List D) (a : E)
  | cnt (a b : E)
  | dget (a b c : E)
  | xattr (i c : Nat)
  | xisi (i c : Nat) (b : Bool)
  | dead
/-- tests -/
inductive T where
  | yes
  | e (a : E)
  | and (a b : T)
  | or (a b : T)
  | not (a : T)
  | chn3 (op op' op'' : COp) (a b c d : E)
inductive Es where
  | nil
  | cons (e : E) (es : Es)
inductive Eo where
  | no
  | so (e : E)
inductive It where
  | plain (e : E)
  | rng1 (a : E) | rng2 (a b : E) | rng3 (a b c : E)
  | enum (e : E)
  | zip (a b : E)
end

/-- except clauses: each returns an expression -/
inductive Hs where
  | nil
  | cons (c : Nat) (i : Option Nat) (e : E) (r : Hs)

def lenEs : Es → Nat
  | .nil => 0
  | .cons _ r => lenEs r + 1

inductive Lv where
  | nm (i : Nat)
  | ix (i : Nat) (e : E)

mutual
inductive S where
  | pass
  | exp (e : E)
  | set (i : Nat) (e : E)
  | unp (is : List Nat) (e : E)
  | par (is : List Nat) (es : Es)
  | setI (i : Nat) (ix : E) (e : E)
  | setI2 (i : Nat) (ix : E) (j : Nat) (jx : E) (es : Es)
  | setD (i : Nat) (k : E) (e : E)
  | aug (i : Nat) (op : BOp) (e : E)
  | augI (i : Nat) (ix : E) (op : BOp) (e : E)
  | app (i : Nat) (e : E)
  | ext (i : Nat) (e : E)
  | pop (j : Option Nat) (i : Nat)
  | popI (j : Option Nat) (i : Nat) (e : E)
  | ret (e : E)
  | retN
  | cond (c : T) (a b : Ss)
  | whl (c : T) (b : Ss)
  | for_ (t : Tg) (it : It) (b : Ss)
  | raise (c : Nat) (e : Eo)
  | tryX (b : Ss) (hs : Hs)
  | brk | cnt
  | frz (i : Nat)
  | dead
inductive Ss where
  | nil
  | cons (s : S) (r : Ss)
end

/-! ### operations on values -/
def D.truth : D → Option Bool
  | .non => some false
  | .bl b => some b
  | .int i => some (i != 0)
  | .str x => if x.length ≤ cap then some ((x.length : Int) != 0) else none
  | .tup ds => some (!ds.isEmpty)
  | .lst ds => some (!ds.isEmpty)
  | .dic _ _ => none
  | .fn _ => none
  | .scr ds => some (!ds.isEmpty)
  | .rng _ _ => none

def mulOk (i j : Int) : Bool := decide (i.natAbs.log2 + j.natAbs.log2 < 1000000)
def divOk (j : Int) : Bool := if 0 < j then decide (j.natAbs.log2 < 9000) else decide (j ≠ 0) && decide (j.natAbs < 1073741824)
def powOk (i j : Int) : Bool := decide (0 ≤ j) && decide (j ≤ 1000000) && decide (i.natAbs < 2 ^ 64)

def reps (xs : List D) : Nat → List D
  | 0 => []
  | n + 1 => xs ++ reps xs n

def addV : D → D → Option D
  | .int i, .int j => some (.int (i + j))
  | .str x, .str y => if x.length + y.length ≤ cap then some (.str (x ++ y)) else none
  | .lst xs, .lst ys => if xs.length + ys.length ≤ cap then some (.lst (xs ++ ys)) else none
  | .tup xs, .tup ys => if xs.length + ys.length ≤ cap then some (.tup (xs ++ ys)) else none
  | _, _ => none
def subV : D → D → Option D
  | .int i, .int j => some (.int (i - j))
  | _, _ => none
def mulV : D → D → Option D
  | .int i, .int j => if mulOk i j then some (.int (i * j)) else none
  | .lst xs, .int k => if -(2 ^ 62) ≤ k ∧ k ≤ cap ∧ xs.length * k.toNat ≤ cap then some (.lst (reps xs k.toNat)) else none
  | .tup xs, .int k => if -(2 ^ 62) ≤ k ∧ k ≤ 1000 ∧ xs.length ≤ 1000 then some (.tup (reps xs k.toNat)) else none
  | _, _ => none
def fdivV : D → D → Option D
  | .int i, .int j => if divOk j then some (.int (i.fdiv j)) else none
  | _, _ => none
def modV : D → D → Option D
  | .int i, .int j => if j = 0 then none else some (.int (i.fmod j))
  | _, _ => none
def powV : D → D → Option D
  | .int i, .int j => if powOk i j then some (.int (i ^ j.toNat)) else none
  | _, _ => none
def binV : BOp → D → D → Option D
  | .add => addV | .sub => subV | .mul => mulV | .fdiv => fdivV | .mod => modV | .pow => powV

def unV : UOp → D → Option D
  | .neg, .int i => some (.int (-i))
  | _, _ => none

/-- strings below one another: by code points -/
def strLt (x y : Str) : Bool := decide (x.cps.toList < y.cps.toList)

def flat : D → Bool
  | .non | .bl _ | .int _ | .str _ => true
  | _ => false

mutual
/-- the order of data: ints, texts, tuples of these -/
def D.lt : Nat → D → D → Option Bool
  | _, .int i, .int j => some (decide (i < j))
  | _, .str x, .str y => some (strLt x y)
  | n + 1, .tup xs, .tup ys => D.lts n xs ys
  | _, _, _ => none
def D.lts : Nat → List D → List D → Option Bool
  | _, [], [] => some false
  | _, [], _ :: _ => some true
  | _, _ :: _, [] => some false
  | n, x :: xs, y :: ys => if D.eqv x y then D.lts n xs ys else D.lt n x y
end

def eqOk (d e : D) : Bool := D.plain 60 d && D.plain 60 e

def isNV : D → D → Option Bool
  | .fn _, _ => none
  | .non, .non => some true
  | _, .non => some false
  | .bl a, .bl b => some (a == b)
  | _, _ => none
def innV : D → D → Option Bool
  | d, .lst xs => if D.plain 60 d && D.plain 60 (.lst xs) then some (xs.any fun y => D.eqv y d) else none
  | d, .tup xs => if flat d && xs.all flat then some (xs.any fun y => D.eqv y d) else if D.plain 60 d && D.plain 60 (.tup xs) then some (xs.any fun y => D.eqv y d) else none
  | .str x, .str y => some (!(PySem.Builtin.Str.occurrences y x 0 y.length 1).isEmpty)
  | _, _ => none
def leV : D → D → Option Bool
  | .int i, .int j => some (decide (i ≤ j))
  | _, _ => none
def ints? : List D → Option (List Int)
  | [] => some []
  | .int i :: r => (ints? r).map (i :: ·)
  | _ => none
def lexLt : List Int → List Int → Bool
  | [], [] => false
  | [], _ :: _ => true
  | _ :: _, [] => false
  | x :: xs, y :: ys => if x = y then lexLt xs ys else decide (x < y)
def ltV : D → D → Option Bool
  | .int i, .int j => some (decide (i < j))
  | .str x, .str y => some (strLt x y)
  | .tup xs, .tup ys => match ints? xs, ints? ys with | some ns, some ms => some (lexLt ns ms) | _, _ => none
  | _, _ => none
def gtV : D → D → Option Bool
  | .int i, .int j => some (decide (j < i))
  | _, _ => none
/-- two texts -/
def str2 : D → D → Option (Str × Str)
  | .str x, .str y => some (x, y)
  | _, _ => none
def eqV' (d e : D) : Option Bool := match str2 d e with
  | some (x, y) => some (decide (x = y))
  | none => if eqOk d e then some (D.eqv d e) else none
def cmpV : COp → D → D → Option Bool
  | .eq, d, e => eqV' d e
  | .ne, d, e => (eqV' d e).map not
  | .lt, d, e => ltV d e
  | .gt, d, e => gtV d e
  | .le, d, e => leV d e
  | .ge, d, e => leV e d
  | .isN, d, e => isNV d e
  | .notN, d, e => (isNV d e).map not
  | .inn, d, e => innV d e
  | .nin, d, e => (innV d e).map not

def bools? : List D → Option (List Bool)
  | [] => some []
  | .bl b :: r => (bools? r).map (b :: ·)
  | _ => none
def maxL : Int → List Int → Int
  | m, [] => m
  | m, x :: r => maxL (if x > m then x else m) r
def minL : Int → List Int → Int
  | m, [] => m
  | m, x :: r => minL (if x < m then x else m) r

def tyOf : D → Ty → Bool
  | .bl _, .bool => true
  | .bl _, .int => true
  | .int _, .int => true
  | .str _, .str => true
  | .tup _, .tuple => true
  | .lst _, .list => true
  | .dic _ _, .dict => true
  | _, _ => false


mutual
def toPy : D → PySem.PyData
  | .non => .none
  | .bl b => .bool b
  | .int i => .int i
  | .str x => .str x
  | .tup ds => .tuple (toPys ds)
  | .lst ds => .list (toPys ds)
  | .fn _ => .none
  | .dic _ _ => .none
  | .scr _ => .none
  | .rng _ _ => .none
def toPys : List D → List PySem.PyData
  | [] => []
  | d :: ds => toPy d :: toPys ds
end
def reprV : List D → Option D
  | [d] => if D.plain 60 d && (toPy d).showable && decide ((toPy d).shown.length ≤ cap) then some (.str (toPy d).shown) else none
  | _ => none
/-- insertion, stable: y goes behind all that it is not below -/
def insD (y : D) : List D → Option (List D)
  | [] => some [y]
  | x :: r => match D.lt 60 y x with
    | some true => some (y :: x :: r)
    | some false => (insD y r).map (x :: ·)
    | none => none
def sortD : List D → List D → Option (List D)
  | acc, [] => some acc
  | acc, y :: r => (insD y acc).bind fun acc' => sortD acc' r

def seq? : D → Option (List D)
  | .lst xs => some xs
  | .tup xs => some xs
  | _ => none

/-- ints in order: insertion -/
def insI (y : Int) : List Int → List Int
  | [] => [y]
  | x :: r => if y < x then y :: x :: r else x :: insI y r
def sortI : List Int → List Int
  | [] => []
  | x :: r => insI x (sortI r)
def lenV : List D → Option D
  | [.lst xs] => some (.int xs.length)
  | [.tup xs] => some (.int xs.length)
  | [.scr xs] => some (.int xs.length)
  | [.dic ks _] => some (.int ks.length)
  | [.str x] => if x.length ≤ cap then some (.int x.length) else none
  | _ => none
def absV : List D → Option D
  | [.int i] => some (.int (if i < 0 then -i else i))
  | _ => none
def intV : List D → Option D
  | [.int i] => some (.int i)
  | [.bl b] => some (.int (if b then 1 else 0))
  | _ => none
def upto (lo : Int) : Nat → List D
  | 0 => []
  | n + 1 => .int lo :: upto (lo + 1) n
def rngN (lo hi : Int) : Option Nat := if -(2 ^ 60) ≤ lo ∧ lo ≤ 2 ^ 60 ∧ -(2 ^ 60) ≤ hi ∧ hi ≤ 2 ^ 60 ∧ (hi - lo).toNat ≤ cap then some (hi - lo).toNat else none
def listV : List D → Option D
  | [.lst xs] => some (.lst xs)
  | [.tup xs] => some (.lst xs)
  | [.scr xs] => some (.lst xs)
  | [.rng lo hi] => (rngN lo hi).map fun n => .lst (upto lo n)
  | _ => none
def tupleV : List D → Option D
  | [.lst xs] => some (.tup xs)
  | [.tup xs] => some (.tup xs)
  | [.rng lo hi] => (rngN lo hi).map fun n => .tup (upto lo n)
  | _ => none
def sumV : List D → Option D
  | [.lst xs] => (ints? xs).map fun ns => .int ns.sum
  | [.tup xs] => (ints? xs).map fun ns => .int ns.sum
  | _ => none
def kInts? : List (Sum Int Str) → Option (List Int)
  | [] => some []
  | .inl i :: r => (kInts? r).map (i :: ·)
  | _ => none
def maxV : List D → Option D
  | [.lst xs] => match ints? xs with | some (n :: ns) => some (.int (maxL n ns)) | _ => none
  | [.tup xs] => match ints? xs with | some (n :: ns) => some (.int (maxL n ns)) | _ => none
  | [.dic ks _] => match kInts? ks with | some (n :: ns) => some (.int (maxL n ns)) | _ => none
  | _ => none
def minV : List D → Option D
  | [.lst xs] => match ints? xs with | some (n :: ns) => some (.int (minL n ns)) | _ => none
  | [.tup xs] => match ints? xs with | some (n :: ns) => some (.int (minL n ns)) | _ => none
  | _ => none
def max2V : List D → Option D
  | [.int i, .int j] => some (.int (if j > i then j else i))
  | _ => none
def min2V : List D → Option D
  | [.int i, .int j] => some (.int (if j < i then j else i))
  | _ => none
def allV : List D → Option D
  | [.lst xs] => (bools? xs).map fun bs => .bl (bs.all id)
  | _ => none
def anyV : List D → Option D
  | [.lst xs] => (bools? xs).map fun bs => .bl (bs.any id)
  | _ => none
/-- what can be compared, item by item -/
def alikeB (xs : List D) : Bool := xs.all fun a => xs.all fun b => PySem.W.alike (toPy a) (toPy b)
def isTup1 : D → Bool
  | .tup (_ :: _) => true
  | _ => false
def isStrD : D → Bool
  | .str _ => true
  | _ => false
def isIntD : D → Bool
  | .int _ => true
  | _ => false
def sortOk (xs : List D) : Bool := xs.all (D.plain 60) && alikeB xs && (xs.all isTup1 || (xs.all isStrD || xs.all isIntD))
def leP (a b : D) : Bool := PySem.W.dataLe false toPy a b
def sortedV : List D → Option D
  | [.lst xs] => match ints? xs with
    | some ns => some (.lst ((sortI ns).map .int))
    | none => if sortOk xs then some (.lst (xs.mergeSort leP)) else none
  | [.tup xs] => if sortOk xs then some (.lst (xs.mergeSort leP)) else none
  | [.dic ks _] => if ks.length < 64 then (kInts? ks).map fun ns => .lst ((sortI ns).map .int) else none
  | _ => none
def isiV (t : Ty) : List D → Option D
  | [.fn _] => none
  | [.scr _] => none
  | [.dic _ _] => none
  | [.rng _ _] => none
  | [d] => some (.bl (tyOf d t))
  | _ => none
def range1V : List D → Option D
  | [.int j] => some (.rng 0 j)
  | _ => none
def range2V : List D → Option D
  | [.int i, .int j] => some (.rng i j)
  | _ => none
def bltV : Blt → List D → Option D
  | .len => lenV | .abs => absV | .int => intV | .tuple => tupleV | .list => listV | .sum => sumV | .max => maxV | .min => minV | .max2 => max2V | .min2 => min2V
  | .all => allV | .any => anyV | .sorted => sortedV | .isi t => isiV t
  | .str => fun _ => none | .bool => fun _ => none | .repr => reprV
  | .range1 => range1V | .range2 => range2V

/-- a place in a sequence of n items, counted from the end if below 0 -/
def place (n : Nat) (i : Int) : Option Nat := if 0 ≤ i then (if i < n then some i.toNat else none) else if -(n : Int) ≤ i then some (i + n).toNat else none
def idxV : D → D → Option D
  | .lst xs, .int i => (place xs.length i).bind fun k => xs[k]?
  | .tup xs, .int i => (place xs.length i).bind fun k => xs[k]?
  | _, _ => none
/-- a slice's bound -/
def bound (n d : Nat) : Option Int → Nat
  | none => d
  | some i => if i < 0 then (i + n).toNat else min i.toNat n
def cut {α : Type} (xs : List α) (lo hi : Option Int) : List α := (xs.drop (bound xs.length 0 lo)).take (bound xs.length xs.length hi - bound xs.length 0 lo)
def sliV : D → Option Int → Option Int → Option D
  | .lst xs, lo, hi => some (.lst (cut xs lo hi))
  | .tup xs, lo, hi => some (.tup (cut xs lo hi))
  | _, _, _ => none
/-- every second item -/
def evy {α : Type} : List α → List α
  | [] => []
  | [x] => [x]
  | x :: _ :: r => x :: evy r
def strOf : D → Option Str
  | .str a => some a
  | _ => none
def splV (a : Str) : D → Option D
  | .str b => if 0 < b.length ∧ a.length + 2 ≤ cap then some (.lst ((PySem.Txt.split a b).map .str)) else none
  | _ => none
def lstOf : D → Option Unit
  | .lst _ => some ()
  | _ => none
def cntV : D → D → Option Int
  | .lst xs, .int k => (ints? xs).map fun ns => ((ns.count k : Nat) : Int)
  | _, _ => none
def dixV : List Str → List D → D → Option D
  | k :: ks, d :: ds, .str x => if k = x then some d else dixV ks ds (.str x)
  | _, _, _ => none
def evyV (k : Nat) : D → Option D
  | .lst xs => some (.lst (evy (xs.drop k)))
  | .tup xs => some (.tup (evy (xs.drop k)))
  | _ => none
def revV : D → Option D
  | .lst xs => some (.lst xs.reverse)
  | .tup xs => some (.tup xs.reverse)
  | _ => none

/-! dicts: keys are numbers or texts -/
def keyD : D → Option (Sum Int Str)
  | .int i => some (.inl i)
  | .str s => some (.inr s)
  | _ => none
def getK : List (Sum Int Str) → List D → Sum Int Str → Option D
  | k :: ks, d :: ds, x => if k = x then some d else getK ks ds x
  | _, _, _ => none
def putKs (ks : List (Sum Int Str)) (k : Sum Int Str) : List (Sum Int Str) := if (ks.any fun x => decide (x = k)) = true then ks else ks ++ [k]
def overK : List (Sum Int Str) → List D → Sum Int Str → D → List D
  | k :: ks, d :: ds, x, y => (if k = x then y else d) :: overK ks ds x y
  | _, _, _, _ => []
def putDs (ks : List (Sum Int Str)) (ds : List D) (k : Sum Int Str) (d : D) : List D := if (ks.any fun x => decide (x = k)) = true then overK ks ds k d else ds ++ [d]
def dlitV (ks : List Str) (ds : List D) : Option D := if ks.length = ds.length ∧ ks.Nodup then some (.dic (ks.map .inr) ds) else none
def didxV : D → D → Option D
  | .dic ks ds, k => (keyD k).bind fun k => getK ks ds k
  | _, _ => none
def dinV : D → D → Option Bool
  | .dic ks ds, k => (keyD k).map fun k => (getK ks ds k).isSome
  | _, _ => none
def doneV : List D → Option D
  | [k, d] => (keyD k).map fun k => .dic [k] [d]
  | _ => none
def dgetV : D → List D → Option D
  | .dic ks ds, [k, x] => (keyD k).map fun k => (getK ks ds k).getD x
  | _, _ => none
def isDic : D → Option Unit
  | .dic _ _ => some ()
  | _ => none
/-- a new value: lists and dicts are the maker's own -/
def mkO : D → Opd
  | .lst ds => .fresh (.lst ds)
  | .dic ks ds => .fresh (.dic ks ds)
  | d => .val d

def Opd.get (env : Env) : Opd → Option D
  | .val d => some d
  | .fresh d => some d
  | .slot i => match env[i]? with | some (.own d) => some d | _ => none
/-- a value that is let go: shared from now on -/
def Opd.leak : Opd → Option D
  | .val d => some d
  | .fresh d => some d
  | .slot _ => none
def gets (env : Env) : List Opd → Option (List D)
  | [] => some []
  | o :: r => (o.get env).bind fun d => (gets env r).map (d :: ·)
def leaks : List Opd → Option (List D)
  | [] => some []
  | o :: r => o.leak.bind fun d => (leaks r).map (d :: ·)

def ofO {α : Type} (o : Option α) (env : Env) : Res α := match o with | some a => .ok a env | none => .stk
@[simp] theorem ofO_some {α : Type} (a : α) (env : Env) : ofO (some a) env = .ok a env := rfl
@[simp] theorem ofO_none {α : Type} (env : Env) : (ofO none env : Res α) = .stk := rfl

/-- the arguments of a call: the lent ones are slots' lists -/
def lendS (env : Env) : List Bool → List Opd → Option (List Slot)
  | [], [] => some []
  | false :: ms, o :: r => o.leak.bind fun d => (lendS env ms r).map (.val d :: ·)
  | true :: ms, .slot i :: r => match env[i]? with | some (.own d) => (lendS env ms r).map (.own d :: ·) | _ => none
  | _, _ => none
/-- the lent slots take what comes back -/
def back (env : Env) : List Bool → List Opd → List D → Option Env
  | [], [], [] => some env
  | false :: ms, _ :: r, ds => back env ms r ds
  | true :: ms, .slot i :: r, d :: ds => back (env.set i (.own d)) ms r ds
  | _, _, _ => none
/-- no slot is lent twice -/
def lentOf : List Bool → List Opd → List Nat
  | true :: ms, .slot i :: r => i :: lentOf ms r
  | _ :: ms, _ :: r => lentOf ms r
  | _, _ => []
def nodupB : List Nat → Bool
  | [] => true
  | x :: r => !r.contains x && nodupB r

def callR (cl : Caller) (f : Nat) (ms : List Bool) (os : List Opd) (env : Env) : Res Opd :=
  if nodupB (lentOf ms os) then
    match lendS env ms os with
    | none => .stk
    | some sl => match cl f sl with
      | .stk => .stk
      | .ok d new outs => (ofO (back env ms os outs) env).bind fun e _ => .ok (if new then .fresh d else .val d) e
      | .exc x outs => (ofO (back env ms os outs) env).bind fun e _ => .exc x e
  else .stk

def stepto (lo c : Int) : Nat → List D
  | 0 => []
  | n + 1 => .int lo :: stepto (lo + c) c n
def enumL (i : Int) : List D → List D
  | [] => []
  | x :: r => .tup [.int i, x] :: enumL (i + 1) r
def zipL : List D → List D → List D
  | x :: r, y :: s => .tup [x, y] :: zipL r s
  | _, _ => []
/-- the items that a loop walks: an own list of a slot must have been let go before -/
def itemsOf : Opd → Option (List D)
  | .val (.lst xs) => some xs
  | .val (.tup xs) => some xs
  | .val (.scr xs) => some xs
  | .fresh (.lst xs) => some xs
  | .val (.str x) => if x.length ≤ cap then some (x.cps.toList.map fun c => .str ⟨#[c]⟩) else none
  | .val (.rng lo hi) => (rngN lo hi).map (upto lo)
  | _ => none
/-- .. with its kind: a list or a tuple -/
def isTupO : Opd → Bool
  | .val (.tup _) => true
  | _ => false
def isStrO : Opd → Bool
  | .val (.str _) => true
  | .val (.rng _ _) => true
  | .val (.scr _) => true
  | _ => false
def enumO (o : Opd) : Option (List D) := if isStrO o then none else (itemsOf o).map (enumL 0)
def zipO (o p : Opd) : Option (List D) := if isStrO o || isStrO p || (isTupO o != isTupO p) then none else (itemsOf o).bind fun xs => (itemsOf p).map fun ys => zipL xs ys
/-- how many steps of c lead from lo up to (down to) hi -/
def stepN (lo hi c : Int) : Nat := (if c > 0 then (if lo < hi then (hi - lo - 1) / c + 1 else 0) else (if lo > hi then (lo - hi - 1) / (-c) + 1 else 0)).toNat
def rngC (lo hi c : Int) : Option Nat := if -(2 ^ 60) ≤ lo ∧ lo ≤ 2 ^ 60 ∧ -(2 ^ 60) ≤ hi ∧ hi ≤ 2 ^ 60 ∧ c ≠ 0 ∧ c.natAbs < 1000000 ∧ stepN lo hi c ≤ cap then some (stepN lo hi c) else none

/-- a target takes a value that may be shared -/
def bind1 (i : Nat) (d : D) (env : Env) : Option Env := if i < env.length then some (env.set i (.val d)) else none
def bind2 (a b : Nat) : D → Env → Option Env
  | .tup [x, y], env => if a < env.length ∧ b < env.length then some ((env.set a (.val x)).set b (.val y)) else none
  | _, _ => none
def bind3 (a b c : Nat) : D → Env → Option Env
  | .tup [x, y, z], env => if a < env.length ∧ b < env.length ∧ c < env.length then some (((env.set a (.val x)).set b (.val y)).set c (.val z)) else none
  | _, _ => none
def bindD : Tg → D → Env → Option Env
  | .nm i => bind1 i
  | .tp a b => bind2 a b
  | .tp3 a b c => bind3 a b c

def wipeE (env : Env) : List Nat → Env
  | [] => env
  | i :: r => (wipeE env r).set i .un
/-- behind a comprehension: its own slots as they were -/
def backE (old env : Env) : List Nat → Env
  | [] => env
  | i :: r => match old[i]? with | some s => (backE old env r).set i s | none => backE old env r

/-- one turn after another; the items kept are gathered -/
def compL (t : Tg) (own : List Nat) (c : Env → Res Bool) (f : Env → Res Opd) : List D → List D → Env → Res (List D)
  | [], acc, env => .ok acc env
  | d :: ds, acc, env => match bindD t d (wipeE env own) with
    | none => .stk
    | some e1 => match c e1 with
      | .ok true e2 => match f e2 with
        | .ok o e3 => match o.leak with
          | some y => compL t own c f ds (acc ++ [y]) e3
          | none => .stk
        | _ => .stk
      | .ok false e2 => compL t own c f ds acc e2
      | _ => .stk

/-- the outer turns of a comprehension of two clauses -/
def comp2L (t : Tg) (own : List Nat) (f : List D → Env → Res (List D)) : List D → List D → Env → Res (List D)
  | [], acc, env => .ok acc env
  | d :: ds, acc, env => match bindD t d (wipeE env own) with
    | none => .stk
    | some e1 => match f acc e1 with
      | .ok acc' e2 => comp2L t own f ds acc' e2
      | _ => .stk

section
variable (cl : Caller)
mutual
def evalE : E → Env → Res Opd
  | .var i, env => match env[i]? with
    | some (.val d) => .ok (.val d) env
    | some (.own _) => .ok (.slot i) env
    | _ => .stk
  | .con d, env => .ok (.val d) env
  | .glob _ d, env => .ok (.val d) env
  | .bin op a b, env => (evalE a env).bind fun x e1 => (evalE b e1).bind fun y e2 =>
      (ofO (x.get e2) e2).bind fun dx _ => (ofO (y.get e2) e2).bind fun dy _ => (ofO (binV op dx dy) e2).bind fun d e => .ok (mkO d) e
  | .un op a, env => (evalE a env).bind fun x e1 => (ofO (x.get e1) e1).bind fun dx _ => (ofO (unV op dx) e1).bind fun d e => .ok (.val d) e
  | .cmp op a b, env => (evalE a env).bind fun x e1 => (evalE b e1).bind fun y e2 =>
      (ofO (x.get e2) e2).bind fun dx _ => (ofO (y.get e2) e2).bind fun dy _ => (ofO (cmpV op dx dy) e2).bind fun d e => .ok (.val (.bl d)) e
  | .chn op op' a b c, env => (evalE a env).bind fun x e1 => (evalE b e1).bind fun y e2 =>
      (ofO (x.leak) e2).bind fun dx _ => (ofO (y.leak) e2).bind fun dy _ => (ofO (cmpV op dx dy) e2).bind fun k e3 =>
        if k then (evalE c e3).bind fun z e4 => (ofO (z.leak) e4).bind fun dz _ => (ofO (cmpV op' dy dz) e4).bind fun d e => .ok (.val (.bl d)) e else .ok (.val (.bl false)) e3
  | .and a b, env => (evalE a env).bind fun x e1 => (ofO x.leak e1).bind fun dx _ => (ofO dx.truth e1).bind fun k e => if k then evalE b e else .ok (.val dx) e
  | .or a b, env => (evalE a env).bind fun x e1 => (ofO x.leak e1).bind fun dx _ => (ofO dx.truth e1).bind fun k e => if k then .ok (.val dx) e else evalE b e
  | .not a, env => (evalE a env).bind fun x e => (ofO (x.get e) e).bind fun d e => (ofO d.truth e).bind fun k e => .ok (.val (.bl (!k))) e
  | .ite c a b, env => (evalT c env).bind fun k e => if k then evalE a e else evalE b e
  | .tup es, env => (evalEs es env).bind fun os e => (ofO (leaks os) e).bind fun ds e => .ok (.val (.tup ds)) e
  | .lst es, env => (evalEs es env).bind fun os e => (ofO (leaks os) e).bind fun ds e => .ok (.fresh (.lst ds)) e
  | .call f ms es, env => (evalEs es env).bind fun os e => callR cl f ms os e
  | .callv fl a es, env => (evalE a env).bind fun x e1 => match x with
      | .val (.fn f) => if fl.contains f then (evalEs es e1).bind fun os e => callR cl f (os.map fun _ => false) os e else .stk
      | _ => .stk
  | .blt b es, env => (evalEs es env).bind fun os e => (ofO (gets e os) e).bind fun ds _ => (ofO (bltV b ds) e).bind fun d e => .ok (mkO d) e
  | .met _ _ _, _ => .stk
  | .idx a b, env => (evalE a env).bind fun x e1 => (evalE b e1).bind fun y e2 =>
      (ofO (x.get e2) e2).bind fun dx _ => (ofO (y.get e2) e2).bind fun dy _ => (ofO (idxV dx dy) e2).bind fun d e => .ok (.val d) e
  | .sli a lo hi, env => (evalE a env).bind fun x e1 => (evalB lo e1).bind fun l e2 => (evalB hi e2).bind fun h e3 =>
      (ofO (x.get e3) e3).bind fun dx _ => (ofO (sliV dx l h) e3).bind fun d e => .ok (mkO d) e
  | .rev a, env => (evalE a env).bind fun x e1 => (ofO (x.get e1) e1).bind fun dx _ => (ofO (revV dx) e1).bind fun d e => .ok (mkO d) e
  | .spl a b, env => (evalE a env).bind fun x e1 => (ofO (x.get e1) e1).bind fun dx _ => (ofO (strOf dx) e1).bind fun s _ => (evalE b e1).bind fun y e2 =>
      (ofO (y.get e2) e2).bind fun dy _ => (ofO (splV s dy) e2).bind fun d e => .ok (mkO d) e
  | .dix ks es a, env => (evalEs es env).bind fun os e => (ofO (leaks os) e).bind fun ds e1 => (evalE a e1).bind fun y e2 =>
      (ofO (y.get e2) e2).bind fun dy _ => (ofO (dixV ks ds dy) e2).bind fun d e => .ok (.val d) e
  | .evy k a, env => (evalE a env).bind fun x e1 => (ofO (x.get e1) e1).bind fun dx _ => (ofO (evyV k dx) e1).bind fun d e => .ok (mkO d) e
  | .comp elt t it c own, env => (evalI it env).bind fun ds e1 => if ds.length ≤ cap then
      (compL t own (fun e => evalT c e) (fun e => evalE elt e) ds [] e1).bind fun ys e2 => .ok (.fresh (.lst ys)) (backE e1 e2 own) else .stk
  | .comp2 elt t it t' it' c own own', env => (evalI it env).bind fun ds e1 => if ds.length ≤ cap then
      (comp2L t own (fun acc e => (evalI it' e).bind fun ds' e2 => if acc.length + ds'.length ≤ cap then compL t' own' (fun e => evalT c e) (fun e => evalE elt e) ds' acc e2 else .stk) ds [] e1).bind fun ys e2 => .ok (.fresh (.lst ys)) (backE e1 e2 own) else .stk
  | .dnew, env => .ok (.fresh (.dic [] [])) env
  | .dlit ks es, env => (evalEs es env).bind fun os e => (ofO (leaks os) e).bind fun ds e => (ofO (dlitV ks ds) e).bind fun d e => .ok (.fresh d) e
  | .done1 a b, env => (evalE a env).bind fun x e1 => (evalE b e1).bind fun y e2 => (ofO (leaks [x, y]) e2).bind fun ds e => (ofO (doneV ds) e).bind fun d e => .ok (.fresh d) e
  | .didx a b, env => (evalE a env).bind fun x e1 => (evalE b e1).bind fun y e2 =>
      (ofO (x.get e2) e2).bind fun dx _ => (ofO (y.get e2) e2).bind fun dy _ => (ofO (didxV dx dy) e2).bind fun d e => .ok (.val d) e
  | .din neg b a, env => (evalE b env).bind fun y e1 => (evalE a e1).bind fun x e2 =>
      (ofO (y.get e2) e2).bind fun dy _ => (ofO (x.get e2) e2).bind fun dx _ => (ofO (dinV dx dy) e2).bind fun k e => .ok (.val (.bl (k != neg))) e
  | .kix x ks ds a, env => (evalE a env).bind fun y e1 => (ofO (y.get e1) e1).bind fun dy _ => (ofO (dixV ks ds dy) e1).bind fun d e => .ok (.val d) e
  | .kin neg x ks ds a, env => (evalE a env).bind fun y e1 => (ofO (y.get e1) e1).bind fun dy _ => (ofO (strOf dy) e1).bind fun s e => .ok (.val (.bl (ks.contains s != neg))) e
  | .cnt a b, env => (evalE a env).bind fun x e1 => (ofO (x.get e1) e1).bind fun d1 _ => (ofO (lstOf d1) e1).bind fun _ _ => (evalE b e1).bind fun y e2 =>
      (ofO (x.get e2) e2).bind fun dx _ => (ofO (y.get e2) e2).bind fun dy _ => (ofO (cntV dx dy) e2).bind fun k e => .ok (.val (.int k)) e
  | .dget a b c, env => (evalE a env).bind fun x e1 => (ofO (x.get e1) e1).bind fun d1 _ => (ofO (isDic d1) e1).bind fun _ _ => (evalE b e1).bind fun y e2 => (evalE c e2).bind fun z e3 =>
      (ofO (leaks [y, z]) e3).bind fun ds _ => (ofO (x.get e3) e3).bind fun dx _ => (ofO (dgetV dx ds) e3).bind fun d e => .ok (.val d) e
  | .xattr i c, env => match env[i]? with
    | some (.ex ⟨c', some d⟩) => if c' = c then .ok (.val d) env else .stk
    | _ => .stk
  | .xisi i c b, env => match env[i]? with
    | some (.ex ⟨c', _⟩) => if c' = c then .ok (.val (.bl b)) env else .stk
    | _ => .stk
  | .dead, _ => .stk
def evalT : T → Env → Res Bool
  | .yes, env => .ok true env
  | .and a b, env => (evalT a env).bind fun k e => if k then evalT b e else .ok false e
  | .or a b, env => (evalT a env).bind fun k e => if k then .ok true e else evalT b e
  | .not a, env => (evalT a env).bind fun k e => .ok (!k) e
  | .e a, env => (evalE a env).bind fun x e => (ofO (x.get e) e).bind fun d e => ofO d.truth e
  | .chn3 op op' op'' a b c d, env => (evalE a env).bind fun x e1 => (evalE b e1).bind fun y e2 =>
      (ofO (x.leak) e2).bind fun dx _ => (ofO (y.leak) e2).bind fun dy _ => (ofO (cmpV op dx dy) e2).bind fun k e3 =>
        if k then (evalE c e3).bind fun z e4 => (ofO (z.leak) e4).bind fun dz _ => (ofO (cmpV op' dy dz) e4).bind fun k' e5 =>
          if k' then (evalE d e5).bind fun u e6 => (ofO (u.leak) e6).bind fun du _ => ofO (cmpV op'' dz du) e6 else .ok false e5
        else .ok false e3
def evalEs : Es → Env → Res (List Opd)
  | .nil, env => .ok [] env
  | .cons a r, env => (evalE a env).bind fun x e => (evalEs r e).bind fun xs e => .ok (x :: xs) e
/-- a slice's bound -/
def evalB : Eo → Env → Res (Option Int)
  | .no, env => .ok none env
  | .so a, env => (evalE a env).bind fun x e => match x with | .val (.int i) => .ok (some i) e | _ => .stk
def evalI : It → Env → Res (List D)
  | .plain a, env => (evalE a env).bind fun x e => ofO (itemsOf x) e
  | .rng1 a, env => (evalE a env).bind fun x e => match x with | .val (.int j) => (ofO (rngN 0 j) e).bind fun n e => .ok (upto 0 n) e | _ => .stk
  | .rng2 a b, env => (evalE a env).bind fun x e1 => (evalE b e1).bind fun y e => match x, y with
      | .val (.int i), .val (.int j) => (ofO (rngN i j) e).bind fun n e => .ok (upto i n) e
      | _, _ => .stk
  | .rng3 a b c, env => (evalE a env).bind fun x e1 => (evalE b e1).bind fun y e2 => (evalE c e2).bind fun z e => match x, y, z with
      | .val (.int i), .val (.int j), .val (.int k) => (ofO (rngC i j k) e).bind fun n e => .ok (stepto i k n) e
      | _, _, _ => .stk
  | .enum a, env => (evalE a env).bind fun x e => ofO (enumO x) e
  | .zip a b, env => (evalE a env).bind fun x e1 => (evalE b e1).bind fun y e => ofO (zipO x y) e
end

def bindO (i : Nat) (o : Opd) (env : Env) : Option Env :=
  if i < env.length then match o with
    | .val d => some (env.set i (.val d))
    | .fresh d => some (env.set i (.own d))
    | .slot _ => none
  else none
def binds : List Nat → List Opd → Env → Option Env
  | [], [], env => some env
  | i :: is, o :: os, env => (bindO i o env).bind fun e => binds is os e
  | _, _, _ => none
def bindDs : List Nat → List D → Env → Option Env
  | [], [], env => some env
  | i :: is, d :: ds, env => (bindO i (.val d) env).bind fun e => bindDs is ds e
  | _, _, _ => none
/-- an own dict's item is set -/
def setDic (i : Nat) (k d : D) (env : Env) : Option Env := match env[i]? with
  | some (.own (.dic ks ds)) => if ks.length < cap then (keyD k).map fun k => env.set i (.own (.dic (putKs ks k) (putDs ks ds k d))) else none
  | _ => none
/-- an own list's item is replaced -/
def setOwn (i : Nat) (k : D) (d : D) (env : Env) : Option Env := match env[i]?, k with
  | some (.own (.lst xs)), .int j => (place xs.length j).bind fun p => some (env.set i (.own (.lst (xs.set p d))))
  | _, _ => none
def isOwn (i : Nat) (env : Env) : Bool := match env[i]? with
  | some (.own (.lst _)) => true
  | _ => false
def isOwnD (i : Nat) (env : Env) : Bool := match env[i]? with
  | some (.own (.dic _ _)) => true
  | _ => false
def appOwn (i : Nat) (d : D) (env : Env) : Option Env := match env[i]? with
  | some (.own (.lst xs)) => if xs.length < cap then some (env.set i (.own (.lst (xs ++ [d])))) else none
  | _ => none
def extOwn (i : Nat) (d : D) (env : Env) : Option Env := match env[i]?, d with
  | some (.own (.lst xs)), .lst ys => if xs.length + ys.length ≤ cap then some (env.set i (.own (.lst (xs ++ ys)))) else none
  | _, _ => none
def popOwn (i : Nat) (env : Env) : Option (D × Env) := match env[i]? with
  | some (.own (.lst xs)) => (xs[xs.length - 1]?).map fun d => (d, env.set i (.own (.lst xs.dropLast)))
  | _ => none
def popAtOwn (i : Nat) (k : D) (env : Env) : Option (D × Env) := match env[i]?, k with
  | some (.own (.lst xs)), .int p => if xs.length ≤ cap then (place xs.length p).bind fun p => (xs[p]?).map fun d => (d, env.set i (.own (.lst (xs.eraseIdx p)))) else none
  | _, _ => none
def getOwn (i : Nat) (k : D) (env : Env) : Option D := match env[i]? with
  | some (.own d) => idxV d k
  | _ => none
def augV : BOp → D → D → Option D
  | .add, .int i, .int j => some (.int (i + j))
  | .add, .str x, .str y => if x.length + y.length ≤ cap then some (.str (x ++ y)) else none
  | .sub, .int i, .int j => some (.int (i - j))
  | .mul, .int i, .int j => if mulOk i j then some (.int (i * j)) else none
  | .fdiv, .int i, .int j => if 0 < j ∧ j.natAbs.log2 < 9000 then some (.int (i / j)) else none
  | .mod, .int i, .int j => if 0 < j then some (.int (i % j)) else none
  | _, _, _ => none
def getVal (i : Nat) (env : Env) : Option D := match env[i]? with
  | some (.val d) => some d
  | _ => none
/-- one turn after another of a for -/
def forL (t : Tg) (f : Env → Fl) : List D → Env → Fl
  | [], env => .nx env
  | d :: ds, env => match bindD t d env with
    | none => .stk
    | some e1 => match f e1 with
      | .nx e => forL t f ds e
      | .ct e => forL t f ds e
      | .bk e => .nx e
      | r => r
/-- a while, so many turns at most -/
def whlL (c : Env → Res Bool) (f : Env → Fl) : Nat → Env → Fl
  | 0, _ => .stk
  | n + 1, env => match c env with
    | .ok true e => match f e with
      | .nx e => whlL c f n e
      | .ct e => whlL c f n e
      | .bk e => .nx e
      | r => r
    | .ok false e => .nx e
    | .exc x e => .exc x e
    | .stk => .stk
def fuel : Nat := 100000000
def Res.fl {α : Type} (r : Res α) (f : α → Env → Fl) : Fl := match r with
  | .ok a e => f a e
  | .exc x e => .exc x e
  | .stk => .stk
@[simp] theorem Res.fl_ok {α : Type} (a : α) (e : Env) (f : α → Env → Fl) : (Res.ok a e).fl f = f a e := rfl
@[simp] theorem Res.fl_exc {α : Type} (x : Xn) (e : Env) (f : α → Env → Fl) : (Res.exc x e : Res α).fl f = .exc x e := rfl
@[simp] theorem Res.fl_stk {α : Type} (f : α → Env → Fl) : (Res.stk : Res α).fl f = .stk := rfl
/-- no exception's name any more -/
def clrEx (env : Env) : Env := env.map fun | .ex _ => .un | s => s
/-- a clause's end -/
def hRet : Res Opd → Fl
  | .ok o e => .rt o (clrEx e)
  | _ => .stk
def evalHs : Hs → Xn → Env → Fl
  | .nil, x, env => .exc x env
  | .cons c i a r, x, env => if x.c = c then (match i with
      | some i => if i < env.length then hRet (evalE cl a (env.set i (.ex x))) else .stk
      | none => hRet (evalE cl a env)) else evalHs r x env
def nxO (o : Option Env) : Fl := match o with | some e => .nx e | none => .stk
@[simp] theorem nxO_some (e : Env) : nxO (some e) = .nx e := rfl
@[simp] theorem nxO_none : nxO none = .stk := rfl

mutual
def evalS : S → Env → Fl
  | .pass, env => .nx env
  | .exp e, env => (evalE cl e env).fl fun _ e => .nx e
  | .set i e, env => (evalE cl e env).fl fun o e => nxO (bindO i o e)
  | .unp is e, env => (evalE cl e env).fl fun o e => match o with
      | .val (.tup ds) => nxO (bindDs is ds e)
      | .val (.lst ds) => nxO (bindDs is ds e)
      | .fresh (.lst ds) => nxO (bindDs is ds e)
      | _ => .stk
  | .par is es, env => (evalEs cl es env).fl fun os e => nxO (binds is os e)
  | .setI i ix e, env => (evalE cl e env).fl fun o e1 => match o.leak with
      | some d => if isOwn i e1 then (evalE cl ix e1).fl fun k e2 => nxO (k.leak.bind fun k => setOwn i k d e2) else .stk
      | none => .stk
  | .setI2 i ix j jx es, env => (evalEs cl es env).fl fun os e1 => match leaks os with
      | some [d, d'] => if isOwn i e1 then (evalE cl ix e1).fl fun k e2 => match k.leak.bind fun k => setOwn i k d e2 with
          | some e3 => if isOwn j e3 then (evalE cl jx e3).fl fun k' e4 => nxO (k'.leak.bind fun k' => setOwn j k' d' e4) else .stk
          | none => .stk
        else .stk
      | _ => .stk
  | .setD i ix e, env => (evalE cl e env).fl fun o e1 => match o.leak with
      | some d => if isOwnD i e1 then (evalE cl ix e1).fl fun k e2 => nxO (k.leak.bind fun k => setDic i k d e2) else .stk
      | none => .stk
  | .aug i op e, env => match getVal i env with
      | some d => (evalE cl e env).fl fun o e1 => nxO (o.leak.bind fun y => (augV op d y).bind fun z => bindO i (.val z) e1)
      | none => .stk
  | .augI i ix op e, env => if isOwn i env then (evalE cl ix env).fl fun k e1 => match k.leak.bind fun k => (getOwn i k e1).map fun d => (k, d) with
      | some (k, d) => (evalE cl e e1).fl fun o e2 => nxO (o.leak.bind fun y => (augV op d y).bind fun z => setOwn i k z e2)
      | none => .stk
    else .stk
  | .app i e, env => if isOwn i env then (evalE cl e env).fl fun o e1 => nxO (o.leak.bind fun d => appOwn i d e1) else .stk
  | .ext i e, env => if isOwn i env then (evalE cl e env).fl fun o e1 => nxO (o.leak.bind fun d => extOwn i d e1) else .stk
  | .pop j i, env => match popOwn i env with
      | some (d, e1) => nxO (match j with | some j => bindO j (.val d) e1 | none => some e1)
      | none => .stk
  | .popI j i e, env => if isOwn i env then (evalE cl e env).fl fun o e1 => match o.leak.bind fun k => popAtOwn i k e1 with
      | some (d, e2) => nxO (match j with | some j => bindO j (.val d) e2 | none => some e2)
      | none => .stk
    else .stk
  | .ret e, env => (evalE cl e env).fl fun o e => .rt o e
  | .retN, env => .rt (.val .non) env
  | .cond c a b, env => (evalT cl c env).fl fun k e => if k then evalSs a e else evalSs b e
  | .whl c b, env => whlL (fun e => evalT cl c e) (fun e => evalSs b e) fuel env
  | .for_ t it b, env => (evalI cl it env).fl fun ds e => forL t (fun e => evalSs b e) ds e
  | .raise c .no, env => .exc ⟨c, none⟩ env
  | .raise c (.so e), env => (evalE cl e env).fl fun o e => match o.leak with | some d => .exc ⟨c, some d⟩ e | none => .stk
  | .tryX b hs, env => match evalSs b env with
      | .exc x e => evalHs cl hs x e
      | r => r
  | .brk, env => .bk env
  | .cnt, env => .ct env
  | .frz i, env => match env[i]? with
      | some (.own d) => .nx (env.set i (.val d))
      | some (.val _) => .nx env
      | _ => .stk
  | .dead, _ => .stk
def evalSs : Ss → Env → Fl
  | .nil, env => .nx env
  | .cons s r, env => match evalS s env with
      | .nx e => evalSs r e
      | z => z
end
end

/-- a function: its slots, its lent parameters, its body -/
structure Fn where
  name : Str
  pars : List Str
  slots : List Str
  lent : List Bool
  body : Ss

/-- what the lent parameters hold -/
def outsOf (env : Env) : Nat → List Bool → Option (List D)
  | _, [] => some []
  | i, false :: r => outsOf env (i + 1) r
  | i, true :: r => match env[i]? with
    | some (.own d) => (outsOf env (i + 1) r).map (d :: ·)
    | _ => none
def modes : List Slot → List Bool
  | [] => []
  | .own _ :: r => true :: modes r
  | _ :: r => false :: modes r
/-- the end of a body -/
def endOf (lent : List Bool) : Fl → CRes
  | .nx env => match outsOf env 0 lent with | some ds => .ok .non false ds | none => .stk
  | .rt (.val d) env => match outsOf env 0 lent with | some ds => .ok d false ds | none => .stk
  | .rt (.fresh d) env => match outsOf env 0 lent with | some ds => .ok d true ds | none => .stk
  | .rt (.slot i) env => if i < lent.length ∧ lent[i]? = some true then .stk else match env[i]?, outsOf env 0 lent with
    | some (.own d), some ds => .ok d true ds
    | _, _ => .stk
  | .exc x env => match outsOf env 0 lent with | some ds => .exc x ds | none => .stk
  | _ => .stk
/-- calls, so deep -/
def callF (fs : List Fn) : Nat → Caller
  | 0, _, _ => .stk
  | n + 1, f, args => match fs[f]? with
    | some F => if modes args = F.lent ∧ args.length = F.pars.length ∧ F.pars.length ≤ F.slots.length then
        endOf F.lent (evalSs (callF fs n) F.body (args ++ List.replicate (F.slots.length - args.length) .un)) else .stk
    | none => .stk
end Pd
set_option autoImplicit false
set_option linter.all false
set_option maxRecDepth 100000
/-! What stands in the heap for a tree. -/
namespace Pd
open PySem L2

/-- where the functions stand, where the exception classes -/
structure Pl where
  K : PySem.W.Frag
  fa : Nat → Addr
  ca : Nat → Addr
  cf : Nat → Str
  /-- the lists that are lent to this text, by slots -/
  lx : Nat → Option Addr
  /-- the exception that is handled: where it lies, its class, its dict -/
  hx : Option (Addr × Value × Option Addr) := none
  /-- how many exception classes -/
  nc : Nat := 0

/-- a sequence that is let go (F) or stands in the text's own part -/
def Shl (P : Pl) (F : Addr → Prop) (H : Hp) (a : Addr) (xs : List V) : Prop := F a ∧ H a = some (.lst xs)
def Sht (P : Pl) (F : Addr → Prop) (H : Hp) (a : Addr) (xs : List V) : Prop :=
  (F a ∧ Rd H a (.tup xs)) ∨ ∃ (o : Obj) (its : Array Value) (n : Nat), P.K.lookup a = some o ∧ o.cls = .type "tuple" ∧ o.data = .seq its n ∧ its.size ≤ sizeLine ∧ Vals xs its.toList

/-- the script: known to the text, or its own -/
def Shs (P : Pl) (F : Addr → Prop) (H : Hp) (a : Addr) (xs : List V) : Prop :=
  (F a ∧ ∃ o : Obj, H a = some (.frz o (.lst xs))) ∨ ∃ (o : Obj) (its : Array Value) (n : Nat), P.K.lookup a = some o ∧ o.cls = .type "list" ∧ o.dict = none ∧ o.data = .seq its n ∧ its.size ≤ sizeLine ∧ Vals xs its.toList

mutual
inductive R (P : Pl) (F : Addr → Prop) (H : Hp) : D → V → Prop
  | non : R P F H .non .non
  | bl (b : Bool) : R P F H (.bl b) (.bl b)
  | int (i : Int) : R P F H (.int i) (.int i)
  | str (x : Str) : R P F H (.str x) (.str x)
  | fn (f : Nat) : R P F H (.fn f) (.ref (P.fa f))
  | lst {a : Addr} {xs : List V} {ds : List D} : Shl P F H a xs → Rs P F H ds xs → R P F H (.lst ds) (.ref a)
  | tup {a : Addr} {xs : List V} {ds : List D} : Sht P F H a xs → Rs P F H ds xs → R P F H (.tup ds) (.ref a)
  | scr {a : Addr} {xs : List V} {ds : List D} : Shs P F H a xs → Rs P F H ds xs → R P F H (.scr ds) (.ref a)
  | rng {a : Addr} {lo hi : Int} : F a → H a = some (.rng lo hi) → R P F H (.rng lo hi) (.ref a)
  | dic {a : Addr} {ks : List Key} {vs : List V} {ds : List D} : F a → H a = some (.dK (ks.zip vs)) → ks.length = vs.length → Rs P F H ds vs → R P F H (.dic ks ds) (.ref a)
inductive Rs (P : Pl) (F : Addr → Prop) (H : Hp) : List D → List V → Prop
  | nil : Rs P F H [] []
  | cons {d : D} {ds : List D} {v : V} {vs : List V} : R P F H d v → Rs P F H ds vs → Rs P F H (d :: ds) (v :: vs)
end

/-- a list of one's own at a -/
inductive Own (P : Pl) (F : Addr → Prop) (H : Hp) : D → Addr → Prop
  | lst {a : Addr} {xs : List V} {ds : List D} : H a = some (.lst xs) → Rs P F H ds xs → Own P F H (.lst ds) a
  | dic {a : Addr} {ks : List Key} {vs : List V} {ds : List D} : H a = some (.dK (ks.zip vs)) → ks.length = vs.length → Rs P F H ds vs → Own P F H (.dic ks ds) a

/-- what a step keeps: F the shared things, G what others own -/
structure Step (G F : Addr → Prop) (H : Hp) (F' : Addr → Prop) (H' : Hp) : Prop where
  sub : ∀ a, F a → F' a
  keep : ∀ a o, F a ∨ G a → H a = some o → H' a = some o
  there : ∀ a, H a ≠ none → H' a ≠ none

theorem Step.refl (G F : Addr → Prop) (H : Hp) : Step G F H F H := ⟨fun _ h => h, fun _ _ _ h => h, fun _ h => h⟩
theorem Step.trans {G F F1 F2 : Addr → Prop} {H H1 H2 : Hp} (a : Step G F H F1 H1) (b : Step G F1 H1 F2 H2) : Step G F H F2 H2 :=
  ⟨fun x h => b.sub x (a.sub x h), fun x o h e => b.keep x o (h.imp (a.sub x) id) (a.keep x o h e), fun x h => b.there x (a.there x h)⟩
theorem Step.less {G G' F F' : Addr → Prop} {H H' : Hp} (a : Step G F H F' H') (h : ∀ x, G' x → G x) : Step G' F H F' H' :=
  ⟨a.sub, fun x o z e => a.keep x o (z.imp id (h x)) e, a.there⟩

section
variable {P : Pl} {G F F' : Addr → Prop} {H H' : Hp}
theorem Rd.step {a : Addr} {u : HO} (st : Step G F H F' H') (f : F a) (h : Rd H a u) : Rd H' a u := by
  rcases h with h | ⟨o, h⟩
  · exact .inl (st.keep a _ (.inl f) h)
  · exact .inr ⟨o, st.keep a _ (.inl f) h⟩
theorem Shl.step {a : Addr} {xs : List V} (st : Step G F H F' H') (h : Shl P F H a xs) : Shl P F' H' a xs := ⟨st.sub a h.1, st.keep a _ (.inl h.1) h.2⟩
theorem Sht.step {a : Addr} {xs : List V} (st : Step G F H F' H') (h : Sht P F H a xs) : Sht P F' H' a xs := by
  rcases h with ⟨f, h⟩ | h
  · exact .inl ⟨st.sub a f, Rd.step st f h⟩
  · exact .inr h
theorem Shs.step {a : Addr} {xs : List V} (st : Step G F H F' H') (h : Shs P F H a xs) : Shs P F' H' a xs := by
  rcases h with ⟨f, o, h⟩ | h
  · exact .inl ⟨st.sub a f, o, st.keep a _ (.inl f) h⟩
  · exact .inr h
mutual
theorem R.step (st : Step G F H F' H') : ∀ {d : D} {v : V}, R P F H d v → R P F' H' d v
  | _, _, .non => .non
  | _, _, .bl b => .bl b
  | _, _, .int i => .int i
  | _, _, .str x => .str x
  | _, _, .fn f => .fn f
  | _, _, .lst h r => .lst (Shl.step st h) (Rs.step st r)
  | _, _, .tup h r => .tup (Sht.step st h) (Rs.step st r)
  | _, _, .scr h r => .scr (Shs.step st h) (Rs.step st r)
  | _, _, .rng f h => .rng (st.sub _ f) (st.keep _ _ (.inl f) h)
  | _, _, .dic f h l r => .dic (st.sub _ f) (st.keep _ _ (.inl f) h) l (Rs.step st r)
theorem Rs.step (st : Step G F H F' H') : ∀ {ds : List D} {vs : List V}, Rs P F H ds vs → Rs P F' H' ds vs
  | _, _, .nil => .nil
  | _, _, .cons r t => .cons (R.step st r) (Rs.step st t)
end
theorem Rs.length : ∀ {ds : List D} {vs : List V}, Rs P F H ds vs → ds.length = vs.length
  | _, _, .nil => rfl
  | _, _, .cons _ t => by rw [List.length_cons, List.length_cons, Rs.length t]
theorem Rs.get : ∀ {ds : List D} {vs : List V} {i : Nat} {d : D}, Rs P F H ds vs → ds[i]? = some d → ∃ v, vs[i]? = some v ∧ R P F H d v
  | _, _, i, d, .nil, h => by simp at h
  | _, _, 0, d, .cons r t, h => ⟨_, rfl, by simp at h; subst h; exact r⟩
  | _, _, i + 1, d, .cons r t, h => by
    obtain ⟨v, h1, h2⟩ := Rs.get (i := i) t (by simpa using h)
    exact ⟨v, by simpa using h1, h2⟩
theorem Rs.getV : ∀ {ds : List D} {vs : List V} {i : Nat} {v : V}, Rs P F H ds vs → vs[i]? = some v → ∃ d, ds[i]? = some d ∧ R P F H d v
  | _, _, i, d, .nil, h => by simp at h
  | _, _, 0, d, .cons r t, h => ⟨_, rfl, by simp at h; subst h; exact r⟩
  | _, _, i + 1, d, .cons r t, h => by
    obtain ⟨v, h1, h2⟩ := Rs.getV (i := i) t (by simpa using h)
    exact ⟨v, by simpa using h1, h2⟩
theorem Rs.append : ∀ {ds es : List D} {vs us : List V}, Rs P F H ds vs → Rs P F H es us → Rs P F H (ds ++ es) (vs ++ us)
  | _, _, _, _, .nil, s => s
  | _, _, _, _, .cons r t, s => .cons r (Rs.append t s)
theorem Rs.drop : ∀ {ds : List D} {vs : List V} (n : Nat), Rs P F H ds vs → Rs P F H (ds.drop n) (vs.drop n)
  | _, _, 0, h => h
  | _, _, n + 1, .nil => .nil
  | _, _, n + 1, .cons _ t => Rs.drop n t
theorem Rs.take : ∀ {ds : List D} {vs : List V} (n : Nat), Rs P F H ds vs → Rs P F H (ds.take n) (vs.take n)
  | _, _, 0, _ => .nil
  | _, _, n + 1, .nil => .nil
  | _, _, n + 1, .cons r t => .cons r (Rs.take n t)
theorem Rs.set {d : D} {v : V} (h : R P F H d v) : ∀ {ds : List D} {vs : List V} (i : Nat), Rs P F H ds vs → Rs P F H (ds.set i d) (vs.set i v)
  | _, _, _, .nil => .nil
  | _, _, 0, .cons _ t => .cons h t
  | _, _, i + 1, .cons r t => .cons r (Rs.set h i t)
theorem Rs.reverse {ds : List D} {vs : List V} (h : Rs P F H ds vs) : Rs P F H ds.reverse vs.reverse := by
  induction ds generalizing vs with
  | nil => cases h; exact .nil
  | cons d ds ih => cases h with | cons r t => rw [List.reverse_cons, List.reverse_cons]; exact Rs.append (ih t) (.cons r .nil)
theorem Rs.dropLast : ∀ {ds : List D} {vs : List V}, Rs P F H ds vs → Rs P F H ds.dropLast vs.dropLast
  | _, _, .nil => .nil
  | _, _, .cons _ .nil => .nil
  | _, _, .cons r (.cons r' t) => .cons r (Rs.dropLast (.cons r' t))
theorem Rs.eraseIdx : ∀ {ds : List D} {vs : List V} (i : Nat), Rs P F H ds vs → Rs P F H (ds.eraseIdx i) (vs.eraseIdx i)
  | _, _, _, .nil => .nil
  | _, _, 0, .cons _ t => t
  | _, _, i + 1, .cons r t => .cons r (Rs.eraseIdx i t)
theorem Rs.reps {ds : List D} {vs : List V} (h : Rs P F H ds vs) : ∀ n : Nat, Rs P F H (reps ds n) (List.replicate n vs).flatten
  | 0 => .nil
  | n + 1 => by rw [List.replicate_succ, List.flatten_cons]; exact Rs.append h (Rs.reps h n)
theorem Own.step {d : D} {a : Addr} (st : Step G F H F' H') (g : G a) (h : Own P F H d a) : Own P F' H' d a := by
  cases h with
  | lst e r => exact .lst (st.keep a _ (.inr g) e) (Rs.step st r)
  | dic e l r => exact .dic (st.keep a _ (.inr g) e) l (Rs.step st r)
theorem Shl.sq {a : Addr} {xs : List V} (h : Shl P F H a xs) : SqL P.K H a xs := SqL.of h.2
theorem Shs.sq {a : Addr} {xs : List V} (h : Shs P F H a xs) : SqL P.K H a xs := by
  rcases h with ⟨_, o, h⟩ | h
  · exact .inl (.inr ⟨o, h⟩)
  · exact .inr h
theorem Sht.sq {a : Addr} {xs : List V} (h : Sht P F H a xs) : SqT P.K H a xs := by
  rcases h with ⟨_, h⟩ | h
  · exact .inl h
  · exact .inr h
end

/-- an exception -/
inductive RX (P : Pl) (F : Addr → Prop) (H : Hp) : Xn → Value → Option Addr → Prop
  | no (c : Nat) : c < P.nc → RX P F H ⟨c, none⟩ (.ref (P.ca c)) none
  | so {c : Nat} {d : D} {v : V} {a : Addr} : c < P.nc → F a → R P F H d v → H a = some (.xd [(P.cf c, v)]) → RX P F H ⟨c, some d⟩ (.ref (P.ca c)) (some a)

/-- a slot -/
inductive SlotR (P : Pl) (G F : Addr → Prop) (H : Hp) : Slot → Option V → Prop
  | un (o : Option V) : SlotR P G F H .un o
  | val {d : D} {v : V} : R P F H d v → SlotR P G F H (.val d) (some v)
  | own {d : D} {a : Addr} : Own P F H d a → ¬ F a → ¬ G a → SlotR P G F H (.own d) (some (.ref a))
  | ex {x : Xn} {a : Addr} {cls : Value} {d : Option Addr} : P.hx = some (a, cls, d) → RX P F H x cls d → SlotR P G F H (.ex x) (some (.ref a))

/-- the address of a slot's own list -/
def OwnAt (env : Env) (σ : L2.St) (i : Nat) (a : Addr) : Prop := (∃ d, env[i]? = some (.own d)) ∧ σ[i]? = some (some (.ref a))

/-- the frame as a whole -/
structure Rel (P : Pl) (G F : Addr → Prop) (env : Env) (σ : L2.St) (H : Hp) : Prop where
  len : env.length = σ.length
  sl : ∀ (i : Nat) (s : Slot) (o : Option V), env[i]? = some s → σ[i]? = some o → SlotR P G F H s o
  apart : ∀ i j a, i ≠ j → OwnAt env σ i a → ¬ OwnAt env σ j a
  domF : ∀ a, F a → H a ≠ none
  domG : ∀ a, G a → H a ≠ none
  disj : ∀ a, F a → ¬ G a
  fix : ∀ i a, P.lx i = some a → σ[i]? = some (some (.ref a))

/-- an operand -/
inductive RO (P : Pl) (G F : Addr → Prop) (env : Env) (σ : L2.St) (H : Hp) : Opd → V → Prop
  | val {d : D} {v : V} : R P F H d v → RO P G F env σ H (.val d) v
  | fresh {d : D} {a : Addr} : Own P F H d a → ¬ F a → ¬ G a → (∀ i, ¬ OwnAt env σ i a) → RO P G F env σ H (.fresh d) (.ref a)
  | slot {i : Nat} {v : V} : σ[i]? = some (some v) → RO P G F env σ H (.slot i) v

/-- what a new list of o at v takes away from the others -/
def pendG (G : Addr → Prop) (o : Opd) (v : V) : Addr → Prop := fun x => G x ∨ ((∃ d, o = .fresh d) ∧ v = .ref x)
/-- operands in a row: each new list is the others' not -/
inductive ROs (P : Pl) (F : Addr → Prop) (env : Env) (σ : L2.St) (H : Hp) : (Addr → Prop) → List Opd → List V → Prop
  | nil (G : Addr → Prop) : ROs P F env σ H G [] []
  | cons {G : Addr → Prop} {o : Opd} {v : V} {os : List Opd} {vs : List V} : RO P G F env σ H o v → ROs P F env σ H (pendG G o v) os vs → ROs P F env σ H G (o :: os) (v :: vs)

/-- what is wanted behind an expression's run -/
def GR (P : Pl) (W : WX) {α : Type} (G F : Addr → Prop) (σ : L2.St) (H : Hp) (C : α → Env → (Addr → Prop) → Hp → Prop) : Res α → Prop
  | .ok a env' => ∀ F' H', Step G F H F' H' → Rel P G F' env' σ H' → C a env' F' H'
  | .exc x env' => ∀ F' H' cls d, Step G F H F' H' → Rel P G F' env' σ H' → RX P F' H' x cls d → W cls d σ H'
  | .stk => False
def GE (P : Pl) (W : WX) (G F : Addr → Prop) (σ : L2.St) (H : Hp) (Q : V → Hp → Prop) : Res Opd → Prop :=
  GR P W G F σ H fun o env' F' H' => ∀ v, RO P G F' env' σ H' o v → Q v H'
def GT (P : Pl) (W : WX) (G F : Addr → Prop) (σ : L2.St) (H : Hp) (Q : Bool → Hp → Prop) : Res Bool → Prop :=
  GR P W G F σ H fun k _ _ H' => Q k H'
def GA (P : Pl) (W : WX) (G F : Addr → Prop) (σ : L2.St) (H : Hp) (Q : List V → Hp → Prop) : Res (List Opd) → Prop :=
  GR P W G F σ H fun os env' F' H' => ∀ vs, ROs P F' env' σ H' G os vs → Q vs H'
/-- .. behind a statement -/
def GS (P : Pl) (W : WX) (G F : Addr → Prop) (H : Hp) (E : Ends) : Fl → Prop
  | .nx env' => ∀ F' σ' H', Step G F H F' H' → Rel P G F' env' σ' H' → E.nx σ' H'
  | .bk env' => ∀ F' σ' H', Step G F H F' H' → Rel P G F' env' σ' H' → E.bk σ' H'
  | .ct env' => ∀ F' σ' H', Step G F H F' H' → Rel P G F' env' σ' H' → E.ct σ' H'
  | .rt o env' => ∀ F' σ' H' v, Step G F H F' H' → Rel P G F' env' σ' H' → RO P G F' env' σ' H' o v → E.rt v H'
  | .exc x env' => ∀ F' σ' H' cls d, Step G F H F' H' → Rel P G F' env' σ' H' → RX P F' H' x cls d → W cls d σ' H'
  | .stk => False

def SndE (P : Pl) (X : Cx) (W : WX) (cl : Caller) (e : Expr) (c : E) : Prop :=
  ∃ t, PE X e t ∧ ∀ G F env σ H Q, Rel P G F env σ H → GE P W G F σ H Q (evalE cl c env) → t σ H Q
def SndA (P : Pl) (X : Cx) (W : WX) (cl : Caller) (es : List Expr) (c : Es) : Prop :=
  ∃ t, PA X es t ∧ ∀ G F env σ H Q, Rel P G F env σ H → GA P W G F σ H Q (evalEs cl c env) → t σ H Q
def SndT (P : Pl) (X : Cx) (W : WX) (cl : Caller) (e : Expr) (c : T) : Prop :=
  ∃ t, PT X e t ∧ ∀ G F env σ H Q, Rel P G F env σ H → GT P W G F σ H Q (evalT cl c env) → t σ H Q
def SndS (P : Pl) (X : Cx) (W : WX) (cl : Caller) (st : Stmt) (c : S) : Prop :=
  ∃ t, PS X st t ∧ ∀ G F env σ H E, Rel P G F env σ H → GS P W G F H E (evalS cl c env) → t E σ H
def SndSs (P : Pl) (X : Cx) (W : WX) (cl : Caller) (st : List Stmt) (c : Ss) : Prop :=
  ∃ t, PSs X st t ∧ ∀ G F env σ H E, Rel P G F env σ H → GS P W G F H E (evalSs cl c env) → t E σ H
/-! ### lemmas of the relation -/
section
variable {P : Pl} {W : WX} {G G' F F' : Addr → Prop} {env env' : Env} {σ : L2.St} {H H' : Hp}
theorem Step.same (h : ∀ a o, H a = some o → H' a = some o) : Step G F H F H' :=
  ⟨fun _ z => z, fun a o _ e => h a o e, fun a z => by
    cases e : H a with
    | none => exact absurd e z
    | some o => rw [h a o e]; exact fun q => nomatch q⟩
/-- F grows -/
theorem Step.grow (h : ∀ a, F a → F' a) : Step G F H F' H := ⟨h, fun _ _ _ e => e, fun _ z => z⟩
theorem Own.same {d : D} {a : Addr} (h : ∀ a o, H a = some o → H' a = some o) (z : Own P F H d a) : Own P F H' d a := by
  cases z with
  | lst e r => exact .lst (h a _ e) (Rs.step (G := fun _ => False) (Step.same h) r)
  | dic e l r => exact .dic (h a _ e) l (Rs.step (G := fun _ => False) (Step.same h) r)
theorem Own.grow {d : D} {a : Addr} (h : ∀ a, F a → F' a) (z : Own P F H d a) : Own P F' H d a := by
  cases z with
  | lst e r => exact .lst e (Rs.step (G := fun _ => False) (Step.grow h) r)
  | dic e l r => exact .dic e l (Rs.step (G := fun _ => False) (Step.grow h) r)
theorem Own.some {d : D} {a : Addr} (z : Own P F H d a) : H a ≠ none := by
  cases z with
  | lst e r => rw [e]; exact fun q => nomatch q
  | dic e l r => rw [e]; exact fun q => nomatch q
theorem RX.step {x : Xn} {c : Value} {d : Option Addr} (st : Step G F H F' H') (h : RX P F H x c d) : RX P F' H' x c d := by
  cases h with
  | no c l => exact .no c l
  | so l f q e => exact .so l (st.sub _ f) (R.step st q) (st.keep _ _ (.inl f) e)
theorem RX.same {x : Xn} {c : Value} {d : Option Addr} (h : ∀ a o, H a = some o → H' a = some o) (z : RX P F H x c d) : RX P F H' x c d := RX.step (G := fun _ => False) (Step.same h) z
theorem RX.grow {x : Xn} {c : Value} {d : Option Addr} (h : ∀ a, F a → F' a) (z : RX P F H x c d) : RX P F' H x c d := RX.step (G := fun _ => False) (Step.grow h) z
theorem SlotR.same {s : Slot} {o : Option V} (h : ∀ a o, H a = some o → H' a = some o) (z : SlotR P G F H s o) : SlotR P G F H' s o := by
  cases z with
  | un o => exact .un o
  | val r => exact .val (R.step (G := fun _ => False) (Step.same h) r)
  | own q n1 n2 => exact .own (q.same h) n1 n2
  | ex e q => exact .ex e (q.same h)
theorem Rel.same (r : Rel P G F env σ H) (h : ∀ a o, H a = some o → H' a = some o) : Rel P G F env σ H' :=
  ⟨r.len, fun i s o e1 e2 => (r.sl i s o e1 e2).same h, r.apart, fun a z => (Step.same (G := G) h : Step G F H F H').there a (r.domF a z), fun a z => (Step.same (G := G) h : Step G F H F H').there a (r.domG a z), r.disj, r.fix⟩
theorem Rel.less (r : Rel P G F env σ H) (h : ∀ a, G' a → G a) : Rel P G' F env σ H :=
  ⟨r.len, fun i s o e1 e2 => by
    cases r.sl i s o e1 e2 with
    | un o => exact .un o
    | val q => exact .val q
    | own q n1 n2 => exact .own q n1 fun z => n2 (h _ z)
    | ex e q => exact .ex e q, r.apart, r.domF, fun a z => r.domG a (h a z), fun a z q => r.disj a z (h a q), r.fix⟩
theorem RO.less {o : Opd} {v : V} (r : RO P G F env σ H o v) (h : ∀ a, G' a → G a) : RO P G' F env σ H o v := by
  cases r with
  | val q => exact .val q
  | fresh q n1 n2 n3 => exact .fresh q n1 (fun z => n2 (h _ z)) n3
  | slot e => exact .slot e
theorem pend_sub {o : Opd} {v : V} : ∀ a, G a → pendG G o v a := fun _ z => .inl z
/-- the slot's own list and where it lies -/
theorem Rel.ownAt (r : Rel P G F env σ H) {i : Nat} {d : D} (e : env[i]? = some (.own d)) : ∃ a, σ[i]? = some (some (.ref a)) ∧ Own P F H d a ∧ ¬ F a ∧ ¬ G a := by
  have hi : i < env.length := (List.getElem?_eq_some_iff.mp e).1
  have e2 : σ[i]? = some (σ[i]'(by rw [← r.len]; exact hi)) := List.getElem?_eq_getElem _
  have z := r.sl i _ _ e e2
  rw [e2]
  revert z
  generalize σ[i]'(by rw [← r.len]; exact hi) = o
  intro z
  cases z with
  | own q n1 n2 => exact ⟨_, rfl, q, n1, n2⟩
theorem Rel.valAt (r : Rel P G F env σ H) {i : Nat} {d : D} (e : env[i]? = some (.val d)) : ∃ v, σ[i]? = some (some v) ∧ R P F H d v := by
  have hi : i < env.length := (List.getElem?_eq_some_iff.mp e).1
  have e2 : σ[i]? = some (σ[i]'(by rw [← r.len]; exact hi)) := List.getElem?_eq_getElem _
  have z := r.sl i _ _ e e2
  rw [e2]
  revert z
  generalize σ[i]'(by rw [← r.len]; exact hi) = o
  intro z
  cases z with
  | val q => exact ⟨_, rfl, q⟩
theorem Rel.own_of (r : Rel P G F env σ H) {i : Nat} {a : Addr} (h : OwnAt env σ i a) : ∃ d, env[i]? = some (.own d) ∧ Own P F H d a ∧ ¬ F a ∧ ¬ G a := by
  obtain ⟨⟨d, e⟩, e2⟩ := h
  obtain ⟨b, e3, q⟩ := r.ownAt e
  rw [e2] at e3
  cases e3
  exact ⟨d, e, q⟩
theorem Rel.pend {o : Opd} {v : V} (r : Rel P G F env σ H) (h : RO P G F env σ H o v) : Rel P (pendG G o v) F env σ H := by
  refine ⟨r.len, fun i s ov e1 e2 => ?_, r.apart, r.domF, fun a z => ?_, fun a z q => ?_, r.fix⟩
  · have z := r.sl i s ov e1 e2
    cases z with
    | un _ => exact .un _
    | val q => exact .val q
    | own q n1 n2 =>
      refine .own q n1 fun w => ?_
      rcases w with w | ⟨⟨d', ew⟩, ev⟩
      · exact n2 w
      · subst ew
        cases h with
        | fresh q2 m1 m2 m3 =>
          cases ev
          exact m3 i ⟨⟨_, e1⟩, e2⟩
    | ex e q => exact .ex e q
  · rcases z with z | ⟨⟨d', ew⟩, ev⟩
    · exact r.domG a z
    · subst ew
      cases h with
      | fresh q2 m1 m2 m3 => cases ev; exact q2.some
  · rcases q with q | ⟨⟨d', ew⟩, ev⟩
    · exact r.disj a z q
    · subst ew
      cases h with
      | fresh q2 m1 m2 m3 => cases ev; exact m1 z
/-- an operand stays behind a step that keeps it -/
theorem RO.stay {o : Opd} {v : V} (h : RO P G F env σ H o v) (st : Step (pendG G o v) F H F' H') (r : Rel P (pendG G o v) F' env' σ H') : RO P G F' env' σ H' o v := by
  cases h with
  | val q => exact .val (R.step st q)
  | slot e => exact .slot e
  | fresh q n1 n2 n3 =>
    rename_i d a
    have g : pendG G (.fresh d) (.ref a) a := Or.inr ⟨⟨d, rfl⟩, rfl⟩
    refine .fresh (q.step st g) (fun z => r.disj _ z g) n2 fun i z => ?_
    obtain ⟨d, e, _, _, n⟩ := r.own_of z
    exact n g
/-- an operand that may be read -/
inductive RT (P : Pl) (F : Addr → Prop) (H : Hp) : D → V → Prop
  | sh {d : D} {v : V} : R P F H d v → RT P F H d v
  | own {d : D} {a : Addr} : Own P F H d a → RT P F H d (.ref a)
theorem RO.get {o : Opd} {v : V} {d : D} (r : Rel P G F env σ H) (h : RO P G' F env σ H o v) (e : o.get env = some d) : RT P F H d v := by
  cases h with
  | val q => cases e; exact .sh q
  | fresh q n1 n2 n3 => cases e; exact .own q
  | slot e1 =>
    rename_i i
    unfold Opd.get at e
    simp only at e
    split at e
    · cases e
      rename_i d' e2
      obtain ⟨a, e3, q, _⟩ := r.ownAt e2
      rw [e1] at e3
      cases e3
      exact .own q
    · cases e
theorem RT.lst' {ds : List D} {v : V} (h : RT P F H (.lst ds) v) : ∃ a xs, v = .ref a ∧ H a = some (.lst xs) ∧ Rs P F H ds xs := by
  cases h with
  | sh q => cases q with | lst s r => exact ⟨_, _, rfl, s.2, r⟩
  | own q => cases q with | lst e r => exact ⟨_, _, rfl, e, r⟩
theorem RT.lst {ds : List D} {v : V} (h : RT P F H (.lst ds) v) : ∃ a xs, v = .ref a ∧ SqL P.K H a xs ∧ Rs P F H ds xs := by
  obtain ⟨a, xs, e, h, r⟩ := h.lst'
  exact ⟨a, xs, e, SqL.of h, r⟩
theorem RT.scr {ds : List D} {v : V} (h : RT P F H (.scr ds) v) : ∃ a xs, v = .ref a ∧ SqL P.K H a xs ∧ Rs P F H ds xs := by
  cases h with
  | sh q => cases q with | scr s r => exact ⟨_, _, rfl, s.sq, r⟩
  | own q => cases q
theorem RT.tup {ds : List D} {v : V} (h : RT P F H (.tup ds) v) : ∃ a xs, v = .ref a ∧ SqT P.K H a xs ∧ Rs P F H ds xs := by
  cases h with
  | sh q => cases q with | tup s r => exact ⟨_, _, rfl, s.sq, r⟩
  | own q => cases q
theorem RT.int {i : Int} {v : V} (h : RT P F H (.int i) v) : v = .int i := by
  cases h with
  | sh q => cases q; rfl
  | own q => cases q
theorem RT.bl {i : Bool} {v : V} (h : RT P F H (.bl i) v) : v = .bl i := by
  cases h with
  | sh q => cases q; rfl
  | own q => cases q
theorem RT.str {i : Str} {v : V} (h : RT P F H (.str i) v) : v = .str i := by
  cases h with
  | sh q => cases q; rfl
  | own q => cases q
theorem RT.non {v : V} (h : RT P F H .non v) : v = .non := by
  cases h with
  | sh q => cases q; rfl
  | own q => cases q
theorem GR.step {α : Type} {C : α → Env → (Addr → Prop) → Hp → Prop} {r : Res α} (h : GR P W G F σ H C r) (st : Step G F H F' H') : GR P W G F' σ H' C r := by
  cases r with
  | ok o e => exact fun F2 H2 s2 => h F2 H2 (st.trans s2)
  | exc x e => exact fun F2 H2 c d s2 => h F2 H2 c d (st.trans s2)
  | stk => exact h
theorem GR.bind {α β : Type} {rA : Res α} {k : α → Env → Res β} {C : β → Env → (Addr → Prop) → Hp → Prop} {Ca : α → Env → (Addr → Prop) → Hp → Prop} (hg : GR P W G F σ H C (rA.bind k))
    (hk : ∀ a e F1 H1, Step G F H F1 H1 → Rel P G F1 e σ H1 → GR P W G F1 σ H1 C (k a e) → Ca a e F1 H1) : GR P W G F σ H Ca rA := by
  cases rA with
  | ok a e => exact fun F1 H1 st r => hk a e F1 H1 st r (GR.step hg st)
  | exc x e => exact hg
  | stk => exact hg
theorem GR.bindE {α β : Type} {rA : Res α} {k : α → Env → Res β} {C : β → Env → (Addr → Prop) → Hp → Prop} {Ca : α → Env → (Addr → Prop) → Hp → Prop} (hg : GR P W G F σ H C (rA.bind k))
    (hk : ∀ a e F1 H1, rA = .ok a e → Step G F H F1 H1 → Rel P G F1 e σ H1 → GR P W G F1 σ H1 C (k a e) → Ca a e F1 H1) : GR P W G F σ H Ca rA := by
  cases rA with
  | ok a e => exact fun F1 H1 st r => hk a e F1 H1 rfl st r (GR.step hg st)
  | exc x e => exact hg
  | stk => exact hg
/-- with more that is others' -/
theorem GR.more {α : Type} {C C' : α → Env → (Addr → Prop) → Hp → Prop} {r : Res α} (h : GR P W G F σ H C r) (hs : ∀ a, G a → G' a)
    (hc : ∀ a e F1 H1, Step G' F H F1 H1 → Rel P G' F1 e σ H1 → C a e F1 H1 → C' a e F1 H1) : GR P W G' F σ H C' r := by
  cases r with
  | ok a e => exact fun F1 H1 st r => hc a e F1 H1 st r (h F1 H1 (st.less hs) (r.less hs))
  | exc x e => exact fun F1 H1 c d st r rx => h F1 H1 c d (st.less hs) (r.less hs) rx
  | stk => exact h
theorem GR.opt {α β : Type} {o : Option α} {e : Env} {k : α → Env → Res β} {C : β → Env → (Addr → Prop) → Hp → Prop} (hg : GR P W G F σ H C ((ofO o e).bind k)) : ∃ a, o = some a ∧ GR P W G F σ H C (k a e) := by
  cases o with
  | none => exact absurd hg id
  | some a => exact ⟨a, rfl, hg⟩
theorem GR.opt1 {α : Type} {o : Option α} {e : Env} {C : α → Env → (Addr → Prop) → Hp → Prop} (hg : GR P W G F σ H C (ofO o e)) : ∃ a, o = some a ∧ GR P W G F σ H C (.ok a e) := by
  cases o with
  | none => exact absurd hg id
  | some a => exact ⟨a, rfl, hg⟩
theorem GS.step {E : Ends} {r : Fl} (h : GS P W G F H E r) (st : Step G F H F' H') : GS P W G F' H' E r := by
  cases r with
  | nx e => exact fun F2 s2 H2 z => h F2 s2 H2 (st.trans z)
  | bk e => exact fun F2 s2 H2 z => h F2 s2 H2 (st.trans z)
  | ct e => exact fun F2 s2 H2 z => h F2 s2 H2 (st.trans z)
  | rt o e => exact fun F2 s2 H2 v z => h F2 s2 H2 v (st.trans z)
  | exc x e => exact fun F2 s2 H2 c d z => h F2 s2 H2 c d (st.trans z)
  | stk => exact h
/-- a new object's address -/
theorem Rel.newF (r : Rel P G F env σ H) {p : Addr} (h : H p = none) : ¬ F p := fun z => r.domF p z h
theorem Rel.newG (r : Rel P G F env σ H) {p : Addr} (h : H p = none) : ¬ G p := fun z => r.domG p z h
theorem same_new {p : Addr} {o : HO} (h : H p = none) : ∀ a u, H a = some u → upd H p o a = some u := fun a u e => by
  rw [upd_ne (ne_of_none e h)]; exact e
theorem Rel.notOwn (r : Rel P G F env σ H) {p : Addr} (h : H p = none) : ∀ i, ¬ OwnAt env σ i p := fun i z => by
  obtain ⟨d, _, q, _⟩ := r.own_of z
  exact q.some h
/-- more is shared: things that nobody owns -/
theorem Rel.share (r : Rel P G F env σ H) (p : Addr) (h : H p ≠ none) (ng : ¬ G p) (no : ∀ i, ¬ OwnAt env σ i p) : Rel P G (fun a => F a ∨ a = p) env σ H := by
  refine ⟨r.len, fun i s o e1 e2 => ?_, r.apart, fun a z => ?_, r.domG, fun a z q => ?_, r.fix⟩
  · have z := r.sl i s o e1 e2
    cases z with
    | un o => exact .un o
    | val q => exact .val (R.step (G := G) (Step.grow fun _ z => .inl z) q)
    | own q n1 n2 => exact .own (q.grow fun _ z => .inl z) (fun z => z.elim n1 fun e => no i (by subst e; exact ⟨⟨_, e1⟩, e2⟩)) n2
    | ex e q => exact .ex e (q.grow fun _ z => .inl z)
  · rcases z with z | z
    · exact r.domF a z
    · rw [z]; exact h
  · rcases z with z | z
    · exact r.disj a z q
    · rw [z] at q; exact ng q
/-- an operand is let go -/
theorem RO.leak {o : Opd} {v : V} {d : D} (r : Rel P G F env σ H) (h : RO P G F env σ H o v) (e : o.leak = some d) : ∃ F', (∀ a, F' a → F a ∨ ((∃ d, o = .fresh d) ∧ v = .ref a)) ∧ Step G F H F' H ∧ Rel P G F' env σ H ∧ R P F' H d v := by
  cases h with
  | val q => cases e; exact ⟨F, fun _ z => .inl z, Step.refl .., r, q⟩
  | fresh q n1 n2 n3 =>
    cases e
    rename_i a
    refine ⟨fun x => F x ∨ x = a, fun x z => z.imp id fun z => ⟨⟨_, rfl⟩, by rw [z]⟩, Step.grow fun _ z => .inl z, r.share a q.some n2 n3, ?_⟩
    cases q with
    | lst e r => exact .lst ⟨.inr rfl, e⟩ (Rs.step (G := G) (Step.grow fun _ z => .inl z) r)
    | dic e l r => exact .dic (.inr rfl) e l (Rs.step (G := G) (Step.grow fun _ z => .inl z) r)
  | slot e1 => cases e
end
/-! ### with other lent lists -/
def Pl.wl (P : Pl) (lx : Nat → Option Addr) : Pl := { P with lx := lx }
abbrev Pl.base (P : Pl) : Pl := P.wl fun _ => none
section
variable {P : Pl} {G F : Addr → Prop} {H : Hp} {env : Env} {σ : L2.St}
mutual
theorem R.wl (lx : Nat → Option Addr) : ∀ {d : D} {v : V}, R P F H d v → R (P.wl lx) F H d v
  | _, _, .non => .non
  | _, _, .bl b => .bl b
  | _, _, .int i => .int i
  | _, _, .str x => .str x
  | _, _, .fn f => .fn f
  | _, _, .lst h r => .lst h (Rs.wl lx r)
  | _, _, .tup h r => .tup h (Rs.wl lx r)
  | _, _, .scr h r => .scr h (Rs.wl lx r)
  | _, _, .rng f h => .rng f h
  | _, _, .dic f h l r => .dic f h l (Rs.wl lx r)
theorem Rs.wl (lx : Nat → Option Addr) : ∀ {ds : List D} {vs : List V}, Rs P F H ds vs → Rs (P.wl lx) F H ds vs
  | _, _, .nil => .nil
  | _, _, .cons r t => .cons (R.wl lx r) (Rs.wl lx t)
end
theorem Own.wl (lx : Nat → Option Addr) {d : D} {a : Addr} (h : Own P F H d a) : Own (P.wl lx) F H d a := by
  cases h with
  | lst e r => exact .lst e (r.wl lx)
  | dic e l r => exact .dic e l (r.wl lx)
theorem RX.wl (lx : Nat → Option Addr) {x : Xn} {c : Value} {d : Option Addr} (h : RX P F H x c d) : RX (P.wl lx) F H x c d := by
  cases h with
  | no c l => exact .no c l
  | so l f q e => exact .so l f (q.wl lx) e
theorem SlotR.wl (lx : Nat → Option Addr) {s : Slot} {o : Option V} (h : SlotR P G F H s o) : SlotR (P.wl lx) G F H s o := by
  cases h with
  | un o => exact .un o
  | val q => exact .val (q.wl lx)
  | own q n1 n2 => exact .own (q.wl lx) n1 n2
  | ex e q => exact .ex e (q.wl lx)
theorem Rel.wl {lx : Nat → Option Addr} (r : Rel P G F env σ H) (h : ∀ i a, lx i = some a → σ[i]? = some (some (.ref a))) : Rel (P.wl lx) G F env σ H :=
  ⟨r.len, fun i s o e1 e2 => (r.sl i s o e1 e2).wl lx, r.apart, r.domF, r.domG, r.disj, h⟩
theorem RO.wl (lx : Nat → Option Addr) {o : Opd} {v : V} (h : RO P G F env σ H o v) : RO (P.wl lx) G F env σ H o v := by
  cases h with
  | val q => exact .val (q.wl lx)
  | fresh q n1 n2 n3 => exact .fresh (q.wl lx) n1 n2 n3
  | slot e => exact .slot e
end
end Pd
set_option autoImplicit false
set_option linter.all false
set_option maxRecDepth 100000
set_option maxHeartbeats 1000000
/-! promises of defs that are called where nothing is guarded (so that repr of a sequence may be told) -/
namespace Pd
open PySem PySem.Spec PyProof.Rows L2
abbrev Free (A : Around) : Prop := A.guards = some []
section
variable {P : Program} {w : World} {K : PySem.W.Frag} {mg : Str → Option Value} {base : Heap}
structure FnG (P : Program) (w : World) (K : PySem.W.Frag) (mg : Str → Option Value) (base : Heap) (CX : CXT) (k : Nat) (f : Addr) (fd : FuncData) (ps : List Str) (sp : Sp) : Prop where
  many : ∀ vs H Q E, sp vs H Q E → vs.length = ps.length
  go : ∀ (A : Around) (l : List PySem.Env) (s : Shared) (H : Hp) (args : Args) (us : List Value) (vs : List V) (Q : VK) (E : XK), Free A → Room k A → Env0 P w K mg base A l s H → BindsTo s fd args (ps.zip us) → Vals vs us → sp vs H Q E →
    codeAny (model P w) A (.call (.ref f) args) (CR CX l P w H s Q E) s
theorem FnG.imp {CX : CXT} {k : Nat} {f : Addr} {fd : FuncData} {ps : List Str} {sp sp' : Sp} (F : FnG P w K mg base CX k f fd ps sp) (h : ∀ vs H Q E, sp' vs H Q E → sp vs H Q E) : FnG P w K mg base CX k f fd ps sp' :=
  ⟨fun vs H Q E q => F.many vs H Q E (h _ _ _ _ q), fun A l s H args us vs Q E fr hr he hb hv hs => F.go A l s H args us vs Q E fr hr he hb hv (h _ _ _ _ hs)⟩
/-- called by values -/
theorem run_G {X : Cx} {CX : CXT} {k : Nat} {f : Addr} {fd : FuncData} {ps : List Str} {sp : Sp} {E : L2.St → XK} {pins : List (Addr × Obj)} {σ : L2.St} {H : Hp} {s : Shared} {Q : VK} {us : List Value} {vs : List V} (F : FnG X.prog X.w X.K X.mg X.base CX k f fd ps sp) (fr : Free X.A) (hr : Room k X.A) (hb : Binds X.K fd ps [])
    (hx : PassesAt CX X σ (E σ)) (I : Inv X pins σ H s) (r : Vals vs us) (h : sp vs H Q (E σ)) : wpAny (model X.prog X.w) X.A (call (.ref f) us) (EP X pins σ Q) X.xe s := by
  have hl : us.length = ps.length := (Paired.length r).symm.trans (F.many _ _ _ _ h)
  have b : BindsTo s fd ⟨us, []⟩ (ps.zip us) := by
    have z := hb s us I.kIn (by rw [List.append_nil]; exact hl)
    rwa [List.append_nil] at z
  refine wpAny_call (codeAny_mono (F.go X.A X.stack s H ⟨us, []⟩ us vs Q (E σ) fr hr I.env0 b r h) fun res t hq => ?_)
  match res, hq with
  | .error e, hq => exact hx pins H s e t I hq
  | .ok (.ret u), hq => exact I.after hq
  | .ok .next, hq => exact hq.elim
  | .ok .brk, hq => exact hq.elim
  | .ok .cont, hq => exact hq.elim
/-- a def's promise from its body's walk -/
theorem Fun.okG {x qual : Str} {st : Stmt} {f : Addr} {fd : FuncData} {N ps : List Str} {k : Nat} {sp : Sp} (F : Fun K x qual st f fd) (S : FnScope N ps (defScope st)) (many : ∀ vs H Q E, sp vs H Q E → vs.length = ps.length)
    (body : ∀ (cdv : Value) (A : Around) (l : List PySem.Env) (s : Shared) (H : Hp) (vs : List V) (Q : VK) (E : XK), Free A → Room k (A.deeper (envOfC qual (defScope st) s.heap.objs.size f cdv)) → sp vs H Q E →
      ∃ t, PSs (cxOf (L2.CX P w) P w K mg base N qual (defScope st) f cdv A l s H E) (defBody st) t ∧ t { nx := fun _ H' => Q .non H', rt := Q } (start N vs) H) : FnG P w K mg base (L2.CX P w) (k + 1) f fd ps sp := by
  obtain ⟨oc, od, kV, doc, pm, an, cdv, ct, osl, rfl, lk, code⟩ := F.ex
  refine ⟨many, fun A l s H args us vs Q E fr hr e0 hb r h => ?_⟩
  have old : ∀ b o, base.get? b = some o → s.heap.get? b = some o := fun b o e => (e0.bs b o e).1
  have kin : K.In s.heap := e0.mod.kin.keeps old
  have kinds : ∀ y ∈ ps.zip us, (defScope st).names.lookup y.1 = some .local ∨ ((defScope st).names.lookup y.1 = some .cell ∧ ((cellsFrom (s.heap.objs.size + 1) (defScope st).names []).lookup y.1).isSome = true) := by
    intro y hy
    refine (S.par y.1 (List.of_mem_zip (a := y.1) (b := y.2) hy).1).imp id fun q => ⟨q, PySem.W.cellsFrom_some _ _ _ (.inl q)⟩
  refine codeAny_call_function hr.depth (kin _ _ lk) rfl S.co S.gen rfl (PySem.W.codeRec_of kin code) (hb _ _ _ _ ?_)
  refine wpAny_newFunctionEnv_cells S.kind kinds fun env he s1 inn => ?_
  subst he
  refine ⟨(e0.mod.nolimit.keeps old).keeps inn.toInCall.keep, codeAny_func ?_⟩
  obtain ⟨t, ht, w0⟩ := body cdv A l s H vs Q E fr (hr.deeper _) h
  have hl : vs.length = ps.length := many _ _ _ _ h
  refine wpAny_mono (ht.run [] s1 (start N vs) H _ (inv_start S hr.hd e0 hl r inn) w0) (fun fl u hu => ?_) fun _ _ q => q
  match fl, hu with
  | .ret y, ⟨v, _, H', J, rv, q⟩ => exact ⟨v, H', J.os, J.bare, J.base, J.hok, rv, q⟩
  | .next, ⟨_, H', J, q⟩ => exact ⟨V.non, H', J.os, J.bare, J.base, J.hok, rfl, q⟩
  | .brk, ⟨_, _, _, q⟩ => exact q.elim
  | .cont, ⟨_, _, _, q⟩ => exact q.elim
/-- the law's def, called at the end of the top -/
theorem law_G {mb : Str → Option Value} {CX : CXT} {k : Nat} {fa a : Addr} {fd : FuncData} {x : Str} {sp : Sp} {s : Shared} {vs : List Value} {ns : List Int}
    (kin : K.In s.heap) (ng : s.heap.Ns mainGlobals mg) (nb : s.heap.Ns builtinsNs mb) (bb : ∀ x : Str, x ≠ "__name__" → mb x = bootBuiltins x) (lim : s.heap.NoLimit) (gn : s.gens = #[])
    (ha : s.heap.get? a = some { cls := .type "list", data := .seq vs.toArray }) (ia : IntsAre vs ns) (sz : ns.length ≤ sizeLine) (hr : Room k callerA)
    (F : ∀ base : Heap, K.In base → base.Ns mainGlobals mg → FnG P w K mg base CX k fa fd [x] sp) (bd : ∀ (s : Shared) (u : Value), BindsTo s fd ⟨[u], []⟩ [(x, u)])
    (hs : ∀ H : Hp, Only H → SqL K H a (ns.map V.int) → sp [.ref a] H (fun v _ => v = .bl true) fun _ _ _ => False) (nx : ∀ H e t, CX [] H s (fun _ _ _ => False) e t → False) :
    codeAny (model P w) callerA (.call (.ref fa) ⟨[.ref a], []⟩) (fun r t => r = .ok (.ret (.bool true)) ∧ OldK s.heap t.heap ∧ t.os = s.os ∧ AllBare t.gens) s := by
  have rv := vals_ints ia
  -- at a heap in which at most the script stands
  have main : ∀ H : Hp, Only H → SqL K H a (ns.map V.int) → HOk P w H s.heap → (∀ b, H b ≠ none → b = a ∧ K.lookup a = none) →
      codeAny (model P w) callerA (.call (.ref fa) ⟨[.ref a], []⟩) (fun r t => r = .ok (.ret (.bool true)) ∧ OldK s.heap t.heap ∧ t.os = s.os ∧ AllBare t.gens) s := by
    intro H only sq ok own
    have dic : ∀ {b : Addr} {o : Obj} {es : Array DictEntry} {ep : Nat}, s.heap.get? b = some o → o.data = .dict es ep → H b = none := by
      intro b o es ep e d
      refine Classical.byContradiction fun z => ?_
      rw [(own b z).1, ha] at e
      cases e
      exact nomatch (show Data.seq vs.toArray _ = Data.dict es ep from d)
    have kk : K.In (hidT s.heap H) := fun b o e => hidT_get (kin b o e) (Classical.byContradiction fun z => by
      obtain ⟨z1, z2⟩ := own b z
      rw [z1, z2] at e
      cases e)
    have nsH : ∀ {b : Addr} {m : Str → Option Value}, s.heap.Ns b m → (hidT s.heap H).Ns b m := by
      rintro b m ⟨o, es, ep, e, d, r⟩
      exact ⟨o, es, ep, hidT_get e (dic e d), d, r⟩
    have md : Mod K mg (hidT s.heap H) := ⟨kk, nsH ng, ⟨mb, nsH nb, bb⟩, lim.elim fun mc q => ⟨mc, nsH q.1, q.2⟩⟩
    have e0 : Env0 P w K mg (hidT s.heap H) callerA [] s H :=
      ⟨rfl, md, fun b o e => of_hidT e, Nat.le_of_eq (hidT_size _ _), trivial, fun b hb => absurd (show b ∈ ([] : List Addr) from hb) List.not_mem_nil, ok, .of_eq gn⟩
    refine codeAny_mono ((F _ kk (nsH ng)).go callerA [] s H ⟨[.ref a], []⟩ [.ref a] [.ref a] _ _ rfl hr e0 (bd s (.ref a)) (.cons rfl .nil) (hs H only sq)) fun res t ht => ?_
    match res, ht with
    | .error e, ht => exact (nx H e t ht).elim
    | .ok .next, ht => exact ht.elim
    | .ok .brk, ht => exact ht.elim
    | .ok .cont, ht => exact ht.elim
    | .ok (.ret u), ⟨v, H', os, bare, un, ok', rr, q⟩ =>
      have q' : v = .bl true := q
      subst q'
      obtain rfl : u = Value.bool true := rr
      refine ⟨rfl, OldK.of_keep fun b o e => ?_, os, bare⟩
      rcases only b with z | ⟨ob, xs, z⟩
      · exact un.keep b o e z (fun q => absurd (show b ∈ ([] : List Addr) from q) List.not_mem_nil) (by simp)
      · have g1 := (ok b _ z).1
        have g2 := (ok' b _ (un.frzs b ob _ z)).1
        rw [e] at g1
        cases g1
        exact g2
  cases lk : K.lookup a with
  | some o =>
    have e := kin a o lk
    rw [ha] at e
    cases e
    exact main (fun _ => none) (fun _ => .inl rfl) (.inr ⟨_, vs.toArray, _, lk, rfl, rfl, rfl, by rw [List.size_toArray, ia.length]; exact sz, by simpa using rv⟩) (fun b u z => nomatch (show (none : Option HO) = some u from z)) fun b z => absurd rfl z
  | none =>
    let H0 : Hp := fun b => if b = a then some (.frz { cls := .type "list", data := .seq vs.toArray } (.lst (ns.map V.int))) else none
    have off : ∀ {b : Addr}, b ≠ a → H0 b = none := fun h => if_neg h
    have at_a : H0 a = some (.frz { cls := .type "list", data := .seq vs.toArray } (.lst (ns.map V.int))) := if_pos rfl
    refine main H0 (fun b => ?_) (.inl (.inr ⟨_, at_a⟩)) (fun b u z => ?_) fun b z => ⟨Classical.byContradiction fun q => z (off q), lk⟩
    · by_cases h : b = a
      · subst h; exact .inr ⟨_, _, at_a⟩
      · exact .inl (off h)
    · by_cases h : b = a
      · subst h
        rw [at_a] at z
        cases z
        exact ⟨ha, by rw [List.length_map]; exact sz, vs, _, rv, ha⟩
      · rw [off h] at z; cases z
end
theorem walk_G {l : PySem.W.OpenLaw} {n k : Nat} {q : Program} {loose : List Str} {XP : (Str → Option Value) → Heap → Prop} {YP : World → Heap → Prop} {d : DefRec} {K : Params → PySem.W.Frag} {sp : World → Sp} {x : Str}
    (most : l.most = some n) (small : n ≤ sizeLine) (nodf : d.params.defaults = []) (hr : Room k callerA) (yk : ∀ (w : World) (h : Heap), YP w h → (K w.params).In h)
    (F : ∀ (w : World) (mg : Str → Option Value) (fa : Addr) (h : Heap), (K w.params).In h → h.Ns mainGlobals mg → mg d.name = some (.ref fa) →
      ∃ fd : FuncData, (∀ (s : Shared) (u : Value), BindsTo s fd ⟨[u], []⟩ [(x, u)]) ∧ ∀ base : Heap, (K w.params).In base → base.Ns mainGlobals mg → FnG l.prog w (K w.params) mg base (L2.CX l.prog w) k fa fd [x] (sp w))
    (hs : ∀ (w : World) (H : Hp) (a : Addr) (ns : List Int), ns.length ≤ n → Only H → SqL (K w.params) H a (ns.map V.int) → sp w [.ref a] H (fun v _ => v = .bl true) fun _ _ _ => False) :
    PySem.W.WalkO q loose XP YP l.row.toRowW d [] (fun f vs => PySem.call f vs) := by
  refine Att.attach_call most nodf fun w s₀ s₁ mg mb fa o pm cd doc a vs ns G Y ho hd hcd hmg hobj hints hlen hg => ?_
  obtain ⟨fd, bd, f⟩ := F w mg fa _ (yk w _ Y) G.T.g hmg
  exact law_G (yk w _ Y) G.T.g G.T.b G.T.builtins G.T.nolimit hg hobj hints (Nat.le_trans hlen small) hr f bd (fun H o q => hs w H a ns hlen o q) fun _ _ _ h => by
    obtain ⟨_, _, _, _, _, _, _, _, _, _, _, _, z⟩ := h
    exact z
end Pd
set_option autoImplicit false
set_option linter.all false
set_option maxRecDepth 100000
set_option maxHeartbeats 4000000
namespace Pd
open PySem PySem.Spec PyProof.Rows L2
/-- a tuple times 1, or the empty one: itself -/
theorem tup_mul_same (l : Addr) (items : Array Value) (n : Nat) (dd : Option Addr) (sl : Array (Option Value)) (x : Int) (u : Tok) (c0 : (decide (x < -(2 ^ 63)) || decide (x ≥ 2 ^ 63)) = false) (c1 : (items.isEmpty || x == 1) = true) :
    Meets (Builtin.«tuple.__mul__» ⟨[.ref l, .int x u], []⟩) (fun _ R s => s.heap.get? l = some { cls := .type "tuple", dict := dd, data := .seq items n, slots := sl } ∧ R (.ok (.ret (Value.ref l))) s) :=
  .of_wp fun prog w A R s h => by
    obtain ⟨hp, g, d, tk, os⟩ := s
    obtain ⟨hl, h⟩ := h
    have f1 := AutoSeq1.idx_int
    wp_walk using wpAny_loadPart' hl
    repeat (first
      | (refine wpAny_ite_false (decide_eq_false (by rw [c0]; exact Bool.false_ne_true)) ?_; wp_walk using wpAny_loadPart' hl)
      | (refine wpAny_ite_true (decide_eq_true c1) ?_; wp_walk using wpAny_loadPart' hl))
    exact ⟨_, rfl, h⟩
/-- .. times 0: a new empty one -/
theorem tup_mul_none (l : Addr) (items : Array Value) (n : Nat) (dd : Option Addr) (sl : Array (Option Value)) (x : Int) (u : Tok) (c0 : (decide (x < -(2 ^ 63)) || decide (x ≥ 2 ^ 63)) = false) (c1 : (items.isEmpty || x == 1) = false) (c2 : (decide (x ≤ 0) || items.isEmpty) = true) :
    Meets (Builtin.«tuple.__mul__» ⟨[.ref l, .int x u], []⟩) (fun _ R s => s.heap.get? l = some { cls := .type "tuple", dict := dd, data := .seq items n, slots := sl } ∧
      R (.ok (.ret (Value.ref s.heap.objs.size))) { s with heap := s.heap.push { cls := Value.type "tuple", data := Data.seq #[] }, toks := s.toks }) :=
  .of_wp fun prog w A R s h => by
    obtain ⟨hp, g, d, tk, os⟩ := s
    obtain ⟨hl, h⟩ := h
    have f1 := AutoSeq1.idx_int
    wp_walk using wpAny_loadPart' hl
    repeat (first
      | (refine wpAny_ite_false (decide_eq_false (by rw [c0]; exact Bool.false_ne_true)) ?_; wp_walk using wpAny_loadPart' hl)
      | (refine wpAny_ite_false (decide_eq_false (by rw [c1]; exact Bool.false_ne_true)) ?_; wp_walk using wpAny_loadPart' hl)
      | (refine wpAny_ite_true (decide_eq_true c2) ?_; wp_walk using wpAny_loadPart' hl))
    exact ⟨_, rfl, h⟩
def rRep1 (K : PySem.W.Frag) : R2 := fun x y H Q => ∃ l k xs, x = .ref l ∧ y = .int k ∧ SqT K H l xs ∧ -(2 ^ 62) ≤ k ∧ k ≤ 1000 ∧ ((xs = [] ∨ k = 1) ∧ Q (.ref l) H ∨ (xs ≠ [] ∧ k ≤ 0) ∧ ∀ p, H p = none → Q (.ref p) (upd H p (.tup [])))
theorem op_rep1 {X : Cx} : OpR X (binaryOp .Mult) (rRep1 X.K) := by
  intro pins s σ H x y v u Q I rx ry h
  obtain ⟨l, k, xs, rfl, rfl, hT, h1, h2, hc⟩ := h
  cases rx
  obtain ⟨t, rfl⟩ := ry
  obtain ⟨its, r, ⟨⟨cls, dd, data, sl⟩, ho, hcl, n, hd⟩, hs⟩ := I.tuple hT
  simp only at hcl hd
  subst hcl hd
  have hle : its.length = xs.length := r.length.symm
  have c0 : (decide (k < -(2 ^ 63)) || decide (k ≥ 2 ^ 63)) = false := by
    rw [decide_eq_false (by omega), decide_eq_false (by omega)] <;> rfl
  have emp : its.toArray.isEmpty = xs.isEmpty := by
    cases its <;> cases xs <;> first | rfl | (simp at hle)
  have go : ∀ {Q' : Value → Shared → Prop} {E' : Value → Shared → Prop}, wpAny (model X.prog X.w) X.A (call (.builtin "tuple.__mul__") [.ref l, .int k t]) Q' E' s → wpAny (model X.prog X.w) X.A (binaryOp .Mult (.ref l) (.int k t)) Q' E' s := fun z =>
    wpAny_binaryOp_repeat_ref (T := "tuple") (U := "int") (by decide) ⟨_, ho, rfl⟩ (fun s' => typeIs_int s' k t) noFill_tuple_mul F.fills_int_mul F.slot_int_rmul repeat_tuple F.slot_int_index.lookup
      (call_meets F.slot_int_rmul (typeIs_int s k t) F.entry_int_rmul (F.args_int_rmul_2 _ _) (int_rmul_tuple k t l its.toArray n dd sl) ⟨ho, rfl, ⟨_, ho, rfl⟩, z⟩)
  rcases hc with ⟨hc, q⟩ | ⟨⟨hne, hk⟩, q⟩
  · have c1 : (its.toArray.isEmpty || k == 1) = true := by
      rw [emp]
      rcases hc with rfl | rfl <;> simp
    exact go (call_meets F.slot_tuple_mul ⟨_, ho, rfl⟩ F.entry_tuple_mul (F.args_tuple_mul_2 _ _) (tup_mul_same l its.toArray n dd sl k t c0 c1) ⟨ho, .ref l, H, I, rfl, q⟩)
  · have hx : xs.isEmpty = false := by cases xs <;> first | rfl | exact absurd rfl hne
    have c1 : (its.toArray.isEmpty || k == 1) = false := by
      rw [emp, hx, Bool.false_or]
      exact beq_eq_false_iff_ne.mpr (by omega)
    have c2 : (decide (k ≤ 0) || its.toArray.isEmpty) = true := by
      rw [decide_eq_true hk, Bool.true_or]
    refine go (call_meets F.slot_tuple_mul ⟨_, ho, rfl⟩ F.entry_tuple_mul (F.args_tuple_mul_2 _ _) (tup_mul_none l its.toArray n dd sl k t c0 c1 c2) ⟨ho, ?_⟩)
    refine ⟨.ref s.heap.objs.size, _, I.laid (t' := s.toks) (o := .tup []) (fun b ob q => Heap.get?_push_of_some _ q) (Nat.le_refl _) ?_, rfl, q _ (I.hok.fresh (Nat.le_refl _))⟩
    exact ⟨by simp, [], .nil, IsTup.new _ _⟩
end Pd
set_option autoImplicit false
set_option linter.all false
set_option maxRecDepth 100000
/-! Operators: what the interpreter reckons is what the rules give. -/
namespace Pd
open PySem L2

theorem cap_le {n : Nat} (h : n ≤ cap) : n ≤ sizeLine := Nat.le_trans h (by decide)
theorem cap_lt {n : Nat} (h : n < cap) : n < sizeLine := Nat.lt_of_lt_of_le h (by decide)

section
variable {P : Pl} {W : WX} {G G' F F' : Addr → Prop} {env env' : Env} {σ : L2.St} {H H' : Hp} {X : Cx}

/-- what follows a value that was reckoned -/
abbrev Kont (P : Pl) (G F : Addr → Prop) (env : Env) (σ : L2.St) (H : Hp) (o : Opd) (Q : VK) : Prop :=
  ∀ F' H' v, Step G F H F' H' → Rel P G F' env σ H' → RO P G F' env σ H' o v → Q v H'
theorem Kont.here {d : D} {v : V} {Q : VK} (k : Kont P G F env σ H (.val d) Q) (r : Rel P G F env σ H) (q : R P F H d v) : Q v H := k F H v (Step.refl ..) r (.val q)
theorem Kont.newL {ds : List D} {xs : List V} {Q : VK} (k : Kont P G F env σ H (.fresh (.lst ds)) Q) (r : Rel P G F env σ H) (q : Rs P F H ds xs) {p : Addr} (h : H p = none) : Q (.ref p) (upd H p (.lst xs)) :=
  k F _ _ (Step.same (same_new h)) (r.same (same_new h)) (.fresh (.lst upd_same (Rs.step (G := G) (Step.same (same_new h)) q)) (r.newF h) (r.newG h) fun i => r.notOwn h i)
theorem Kont.newT {ds : List D} {xs : List V} {Q : VK} (k : Kont P G F env σ H (.val (.tup ds)) Q) (r : Rel P G F env σ H) (q : Rs P F H ds xs) {p : Addr} (h : H p = none) : Q (.ref p) (upd H p (.tup xs)) := by
  have r1 : Rel P G F env σ (upd H p (.tup xs)) := r.same (same_new h)
  have e : upd H p (.tup xs) p = some (.tup xs) := upd_same
  have r2 := r1.share p (by rw [e]; exact fun z => nomatch z) (r.newG h) (r.notOwn h)
  have st : Step G F H (fun a => F a ∨ a = p) (upd H p (.tup xs)) := (Step.same (same_new h)).trans (Step.grow fun _ z => .inl z)
  exact k _ _ _ st r2 (.val (.tup (.inl ⟨.inr rfl, .inl e⟩) (Rs.step st q)))
theorem Kont.newR {lo hi : Int} {Q : VK} (k : Kont P G F env σ H (.val (.rng lo hi)) Q) (r : Rel P G F env σ H) {p : Addr} (h : H p = none) : Q (.ref p) (upd H p (.rng lo hi)) := by
  have r1 : Rel P G F env σ (upd H p (.rng lo hi)) := r.same (same_new h)
  have e : upd H p (.rng lo hi) p = some (.rng lo hi) := upd_same
  have r2 := r1.share p (by rw [e]; exact fun z => nomatch z) (r.newG h) (r.notOwn h)
  have st : Step G F H (fun a => F a ∨ a = p) (upd H p (.rng lo hi)) := (Step.same (same_new h)).trans (Step.grow fun _ z => .inl z)
  exact k _ _ _ st r2 (.val (.rng (.inr rfl) e))

theorem reps_nil : ∀ n : Nat, reps [] n = []
  | 0 => rfl
  | n + 1 => by unfold reps; rw [reps_nil n]; rfl
theorem Rs.nil_iff {ds : List D} {vs : List V} (h : Rs P F H ds vs) : vs = [] ↔ ds = [] := by
  cases h with
  | nil => exact ⟨fun _ => rfl, fun _ => rfl⟩
  | cons _ _ => exact ⟨(fun z => nomatch z), (fun z => nomatch z)⟩

/-! ### two-place operators -/
def bopOf : BOp → Operator
  | .add => .Add | .sub => .Sub | .mul => .Mult | .fdiv => .FloorDiv | .mod => .Mod | .pow => .Pow
theorem divOk_pos {j : Int} (h : divOk j = true) (hj : 0 < j) : CDivW 0 j := by
  unfold divOk at h
  rw [if_pos hj] at h
  exact ⟨hj, of_decide_eq_true h⟩
theorem divOk_neg {j : Int} (h : divOk j = true) (hj : ¬ 0 < j) : CDivN 0 j := by
  unfold divOk at h
  rw [if_neg hj, Bool.and_eq_true] at h
  exact ⟨of_decide_eq_true h.1, of_decide_eq_true h.2⟩
theorem bin_ok (hK : X.K = P.K) (op : BOp) : ∃ r, OpR X (binaryOp (bopOf op)) r ∧ ∀ G F env σ H (Q : VK) dx dy d vx vy, Rel P G F env σ H → RT P F H dx vx → RT P F H dy vy → binV op dx dy = some d →
    Kont P G F env σ H (mkO d) Q → r vx vy H Q := by
  cases op with
  | add =>
    refine ⟨_, op_add.or (op_add_str.or (op_cat.or op_catA)), ?_⟩
    intro G F env σ H Q dx dy d vx vy rel rx ry e k
    change addV dx dy = some d at e
    unfold addV at e
    split at e <;> first | cases e | skip
    · cases rx.int; cases ry.int
      exact .inl ⟨_, _, rfl, rfl, Kont.here k rel (.int _)⟩
    · rename_i h1
      cases rx.str; cases ry.str
      split at e
      · rename_i hl
        cases e
        exact .inr (.inl ⟨_, _, rfl, rfl, cap_le hl, Kont.here k rel (.str _)⟩)
      · cases e
    · obtain ⟨a, xs, rfl, ha, sa⟩ := rx.lst'
      obtain ⟨b, ys, rfl, hb, sb⟩ := ry.lst'
      split at e
      · rename_i hl
        cases e
        refine .inr (.inr (.inl ⟨a, b, xs, ys, rfl, rfl, ha, hb, ?_, fun p hp => Kont.newL k rel (Rs.append sa sb) hp⟩))
        rw [← sa.length, ← sb.length]
        exact cap_le hl
      · cases e
    · obtain ⟨a, xs, rfl, ha, sa⟩ := rx.tup
      obtain ⟨b, ys, rfl, hb, sb⟩ := ry.tup
      have ra := rx
      split at e
      · rename_i hl
        cases e
        refine .inr (.inr (.inr ⟨a, b, xs, ys, rfl, rfl, by rw [hK]; exact ha, by rw [hK]; exact hb, ?_, fun hx => ?_, fun hx hy => ?_, fun hx hy p hp => ?_⟩))
        · rw [← sa.length, ← sb.length]
          exact cap_le hl
        · have e1 := sa.nil_iff.mp hx
          subst e1
          cases ry with
          | sh q => exact Kont.here k rel (by simpa using q)
          | own q => cases q
        · have e1 := sb.nil_iff.mp hy
          subst e1
          cases rx with
          | sh q => exact Kont.here k rel (by simpa using q)
          | own q => cases q
        · exact Kont.newT k rel (Rs.append sa sb) hp
      · cases e
  | sub =>
    refine ⟨_, op_sub, ?_⟩
    intro G F env σ H Q dx dy d vx vy rel rx ry e k
    change subV dx dy = some d at e
    unfold subV at e
    split at e <;> first | cases e | skip
    cases rx.int; cases ry.int
    exact ⟨_, _, rfl, rfl, Kont.here k rel (.int _)⟩
  | mul =>
    refine ⟨_, op_mulW.or (op_rep.or (op_repT.or op_rep1)), ?_⟩
    intro G F env σ H Q dx dy d vx vy rel rx ry e k
    change mulV dx dy = some d at e
    unfold mulV at e
    split at e <;> first | cases e | skip
    · cases rx.int; cases ry.int
      split at e
      · rename_i hl
        cases e
        refine .inl ⟨_, _, rfl, rfl, ?_, Kont.here k rel (.int _)⟩
        unfold mulOk at hl
        unfold CMulW
        exact of_decide_eq_true hl
      · cases e
    · obtain ⟨a, xs, rfl, ha, sa⟩ := rx.lst'
      cases ry.int
      split at e
      · rename_i hl
        cases e
        have hc : (cap : Int) = 1000000 := rfl
        refine .inr (.inl ⟨a, _, xs, rfl, rfl, ha, by omega, by omega, ?_, fun p hp => Kont.newL k rel (Rs.reps sa _) hp⟩)
        rw [← sa.length]
        exact cap_le hl.2.2
      · cases e
    · have ra := rx
      obtain ⟨a, xs, rfl, ha, sa⟩ := rx.tup
      cases ry.int
      split at e
      · rename_i ds k' hl
        cases e
        have hlen := sa.length
        by_cases hz : ds = []
        · subst hz
          have hx : xs = [] := sa.nil_iff.mpr rfl
          refine .inr (.inr (.inr ⟨a, _, xs, rfl, rfl, by rw [hK]; exact ha, hl.1, hl.2.1, .inl ⟨.inl hx, ?_⟩⟩))
          rw [reps_nil] at k
          cases ra with
          | sh q => exact Kont.here k rel q
          | own q => cases q
        · have hx : xs ≠ [] := fun z => hz (sa.nil_iff.mp z)
          by_cases h1 : k' = 1
          · subst h1
            refine .inr (.inr (.inr ⟨a, _, xs, rfl, rfl, by rw [hK]; exact ha, hl.1, hl.2.1, .inl ⟨.inr rfl, ?_⟩⟩))
            rw [show reps ds (1 : Int).toNat = ds from by show ds ++ [] = ds; simp] at k
            cases ra with
            | sh q => exact Kont.here k rel q
            | own q => cases q
          · by_cases h0 : k' ≤ 0
            · refine .inr (.inr (.inr ⟨a, _, xs, rfl, rfl, by rw [hK]; exact ha, hl.1, hl.2.1, .inr ⟨⟨hx, h0⟩, fun p hp => ?_⟩⟩))
              rw [show k'.toNat = 0 by omega] at k
              exact Kont.newT k rel .nil hp
            · exact .inr (.inr (.inl ⟨a, _, xs, rfl, rfl, by rw [hK]; exact ha, hx, by omega, hl.2.1, by rw [← sa.length]; exact hl.2.2, fun p hp => Kont.newT k rel (Rs.reps sa _) hp⟩))
      · cases e
  | fdiv =>
    refine ⟨_, op_fdivW.or op_fdivN, ?_⟩
    intro G F env σ H Q dx dy d vx vy rel rx ry e k
    change fdivV dx dy = some d at e
    unfold fdivV at e
    split at e <;> first | cases e | skip
    cases rx.int; cases ry.int
    split at e
    · rename_i i j hl
      cases e
      by_cases hj : 0 < j
      · refine .inl ⟨_, _, rfl, rfl, divOk_pos hl hj, Kont.here k rel ?_⟩
        rw [Int.fdiv_eq_ediv_of_nonneg i (by omega)]
        exact .int _
      · exact .inr ⟨_, _, rfl, rfl, divOk_neg hl hj, Kont.here k rel (.int _)⟩
    · cases e
  | mod =>
    refine ⟨_, op_modN, ?_⟩
    intro G F env σ H Q dx dy d vx vy rel rx ry e k
    change modV dx dy = some d at e
    unfold modV at e
    split at e <;> first | cases e | skip
    cases rx.int; cases ry.int
    split at e
    · cases e
    · rename_i hl
      cases e
      exact ⟨_, _, rfl, rfl, hl, Kont.here k rel (.int _)⟩
  | pow =>
    refine ⟨_, op_pow, ?_⟩
    intro G F env σ H Q dx dy d vx vy rel rx ry e k
    change powV dx dy = some d at e
    unfold powV at e
    split at e <;> first | cases e | skip
    cases rx.int; cases ry.int
    split at e
    · rename_i hl
      cases e
      unfold powOk at hl
      simp only [Bool.and_eq_true, decide_eq_true_eq] at hl
      exact ⟨_, _, rfl, rfl, ⟨hl.1.1, hl.1.2, hl.2⟩, Kont.here k rel (.int _)⟩
    · cases e
end
end Pd
set_option autoImplicit false
set_option linter.all false
set_option maxRecDepth 100000
namespace Pd
open PySem L2

/-! ### plain data as the library has it -/
mutual
theorem lay_toPy : ∀ (n : Nat) (d : D), D.plain n d = true → (toPy d).canLay0 = true ∧ (toPy d).depth ≤ n
  | n, .non, _ => by simp [toPy, PyData.canLay0, PyData.depth]
  | n, .bl b, _ => by simp [toPy, PyData.canLay0, PyData.depth]
  | n, .int i, _ => by simp [toPy, PyData.canLay0, PyData.depth]
  | n, .str x, h => by
    have h : (x.cps.all fun c => decide (c < 1114112)) = true := by
      cases n <;> (unfold D.plain at h; exact h)
    simp only [toPy, PyData.canLay0, PyData.depth]
    exact ⟨h, Nat.zero_le _⟩
  | 0, .tup ds, h => by simp [D.plain] at h
  | 0, .lst ds, h => by simp [D.plain] at h
  | n + 1, .tup ds, h => by
    have z := lay_toPys n ds (by simpa [D.plain] using h)
    simp only [toPy, PyData.canLay0, PyData.depth]
    exact ⟨z.1, by omega⟩
  | n + 1, .lst ds, h => by
    have z := lay_toPys n ds (by simpa [D.plain] using h)
    simp only [toPy, PyData.canLay0, PyData.depth]
    exact ⟨z.1, by omega⟩
  | n, .fn f, h => by cases n <;> simp [D.plain] at h
  | n, .dic f g, h => by cases n <;> simp [D.plain] at h
  | n, .scr f, h => by cases n <;> simp [D.plain] at h
  | n, .rng f g, h => by cases n <;> simp [D.plain] at h
theorem lay_toPys : ∀ (n : Nat) (ds : List D), D.plains n ds = true → PyData.canLayAll0 (toPys ds) = true ∧ PyData.depthAll (toPys ds) ≤ n
  | n, [], _ => by simp [toPys, PyData.canLayAll0, PyData.depthAll]
  | n, d :: ds, h => by
    have h : (D.plain n d && D.plains n ds) = true := by simpa [D.plains] using h
    rw [Bool.and_eq_true] at h
    have z1 := lay_toPy n d h.1
    have z2 := lay_toPys n ds h.2
    simp only [toPys, PyData.canLayAll0, PyData.depthAll, Bool.and_eq_true]
    exact ⟨⟨z1.1, z2.1⟩, by omega⟩
end
theorem shaped_toPy {d : D} (h : D.plain 60 d = true) : SeqAt.shaped (toPy d) = true := by
  have z := lay_toPy 60 d h
  unfold SeqAt.shaped
  rw [Bool.and_eq_true]
  exact ⟨z.1, decide_eq_true (by omega)⟩
mutual
theorem eqv_toPy : ∀ (d e : D) (n m : Nat), D.plain n d = true → D.plain m e = true → PyData.eqv (toPy d) (toPy e) = D.eqv d e
  | d, e, n, m, hd, he => by
    cases d with
    | fn f => cases n <;> simp [D.plain] at hd
    | dic f => cases n <;> simp [D.plain] at hd
    | scr f => cases n <;> simp [D.plain] at hd
    | rng f g => cases n <;> simp [D.plain] at hd
    | non => cases e <;> first | (simp [toPy, PyData.eqv, D.eqv]; done) | (cases m <;> simp [D.plain] at he)
    | bl b => cases e <;> first | (simp [toPy, PyData.eqv, D.eqv]; done) | (cases m <;> simp [D.plain] at he)
    | int b => cases e <;> first | (simp [toPy, PyData.eqv, D.eqv]; done) | (cases m <;> simp [D.plain] at he)
    | str b => cases e <;> first | (simp [toPy, PyData.eqv, D.eqv]; done) | (cases m <;> simp [D.plain] at he)
    | tup ds =>
      cases n with
      | zero => simp [D.plain] at hd
      | succ n =>
        cases e with
        | tup es =>
          cases m with
          | zero => simp [D.plain] at he
          | succ m =>
            simp only [toPy, PyData.eqv, D.eqv]
            exact eqv_toPys ds es n m (by simpa [D.plain] using hd) (by simpa [D.plain] using he)
        | fn f => cases m <;> simp [D.plain] at he
        | dic f => cases m <;> simp [D.plain] at he
        | scr f => cases m <;> simp [D.plain] at he
        | rng f g => cases m <;> simp [D.plain] at he
        | _ => simp [toPy, PyData.eqv, D.eqv]
    | lst ds =>
      cases n with
      | zero => simp [D.plain] at hd
      | succ n =>
        cases e with
        | lst es =>
          cases m with
          | zero => simp [D.plain] at he
          | succ m =>
            simp only [toPy, PyData.eqv, D.eqv]
            exact eqv_toPys ds es n m (by simpa [D.plain] using hd) (by simpa [D.plain] using he)
        | fn f => cases m <;> simp [D.plain] at he
        | dic f => cases m <;> simp [D.plain] at he
        | scr f => cases m <;> simp [D.plain] at he
        | rng f g => cases m <;> simp [D.plain] at he
        | _ => simp [toPy, PyData.eqv, D.eqv]
theorem eqv_toPys : ∀ (ds es : List D) (n m : Nat), D.plains n ds = true → D.plains m es = true → PyData.eqvAll (toPys ds) (toPys es) = D.eqvs ds es
  | [], [], _, _, _, _ => by simp [toPys, PyData.eqvAll, D.eqvs]
  | [], _ :: _, _, _, _, _ => by simp [toPys, PyData.eqvAll, D.eqvs]
  | _ :: _, [], _, _, _, _ => by simp [toPys, PyData.eqvAll, D.eqvs]
  | d :: ds, e :: es, n, m, hd, he => by
    have hd : (D.plain n d && D.plains n ds) = true := by simpa [D.plains] using hd
    have he : (D.plain m e && D.plains m es) = true := by simpa [D.plains] using he
    rw [Bool.and_eq_true] at hd he
    simp only [toPys, PyData.eqvAll, D.eqvs]
    rw [eqv_toPy d e n m hd.1 he.1, eqv_toPys ds es n m hd.2 he.2]
end

section
variable {P : Pl} {W : WX} {G G' F F' : Addr → Prop} {env env' : Env} {σ : L2.St} {H H' : Hp} {X : Cx}
mutual
theorem R.dp : ∀ (n : Nat) (d : D) (v : V), D.plain n d = true → R P F H d v → Dp P.K H v (toPy d)
  | n, .non, v, _, r => by cases r; exact .non
  | n, .bl b, v, _, r => by cases r; exact .bl b
  | n, .int b, v, _, r => by cases r; exact .int b
  | n, .str b, v, _, r => by cases r; exact .str b
  | 0, .tup ds, v, h, r => by simp [D.plain] at h
  | 0, .lst ds, v, h, r => by simp [D.plain] at h
  | n + 1, .tup ds, v, h, r => by
    cases r with
    | tup s q => exact .tup s.sq (Rs.dp n ds _ (by simpa [D.plain] using h) q)
  | n + 1, .lst ds, v, h, r => by
    cases r with
    | lst s q => exact .lst (Shl.sq s) (Rs.dp n ds _ (by simpa [D.plain] using h) q)
  | n, .fn f, v, h, r => by cases n <;> simp [D.plain] at h
  | n, .dic f g, v, h, r => by cases n <;> simp [D.plain] at h
  | n, .scr f, v, h, r => by cases n <;> simp [D.plain] at h
  | n, .rng f g, v, h, r => by cases n <;> simp [D.plain] at h
theorem Rs.dp : ∀ (n : Nat) (ds : List D) (vs : List V), D.plains n ds = true → Rs P F H ds vs → DpAll P.K H vs (toPys ds)
  | n, [], _, _, r => by cases r; exact .nil
  | n, d :: ds, _, h, r => by
    have h : (D.plain n d && D.plains n ds) = true := by simpa [D.plains] using h
    rw [Bool.and_eq_true] at h
    cases r with
    | cons r1 r2 => exact .cons (R.dp n d _ h.1 r1) (Rs.dp n ds _ h.2 r2)
end
theorem RT.dp {d : D} {v : V} (h : D.plain 60 d = true) (r : RT P F H d v) : Dp P.K H v (toPy d) := by
  cases r with
  | sh q => exact R.dp 60 d v h q
  | own q =>
    cases q with
    | lst e q => exact .lst (SqL.of e) (Rs.dp 59 _ _ (by simpa [D.plain] using h) q)
    | dic e l q => simp [D.plain] at h

theorem ints_of {ds : List D} : ∀ {vs : List V} {ns : List Int}, Rs P F H ds vs → ints? ds = some ns → vs = ns.map V.int ∧ ds = ns.map D.int := by
  induction ds with
  | nil => intro vs ns r e; cases r; cases e; exact ⟨rfl, rfl⟩
  | cons d ds ih =>
    intro vs ns r e
    cases r with
    | cons r1 r2 =>
      cases d with
      | int i =>
        unfold ints? at e
        cases z : ints? ds with
        | none => rw [z] at e; cases e
        | some ms =>
          rw [z] at e
          cases e
          cases r1
          obtain ⟨h1, h2⟩ := ih r2 z
          rw [h1, h2]
          exact ⟨rfl, rfl⟩
      | _ => cases e
theorem bools_of {ds : List D} : ∀ {vs : List V} {ns : List Bool}, Rs P F H ds vs → bools? ds = some ns → vs = ns.map V.bl ∧ ds = ns.map D.bl := by
  induction ds with
  | nil => intro vs ns r e; cases r; cases e; exact ⟨rfl, rfl⟩
  | cons d ds ih =>
    intro vs ns r e
    cases r with
    | cons r1 r2 =>
      cases d with
      | bl i =>
        unfold bools? at e
        cases z : bools? ds with
        | none => rw [z] at e; cases e
        | some ms =>
          rw [z] at e
          cases e
          cases r1
          obtain ⟨h1, h2⟩ := ih r2 z
          rw [h1, h2]
          exact ⟨rfl, rfl⟩
      | _ => cases e
theorem flat_of {d : D} {v : V} (r : R P F H d v) (f : flat d = true) : flatV v = true := by
  cases r <;> first | rfl | cases f
theorem flats_of : ∀ {ds : List D} {vs : List V}, Rs P F H ds vs → ds.all flat = true → vs.all flatV = true
  | _, _, .nil, _ => rfl
  | _, _, .cons r t, f => by
    rw [List.all_cons, Bool.and_eq_true] at f
    rw [List.all_cons, Bool.and_eq_true]
    exact ⟨flat_of r f.1, flats_of t f.2⟩
theorem eqV_of {d e : D} {v u : V} (r : R P F H d v) (q : R P F H e u) (f : flat d = true) (g : flat e = true) : eqV v u = D.eqv d e := by
  cases r <;> first | (cases q <;> first | rfl | (simp [eqV, D.eqv]; done) | cases g) | cases f
theorem inV_of {d : D} {v : V} (r : R P F H d v) (f : flat d = true) : ∀ {ds : List D} {vs : List V}, Rs P F H ds vs → ds.all flat = true → inV v vs = ds.any fun y => D.eqv y d
  | _, _, .nil, _ => rfl
  | _, _, .cons (ds := ds) (vs := vs) q t, g => by
    rw [List.all_cons, Bool.and_eq_true] at g
    have ih := inV_of r f t g.2
    unfold inV at ih ⊢
    rw [List.any_cons, List.any_cons, eqV_of q r g.1 f, ih]
theorem any_toPys {d : D} : ∀ {ds : List D} {n m : Nat}, D.plains n ds = true → D.plain m d = true → ((toPys ds).any fun z => PyData.eqv z (toPy d)) = ds.any fun y => D.eqv y d
  | [], _, _, _, _ => rfl
  | e :: ds, n, m, h, h2 => by
    have h : (D.plain n e && D.plains n ds) = true := by simpa [D.plains] using h
    rw [Bool.and_eq_true] at h
    show ((toPy e :: toPys ds).any _) = _
    rw [List.any_cons, List.any_cons, any_toPys h.2 h2, eqv_toPy e d n m h.1 h2]
theorem lexLt_eq : ∀ (ns ms : List Int), HT.lexLt ns ms = lexLt ns ms
  | [], [] => rfl
  | [], _ :: _ => rfl
  | _ :: _, [] => rfl
  | x :: xs, y :: ys => by rw [HT.lexLt_cons, lexLt, lexLt_eq xs ys]

def copOf : COp → CmpOp
  | .eq => .Eq | .ne => .NotEq | .lt => .Lt | .le => .LtE | .gt => .Gt | .ge => .GtE | .isN => .Is | .notN => .IsNot | .inn => .In | .nin => .NotIn
theorem isN_of {d : D} {v : V} {k : Bool} (r : RT P F H d v) (e : isNV d .non = some k) : decide (v = V.non) = k := by
  cases r with
  | own q => cases q <;> cases e <;> rfl
  | sh q => cases q <;> cases e <;> rfl
theorem isN_snd {d e : D} {k : Bool} (h : isNV d e = some k) : e = .non ∨ ∃ a b, d = .bl a ∧ e = .bl b ∧ k = (a == b) := by
  unfold isNV at h
  split at h <;> first | exact .inl rfl | cases h
  exact .inr ⟨_, _, rfl, rfl, rfl⟩
/-! x in t, t a tuple of data -/
def rInDT (K : PySem.W.Frag) : R2 := fun x y H Q => ∃ d ds, Dp K H x d ∧ Dp K H y (.tuple ds) ∧ SeqAt.shaped d = true ∧ SeqAt.shaped (.tuple ds) = true ∧ Q (.bl (ds.any fun z => PyData.eqv z d)) H
def rNotInDT (K : PySem.W.Frag) : R2 := fun x y H Q => ∃ d ds, Dp K H x d ∧ Dp K H y (.tuple ds) ∧ SeqAt.shaped d = true ∧ SeqAt.shaped (.tuple ds) = true ∧ Q (.bl (!ds.any fun z => PyData.eqv z d)) H
theorem op_inDT (hu : X.A.units + 65 < cLine) : OpR X (compareOp .In) (rInDT X.K) := by
  intro pins s σ H x y v u Q I rx ry h
  obtain ⟨d, ds, hd, he, sd, se, q⟩ := h
  obtain ⟨as, r1⟩ := Dp.reads I d x v hd rx
  obtain ⟨bs, r2⟩ := Dp.reads I (.tuple ds) y u he ry
  exact SeqAt.in_tuple_reads r2 r1 (SeqAt.canLay_of_shaped se) (SeqAt.canLay_of_shaped sd) (PyProof.Rows.room_in_shaped sd hu) ⟨.bl _, H, I, rfl, q⟩
theorem op_notInDT (hu : X.A.units + 65 < cLine) : OpR X (compareOp .NotIn) (rNotInDT X.K) := by
  intro pins s σ H x y v u Q I rx ry h
  obtain ⟨d, ds, hd, he, sd, se, q⟩ := h
  obtain ⟨as, r1⟩ := Dp.reads I d x v hd rx
  obtain ⟨bs, r2⟩ := Dp.reads I (.tuple ds) y u he ry
  exact SeqAt.notIn_tuple_reads r2 r1 (SeqAt.canLay_of_shaped se) (SeqAt.canLay_of_shaped sd) (PyProof.Rows.room_in_shaped sd hu) ⟨.bl _, H, I, rfl, q⟩
theorem cmp_ok (hK : X.K = P.K) (hu : X.A.units + 100 < cLine) (op : COp) : ∃ r, OpR X (compareOp (copOf op)) r ∧ ∀ G F env σ H (Q : VK) dx dy d vx vy, Rel P G F env σ H → RT P F H dx vx → RT P F H dy vy → cmpV op dx dy = some d →
    Q (.bl d) H → r vx vy H Q := by
  cases op with
  | eq =>
    refine ⟨_, op_eq.or (op_eqD (by omega)), ?_⟩
    intro G F env σ H Q dx dy d vx vy rel rx ry e k
    change eqV' dx dy = some d at e
    unfold eqV' eqOk at e
    split at e
    · rename_i x y hs
      unfold str2 at hs
      split at hs
      · cases hs
        cases e
        cases rx.str; cases ry.str
        exact .inl ⟨rfl, by rw [show decide (V.str x = V.str y) = decide (x = y) by rw [dec_str]; rfl]; exact k⟩
      · cases hs
    split at e
    · rename_i h
      rw [Bool.and_eq_true] at h
      cases e
      refine .inr ⟨_, _, by rw [hK]; exact rx.dp h.1, by rw [hK]; exact ry.dp h.2, shaped_toPy h.1, shaped_toPy h.2, ?_⟩
      rw [eqv_toPy dx dy 60 60 h.1 h.2]
      exact k
    · cases e
  | ne =>
    refine ⟨_, op_ne.or (op_neD (by omega)), ?_⟩
    intro G F env σ H Q dx dy d vx vy rel rx ry e k
    change (eqV' dx dy).map not = some d at e
    unfold eqV' eqOk at e
    split at e
    · rename_i x y hs
      unfold str2 at hs
      split at hs
      · cases hs
        cases e
        cases rx.str; cases ry.str
        exact .inl ⟨rfl, by rw [show decide (V.str x = V.str y) = decide (x = y) by rw [dec_str]; rfl]; exact k⟩
      · cases hs
    split at e
    · rename_i h
      rw [Bool.and_eq_true] at h
      cases e
      refine .inr ⟨_, _, by rw [hK]; exact rx.dp h.1, by rw [hK]; exact ry.dp h.2, shaped_toPy h.1, shaped_toPy h.2, ?_⟩
      rw [eqv_toPy dx dy 60 60 h.1 h.2]
      exact k
    · cases e
  | lt =>
    refine ⟨_, op_lt.or (op_lt_str.or (op_ltT (by omega))), ?_⟩
    intro G F env σ H Q dx dy d vx vy rel rx ry e k
    change ltV dx dy = some d at e
    unfold ltV at e
    split at e <;> first | cases e | skip
    · cases rx.int; cases ry.int
      exact .inl ⟨_, _, rfl, rfl, k⟩
    · cases rx.str; cases ry.str
      exact .inr (.inl ⟨_, _, rfl, rfl, k⟩)
    · obtain ⟨a, xs, rfl, ha, sa⟩ := rx.tup
      obtain ⟨b, ys, rfl, hb, sb⟩ := ry.tup
      split at e
      · rename_i ns ms h1 h2
        cases e
        obtain ⟨e1, _⟩ := ints_of sa h1
        obtain ⟨e2, _⟩ := ints_of sb h2
        subst e1 e2
        refine .inr (.inr ⟨a, b, ns, ms, rfl, rfl, by rw [hK]; exact ha, by rw [hK]; exact hb, ?_⟩)
        rw [lexLt_eq]
        exact k
      · cases e
  | le =>
    refine ⟨_, op_le, ?_⟩
    intro G F env σ H Q dx dy d vx vy rel rx ry e k
    change leV dx dy = some d at e
    unfold leV at e
    split at e <;> first | cases e | skip
    cases rx.int; cases ry.int
    exact ⟨_, _, rfl, rfl, k⟩
  | gt =>
    refine ⟨_, op_gt, ?_⟩
    intro G F env σ H Q dx dy d vx vy rel rx ry e k
    change gtV dx dy = some d at e
    unfold gtV at e
    split at e <;> first | cases e | skip
    cases rx.int; cases ry.int
    exact ⟨_, _, rfl, rfl, k⟩
  | ge =>
    refine ⟨_, op_ge, ?_⟩
    intro G F env σ H Q dx dy d vx vy rel rx ry e k
    change leV dy dx = some d at e
    unfold leV at e
    split at e <;> first | cases e | skip
    cases rx.int; cases ry.int
    exact ⟨_, _, rfl, rfl, k⟩
  | isN =>
    refine ⟨_, op_isN.or op_is_bl, ?_⟩
    intro G F env σ H Q dx dy d vx vy rel rx ry e k
    change isNV dx dy = some d at e
    rcases isN_snd e with e1 | ⟨a, b, rfl, rfl, rfl⟩
    · subst e1
      cases ry.non
      exact .inl ⟨rfl, by rw [isN_of rx e]; exact k⟩
    · cases rx.bl
      cases ry.bl
      exact .inr ⟨a, b, rfl, rfl, by rw [show decide (a = b) = (a == b) by cases a <;> cases b <;> rfl]; exact k⟩
  | notN =>
    refine ⟨_, op_notN.or op_isnot_bl, ?_⟩
    intro G F env σ H Q dx dy d vx vy rel rx ry e k
    change (isNV dx dy).map not = some d at e
    cases z : isNV dx dy with
    | none => rw [z] at e; cases e
    | some k' =>
      rw [z] at e
      cases e
      rcases isN_snd z with e1 | ⟨a, b, rfl, rfl, rfl⟩
      · subst e1
        cases ry.non
        exact .inl ⟨rfl, by rw [isN_of rx z]; exact k⟩
      · cases rx.bl
        cases ry.bl
        exact .inr ⟨a, b, rfl, rfl, by rw [show (!decide (a = b)) = !(a == b) by cases a <;> cases b <;> rfl]; exact k⟩
  | inn =>
    refine ⟨_, (op_inD (by omega)).or (op_in_seq.or (op_in_str.or (op_inDT (by omega)))), ?_⟩
    intro G F env σ H Q dx dy d vx vy rel rx ry e k
    change innV dx dy = some d at e
    unfold innV at e
    split at e <;> first | cases e | skip
    · split at e
      · rename_i h
        rw [Bool.and_eq_true] at h
        cases e
        refine .inl ⟨_, _, by rw [hK]; exact rx.dp h.1, by rw [hK]; exact ry.dp h.2, shaped_toPy h.1, shaped_toPy h.2, ?_⟩
        rw [any_toPys (n := 59) (m := 60) (by simpa [D.plain] using h.2) h.1]
        exact k
      · cases e
    · split at e
      · rename_i h
        rw [Bool.and_eq_true] at h
        cases e
        obtain ⟨b, ys, rfl, hb, sb⟩ := ry.tup
        cases rx with
        | own q => cases q <;> cases h.1
        | sh q =>
          refine .inr (.inl ⟨b, ys, rfl, .inr (by rw [hK]; exact hb), flat_of q h.1, flats_of sb h.2, ?_⟩)
          rw [inV_of q h.1 sb h.2]
          exact k
      · split at e
        · rename_i h
          rw [Bool.and_eq_true] at h
          cases e
          refine .inr (.inr (.inr ⟨_, _, by rw [hK]; exact rx.dp h.1, by rw [hK]; exact ry.dp h.2, shaped_toPy h.1, shaped_toPy h.2, ?_⟩))
          rw [any_toPys (n := 59) (m := 60) (by simpa [D.plain] using h.2) h.1]
          exact k
        · cases e
    · cases rx.str; cases ry.str
      exact .inr (.inr (.inl ⟨_, _, rfl, rfl, k⟩))
  | nin =>
    refine ⟨_, (op_notInD (by omega)).or (op_notIn_seq.or (op_notin_str.or (op_notInDT (by omega)))), ?_⟩
    intro G F env σ H Q dx dy d vx vy rel rx ry e k
    change (innV dx dy).map not = some d at e
    unfold innV at e
    split at e <;> first | cases e | skip
    · split at e
      · rename_i h
        rw [Bool.and_eq_true] at h
        cases e
        refine .inl ⟨_, _, by rw [hK]; exact rx.dp h.1, by rw [hK]; exact ry.dp h.2, shaped_toPy h.1, shaped_toPy h.2, ?_⟩
        rw [any_toPys (n := 59) (m := 60) (by simpa [D.plain] using h.2) h.1]
        exact k
      · cases e
    · split at e
      · rename_i h
        rw [Bool.and_eq_true] at h
        cases e
        obtain ⟨b, ys, rfl, hb, sb⟩ := ry.tup
        cases rx with
        | own q => cases q <;> cases h.1
        | sh q =>
          refine .inr (.inl ⟨b, ys, rfl, .inr (by rw [hK]; exact hb), flat_of q h.1, flats_of sb h.2, ?_⟩)
          rw [inV_of q h.1 sb h.2]
          exact k
      · split at e
        · rename_i h
          rw [Bool.and_eq_true] at h
          cases e
          refine .inr (.inr (.inr ⟨_, _, by rw [hK]; exact rx.dp h.1, by rw [hK]; exact ry.dp h.2, shaped_toPy h.1, shaped_toPy h.2, ?_⟩))
          rw [any_toPys (n := 59) (m := 60) (by simpa [D.plain] using h.2) h.1]
          exact k
        · cases e
    · cases rx.str; cases ry.str
      exact .inr (.inr (.inl ⟨_, _, rfl, rfl, k⟩))
end
end Pd
set_option autoImplicit false
set_option linter.all false
set_option maxRecDepth 100000
set_option maxHeartbeats 1000000
namespace Pd
open PySem PySem.Spec PyProof.Rows L2

/-! ### a tuple from its end: t[::-1] -/
theorem rev_places (n : Nat) : Builtin.Slice.sliceAdjust none none (-1) (n : Int) = ((n : Int) - 1, -1) := by
  unfold Builtin.Slice.sliceAdjust
  simp
theorem rev_many (n : Nat) : Builtin.Slice.slicePlaces ((n : Int) - 1) (-1) (-1) = n := by
  unfold Builtin.Slice.slicePlaces
  rw [if_neg (by decide)]
  cases n with
  | zero => rfl
  | succ n =>
    rw [if_pos (by omega)]
    have : ((((n + 1 : Nat) : Int) - 1 - -1 - 1) / (- -1) + 1) = ((n + 1 : Nat) : Int) := by
      rw [show (- -1 : Int) = 1 from rfl, Int.ediv_one]
      omega
    rw [this]
    exact Int.toNat_natCast _
theorem rev_pick (xs : Array Value) : ((List.range xs.size).filterMap fun (m : Nat) => xs[(((xs.size : Int) - 1) + (m : Int) * -1).toNat]?).toArray = xs.toList.reverse.toArray := by
  congr 1
  have e : ∀ (n : Nat) (l : List Value), n ≤ l.length → ((List.range n).filterMap fun (m : Nat) => l[(((l.length : Int) - 1) + (m : Int) * -1).toNat]?) = l.reverse.take n := by
    intro n l h
    induction n with
    | zero => simp
    | succ n ih =>
      rw [List.range_succ, List.filterMap_append, ih (by omega)]
      have hi : ((((l.length : Int) - 1) + (n : Int) * -1).toNat) = l.length - 1 - n := by omega
      have h2 : l.reverse[n]? = l[l.length - 1 - n]? := by
        rw [List.getElem?_reverse (by omega)]
      rw [List.take_add_one, h2]
      simp only [List.filterMap_cons, List.filterMap_nil, hi]
      have h3 : l.length - 1 - n < l.length := by omega
      rw [List.getElem?_eq_getElem h3]
      rfl
  have := e xs.toList.length xs.toList (Nat.le_refl _)
  rw [List.take_of_length_le (by simp)] at this
  rw [← this]
  simp
section
variable {prog : Program} {w : World} {A : Around} {E : Value → Shared → Prop} {s : Shared}
theorem sliceApplied_rev {sl : Addr} {vl vu vs : Value} {n : Nat} {Q : Int × Int × Nat → Shared → Prop} (hs : s.heap.IsSliceOf sl vl vu vs) (pl : IsPart vl none) (pu : IsPart vu none) (ps : IsPart vs (some (-1)))
    (h : Q ((n : Int) - 1, -1, n) s) : wpAny (model prog w) A (Builtin.Slice.sliceApplied (.ref sl) (pure (n : Int))) Q E s := by
  obtain ⟨os, hos, hcs, hds⟩ := id hs
  unfold Builtin.Slice.sliceApplied Builtin.Slice.sliceFields
  refine wpAny_bind (wpAny_bind (wpAny_field hos hds (x := vl) rfl (wpAny_bind (wpAny_field hos hds (x := vu) rfl (wpAny_bind (wpAny_field hos hds (x := vs) rfl (wpAny_pure ?_)))))))
  refine wpAny_bind (HT.slicePart_ ps ?_)
  show wpAny _ _ (if ((-1 : Int) == 0) = true then _ else _) _ _ s
  rw [if_neg (by decide)]
  refine wpAny_bind (HT.slicePart_ pl (wpAny_bind (HT.slicePart_ pu (wpAny_bind (wpAny_pure ?_)))))
  show wpAny _ _ (match Builtin.Slice.sliceAdjust none none (-1) (n : Int) with | (lo, hi) => pure (lo, (-1 : Int), Builtin.Slice.slicePlaces lo hi (-1))) _ _ s
  rw [rev_places n]
  show wpAny _ _ (pure ((n : Int) - 1, (-1 : Int), Builtin.Slice.slicePlaces ((n : Int) - 1) (-1) (-1))) _ _ s
  rw [rev_many]
  exact wpAny_pure h
theorem getItem_tuple_rev {t sl : Addr} {items : Array Value} {vl vu vs : Value} {Q : Value → Shared → Prop} (ht : IsTup s.heap t items) (hs : s.heap.IsSliceOf sl vl vu vs) (pl : IsPart vl none) (pu : IsPart vu none) (ps : IsPart vs (some (-1)))
    (h : Q (.ref s.heap.objs.size) { s with heap := s.heap.push { cls := .type "tuple", data := .seq items.toList.reverse.toArray } })
    (hsz : items.size ≤ sizeLine) : wpAny (model prog w) A (getItem (.ref t) (.ref sl)) Q E s := by
  have htake : sizeOk (.seq items.toList.reverse.toArray) := by
    show items.toList.reverse.toArray.size ≤ sizeLine
    rw [List.size_toArray, List.length_reverse, Array.length_toList]
    exact hsz
  obtain ⟨os, hos, hcs, hds⟩ := id hs
  have hTs : s.TypeIs (.ref sl) "slice" := ⟨os, hos, hcs⟩
  unfold getItem
  try with_reducible refine wpAny_holding ?_
  first | refine wpAny_bind (wpAny_pure ?_) | skip
  refine wpAny_bind (wpAny_sequenceKey ht.typeIs (by decide) ?_)
  refine wpAny_bind (wpAny_callSpecial?_slot (name := Str.ofString "__getitem__") ht.typeIs PyProof.Rows.slot_tuple_getitem
    (wpAny_call_entry PyProof.Rows.slot_tuple_getitem ht.typeIs entry_tuple_getitem ?_ (args_tuple_getitem _ _)))
  show wpAny _ _ (Builtin.Tuple.tupleItemsOf (.ref t) >>= _) _ _ s
  refine wpAny_bind (tupleItemsOf_ ht ?_)
  refine wpAny_bind (wpAny_typeOf hTs ?_)
  rw [if_pos (by decide)]
  refine wpAny_bind (sliceApplied_rev hs pl pu ps ?_)
  have hno : ¬ ((((items.size : Int) - 1) == 0 && (-1 : Int) == 1 && items.size == items.size) = true) := by
    intro q
    rw [Bool.and_eq_true, Bool.and_eq_true] at q
    have q1 := q.1.2
    exact absurd q1 (by decide)
  show wpAny _ _ (if (((items.size : Int) - 1) == 0 && (-1 : Int) == 1 && items.size == items.size) = true then _ else _) _ _ s
  rw [if_neg hno, rev_pick]
  first
    | exact wpAny_bind (m := Builtin.Tuple.tupleExact _) (wpAny_newObj_type (wpAny_pure ⟨_, rfl, wpAny_pure h⟩) htake)
    | exact wpAny_bind (m := Builtin.Tuple.tupleExact _) (wpAny_newObj_type (wpAny_bind (wpAny_pure (wpAny_pure ⟨_, rfl, wpAny_pure h⟩))) htake)
    | exact wpAny_bind (wpAny_bind (m := Builtin.Tuple.tupleExact _) (wpAny_newObj_type (wpAny_pure (wpAny_pure ⟨_, rfl, wpAny_pure h⟩)) htake))
    | exact wpAny_bind (wpAny_bind (m := Builtin.Tuple.tupleExact _) (wpAny_newObj_type (wpAny_pure ⟨_, rfl, wpAny_pure h⟩) htake))
end

section
variable {X : Cx}
/-- xs[::-1], xs a list or a tuple -/
def tRevA (K : PySem.W.Frag) (te : TE) : TE := fun σ H Q => te σ H fun x H1 => ∃ a xs, x = .ref a ∧
  ((SqL K H1 a xs ∧ ∀ p, H1 p = none → Q (.ref p) (upd H1 p (.lst xs.reverse))) ∨ (SqT K H1 a xs ∧ ∀ p, H1 p = none → Q (.ref p) (upd H1 p (.tup xs.reverse))))
theorem pe_revA {e : Expr} {te : TE} {k : Nat} {p1 p2 p3 pos : Pos} (he : PE X e te) : PE X (.Subscript e (.Slice none none (some (.UnaryOp .USub (.Constant (.int 1) k p1) p2)) p3) pos) (tRevA X.K te) := by
  refine ⟨fun pins s σ H Q I h => ?_⟩
  refine Subscript_ (thn (he.run pins s σ H _ I h) fun v s1 ⟨x, H1, I1, r1, q1⟩ => ?_)
  obtain ⟨a, xs, ex, hx⟩ := q1
  subst ex
  cases r1
  have hst : PO X (some (.UnaryOp .USub (.Constant (.int 1) k p1) p2)) (tPart (tUn (rU fun i => .int (-i)) (tC (.int 1)))) := po_some (pe_un un_neg pe_int)
  refine wpAny_Slice (thn (po_none.run pins s1 σ H1 (fun o H2 => o = none ∧ H2 = H1) I1 ⟨rfl, rfl⟩) fun vl s2 ⟨l, H2, I2, pl, el, e2⟩ => ?_)
  subst el e2
  refine thn (po_none.run pins s2 σ H2 (fun o H3 => o = none ∧ H3 = H2) I2 ⟨rfl, rfl⟩) fun vu s3 ⟨u, H3, I3, pu, eu, e3⟩ => ?_
  subst eu e3
  refine thn (hst.run pins s3 σ H3 (fun o H4 => o = some (-1) ∧ H4 = H3) I3 ⟨1, rfl, -1, rfl, rfl, rfl⟩) fun vs s4 ⟨o, H4, I4, ps, eo, e4⟩ => ?_
  subst eo e4
  have I5 : Inv X pins σ H4 { s4 with heap := s4.heap.push { cls := .type "slice", data := .fields #[vl, vu, vs] } } := I4.kept (t' := s4.toks) fun b ob q => Heap.get?_push_of_some _ q
  show wpAny (model X.prog X.w) X.A (subscriptTail e (.Slice none none (some (.UnaryOp .USub (.Constant (.int 1) k p1) p2)) p3) (.ref a) (.ref s4.heap.objs.size)) (EP X pins σ Q) X.xe { s4 with heap := s4.heap.push { cls := .type "slice", data := .fields #[vl, vu, vs] } }
  rcases hx with ⟨hx, q⟩ | ⟨hx, q⟩
  · obtain ⟨its, r, ht, hz⟩ := I5.list hx
    have hlen := r.length
    refine tail_any (ops := [.ref a, .ref s4.heap.objs.size]) ht.isList.typeIs (PySem.slot_list_getitem.lookup) ?_ (by with_unfolding_all rfl)
    refine wpAny_getItem_list_slice ht.isList (Heap.IsSliceOf.new _ vl vu vs) pl pu ps (by decide) ?_ (by rw [List.size_toArray]; omega)
    rw [PySem.W.krv_pick]
    refine ⟨.ref _, _, I5.laid (t' := s4.toks) (o := .lst xs.reverse) (fun b ob q => Heap.get?_push_of_some _ q) (Nat.le_refl _) ?_, rfl, q _ (I5.hok.fresh (Nat.le_refl _))⟩
    exact ⟨by rw [List.length_reverse]; exact hz, _, 0, r.reverse, Heap.get?_push_size _ rfl⟩
  · obtain ⟨its, r, ht, hz⟩ := I5.tuple hx
    have hlen := r.length
    refine tail_any (ops := [.ref a, .ref s4.heap.objs.size]) ht.typeIs (PyProof.Rows.slot_tuple_getitem.lookup) ?_ (by with_unfolding_all rfl)
    refine getItem_tuple_rev ht (Heap.IsSliceOf.new _ vl vu vs) pl pu ps ?_ (by rw [List.size_toArray]; omega)
    refine ⟨.ref _, _, I5.laid (t' := s4.toks) (o := .tup xs.reverse) (fun b ob q => Heap.get?_push_of_some _ q) (Nat.le_refl _) ?_, rfl, q _ (I5.hok.fresh (Nat.le_refl _))⟩
    exact ⟨by rw [List.length_reverse]; exact hz, _, r.reverse, _, Heap.get?_push_size _ rfl, rfl, 0, rfl⟩
end
end Pd
set_option autoImplicit false
set_option linter.all false
set_option maxRecDepth 100000
set_option maxHeartbeats 1000000
namespace Pd
open PySem PySem.Spec PyProof.Rows L2
/-! every second item: xs[::2], xs[1::2] -/
theorem evy_pick {α : Type} : ∀ l : List α, ((List.range ((l.length + 1) / 2)).filterMap fun (m : Nat) => l[2 * m]?) = evy l
  | [] => by simp [evy]
  | [x] => by simp [evy, List.range_succ]
  | x :: y :: r => by
    have ih := evy_pick r
    rw [show ((x :: y :: r).length + 1) / 2 = (r.length + 1) / 2 + 1 by simp only [List.length_cons]; omega, List.range_succ_eq_map, List.filterMap_cons]
    simp only [Nat.mul_zero, List.getElem?_cons_zero]
    rw [List.filterMap_map]
    show x :: _ = x :: evy r
    rw [← ih]
    congr 1
theorem evy_at {α : Type} (l : List α) (k : Nat) : ((List.range ((l.length - k + 1) / 2)).filterMap fun (m : Nat) => l[k + 2 * m]?) = evy (l.drop k) := by
  rw [← evy_pick, List.length_drop]
  congr 1
  funext m
  rw [List.getElem?_drop]
theorem evy_len {α : Type} : ∀ l : List α, (evy l).length ≤ l.length
  | [] => Nat.le_refl _
  | [x] => Nat.le_refl _
  | x :: y :: r => by have := evy_len r; simp only [evy, List.length_cons]; omega
/-- 0, or nothing told, and 1 -/
def evL : Nat → Option Int
  | 0 => none
  | k + 1 => some ((k + 1 : Nat) : Int)
theorem evy_adj (k n : Nat) : Builtin.Slice.sliceAdjust (evL k) none 2 (n : Int) = (((min k n : Nat) : Int), (n : Int)) := by
  unfold Builtin.Slice.sliceAdjust evL
  cases k with
  | zero => simp
  | succ k =>
    simp only
    simp
    split <;> omega
theorem evy_many (k n : Nat) : Builtin.Slice.slicePlaces ((min k n : Nat) : Int) (n : Int) 2 = (n - k + 1) / 2 := by
  unfold Builtin.Slice.slicePlaces
  rw [if_pos (by decide)]
  by_cases h : k < n
  · rw [if_pos (by omega), Nat.min_eq_left (by omega)]
    omega
  · rw [if_neg (by omega)]
    omega
theorem evy_sl (items : Array Value) (k : Nat) : slicePick items (evL k) none (some 2) = (evy (items.toList.drop k)).toArray := by
  unfold slicePick
  have hb : sliceBounds (evL k) none (some 2) items.size = (((min k items.size : Nat) : Int), (items.size : Int), 2) := by
    unfold sliceBounds evL
    cases k with
    | zero => simp
    | succ k =>
      simp only
      simp
      split <;> omega
  rw [hb]
  show ((sliceRange ((min k items.size : Nat) : Int) (items.size : Int) 2).filterMap (items[·]?)).toArray = _
  unfold sliceRange
  rw [← evy_at]
  congr 1
  simp only
  rw [if_pos (by decide), List.filterMap_map]
  have hc : ((if ((min k items.size : Nat) : Int) < (items.size : Int) then ((items.size : Int) - ((min k items.size : Nat) : Int) + 2 - 1) / 2 else 0).toNat) = (items.toList.length - k + 1) / 2 := by
    rw [Array.length_toList]
    split <;> omega
  rw [hc]
  by_cases h : k ≤ items.size
  · congr 1
    funext m
    show items[(((min k items.size : Nat) : Int) + 2 * (m : Int)).toNat]? = items.toList[k + 2 * m]?
    rw [show (((min k items.size : Nat) : Int) + 2 * (m : Int)).toNat = k + 2 * m by omega, Array.getElem?_toList]
  · rw [show (items.toList.length - k + 1) / 2 = 0 by rw [Array.length_toList]; omega]
    rfl
section
variable {prog : Program} {w : World} {A : Around} {E : Value → Shared → Prop} {s : Shared}
theorem sliceApplied_evy {sl : Addr} {vl vu vs : Value} {n k : Nat} {Q : Int × Int × Nat → Shared → Prop} (hs : s.heap.IsSliceOf sl vl vu vs) (pl : IsPart vl (evL k)) (pu : IsPart vu none) (ps : IsPart vs (some 2))
    (h : Q (((min k n : Nat) : Int), 2, (n - k + 1) / 2) s) : wpAny (model prog w) A (Builtin.Slice.sliceApplied (.ref sl) (pure (n : Int))) Q E s := by
  obtain ⟨os, hos, hcs, hds⟩ := id hs
  unfold Builtin.Slice.sliceApplied Builtin.Slice.sliceFields
  refine wpAny_bind (wpAny_bind (wpAny_field hos hds (x := vl) rfl (wpAny_bind (wpAny_field hos hds (x := vu) rfl (wpAny_bind (wpAny_field hos hds (x := vs) rfl (wpAny_pure ?_)))))))
  refine wpAny_bind (HT.slicePart_ ps ?_)
  show wpAny _ _ (if ((2 : Int) == 0) = true then _ else _) _ _ s
  rw [if_neg (by decide)]
  refine wpAny_bind (HT.slicePart_ pl (wpAny_bind (HT.slicePart_ pu (wpAny_bind (wpAny_pure ?_)))))
  show wpAny _ _ (match Builtin.Slice.sliceAdjust (evL k) none 2 (n : Int) with | (lo, hi) => pure (lo, (2 : Int), Builtin.Slice.slicePlaces lo hi 2)) _ _ s
  rw [evy_adj k n]
  show wpAny _ _ (pure (((min k n : Nat) : Int), (2 : Int), Builtin.Slice.slicePlaces ((min k n : Nat) : Int) (n : Int) 2)) _ _ s
  rw [evy_many]
  exact wpAny_pure h
theorem getItem_tuple_evy {t sl : Addr} {items : Array Value} {vl vu vs : Value} {k : Nat} {Q : Value → Shared → Prop} (ht : IsTup s.heap t items) (hs : s.heap.IsSliceOf sl vl vu vs) (pl : IsPart vl (evL k)) (pu : IsPart vu none) (ps : IsPart vs (some 2))
    (h : Q (.ref s.heap.objs.size) { s with heap := s.heap.push { cls := .type "tuple", data := .seq (evy (items.toList.drop k)).toArray } })
    (hsz : items.size ≤ sizeLine) : wpAny (model prog w) A (getItem (.ref t) (.ref sl)) Q E s := by
  have htake : sizeOk (.seq (evy (items.toList.drop k)).toArray) := by
    show (evy (items.toList.drop k)).toArray.size ≤ sizeLine
    have := evy_len (items.toList.drop k)
    have h2 : items.toList.length = items.size := Array.length_toList
    have h3 := List.length_drop (i := k) (l := items.toList)
    rw [List.size_toArray]
    omega
  obtain ⟨os, hos, hcs, hds⟩ := id hs
  have hTs : s.TypeIs (.ref sl) "slice" := ⟨os, hos, hcs⟩
  have pk : ((List.range ((items.size - k + 1) / 2)).filterMap fun (m : Nat) => items[(((min k items.size : Nat) : Int) + (m : Int) * 2).toNat]?).toArray = (evy (items.toList.drop k)).toArray := by
    rw [← evy_at, Array.length_toList]
    by_cases hk : k ≤ items.size
    · congr 2
      funext m
      rw [show (((min k items.size : Nat) : Int) + (m : Int) * 2).toNat = k + 2 * m by omega, Array.getElem?_toList]
    · rw [show (items.size - k + 1) / 2 = 0 by omega]
      rfl
  unfold getItem
  try with_reducible refine wpAny_holding ?_
  first | refine wpAny_bind (wpAny_pure ?_) | skip
  refine wpAny_bind (wpAny_sequenceKey ht.typeIs (by decide) ?_)
  refine wpAny_bind (wpAny_callSpecial?_slot (name := Str.ofString "__getitem__") ht.typeIs PyProof.Rows.slot_tuple_getitem
    (wpAny_call_entry PyProof.Rows.slot_tuple_getitem ht.typeIs entry_tuple_getitem ?_ (args_tuple_getitem _ _)))
  show wpAny _ _ (Builtin.Tuple.tupleItemsOf (.ref t) >>= _) _ _ s
  refine wpAny_bind (tupleItemsOf_ ht ?_)
  refine wpAny_bind (wpAny_typeOf hTs ?_)
  rw [if_pos (by decide)]
  refine wpAny_bind (sliceApplied_evy hs pl pu ps ?_)
  have hno : ¬ ((((min k items.size : Nat) : Int) == 0 && (2 : Int) == 1 && (items.size - k + 1) / 2 == items.size) = true) := by
    intro q
    rw [Bool.and_eq_true, Bool.and_eq_true] at q
    exact absurd q.1.2 (by decide)
  show wpAny _ _ (if (((min k items.size : Nat) : Int) == 0 && (2 : Int) == 1 && (items.size - k + 1) / 2 == items.size) = true then _ else _) _ _ s
  rw [if_neg hno, pk]
  first
    | exact wpAny_bind (m := Builtin.Tuple.tupleExact _) (wpAny_newObj_type (wpAny_pure ⟨_, rfl, wpAny_pure h⟩) htake)
    | exact wpAny_bind (m := Builtin.Tuple.tupleExact _) (wpAny_newObj_type (wpAny_bind (wpAny_pure (wpAny_pure ⟨_, rfl, wpAny_pure h⟩))) htake)
    | exact wpAny_bind (wpAny_bind (m := Builtin.Tuple.tupleExact _) (wpAny_newObj_type (wpAny_pure (wpAny_pure ⟨_, rfl, wpAny_pure h⟩)) htake))
    | exact wpAny_bind (wpAny_bind (m := Builtin.Tuple.tupleExact _) (wpAny_newObj_type (wpAny_pure ⟨_, rfl, wpAny_pure h⟩) htake))
end
theorem evy_pair {α β : Type} {R : α → β → Prop} : ∀ {xs : List α} {ys : List β}, PySem.Paired R xs ys → PySem.Paired R (evy xs) (evy ys)
  | _, _, .nil => .nil
  | _, _, .cons h .nil => .cons h .nil
  | _, _, .cons h (.cons _ r) => .cons h (evy_pair r)
section
variable {X : Cx}
/-- xs[k::2], xs a list or a tuple -/
def tEvy (K : PySem.W.Frag) (k : Nat) (te : TE) : TE := fun σ H Q => te σ H fun x H1 => ∃ a xs, x = .ref a ∧
  ((SqL K H1 a xs ∧ ∀ p, H1 p = none → Q (.ref p) (upd H1 p (.lst (evy (xs.drop k))))) ∨ (SqT K H1 a xs ∧ ∀ p, H1 p = none → Q (.ref p) (upd H1 p (.tup (evy (xs.drop k))))))
theorem pe_evy {e : Expr} {te : TE} {k j : Nat} {lo : Option Expr} {tl : TO} {p1 p3 pos : Pos} (he : PE X e te) (hlo : PO X lo tl) (hl : ∀ σ H, tl σ H (fun o H2 => o = evL k ∧ H2 = H)) :
    PE X (.Subscript e (.Slice lo none (some (.Constant (.int 2) j p1)) p3) pos) (tEvy X.K k te) := by
  refine ⟨fun pins s σ H Q I h => ?_⟩
  refine Subscript_ (thn (he.run pins s σ H _ I h) fun v s1 ⟨x, H1, I1, r1, q1⟩ => ?_)
  obtain ⟨a, xs, ex, hx⟩ := q1
  subst ex
  cases r1
  have hst : PO X (some (.Constant (.int 2) j p1)) (tPart (tC (.int 2))) := po_some pe_int
  refine wpAny_Slice (thn (hlo.run pins s1 σ H1 (fun o H2 => o = evL k ∧ H2 = H1) I1 (hl σ H1)) fun vl s2 ⟨l, H2, I2, pl, el, e2⟩ => ?_)
  subst el e2
  refine thn (po_none.run pins s2 σ H2 (fun o H3 => o = none ∧ H3 = H2) I2 ⟨rfl, rfl⟩) fun vu s3 ⟨u, H3, I3, pu, eu, e3⟩ => ?_
  subst eu e3
  refine thn (hst.run pins s3 σ H3 (fun o H4 => o = some 2 ∧ H4 = H3) I3 ⟨2, rfl, rfl, rfl⟩) fun vs s4 ⟨o, H4, I4, ps, eo, e4⟩ => ?_
  subst eo e4
  have I5 : Inv X pins σ H4 { s4 with heap := s4.heap.push { cls := .type "slice", data := .fields #[vl, vu, vs] } } := I4.kept (t' := s4.toks) fun b ob q => Heap.get?_push_of_some _ q
  show wpAny (model X.prog X.w) X.A (subscriptTail e (.Slice lo none (some (.Constant (.int 2) j p1)) p3) (.ref a) (.ref s4.heap.objs.size)) (EP X pins σ Q) X.xe { s4 with heap := s4.heap.push { cls := .type "slice", data := .fields #[vl, vu, vs] } }
  rcases hx with ⟨hx, q⟩ | ⟨hx, q⟩
  · obtain ⟨its, r, ht, hz⟩ := I5.list hx
    have hlen := r.length
    refine tail_any (ops := [.ref a, .ref s4.heap.objs.size]) ht.isList.typeIs (PySem.slot_list_getitem.lookup) ?_ (by with_unfolding_all rfl)
    refine wpAny_getItem_list_slice ht.isList (Heap.IsSliceOf.new _ vl vu vs) pl pu ps (by decide) ?_ (by rw [List.size_toArray]; omega)
    rw [evy_sl]
    have hle := evy_len (xs.drop k)
    rw [List.length_drop] at hle
    refine ⟨.ref _, _, I5.laid (t' := s4.toks) (o := .lst (evy (xs.drop k))) (fun b ob q => Heap.get?_push_of_some _ q) (Nat.le_refl _) ?_, rfl, q _ (I5.hok.fresh (Nat.le_refl _))⟩
    exact ⟨by omega, _, 0, evy_pair (r.drop k), Heap.get?_push_size _ rfl⟩
  · obtain ⟨its, r, ht, hz⟩ := I5.tuple hx
    have hlen := r.length
    refine tail_any (ops := [.ref a, .ref s4.heap.objs.size]) ht.typeIs (PyProof.Rows.slot_tuple_getitem.lookup) ?_ (by with_unfolding_all rfl)
    refine getItem_tuple_evy ht (Heap.IsSliceOf.new _ vl vu vs) pl pu ps ?_ (by rw [List.size_toArray]; omega)
    have hle := evy_len (xs.drop k)
    rw [List.length_drop] at hle
    refine ⟨.ref _, _, I5.laid (t' := s4.toks) (o := .tup (evy (xs.drop k))) (fun b ob q => Heap.get?_push_of_some _ q) (Nat.le_refl _) ?_, rfl, q _ (I5.hok.fresh (Nat.le_refl _))⟩
    exact ⟨by omega, _, evy_pair (r.drop k), _, Heap.get?_push_size _ rfl, rfl, 0, rfl⟩
end
end Pd
set_option autoImplicit false
set_option linter.all false
set_option maxRecDepth 100000
set_option maxHeartbeats 1000000
namespace PySem
section
variable {prog : Program} {w : World} {A : Around} {E : Value → Shared → Prop} {s : Shared} {l : Addr} {xs : Array (Int × Tok)}
theorem pd_tup_lt (hl : s.heap.IsTuple l (intItems xs)) : l < s.heap.objs.size := by
  obtain ⟨o, e, _⟩ := hl
  exact Heap.lt_size e
theorem pd_fp (hl : s.heap.IsTuple l (intItems xs)) {o : Obj} : ∀ c ∈ [s.heap.objs.size, l], c < (s.heap.push o).objs.size := by
  intro c hc
  rw [Heap.size_push]
  rcases List.mem_cons.mp hc with rfl | hc
  · exact Nat.lt_succ_self _
  · rcases List.mem_cons.mp hc with rfl | hc
    · exact Nat.lt_succ_of_lt (pd_tup_lt hl)
    · cases hc
theorem pd_old {h' : Heap} {o : Obj} (hk : ∀ b u, b ∉ [s.heap.objs.size] → (s.heap.push o).get? b = some u → h'.get? b = some u) : ∀ b u, s.heap.get? b = some u → h'.get? b = some u := fun b u e => by
  refine hk b u (fun hm => ?_) (Heap.get?_push_of_some _ e)
  rcases List.mem_cons.mp hm with e1 | hm
  · exact Nat.lt_irrefl _ (by have := Heap.lt_size e; rw [e1] at this; exact this)
  · cases hm
theorem pd_sum_tup {Q : Value → Shared → Prop} (hh : A.handled = none) (hl : s.heap.IsTuple l (intItems xs))
    (h : ∀ h' tk t', (∀ b o, s.heap.get? b = some o → h'.get? b = some o) → Q (.int (preSum (numAt xs) xs.size) t') { s with heap := h', toks := tk }) :
    wpAny (model prog w) A (call (.builtin "sum") [.ref l]) Q E s := by
  refine call_sum_walkG (wpAny_pyIter_tuple hl ?_)
  refine ⟨_, [s.heap.objs.size, l], [s.heap.objs.size], _, _, _, numAt xs, rfl, Walks.tuple (A := A.in1) hh _ l (Nat.ne_of_lt (pd_tup_lt hl)) (intItems xs),
    ⟨⟨_, Heap.get?_push_size _ rfl, rfl, rfl⟩, hl.push _⟩, pd_fp hl, (fun _ _ => intItems_at), fun h' tk t' hk => ?_⟩
  have := h h' tk t' (pd_old hk)
  simpa [intItems] using this
theorem pd_max_tup {Q : Value → Shared → Prop} (hh : A.handled = none) (hl : s.heap.IsTuple l (intItems xs)) (hne : 0 < xs.size)
    (h : ∀ v h' tk, (intItems xs)[argBest (fun i j => decide (numAt xs i > numAt xs j)) (xs.size - 1)]? = some v → (∀ b o, s.heap.get? b = some o → h'.get? b = some o) → Q v { s with heap := h', toks := tk }) :
    wpAny (model prog w) A (call (.builtin "max") [.ref l]) Q E s := by
  refine call_max_walk (wpAny_pyIter_tuple hl ?_)
  refine ⟨_, [s.heap.objs.size, l], [s.heap.objs.size], _, _, _, _, rfl, Walks.tuple (A := A.in1) hh _ l (Nat.ne_of_lt (pd_tup_lt hl)) (intItems xs),
    ⟨⟨_, Heap.get?_push_size _ rfl, rfl, rfl⟩, hl.push _⟩, pd_fp hl, by simpa [intItems] using hne, CmpOf.ints_gt (numAt xs) (fun _ _ => intItems_at), fun v h' tk hP hk => ?_⟩
  exact h v h' tk (by simpa [intItems] using hP) (pd_old hk)
theorem pd_min_tup {Q : Value → Shared → Prop} (hh : A.handled = none) (hl : s.heap.IsTuple l (intItems xs)) (hne : 0 < xs.size)
    (h : ∀ v h' tk, (intItems xs)[argBest (fun i j => decide (numAt xs i < numAt xs j)) (xs.size - 1)]? = some v → (∀ b o, s.heap.get? b = some o → h'.get? b = some o) → Q v { s with heap := h', toks := tk }) :
    wpAny (model prog w) A (call (.builtin "min") [.ref l]) Q E s := by
  refine call_min_walk (wpAny_pyIter_tuple hl ?_)
  refine ⟨_, [s.heap.objs.size, l], [s.heap.objs.size], _, _, _, _, rfl, Walks.tuple (A := A.in1) hh _ l (Nat.ne_of_lt (pd_tup_lt hl)) (intItems xs),
    ⟨⟨_, Heap.get?_push_size _ rfl, rfl, rfl⟩, hl.push _⟩, pd_fp hl, by simpa [intItems] using hne, CmpOf.ints_lt (numAt xs) (fun _ _ => intItems_at), fun v h' tk hP hk => ?_⟩
  exact h v h' tk (by simpa [intItems] using hP) (pd_old hk)
end
end PySem
namespace Pd
open PySem PySem.Spec PyProof.Rows L2
section
variable {prog : Program} {w : World} {A : Around} {E : Value → Shared → Prop} {s : Shared} {l : Addr} {its : List Value} {ns : List Int} {Q : Value → Shared → Prop}
theorem sumT_raw (hh : A.handled = none) (hl : s.heap.IsTuple l its.toArray) (hi : IntsAre its ns)
    (h : ∀ h' tk t', (∀ b o, s.heap.get? b = some o → h'.get? b = some o) → Q (.int ns.sum t') { s with heap := h', toks := tk }) : wpAny (model prog w) A (call (.builtin "sum") [.ref l]) Q E s := by
  obtain ⟨xs, e⟩ := hi.allInts.items
  have hn : numsOf (intItems xs).toList = ns := by rw [← e]; exact hi.numsOf
  rw [nums_intItems] at hn
  rw [e] at hl
  refine PySem.pd_sum_tup hh hl fun h' tk t' hk => ?_
  have := h h' tk t' hk
  rw [preSum_eq, List.take_of_length_le (by simp), hn]; exact this
theorem maxT_raw (hh : A.handled = none) (hl : s.heap.IsTuple l its.toArray) (hi : IntsAre its ns) (hne : 0 < ns.length)
    (h : ∀ h' tk M t', (∀ b o, s.heap.get? b = some o → h'.get? b = some o) → M ∈ ns → (∀ a, a ∈ ns → a ≤ M) → Q (.int M t') { s with heap := h', toks := tk }) : wpAny (model prog w) A (call (.builtin "max") [.ref l]) Q E s := by
  obtain ⟨xs, e⟩ := hi.allInts.items
  have hn : numsOf (intItems xs).toList = ns := by rw [← e]; exact hi.numsOf
  rw [nums_intItems] at hn
  subst hn
  rw [e] at hl
  have hsz : 0 < xs.size := by simpa using hne
  refine PySem.pd_max_tup hh hl hsz fun v h' tk hv hk => ?_
  obtain ⟨t, rfl⟩ := intItems_at hv
  obtain ⟨h1, h2⟩ := argBest_gt (numAt xs) (xs.size - 1)
  refine h h' tk _ t hk ?_ fun a ha => ?_
  · rw [numAt_eq]; exact PySem.getD_mem (by rw [List.length_map, Array.length_toList]; omega)
  · obtain ⟨j, hj, rfl⟩ := mem_getD ha
    rw [List.length_map, Array.length_toList] at hj
    rw [← numAt_eq]; exact h2 j (by omega)
theorem minT_raw (hh : A.handled = none) (hl : s.heap.IsTuple l its.toArray) (hi : IntsAre its ns) (hne : 0 < ns.length)
    (h : ∀ h' tk M t', (∀ b o, s.heap.get? b = some o → h'.get? b = some o) → M ∈ ns → (∀ a, a ∈ ns → M ≤ a) → Q (.int M t') { s with heap := h', toks := tk }) : wpAny (model prog w) A (call (.builtin "min") [.ref l]) Q E s := by
  obtain ⟨xs, e⟩ := hi.allInts.items
  have hn : numsOf (intItems xs).toList = ns := by rw [← e]; exact hi.numsOf
  rw [nums_intItems] at hn
  subst hn
  rw [e] at hl
  have hsz : 0 < xs.size := by simpa using hne
  refine PySem.pd_min_tup hh hl hsz fun v h' tk hv hk => ?_
  obtain ⟨t, rfl⟩ := intItems_at hv
  obtain ⟨h1, h2⟩ := argBest_lt (numAt xs) (xs.size - 1)
  refine h h' tk _ t hk ?_ fun a ha => ?_
  · rw [numAt_eq]; exact PySem.getD_mem (by rw [List.length_map, Array.length_toList]; omega)
  · obtain ⟨j, hj, rfl⟩ := mem_getD ha
    rw [List.length_map, Array.length_toList] at hj
    rw [← numAt_eq]; exact h2 j (by omega)
end
section
variable {X : Cx}
def rSumT (K : PySem.W.Frag) : List V → Hp → VK → Prop := fun vs H Q => ∃ (a : Addr) (ns : List Int), vs = [V.ref a] ∧ SqT K H a (ns.map V.int) ∧ Q (.int ns.sum) H
def rMaxT (K : PySem.W.Frag) : List V → Hp → VK → Prop := fun vs H Q => ∃ (a : Addr) (ns : List Int), vs = [V.ref a] ∧ SqT K H a (ns.map V.int) ∧ 0 < ns.length ∧ ∀ m, m ∈ ns → (∀ y, y ∈ ns → y ≤ m) → Q (.int m) H
def rMinT (K : PySem.W.Frag) : List V → Hp → VK → Prop := fun vs H Q => ∃ (a : Addr) (ns : List Int), vs = [V.ref a] ∧ SqT K H a (ns.map V.int) ∧ 0 < ns.length ∧ ∀ m, m ∈ ns → (∀ y, y ∈ ns → m ≤ y) → Q (.int m) H
theorem cr_sumT (hc : X.calm = true) : CallR X (.builtin "sum") (rSumT X.K) := by
  intro pins s σ H vs us Q I r h
  obtain ⟨a, ns, rfl, hs, q⟩ := h
  obtain ⟨its, rv, hl, _⟩ := I.tuple hs
  rw [Vals.ref1 r]
  exact sumT_raw (I.ok.hd hc) (show s.heap.IsTuple a its.toArray from hl) rv.ints fun h' tk t' hk => ⟨.int _, H, I.kept hk, ⟨_, rfl⟩, q⟩
theorem cr_maxT (hc : X.calm = true) : CallR X (.builtin "max") (rMaxT X.K) := by
  intro pins s σ H vs us Q I r h
  obtain ⟨a, ns, rfl, hs, hne, q⟩ := h
  obtain ⟨its, rv, hl, _⟩ := I.tuple hs
  rw [Vals.ref1 r]
  exact maxT_raw (I.ok.hd hc) (show s.heap.IsTuple a its.toArray from hl) rv.ints hne fun h' tk m t' hk h1 h2 => ⟨.int _, H, I.kept hk, ⟨_, rfl⟩, q m h1 h2⟩
theorem cr_minT (hc : X.calm = true) : CallR X (.builtin "min") (rMinT X.K) := by
  intro pins s σ H vs us Q I r h
  obtain ⟨a, ns, rfl, hs, hne, q⟩ := h
  obtain ⟨its, rv, hl, _⟩ := I.tuple hs
  rw [Vals.ref1 r]
  exact minT_raw (I.ok.hd hc) (show s.heap.IsTuple a its.toArray from hl) rv.ints hne fun h' tk m t' hk h1 h2 => ⟨.int _, H, I.kept hk, ⟨_, rfl⟩, q m h1 h2⟩
theorem cr_range1 : CallR X (.type "range") (fun vs H Q => ∃ j, vs = [V.int j] ∧ ∀ p, H p = none → Q (.ref p) (upd H p (.rng 0 j))) := by
  intro pins s σ H vs us Q I r h
  obtain ⟨j, rfl, q⟩ := h
  obtain ⟨u1, rfl, ri⟩ := r.one
  obtain ⟨t, rfl⟩ := ri
  refine call_range_1 ⟨.ref s.heap.objs.size, upd H s.heap.objs.size (.rng 0 j), I.laid (t' := s.toks + 1 + 1) (fun b o e => Heap.get?_push_of_some _ e) (Nat.le_refl _) ?_, rfl, q _ (I.hok.fresh (Nat.le_refl _))⟩
  exact ⟨_, _, _, Heap.get?_push_size _ rfl⟩
theorem rng_small {lo hi : Int} {n : Nat} (h : rngN lo hi = some n) : Builtin.Range.small lo hi 1 = true ∧ Builtin.Range.rangeSize lo hi 1 = (n : Int) ∧ n ≤ 1000000 := by
  unfold rngN at h
  split at h
  · rename_i c
    cases h
    obtain ⟨h1, h2, h3, h4, h5⟩ := c
    exact ⟨small_one (by omega) (by omega) (by omega) (by omega), rangeSize_nat lo hi, h5⟩
  · cases h
theorem items_vals {lo : Int} {n : Nat} {acc : Array Value} (h : ItemsOf (fun i v => ∃ t, v = .int (lo + (i : Nat) * 1) t) acc n) : Vals ((List.range n).map fun (i : Nat) => V.int (lo + (i : Int))) acc.toList := by
  have := vals_of_get acc.toList (fun i => V.int (lo + (i : Int))) fun j u e => by
    rw [Array.getElem?_toList] at e
    obtain ⟨t, rfl⟩ := h.2 j u e
    exact ⟨t, by simp⟩
  rw [Array.length_toList, h.1] at this
  exact this
theorem cr_listR (hc : X.calm = true) : CallR X (.type "list") (fun vs H Q => ∃ (a : Addr) (lo hi : Int) (n : Nat), vs = [V.ref a] ∧ H a = some (.rng lo hi) ∧ rngN lo hi = some n ∧ ∀ p, H p = none → Q (.ref p) (upd H p (.lst ((List.range n).map fun (i : Nat) => V.int (lo + (i : Int)))))) := by
  intro pins s σ H vs us Q I r h
  obtain ⟨a, lo, hi, n, rfl, ha, hn, q⟩ := h
  rw [Vals.ref1 r]
  obtain ⟨s1, s2, s3⟩ := rng_small hn
  obtain ⟨t, u, v, ea⟩ := I.hok a _ ha
  refine call_list_range (t := t) (u := u) (v := v) (I.ok.hd hc) ea s1 s2 (by omega) fun h' tk acc' c' kp e hi' => ?_
  have vs := items_vals hi'
  refine ⟨.ref s.heap.objs.size, _, I.laid (t' := tk) kp (Nat.le_refl _) (show ObjOk X.prog X.w _ h' _ (.lst _) from ⟨by rw [List.length_map, List.length_range, sizeLine_eq]; omega, acc'.toList, c', vs, by simpa using e⟩), rfl, q _ (I.hok.fresh (Nat.le_refl _))⟩
theorem cr_tupR (hc : X.calm = true) : CallR X (.type "tuple") (fun vs H Q => ∃ (a : Addr) (lo hi : Int) (n : Nat), vs = [V.ref a] ∧ H a = some (.rng lo hi) ∧ rngN lo hi = some n ∧ ∀ p, H p = none → Q (.ref p) (upd H p (.tup ((List.range n).map fun (i : Nat) => V.int (lo + (i : Int)))))) := by
  intro pins s σ H vs us Q I r h
  obtain ⟨a, lo, hi, n, rfl, ha, hn, q⟩ := h
  rw [Vals.ref1 r]
  obtain ⟨s1, s2, s3⟩ := rng_small hn
  obtain ⟨t, u, v, ea⟩ := I.hok a _ ha
  refine call_tuple_range (t := t) (u := u) (v := v) (I.ok.hd hc) ea s1 s2 (by omega) fun h' tk acc' kp hi' => ?_
  have vs := items_vals hi'
  have I1 : Inv X pins σ H { s with heap := h', toks := tk } := I.kept (t' := tk) kp
  have I2 : Inv X pins σ (upd H h'.objs.size (.tup ((List.range n).map fun (i : Nat) => V.int (lo + (i : Int))))) { s with heap := h'.push { cls := .type "tuple", data := .seq acc' }, toks := tk } :=
    I1.laid (t' := tk) (fun b o e => Heap.get?_push_of_some _ e) (Nat.le_refl _) (show ObjOk X.prog X.w _ _ _ (.tup _) from ⟨by rw [List.length_map, List.length_range, sizeLine_eq]; omega, acc'.toList, vs, by simpa using IsTup.new _ _⟩)
  exact ⟨.ref h'.objs.size, _, I2, rfl, q _ (I1.hok.fresh (Nat.le_refl _))⟩
end
end Pd
set_option autoImplicit false
set_option linter.all false
set_option maxRecDepth 100000
set_option maxHeartbeats 1000000
/-! sorted(xs), xs a list of data that can be compared -/
namespace PySem.W
open PySem PySem.Calls PyProof.Rows
section
variable {prog : Program} {w : World} {A : Around} {E : Value → Shared → Prop} {s : Shared} {β : Type} {vs : List Value} {bs : List β} {enc : β → PyData} {R : Value → β → Prop}
/-- sorted(t), t a tuple -/
theorem pd_sorted_tup {l : Addr} {o : Obj} {k : Nat} {Q : Value → Shared → Prop} (ho : s.heap.get? l = some o) (hc : o.cls = .type "tuple") (hd : o.data = .seq vs.toArray k) (e : EachIs R vs bs) (er : EachIs (fun v b => ∃ as, Reads s.heap v (enc b) as) vs bs) (hal : AllAlike (bs.map enc)) (hk : Sortable (bs.map enc)) (hL : bs.length ≤ sizeLine)
    (hu : ∀ b, b ∈ bs → A.units + 2 + (enc b).depth < cLine)
    (h : ∀ (h' : Heap) (a : Addr) (c : Nat) (out : List Value), (∀ b o, s.heap.get? b = some o → h'.get? b = some o) → s.heap.get? a = none → h'.get? a = some (seqObj "list" out.toArray c) → EachIs R out (bs.mergeSort (dataLe false enc)) → Q (.ref a) { s with heap := h' }) :
    wpAny (model prog w) A (call (.builtin "sorted") [.ref l]) Q E s := by
  have hvl : vs.length ≤ sizeLine := by rw [e.length]; exact hL
  refine call_function_entry_kw kind_sorted plain_sorted entry_sorted (args_sorted1 _) ?_
  unfold Builtin.«sorted»
  refine wpAny_bind (m := checkCount "sorted" 1 1 _) (wpAny_pure ?_)
  refine wpAny_bind (wpAny_collect_seq l (.inr rfl) ho hc hd (fun h1 hk1 => ?_) (by rw [List.size_toArray]; exact hvl))
  rw [List.toList_toArray]
  refine wpAny_bind (wpAny_newList ?_ hvl)
  have hat : (h1.push (seqObj "list" vs.toArray 0)).get? h1.objs.size = some (seqObj "list" vs.toArray 0) := Heap.get?_push_size _ rfl
  have hsz : s.heap.get? h1.objs.size = none := by
    cases z : s.heap.get? h1.objs.size with
    | none => rfl
    | some o0 => exact absurd (Heap.lt_size (hk1 _ _ z)) (Nat.lt_irrefl _)
  have old : ∀ b ob, s.heap.get? b = some ob → (sortingHeap (h1.push (seqObj "list" vs.toArray 0)) h1.objs.size vs).get? b = some ob := fun b ob q => by
    have q1 := hk1 b ob q
    exact sortingHeap_old (Nat.ne_of_lt (Heap.lt_size q1)) (Heap.get?_push_of_some _ q1)
  have er' : EachIs (fun v b => ∃ as, Reads (sortingHeap (h1.push (seqObj "list" vs.toArray 0)) h1.objs.size vs) v (enc b) as) vs bs := er.mono fun _ _ ⟨as, r⟩ => ⟨as, PyProof.Rows.Reads.keeps old r⟩
  show wpAny _ _ _ _ _ { s with heap := h1.push (seqObj "list" vs.toArray 0) }
  refine wpAny_bind (wpAny_holding (wpAny_call_entry_kw slot_list_sort ⟨_, hat, rfl⟩ entry_list_sort ?body (args_list_sort _)))
  case body =>
    show wpAny (model prog w) A.in1.in1 (Builtin.«list.sort» ⟨[.ref h1.objs.size], []⟩) _ _ _
    refine list_sort_vals (κ := dataKind (sortingHeap (h1.push (seqObj "list" vs.toArray 0)) h1.objs.size vs) (bs.map enc)) (s := { s with heap := h1.push (seqObj "list" vs.toArray 0) }) hat (SortsAt.data (s := { s with heap := sortingHeap (h1.push (seqObj "list" vs.toArray 0)) h1.objs.size vs }) (each_map (R := fun v d => ∃ as, Reads (sortingHeap (h1.push (seqObj "list" vs.toArray 0)) h1.objs.size vs) v d as) enc er') hal hk (bound_map hu)) hvl ?_
    obtain ⟨c, hcc⟩ := sortedHeap_at (out := (sortVals (dataKind (sortingHeap (h1.push (seqObj "list" vs.toArray 0)) h1.objs.size vs) (bs.map enc)) false vs vs).toArray) hat
    refine ⟨_, rfl, wpAny_pure ⟨_, rfl, h _ _ c _ (fun b ob q => ?_) hsz hcc (sortVals_data false e er' hal)⟩⟩
    have q1 := hk1 b ob q
    rw [sortedHeap_old (Nat.ne_of_lt (Heap.lt_size q1)) (by rw [size_push']; exact Nat.lt_succ_of_lt (Heap.lt_size q1))]
    exact Heap.get?_push_of_some _ q1
end
end PySem.W
namespace Pd
open PySem L2
section
variable {X : Cx}
theorem each_of : ∀ {T : List (V × PyData)} {us : List Value}, Vals (T.map (·.1)) us → PySem.W.EachIs (fun (v : Value) (t : V × PyData) => RelV t.1 v) us T
  | [], _, h => by
    have h' : Vals [] _ := h
    cases h'; exact .nil
  | t :: T, _, h => by
    have h' : Vals (t.1 :: T.map (·.1)) _ := h
    cases h' with
    | cons r q => exact .cons r (each_of q)
theorem of_each : ∀ {T : List (V × PyData)} {us : List Value}, PySem.W.EachIs (fun (v : Value) (t : V × PyData) => RelV t.1 v) us T → Vals (T.map (·.1)) us
  | _, _, .nil => .nil
  | _, _, .cons r q => .cons r (of_each q)
theorem each_reads {pins : List (Addr × Obj)} {s : Shared} {σ : L2.St} {H : Hp} (I : Inv X pins σ H s) : ∀ {T : List (V × PyData)} {us : List Value}, (∀ t ∈ T, Dp X.K H t.1 t.2) → PySem.W.EachIs (fun (v : Value) (t : V × PyData) => RelV t.1 v) us T →
    PySem.W.EachIs (fun (v : Value) (t : V × PyData) => ∃ as, PySem.Reads s.heap v t.2 as) us T
  | _, _, _, .nil => .nil
  | _, _, h, .cons r q => .cons (Dp.reads I _ _ _ (h _ List.mem_cons_self) r) (each_reads I (fun t ht => h t (List.mem_cons_of_mem _ ht)) q)
def rSortedG (K : PySem.W.Frag) : List V → Hp → VK → Prop := fun vs H Q => ∃ (a : Addr) (T : List (V × PyData)), vs = [V.ref a] ∧ SqL K H a (T.map (·.1)) ∧ (∀ t ∈ T, Dp K H t.1 t.2) ∧ PySem.W.AllAlike (T.map (·.2)) ∧ PySem.W.Sortable (T.map (·.2)) ∧ (∀ t ∈ T, t.2.depth ≤ 60) ∧
  ∀ p, H p = none → Q (.ref p) (upd H p (.lst ((T.mergeSort (PySem.W.dataLe false (·.2))).map (·.1))))
theorem cr_sortedG (hu : X.A.units + 100 < cLine) : CallR X (.builtin "sorted") (rSortedG X.K) := by
  intro pins s σ H vs us Q I r h
  obtain ⟨a, T, rfl, hs, hd, hal, hk, hz, q⟩ := h
  rw [Vals.ref1 r]
  obtain ⟨its, rv, pl, hl⟩ := I.list hs
  have e := each_of rv
  refine PySem.W.sorted_data (enc := fun t : V × PyData => t.2) pl.isList e (each_reads I hd e) hal hk (by rw [List.length_map] at hl; exact hl) (fun t ht => by have := hz t ht; omega) fun out ho e2 => ?_
  obtain ⟨c, hc⟩ := PyProof.Rows.sortedAll_at s.heap its out.toArray
  have v2 := of_each e2
  refine ⟨.ref (s.heap.objs.size + 1), _, I.laid (a := s.heap.objs.size + 1) (t' := s.toks) (fun b o z => PyProof.Rows.sortedAll_old z) (Nat.le_succ _) (show ObjOk X.prog X.w _ _ _ (.lst _) from ⟨?_, out, c, v2, by simpa [PyProof.Rows.seqObj] using hc⟩), rfl, q _ (I.hok.fresh (Nat.le_succ _))⟩
  rw [List.length_map, List.length_mergeSort]
  rw [List.length_map] at hl; exact hl
/-- .. a tuple of them -/
def rSortedU (K : PySem.W.Frag) : List V → Hp → VK → Prop := fun vs H Q => ∃ (a : Addr) (T : List (V × PyData)), vs = [V.ref a] ∧ SqT K H a (T.map (·.1)) ∧ (∀ t ∈ T, Dp K H t.1 t.2) ∧ PySem.W.AllAlike (T.map (·.2)) ∧ PySem.W.Sortable (T.map (·.2)) ∧ (∀ t ∈ T, t.2.depth ≤ 60) ∧
  ∀ p, H p = none → Q (.ref p) (upd H p (.lst ((T.mergeSort (PySem.W.dataLe false (·.2))).map (·.1))))
theorem cr_sortedU (hu : X.A.units + 100 < cLine) : CallR X (.builtin "sorted") (rSortedU X.K) := by
  intro pins s σ H vs us Q I r h
  obtain ⟨a, T, rfl, hs, hd, hal, hk, hz, q⟩ := h
  rw [Vals.ref1 r]
  obtain ⟨its, rv, ⟨o, ho, hc, m, hdt⟩, hl⟩ := I.tuple hs
  have e := each_of rv
  refine PySem.W.pd_sorted_tup (enc := fun t : V × PyData => t.2) ho hc hdt e (each_reads I hd e) hal hk (by rw [List.length_map] at hl; exact hl) (fun t ht => by have := hz t ht; omega) fun h' b c out kp hb hg e2 => ?_
  have v2 := of_each e2
  refine ⟨.ref b, _, I.laidN (a := b) (t' := s.toks) kp hb (I.hok.gone hb) (show ObjOk X.prog X.w _ _ _ (.lst _) from ⟨?_, out, c, v2, by simpa [PyProof.Rows.seqObj] using hg⟩), rfl, q _ (I.hok.gone hb)⟩
  rw [List.length_map, List.length_mergeSort]
  rw [List.length_map] at hl; exact hl
end
end Pd
set_option autoImplicit false
set_option linter.all false
set_option maxRecDepth 100000
set_option maxHeartbeats 1000000
/-! max of a dict with whole numbers as keys -/
namespace Pd
open PySem PySem.Spec PyProof.Rows L2
section
variable {X : Cx}
theorem kis_int {i : Int} {v : Value} (h : keyIs (.inl i) v = true) : ∃ t, v = .int i t := by
  rcases keyIs_shape h with ⟨i', t, e1, e2⟩ | ⟨x, t, e1, e2⟩
  · cases e1; exact ⟨t, e2⟩
  · cases e1
def rMaxD : List V → Hp → VK → Prop := fun vs H Q => ∃ (a : Addr) (kvs : List (Key × V)) (ns : List Int), vs = [V.ref a] ∧ Rd H a (.dK kvs) ∧ kvs.map (·.1) = ns.map Sum.inl ∧ 0 < ns.length ∧ ∀ m, m ∈ ns → (∀ y, y ∈ ns → y ≤ m) → Q (.int m) H
theorem cr_maxD (hc : X.calm = true) : CallR X (.builtin "max") rMaxD := by
  intro pins s σ H xs us Q I r q
  obtain ⟨a, kvs, ns, ex, hd, hks, hne, q⟩ := q
  subst ex
  obtain ⟨u, eu, rx⟩ := vals1 r
  subst eu
  cases rx
  obtain ⟨z, lo, vs, rel, dd⟩ := dk_rd I.hok hd
  obtain ⟨ep, hat⟩ := dd.dictAt
  have hkeys : vs.map (·.1) = ns.map Sum.inl := rel.keys.symm.trans hks
  have hl : vs.length = ns.length := by
    have e := congrArg List.length hkeys
    rwa [List.length_map, List.length_map] at e
  have src := PySem.W.kdl_dict (prog := X.prog) (w := X.w) (knd := mixKind X.prog X.w) (kvs := vs) (ep := ep) lo
  have hh : (X.A.in1).handled = none := I.ok.hd hc
  obtain ⟨oI, St, hit, W, st⟩ := src.iter X.A.in1 s hh hat
  refine call_max_walk (hit _ _ ?_)
  obtain ⟨th1, th2⟩ := src.there _ hat
  refine ⟨_, _, _, _, _, _, _, rfl, W, st, fun b hb => ?_, by rw [hl]; exact hne, CmpOf.ints_gt (fun i => ns.getD i 0) (fun i v hv => ?_), fun v h' tk hP hk => ?_⟩
  · show b < (s.heap.push oI).objs.size
    rw [Heap.size_push]
    rcases List.mem_cons.mp hb with rfl | hb
    · exact Nat.lt_succ_self _
    · rw [List.mem_singleton] at hb
      subst hb
      exact Nat.lt_succ_of_lt th2
  · obtain ⟨k, x, hkx, hi⟩ := hv
    have e1 : (ns.map (Sum.inl : Int → Key))[i]? = some k := by rw [← hkeys, List.getElem?_map, hkx]; rfl
    rw [List.getElem?_map] at e1
    obtain ⟨m, hm, rfl⟩ := Option.map_eq_some_iff.mp e1
    obtain ⟨t, rfl⟩ := kis_int hi
    exact ⟨t, by rw [List.getD_eq_getElem?_getD, hm]; rfl⟩
  · obtain ⟨k, x, hkx, hi⟩ := hP
    generalize hj : argBest (fun i j => decide (ns.getD i 0 > ns.getD j 0)) (vs.length - 1) = j at hkx
    have e1 : (ns.map (Sum.inl : Int → Key))[j]? = some k := by rw [← hkeys, List.getElem?_map, hkx]; rfl
    rw [List.getElem?_map] at e1
    obtain ⟨m, hm, rfl⟩ := Option.map_eq_some_iff.mp e1
    obtain ⟨t, rfl⟩ := kis_int hi
    obtain ⟨h1, h2⟩ := argBest_gt (fun i => ns.getD i 0) (vs.length - 1)
    rw [hj] at h2
    have hmj : ns.getD j 0 = m := by rw [List.getD_eq_getElem?_getD, hm]; rfl
    have kept : ∀ b o, s.heap.get? b = some o → h'.get? b = some o := fun b o e => by
      refine hk b o (fun hm => ?_) (Heap.get?_push_of_some _ e)
      rw [List.mem_singleton] at hm
      exact Nat.lt_irrefl _ (by have := Heap.lt_size e; rw [hm] at this; exact this)
    refine ⟨.int m, H, I.kept kept, ⟨t, rfl⟩, q m (List.mem_of_getElem? hm) fun y hy => ?_⟩
    obtain ⟨i, hi', rfl⟩ := List.mem_iff_getElem.mp hy
    have := h2 i (by rw [hl]; omega)
    rw [hmj] at this
    rw [List.getD_eq_getElem?_getD, List.getElem?_eq_getElem hi'] at this
    exact this
end
end Pd
set_option autoImplicit false
set_option linter.all false
set_option maxRecDepth 100000
set_option maxHeartbeats 1000000
namespace Pd
open PySem L2
section
variable {P : Pl} {W : WX} {G G' F F' : Addr → Prop} {env env' : Env} {σ : L2.St} {H H' : Hp} {X : Cx}
theorem place_eq (n : Nat) (i : Int) : place n i = ixN n i := rfl
theorem bound_eq (n d : Nat) (o : Option Int) : bound n d o = HT.sIx n d o := by
  cases o <;> rfl
theorem cut_eq (xs : List V) (lo hi : Option Int) : cut xs lo hi = cutV xs lo hi := by
  unfold cut cutV
  rw [bound_eq, bound_eq]
theorem Rs.cut {ds : List D} {vs : List V} (lo hi : Option Int) (h : Rs P F H ds vs) : Rs P F H (cut ds lo hi) (cut vs lo hi) := by
  unfold Pd.cut
  rw [← h.length]
  exact Rs.take _ (Rs.drop _ h)

theorem idx_ok (hK : X.K = P.K) : ∃ r, IxR X r ∧ ∀ G F env σ H (Q : VK) dx dy d vx vy, Rel P G F env σ H → RT P F H dx vx → RT P F H dy vy → idxV dx dy = some d →
    (∀ v, R P F H d v → Q v H) → r vx vy H Q := by
  refine ⟨_, ix_list.or ix_tup, ?_⟩
  intro G F env σ H Q dx dy d vx vy rel rx ry e k
  unfold idxV at e
  split at e <;> first | cases e | skip
  · rename_i ds i
    obtain ⟨a, xs, rfl, ha, sa⟩ := rx.lst
    cases ry.int
    cases z : place ds.length i with
    | none => rw [z] at e; cases e
    | some j =>
      rw [z] at e
      obtain ⟨v, h1, h2⟩ := sa.get (show ds[j]? = some d from e)
      refine .inl ⟨a, xs, i, v, rfl, rfl, by rw [hK]; exact ha, ?_, k v h2⟩
      unfold atI
      rw [← sa.length, ← place_eq, z]
      exact h1
  · rename_i ds i
    obtain ⟨a, xs, rfl, ha, sa⟩ := rx.tup
    cases ry.int
    cases z : place ds.length i with
    | none => rw [z] at e; cases e
    | some j =>
      rw [z] at e
      obtain ⟨v, h1, h2⟩ := sa.get (show ds[j]? = some d from e)
      refine .inr ⟨a, xs, i, v, rfl, rfl, by rw [hK]; exact ha, ?_, k v h2⟩
      unfold atI
      rw [← sa.length, ← place_eq, z]
      exact h1

theorem sli_ok (hK : X.K = P.K) : ∃ r, SlR X r ∧ ∀ G F env σ H (Q : VK) dx lo hi d vx, Rel P G F env σ H → RT P F H dx vx → sliV dx lo hi = some d →
    Kont P G F env σ H (mkO d) Q → r vx lo hi H Q := by
  refine ⟨_, sl_list.or sl_tupA, ?_⟩
  intro G F env σ H Q dx lo hi d vx rel rx e k
  unfold sliV at e
  split at e <;> first | cases e | skip
  · obtain ⟨a, xs, rfl, ha, sa⟩ := rx.lst
    refine .inl ⟨a, xs, rfl, by rw [hK]; exact ha, fun p hp => ?_⟩
    rw [← cut_eq]
    exact Kont.newL k rel (Rs.cut lo hi sa) hp
  · have ra := rx
    obtain ⟨a, xs, rfl, ha, sa⟩ := rx.tup
    refine .inr ⟨a, xs, rfl, by rw [hK]; exact ha, fun hw => ?_, fun hw p hp => ?_⟩
    · rename_i ds
      have e1 : cut ds lo hi = ds := by
        unfold Pd.cut
        rw [bound_eq, bound_eq, sa.length, hw.1, hw.2]
        simp [← sa.length]
      rw [e1] at k
      cases ra with
      | sh q => exact Kont.here k rel q
      | own q => cases q
    · rw [← cut_eq]
      exact Kont.newT k rel (Rs.cut lo hi sa) hp

theorem maxL_spec : ∀ (l : List Int) (m : Int), maxL m l ∈ m :: l ∧ ∀ y ∈ m :: l, y ≤ maxL m l
  | [], m => by simp [maxL]
  | x :: r, m => by
    unfold maxL
    by_cases hx : x > m
    · have ih := maxL_spec r x
      rw [if_pos hx]
      refine ⟨List.mem_cons_of_mem _ ih.1, fun y hy => ?_⟩
      rcases List.mem_cons.mp hy with rfl | hy
      · have := ih.2 x (by simp); omega
      · exact ih.2 y hy
    · have ih := maxL_spec r m
      rw [if_neg hx]
      refine ⟨?_, fun y hy => ?_⟩
      · rcases List.mem_cons.mp ih.1 with h | h
        · rw [h]; simp
        · simp [h]
      · have h0 := ih.2 m (by simp)
        rcases List.mem_cons.mp hy with rfl | hy
        · exact h0
        · rcases List.mem_cons.mp hy with rfl | hy
          · omega
          · exact ih.2 y (by simp [hy])
theorem minL_spec : ∀ (l : List Int) (m : Int), minL m l ∈ m :: l ∧ ∀ y ∈ m :: l, minL m l ≤ y
  | [], m => by simp [minL]
  | x :: r, m => by
    unfold minL
    by_cases hx : x < m
    · have ih := minL_spec r x
      rw [if_pos hx]
      refine ⟨List.mem_cons_of_mem _ ih.1, fun y hy => ?_⟩
      rcases List.mem_cons.mp hy with rfl | hy
      · have := ih.2 x (by simp); omega
      · exact ih.2 y hy
    · have ih := minL_spec r m
      rw [if_neg hx]
      refine ⟨?_, fun y hy => ?_⟩
      · rcases List.mem_cons.mp ih.1 with h | h
        · rw [h]; simp
        · simp [h]
      · have h0 := ih.2 m (by simp)
        rcases List.mem_cons.mp hy with rfl | hy
        · exact h0
        · rcases List.mem_cons.mp hy with rfl | hy
          · omega
          · exact ih.2 y (by simp [hy])
theorem insI_perm (y : Int) : ∀ l : List Int, (insI y l).Perm (y :: l)
  | [] => .refl _
  | x :: r => by
    unfold insI
    split
    · exact .refl _
    · exact ((insI_perm y r).cons x).trans (.swap y x r)
theorem sortI_perm : ∀ l : List Int, (sortI l).Perm l
  | [] => .refl _
  | x :: r => (insI_perm x (sortI r)).trans ((sortI_perm r).cons x)
theorem insI_sorted (y : Int) : ∀ l : List Int, l.Pairwise (· ≤ ·) → (insI y l).Pairwise (· ≤ ·)
  | [], _ => by simp [insI]
  | x :: r, h => by
    unfold insI
    rw [List.pairwise_cons] at h
    split
    · rename_i hy
      rw [List.pairwise_cons]
      refine ⟨fun z hz => ?_, List.pairwise_cons.mpr h⟩
      rcases List.mem_cons.mp hz with rfl | hz
      · omega
      · have := h.1 z hz; omega
    · rename_i hy
      rw [List.pairwise_cons]
      refine ⟨fun z hz => ?_, insI_sorted y r h.2⟩
      have := (insI_perm y r).mem_iff.mp hz
      rcases List.mem_cons.mp this with rfl | hz
      · omega
      · exact h.1 z hz
theorem sortI_sorted : ∀ l : List Int, (sortI l).Pairwise (· ≤ ·)
  | [] => .nil
  | x :: r => insI_sorted x _ (sortI_sorted r)
theorem Rs.ints : ∀ (ns : List Int), Rs P F H (ns.map D.int) (ns.map V.int)
  | [] => .nil
  | n :: ns => .cons (.int n) (Rs.ints ns)

def bltOf : Blt → Value
  | .len => .builtin "len" | .abs => .builtin "abs" | .int => .type "int" | .tuple => .type "tuple" | .list => .type "list" | .sum => .builtin "sum"
  | .max => .builtin "max" | .min => .builtin "min" | .max2 => .builtin "max" | .min2 => .builtin "min" | .all => .builtin "all" | .any => .builtin "any" | .sorted => .builtin "sorted"
  | .range1 => .type "range" | .range2 => .type "range" | .str => .type "str" | .bool => .type "bool" | .repr => .builtin "repr" | .isi _ => .builtin "isinstance"
def tyS : Ty → String
  | .int => "int" | .bool => "bool" | .str => "str" | .tuple => "tuple" | .list => "list" | .dict => "dict"
inductive RTs (P : Pl) (F : Addr → Prop) (H : Hp) : List D → List V → Prop
  | nil : RTs P F H [] []
  | cons {d : D} {v : V} {ds : List D} {vs : List V} : RT P F H d v → RTs P F H ds vs → RTs P F H (d :: ds) (v :: vs)
theorem RTs.one {d : D} {vs : List V} (h : RTs P F H [d] vs) : ∃ v, vs = [v] ∧ RT P F H d v := by
  cases h with
  | cons r t => cases t; exact ⟨_, rfl, r⟩
theorem RTs.two {d e : D} {vs : List V} (h : RTs P F H [d, e] vs) : ∃ v u, vs = [v, u] ∧ RT P F H d v ∧ RT P F H e u := by
  cases h with
  | cons r t =>
    obtain ⟨u, rfl, q⟩ := t.one
    exact ⟨_, u, rfl, r, q⟩

theorem kit_all (t : Ty) : kitB "list" (tyS t) = some (tyOf (.lst []) t) ∧ kitB "bool" (tyS t) = some (tyOf (.bl true) t) ∧ kitB "int" (tyS t) = some (tyOf (.int 0) t) ∧ kitB "str" (tyS t) = some (tyOf (.str ⟨#[]⟩) t) ∧
    kitB "tuple" (tyS t) = some (tyOf (.tup []) t) ∧ kitB "NoneType" (tyS t) = some (tyOf .non t) := by
  cases t <;> decide +kernel
theorem tyx_of {d : D} {v : V} (hK : X.K = P.K) (r : RT P F H d v) (t : Ty) (h : ∀ f, d ≠ .fn f) (h2 : ∀ f, d ≠ .scr f) (h3 : ∀ f g, d ≠ .dic f g) (h4 : ∀ f g, d ≠ .rng f g) : ∃ n, TyX X.K H v (.type n) ∧ kitB n (tyS t) = some (tyOf d t) := by
  cases r with
  | own q =>
    cases q with
    | lst e _ => exact ⟨"list", .base (.lst e), ((kit_all t).1).trans (by cases t <;> rfl)⟩
    | dic e _ _ => exact absurd rfl (h3 _ _)
  | sh q =>
    cases q with
    | non => exact ⟨"NoneType", .base .non, (kit_all t).2.2.2.2.2⟩
    | bl b => exact ⟨"bool", .base (.bl b), ((kit_all t).2.1).trans (by cases t <;> rfl)⟩
    | int b => exact ⟨"int", .base (.int b), ((kit_all t).2.2.1).trans (by cases t <;> rfl)⟩
    | str b => exact ⟨"str", .base (.str b), ((kit_all t).2.2.2.1).trans (by cases t <;> rfl)⟩
    | lst s _ => exact ⟨"list", .base (.lst s.2), ((kit_all t).1).trans (by cases t <;> rfl)⟩
    | tup s _ =>
      refine ⟨"tuple", ?_, ((kit_all t).2.2.2.2.1).trans (by cases t <;> rfl)⟩
      rcases s with ⟨_, s⟩ | ⟨o, its, n, hk, hc, _⟩
      · rcases s with s | ⟨o, s⟩
        · exact .base (.tup s)
        · exact .fTuple s
      · exact .kTuple (by rw [hK]; exact hk) hc
    | fn f => exact absurd rfl (h f)
    | scr e r => exact absurd rfl (h2 _)
    | dic f e l r => exact absurd rfl (h3 _ _)
    | rng f e => exact absurd rfl (h4 _ _)

theorem RT.dic {ks : List Key} {ds : List D} {v : V} (h : RT P F H (.dic ks ds) v) : ∃ a vs, v = .ref a ∧ H a = some (.dK (ks.zip vs)) ∧ ks.length = vs.length ∧ Rs P F H ds vs := by
  cases h with
  | sh q => cases q with | dic f e l r => exact ⟨_, _, rfl, e, l, r⟩
  | own q => cases q with | dic e l r => exact ⟨_, _, rfl, e, l, r⟩
/-- the built-ins -/
def BltOk (P : Pl) (X : Cx) (f : Value) (g : List D → Option D) : Prop := ∃ r, CallR X f r ∧ ∀ G F env σ H (Q : VK) ds d vs, Rel P G F env σ H → RTs P F H ds vs → g ds = some d →
    Kont P G F env σ H (mkO d) Q → r vs H Q
theorem blt_len (hK : X.K = P.K) : BltOk P X (.builtin "len") lenV := by
  refine ⟨_, (call_len_seq.or call_len_str).or call_lenD, ?_⟩
  intro G F env σ H Q ds d vs rel rs e k
  unfold lenV at e
  split at e <;> first | cases e | skip
  · obtain ⟨v, rfl, r⟩ := rs.one
    obtain ⟨a, xs, rfl, ha, sa⟩ := r.lst
    refine .inl (.inl ⟨a, xs, rfl, .inl (by rw [hK]; exact ha), ?_⟩)
    rw [← sa.length]
    exact Kont.here k rel (.int _)
  · obtain ⟨v, rfl, r⟩ := rs.one
    obtain ⟨a, xs, rfl, ha, sa⟩ := r.tup
    refine .inl (.inl ⟨a, xs, rfl, .inr (by rw [hK]; exact ha), ?_⟩)
    rw [← sa.length]
    exact Kont.here k rel (.int _)
  · obtain ⟨v, rfl, r⟩ := rs.one
    obtain ⟨a, xs, rfl, ha, sa⟩ := r.scr
    refine .inl (.inl ⟨a, xs, rfl, .inl (by rw [hK]; exact ha), ?_⟩)
    rw [← sa.length]
    exact Kont.here k rel (.int _)
  · obtain ⟨v, rfl, r⟩ := rs.one
    obtain ⟨a, us, rfl, ha, l, sa⟩ := r.dic
    refine .inr ⟨a, _, rfl, ha, ?_⟩
    rw [List.length_zip, ← l, Nat.min_self]
    exact Kont.here k rel (.int _)
  · obtain ⟨v, rfl, r⟩ := rs.one
    cases r.str
    split at e
    · rename_i hl
      cases e
      exact .inl (.inr ⟨_, rfl, cap_le hl, Kont.here k rel (.int _)⟩)
    · cases e
theorem blt_abs (hK : X.K = P.K) : BltOk P X (.builtin "abs") absV := by
  refine ⟨_, call_abs, ?_⟩
  intro G F env σ H Q ds d vs rel rs e k
  unfold absV at e
  split at e <;> first | cases e | skip
  obtain ⟨v, rfl, r⟩ := rs.one
  cases r.int
  exact ⟨_, rfl, Kont.here k rel (.int _)⟩
theorem blt_int (hK : X.K = P.K) : BltOk P X (.type "int") intV := by
  refine ⟨_, call_int1, ?_⟩
  intro G F env σ H Q ds d vs rel rs e k
  unfold intV at e
  split at e <;> first | cases e | skip
  · obtain ⟨v, rfl, r⟩ := rs.one
    cases r.int
    exact .inl ⟨_, rfl, Kont.here k rel (.int _)⟩
  · obtain ⟨v, rfl, r⟩ := rs.one
    cases r.bl
    exact .inr ⟨_, rfl, Kont.here k rel (.int _)⟩
theorem Rs.upto' : ∀ (n : Nat) (lo : Int), Rs P F H (upto lo n) ((List.range n).map fun (i : Nat) => V.int (lo + (i : Int)))
  | 0, _ => .nil
  | n + 1, lo => by
    rw [List.range_succ_eq_map, List.map_cons, List.map_map]
    have e : ((fun (i : Nat) => V.int (lo + (i : Int))) ∘ Nat.succ) = fun (i : Nat) => V.int (lo + 1 + (i : Int)) := by
      funext i
      show V.int _ = V.int _
      congr 1
      show lo + ((i + 1 : Nat) : Int) = _
      omega
    rw [e, show lo + ((0 : Nat) : Int) = lo by omega]
    exact .cons (.int lo) (Rs.upto' n (lo + 1))
theorem RT.rng' {v : V} {lo hi : Int} (r : RT P F H (.rng lo hi) v) : ∃ a, v = .ref a ∧ H a = some (.rng lo hi) := by
  cases r with
  | own q => cases q
  | sh q => cases q with | rng f e => exact ⟨_, rfl, e⟩
theorem blt_tuple (hK : X.K = P.K) (hc : X.calm = true) : BltOk P X (.type "tuple") tupleV := by
  refine ⟨_, call_tuple_of.or (cr_tupR hc), ?_⟩
  intro G F env σ H Q ds d vs rel rs e k
  unfold tupleV at e
  split at e <;> first | cases e | skip
  · obtain ⟨v, rfl, r⟩ := rs.one
    obtain ⟨a, xs, rfl, ha, sa⟩ := r.lst
    exact .inl ⟨a, xs, rfl, .inl ⟨by rw [hK]; exact ha, fun p hp => Kont.newT k rel sa hp⟩⟩
  · obtain ⟨v, rfl, r⟩ := rs.one
    have ra := r
    obtain ⟨a, xs, rfl, ha, sa⟩ := r.tup
    refine .inl ⟨a, xs, rfl, .inr ⟨by rw [hK]; exact ha, ?_⟩⟩
    cases ra with
    | sh q => exact Kont.here k rel q
    | own q => cases q
  · obtain ⟨v, rfl, r⟩ := rs.one
    obtain ⟨a, rfl, ha⟩ := r.rng'
    obtain ⟨n, hn, e⟩ := Option.map_eq_some_iff.mp e
    subst e
    exact .inr ⟨a, _, _, n, rfl, ha, hn, fun p hp => Kont.newT k rel (Rs.upto' n _) hp⟩
theorem blt_list (hK : X.K = P.K) (hc : X.calm = true) : BltOk P X (.type "list") listV := by
  refine ⟨_, call_list_of.or (cr_listR hc), ?_⟩
  intro G F env σ H Q ds d vs rel rs e k
  unfold listV at e
  split at e <;> first | cases e | skip
  · obtain ⟨v, rfl, r⟩ := rs.one
    obtain ⟨a, xs, rfl, ha, sa⟩ := r.lst
    exact .inl ⟨a, xs, rfl, .inl (by rw [hK]; exact ha), fun p hp => Kont.newL k rel sa hp⟩
  · obtain ⟨v, rfl, r⟩ := rs.one
    obtain ⟨a, xs, rfl, ha, sa⟩ := r.tup
    exact .inl ⟨a, xs, rfl, .inr (by rw [hK]; exact ha), fun p hp => Kont.newL k rel sa hp⟩
  · obtain ⟨v, rfl, r⟩ := rs.one
    obtain ⟨a, xs, rfl, ha, sa⟩ := r.scr
    exact .inl ⟨a, xs, rfl, .inl (by rw [hK]; exact ha), fun p hp => Kont.newL k rel sa hp⟩
  · obtain ⟨v, rfl, r⟩ := rs.one
    obtain ⟨a, rfl, ha⟩ := r.rng'
    obtain ⟨n, hn, e⟩ := Option.map_eq_some_iff.mp e
    subst e
    exact .inr ⟨a, _, _, n, rfl, ha, hn, fun p hp => Kont.newL k rel (Rs.upto' n _) hp⟩
theorem blt_sum (hK : X.K = P.K) (hc : X.calm = true) : BltOk P X (.builtin "sum") sumV := by
  refine ⟨_, (cr_sum hc).or (cr_sumT hc), ?_⟩
  intro G F env σ H Q ds d vs rel rs e k
  unfold sumV at e
  split at e <;> first | cases e | skip
  · rename_i ds
    obtain ⟨v, rfl, r⟩ := rs.one
    obtain ⟨a, xs, rfl, ha, sa⟩ := r.lst
    cases z : ints? ds with
    | none => rw [z] at e; cases e
    | some ns =>
      rw [z] at e
      cases e
      obtain ⟨e1, e2⟩ := ints_of sa z
      subst e1
      exact .inl ⟨a, ns, rfl, by rw [hK]; exact ha, Kont.here k rel (.int _)⟩
  · rename_i ds
    obtain ⟨v, rfl, r⟩ := rs.one
    obtain ⟨a, xs, rfl, ha, sa⟩ := r.tup
    cases z : ints? ds with
    | none => rw [z] at e; cases e
    | some ns =>
      rw [z] at e
      cases e
      obtain ⟨e1, e2⟩ := ints_of sa z
      subst e1
      exact .inr ⟨a, ns, rfl, by rw [hK]; exact ha, Kont.here k rel (.int _)⟩
theorem kInts_of {vs : List V} : ∀ {ks : List Key} {ns : List Int}, kInts? ks = some ns → ks = ns.map Sum.inl
  | [], ns, h => by cases h; rfl
  | .inl i :: r, ns, h => by
    obtain ⟨ms, h1, rfl⟩ := Option.map_eq_some_iff.mp h
    rw [kInts_of (vs := vs) h1]; rfl
  | .inr s :: r, ns, h => by cases h
theorem zip_map_fst : ∀ {ks : List Key} {vs : List V}, ks.length = vs.length → (ks.zip vs).map (·.1) = ks
  | [], [], _ => rfl
  | k :: ks, v :: vs, h => congrArg (k :: ·) (zip_map_fst (by simpa using h))
  | [], x :: xs, h => by simp at h
  | d :: ds, [], h => by simp at h
theorem blt_max (hK : X.K = P.K) (hc : X.calm = true) : BltOk P X (.builtin "max") maxV := by
  refine ⟨_, (cr_max hc).or ((cr_maxT hc).or (cr_maxD hc)), ?_⟩
  intro G F env σ H Q ds d vs rel rs e k
  unfold maxV at e
  split at e <;> first | cases e | skip
  · rename_i ds
    obtain ⟨v, rfl, r⟩ := rs.one
    obtain ⟨a, xs, rfl, ha, sa⟩ := r.lst
    split at e
    · rename_i n ns z
      cases e
      obtain ⟨e1, e2⟩ := ints_of sa z
      subst e1
      refine .inl ⟨a, n :: ns, rfl, by rw [hK]; exact ha, by simp, fun m hm hle => ?_⟩
      have sp := maxL_spec ns n
      have : m = maxL n ns := Int.le_antisymm (sp.2 m hm) (hle _ sp.1)
      subst this
      exact Kont.here k rel (.int _)
    · cases e
  · rename_i ds
    obtain ⟨v, rfl, r⟩ := rs.one
    obtain ⟨a, xs, rfl, ha, sa⟩ := r.tup
    split at e
    · rename_i n ns z
      cases e
      obtain ⟨e1, e2⟩ := ints_of sa z
      subst e1
      refine .inr (.inl ⟨a, n :: ns, rfl, by rw [hK]; exact ha, by simp, fun m hm hle => ?_⟩)
      have sp := maxL_spec ns n
      have : m = maxL n ns := Int.le_antisymm (sp.2 m hm) (hle _ sp.1)
      subst this
      exact Kont.here k rel (.int _)
    · cases e
  · rename_i ks ds
    split at e
    · rename_i n ns hn
      cases e
      obtain ⟨v, rfl, r⟩ := rs.one
      obtain ⟨a, us, rfl, ha, l, sa⟩ := r.dic
      have hks := kInts_of (vs := us) hn
      refine .inr (.inr ⟨a, ks.zip us, n :: ns, rfl, .inl ha, by rw [zip_map_fst l]; exact hks, by simp, fun m hm hle => ?_⟩)
      have sp := maxL_spec ns n
      have : m = maxL n ns := Int.le_antisymm (sp.2 m hm) (hle _ sp.1)
      subst this
      exact Kont.here k rel (.int _)
    · cases e
theorem blt_min (hK : X.K = P.K) (hc : X.calm = true) : BltOk P X (.builtin "min") minV := by
  refine ⟨_, (cr_min hc).or (cr_minT hc), ?_⟩
  intro G F env σ H Q ds d vs rel rs e k
  unfold minV at e
  split at e <;> first | cases e | skip
  · rename_i ds
    obtain ⟨v, rfl, r⟩ := rs.one
    obtain ⟨a, xs, rfl, ha, sa⟩ := r.lst
    split at e
    · rename_i n ns z
      cases e
      obtain ⟨e1, e2⟩ := ints_of sa z
      subst e1
      refine .inl ⟨a, n :: ns, rfl, by rw [hK]; exact ha, by simp, fun m hm hle => ?_⟩
      have sp := minL_spec ns n
      have : m = minL n ns := Int.le_antisymm (hle _ sp.1) (sp.2 m hm)
      subst this
      exact Kont.here k rel (.int _)
    · cases e
  · rename_i ds
    obtain ⟨v, rfl, r⟩ := rs.one
    obtain ⟨a, xs, rfl, ha, sa⟩ := r.tup
    split at e
    · rename_i n ns z
      cases e
      obtain ⟨e1, e2⟩ := ints_of sa z
      subst e1
      refine .inr ⟨a, n :: ns, rfl, by rw [hK]; exact ha, by simp, fun m hm hle => ?_⟩
      have sp := minL_spec ns n
      have : m = minL n ns := Int.le_antisymm (hle _ sp.1) (sp.2 m hm)
      subst this
      exact Kont.here k rel (.int _)
    · cases e
theorem blt_max2 (hK : X.K = P.K) (hc : X.calm = true) : BltOk P X (.builtin "max") max2V := by
  refine ⟨_, call_max2 hc, ?_⟩
  intro G F env σ H Q ds d vs rel rs e k
  unfold max2V at e
  split at e <;> first | cases e | skip
  obtain ⟨v, u, rfl, r, q⟩ := rs.two
  cases r.int
  cases q.int
  exact ⟨_, _, rfl, Kont.here k rel (.int _)⟩
theorem blt_min2 (hK : X.K = P.K) (hc : X.calm = true) : BltOk P X (.builtin "min") min2V := by
  refine ⟨_, call_min2 hc, ?_⟩
  intro G F env σ H Q ds d vs rel rs e k
  unfold min2V at e
  split at e <;> first | cases e | skip
  obtain ⟨v, u, rfl, r, q⟩ := rs.two
  cases r.int
  cases q.int
  exact ⟨_, _, rfl, Kont.here k rel (.int _)⟩
theorem blt_all (hK : X.K = P.K) (hc : X.calm = true) : BltOk P X (.builtin "all") allV := by
  refine ⟨_, cr_all hc, ?_⟩
  intro G F env σ H Q ds d vs rel rs e k
  unfold allV at e
  split at e <;> first | cases e | skip
  rename_i ds
  obtain ⟨v, rfl, r⟩ := rs.one
  obtain ⟨a, xs, rfl, ha, sa⟩ := r.lst
  cases z : bools? ds with
  | none => rw [z] at e; cases e
  | some ns =>
    rw [z] at e
    cases e
    obtain ⟨e1, e2⟩ := bools_of sa z
    subst e1
    exact ⟨a, ns, rfl, by rw [hK]; exact ha, Kont.here k rel (.bl _)⟩
theorem blt_any (hK : X.K = P.K) (hc : X.calm = true) : BltOk P X (.builtin "any") anyV := by
  refine ⟨_, cr_any hc, ?_⟩
  intro G F env σ H Q ds d vs rel rs e k
  unfold anyV at e
  split at e <;> first | cases e | skip
  rename_i ds
  obtain ⟨v, rfl, r⟩ := rs.one
  obtain ⟨a, xs, rfl, ha, sa⟩ := r.lst
  cases z : bools? ds with
  | none => rw [z] at e; cases e
  | some ns =>
    rw [z] at e
    cases e
    obtain ⟨e1, e2⟩ := bools_of sa z
    subst e1
    exact ⟨a, ns, rfl, by rw [hK]; exact ha, Kont.here k rel (.bl _)⟩
theorem blt_range1 : BltOk P X (.type "range") range1V := by
  refine ⟨_, cr_range1, ?_⟩
  intro G F env σ H Q ds d vs rel rs e k
  unfold range1V at e
  split at e <;> first | cases e | skip
  obtain ⟨v, rfl, r⟩ := rs.one
  cases r.int
  exact ⟨_, rfl, fun p hp => Kont.newR k rel hp⟩
theorem blt_range2 : BltOk P X (.type "range") range2V := by
  refine ⟨_, cr_range2, ?_⟩
  intro G F env σ H Q ds d vs rel rs e k
  unfold range2V at e
  split at e <;> first | cases e | skip
  cases rs with
  | cons r1 rs =>
    cases rs with
    | cons r2 rs =>
      cases rs
      cases r1.int
      cases r2.int
      exact ⟨_, _, rfl, fun p hp => Kont.newR k rel hp⟩
theorem zip_fst : ∀ {ds : List D} {xs : List V}, ds.length = xs.length → (ds.zip xs).map (·.1) = ds ∧ (ds.zip xs).map (·.2) = xs
  | [], [], _ => ⟨rfl, rfl⟩
  | d :: ds, x :: xs, h => by
    obtain ⟨h1, h2⟩ := zip_fst (ds := ds) (xs := xs) (by simpa using h)
    exact ⟨congrArg (d :: ·) h1, congrArg (x :: ·) h2⟩
  | [], x :: xs, h => by simp at h
  | d :: ds, [], h => by simp at h
theorem Rs.each : ∀ {ds : List D} {xs : List V}, Rs P F H ds xs → ∀ u ∈ ds.zip xs, R P F H u.1 u.2
  | _, _, .nil, u, h => by simp at h
  | _, _, .cons r t, u, h => by
    rw [List.zip_cons_cons, List.mem_cons] at h
    rcases h with rfl | h
    · exact r
    · exact Rs.each t u h
theorem Rs.ofEach : ∀ {U : List (D × V)}, (∀ u ∈ U, R P F H u.1 u.2) → Rs P F H (U.map (·.1)) (U.map (·.2))
  | [], _ => .nil
  | u :: U, h => .cons (h u List.mem_cons_self) (Rs.ofEach fun v hv => h v (List.mem_cons_of_mem _ hv))
theorem sort_run (hK : X.K = P.K) {ds : List D} {xs : List V} (hs : sortOk ds = true) (sa : Rs P F H ds xs) : ∃ T : List (V × PyData), T.map (·.1) = xs ∧ (∀ t ∈ T, Dp X.K H t.1 t.2) ∧ PySem.W.AllAlike (T.map (·.2)) ∧ PySem.W.Sortable (T.map (·.2)) ∧ (∀ t ∈ T, t.2.depth ≤ 60) ∧
    Rs P F H (ds.mergeSort leP) ((T.mergeSort (PySem.W.dataLe false (·.2))).map (·.1)) := by
  unfold sortOk at hs
  rw [Bool.and_eq_true, Bool.and_eq_true] at hs
  obtain ⟨⟨hp, hal⟩, hty⟩ := hs
  have hp' := List.all_eq_true.mp hp
  have hlen := sa.length
  obtain ⟨z1, z2⟩ := zip_fst hlen
  have each := sa.each
  have hm : ∀ u ∈ ds.zip xs, u.1 ∈ ds := fun u hu => (List.of_mem_zip (a := u.1) (b := u.2) hu).1
  have f1 : ((ds.zip xs).map fun u => (u.2, toPy u.1)).map (·.1) = xs := by rw [List.map_map]; exact z2
  have f2 : ((ds.zip xs).map fun u => (u.2, toPy u.1)).map (·.2) = ds.map toPy := by
    rw [List.map_map, show ((fun x : V × PyData => x.2) ∘ fun u : D × V => (u.2, toPy u.1)) = toPy ∘ (·.1) from rfl, ← List.map_map, z1]
  refine ⟨(ds.zip xs).map fun u => (u.2, toPy u.1), f1, fun t ht => ?_, ?_, ?_, fun t ht => ?_, ?_⟩
  · obtain ⟨u, hu, rfl⟩ := List.mem_map.mp ht
    rw [hK]
    exact R.dp 60 u.1 u.2 (hp' _ (hm u hu)) (each u hu)
  · rw [f2]
    intro x hx y hy
    obtain ⟨dx, hdx, rfl⟩ := List.mem_map.mp hx
    obtain ⟨dy, hdy, rfl⟩ := List.mem_map.mp hy
    exact List.all_eq_true.mp (List.all_eq_true.mp hal dx hdx) dy hdy
  · rw [f2]
    rw [Bool.or_eq_true, Bool.or_eq_true] at hty
    rcases hty with hty | hty | hty
    · refine .inl fun x hx => ?_
      obtain ⟨dx, hdx, rfl⟩ := List.mem_map.mp hx
      have := List.all_eq_true.mp hty dx hdx
      unfold isTup1 at this
      split at this
      · exact ⟨_, _, rfl⟩
      · cases this
    · refine .inr fun x hx => ?_
      obtain ⟨dx, hdx, rfl⟩ := List.mem_map.mp hx
      have := List.all_eq_true.mp hty dx hdx
      unfold isStrD at this
      split at this
      · exact ⟨(fun z => nomatch z), fun _ z => nomatch z⟩
      · cases this
    · refine .inr fun x hx => ?_
      obtain ⟨dx, hdx, rfl⟩ := List.mem_map.mp hx
      have := List.all_eq_true.mp hty dx hdx
      unfold isIntD at this
      split at this
      · exact ⟨(fun z => nomatch z), fun _ z => nomatch z⟩
      · cases this
  · obtain ⟨u, hu, rfl⟩ := List.mem_map.mp ht
    exact (lay_toPy 60 u.1 (hp' _ (hm u hu))).2
  · have e1 : ((ds.zip xs).map fun u => (u.2, toPy u.1)).mergeSort (PySem.W.dataLe false (·.2)) = ((ds.zip xs).mergeSort fun u w => leP u.1 w.1).map fun u => (u.2, toPy u.1) :=
      (List.map_mergeSort (f := fun u : D × V => (u.2, toPy u.1)) (r := fun u w => leP u.1 w.1) (s := PySem.W.dataLe false (·.2)) fun u _ w _ => rfl).symm
    have e2 : ((ds.zip xs).mergeSort fun u w => leP u.1 w.1).map (·.1) = ds.mergeSort leP := by
      rw [List.map_mergeSort (f := fun u : D × V => u.1) (r := fun u w => leP u.1 w.1) (s := leP) fun u _ w _ => rfl, z1]
    rw [e1, List.map_map]
    have q : Rs P F H (((ds.zip xs).mergeSort fun u w => leP u.1 w.1).map (·.1)) (((ds.zip xs).mergeSort fun u w => leP u.1 w.1).map (·.2)) :=
      Rs.ofEach fun u hu => each u ((List.mergeSort_perm _ _).mem_iff.mp hu)
    rw [e2] at q
    exact q
theorem blt_sorted (hK : X.K = P.K) (hc : X.calm = true) (hu : X.A.units + 100 < cLine) : BltOk P X (.builtin "sorted") sortedV := by
  refine ⟨_, cr_sortedI.or ((cr_sortedG hu).or ((call_sortedDI hc).or (cr_sortedU hu))), ?_⟩
  intro G F env σ H Q ds d vs rel rs e k
  unfold sortedV at e
  split at e <;> first | cases e | skip
  · rename_i ds
    obtain ⟨v, rfl, r⟩ := rs.one
    obtain ⟨a, xs, rfl, ha, sa⟩ := r.lst
    split at e
    · rename_i ns z
      cases e
      obtain ⟨e1, e2⟩ := ints_of sa z
      subst e1
      refine .inl ⟨a, ns, rfl, by rw [hK]; exact ha, fun ns' p pm so hp => ?_⟩
      have e3 : ns' = sortI ns := PySem.W.ksm_same (pm.trans (sortI_perm ns).symm) so (sortI_sorted ns)
      subst e3
      exact Kont.newL k rel (Rs.ints _) hp
    · split at e
      · rename_i hs
        cases e
        obtain ⟨T, h1, h2, h3, h4, h5, h6⟩ := sort_run hK hs sa
        exact .inr (.inl ⟨a, T, rfl, by rw [h1, hK]; exact ha, h2, h3, h4, h5, fun p hp0 => Kont.newL k rel h6 hp0⟩)
      · cases e
  · rename_i ds
    obtain ⟨v, rfl, r⟩ := rs.one
    obtain ⟨a, xs, rfl, ha, sa⟩ := r.tup
    split at e
    · rename_i hs
      cases e
      obtain ⟨T, h1, h2, h3, h4, h5, h6⟩ := sort_run hK hs sa
      exact .inr (.inr (.inr ⟨a, T, rfl, by rw [h1, hK]; exact ha, h2, h3, h4, h5, fun p hp0 => Kont.newL k rel h6 hp0⟩))
    · cases e
  · rename_i ks ds
    split at e
    · rename_i h64
      obtain ⟨ns, hn, rfl⟩ := Option.map_eq_some_iff.mp e
      obtain ⟨v, rfl, r⟩ := rs.one
      obtain ⟨a, us, rfl, ha, l, sa⟩ := r.dic
      have hks := kInts_of (vs := us) hn
      refine .inr (.inr (.inl ⟨a, ks.zip us, ns, rfl, .inl ha, by rw [zip_map_fst l]; exact hks, by rw [hks, List.length_map] at h64; exact h64, fun ns' p pm so hp => ?_⟩))
      have e3 : ns' = sortI ns := PySem.W.ksm_same (pm.trans (sortI_perm ns).symm) so (sortI_sorted ns)
      subst e3
      exact Kont.newL k rel (Rs.ints _) hp
    · cases e
end
end Pd
set_option autoImplicit false
set_option linter.all false
set_option maxRecDepth 100000
set_option maxHeartbeats 1000000
namespace Pd
open PySem L2

/-- what stands at the program's top: functions, constants, exception classes, the built-ins' names -/
structure Stat where
  fs : List Fn
  gl : List (Str × D)
  /-- exception classes: their names, their fields -/
  cs : List (Str × Str)
  bl : List Str
  /-- isinstance of an exception: its class, the name asked for, the answer -/
  xi : List (Nat × Str × Bool) := []
  /-- the classes with an own __init__ that is known -/
  ini : List Nat := []
  /-- dicts of the module, their keys texts -/
  kd : List (Str × List Str × List D) := []
  /-- the names whose lists are lent to this text -/
  ln : List Str

/-- the slots at a call -/
def argSt (vs : List V) : L2.St := vs.map some
/-- what the lent parameters' lists hold at the end -/
inductive Outs (P : Pl) (F : Addr → Prop) (H : Hp) : List Slot → List V → List D → Prop
  | nil : Outs P F H [] [] []
  | own {d e : D} {a : Addr} {sl : List Slot} {vs : List V} {outs : List D} : Own P F H e a → ¬ F a → Outs P F H sl vs outs → Outs P F H (.own d :: sl) (.ref a :: vs) (e :: outs)
  | skip {s : Slot} {v : V} {sl : List Slot} {vs : List V} {outs : List D} : (∀ d, s ≠ .own d) → Outs P F H sl vs outs → Outs P F H (s :: sl) (v :: vs) outs
/-- what a call promises -/
def GC (P : Pl) (G F : Addr → Prop) (H : Hp) (sl : List Slot) (vs : List V) (Q : VK) (E : XK) : CRes → Prop
  | .ok d new outs => ∀ F' H' v, Step G F H F' H' → (∀ a, F' a → H' a ≠ none) → (∀ a, F' a → ¬ G a) → Outs P F' H' sl vs outs →
      (if new then ∃ a, v = .ref a ∧ Own P F' H' d a ∧ ¬ F' a ∧ ¬ G a ∧ (∀ i, ¬ OwnAt sl (argSt vs) i a) else R P F' H' d v) → Q v H'
  | .exc x outs => ∀ F' H' cls dd, Step G F H F' H' → (∀ a, F' a → H' a ≠ none) → (∀ a, F' a → ¬ G a) → Outs P F' H' sl vs outs → RX P F' H' x cls dd → E cls dd H'
  | .stk => False
def spF (P : Pl) (S : Stat) (n f : Nat) : Sp := fun vs H Q E => ∃ G F sl, Rel P.base G F sl (argSt vs) H ∧ GC P.base G F H sl vs Q E (callF S.fs n f sl)

def isVis (sc : Scope) (x : Str) : Bool := match sc.names.lookup x with
  | some .local => true | some .cell => true | some .free => true | some .globalExplicit => true | _ => false
def isLoc (sc : Scope) (x : Str) : Bool := match sc.names.lookup x with
  | some .local => true | some .cell => true | _ => false
def isLcl (sc : Scope) (x : Str) : Bool := match sc.names.lookup x with
  | some .local => true | _ => false
def isGlb (sc : Scope) (x : Str) : Bool := match sc.names.lookup x with
  | some .globalImplicit => true | _ => false
def dbg (x : Str) : Bool := !(x == ("__debug__" : Str)) && !(x == ("__classdict__" : Str))
def varOk (N : List Str) (sc : Scope) (i : Nat) (x : Str) : Bool := decide (N[i]? = some x) && isVis sc x && dbg x
def locOk (N : List Str) (sc : Scope) (i : Nat) (x : Str) : Bool := decide (N[i]? = some x) && isLoc sc x && dbg x
/-- an own exception class without own __init__ -/
structure ClsF (K : PySem.W.Frag) (mg : Str → Option Value) (C : Addr) (x : Str) : Prop where
  g : mg x = some (.ref C)
  x : PySem.W.excIn K C [.type "ValueError", .type "Exception", .type "BaseException", .type "object"] "ValueError.__new__" = true
  k : PySem.W.keepIn K (.ref C) = true
  b : PySem.W.subIn K (.ref C) (.type "BaseException") = some true
  t : PySem.W.typeIn K (.ref C) = some (.type "type")
/-- isinstance of an exception of the class at C -/
structure XisF (K : PySem.W.Frag) (mg : Str → Option Value) (C : Addr) (y : Str) (b : Bool) : Prop where
  c : ExcC K C
  g : ∃ u, mg y = some (.ref u) ∧ PySem.W.kitOne K (.ref C) (.ref u) = some b
/-- an own class over ValueError whose __init__ says super().__init__(x) and stores x -/
structure IniF (Pg : Program) (K : PySem.W.Frag) (mg : Str → Option Value) (C : Addr) (x fld : Str) : Prop where
  g : mg x = some (.ref C)
  T : OexC K C
  fn : ∃ (fI : Addr) (fd : FuncData) (p q : Str), PySem.W.findIn K (.ref C) "__init__" = some (some (.ref fI)) ∧ PySem.W.typeIn K (.ref fI) = some (.type "function") ∧ Binds K fd [p, q] [] ∧
    ∀ (w : World) (base : Heap) (CX : CXT) (k : Nat), FnOk Pg w K mg base CX k fI fd [p, q] (spSI C fld)
/-- the classes -/
structure ClsS (K : PySem.W.Frag) (mg : Str → Option Value) (P : Pl) (S : Stat) : Prop where
  many : P.nc = S.cs.length
  raise : ∀ c x, S.cs[c]? = some (x, Str.ofString "") → ClsF K mg (P.ca c) x
  name : ∀ c x f, S.cs[c]? = some (x, f) → mg x = some (.ref (P.ca c))
  ex : ∀ c d p q, S.cs[c]? = some p → S.cs[d]? = some q → PySem.W.exmOne K (.ref (P.ca c)) (.ref (P.ca d)) = some (decide (c = d))
  isx : ∀ p ∈ S.xi, XisF K mg (P.ca p.1) p.2.1 p.2.2
  fld : ∀ c x f, S.cs[c]? = some (x, f) → c ∈ S.ini → XfC K (P.ca c) ∧ PySem.W.findIn K (.ref (P.ca c)) f = some none ∧ P.cf c = f
/-- the entries of a dict of the module -/
inductive KdM (P : Pl) : List DictEntry → List Str → List D → Prop
  | nil : KdM P [] [] []
  | cons {e : DictEntry} {k : Str} {t : Tok} {es : List DictEntry} {ks : List Str} {d : D} {ds : List D} : e.key = .str k t → (∃ v, RelV v e.val ∧ ∀ F H, R P F H d v) → KdM P es ks ds → KdM P (e :: es) (k :: ks) (d :: ds)
/-- a dict of the module -/
structure KdF (K : PySem.W.Frag) (w : World) (mg : Str → Option Value) (P : Pl) (x : Str) (ks : List Str) (ds : List D) : Prop where
  ex : ∃ (a : Addr) (es : Array DictEntry) (n : Nat), mg x = some (.ref a) ∧ KDict K w a es n ∧ KdM P es.toList ks ds
theorem KdM.wl {P : Pl} (lx : Nat → Option Addr) {es : List DictEntry} {ks : List Str} {ds : List D} (h : KdM P es ks ds) : KdM (P.wl lx) es ks ds := by
  induction h with
  | nil => exact .nil
  | cons e r h ih => obtain ⟨v, rv, q⟩ := r; exact .cons e ⟨v, rv, fun F H => (q F H).wl lx⟩ ih
theorem KdF.wl {K : PySem.W.Frag} {w : World} {mg : Str → Option Value} {P : Pl} {x : Str} {ks : List Str} {ds : List D} (h : KdF K w mg P x ks ds) (lx : Nat → Option Addr) : KdF K w mg (P.wl lx) x ks ds := by
  obtain ⟨a, es, n, h1, h2, h3⟩ := h.ex
  exact ⟨⟨a, es, n, h1, h2, h3.wl lx⟩⟩
/-- the context of a piece of code -/
structure Ct (P : Pl) (S : Stat) (cm : Bool) (n : Nat) (X : Cx) (W : WX) (sc : Scope) : Prop where
  hK : X.K = P.K
  calm : cm = true → X.calm = true
  nd : X.N.Nodup
  lcl : ∀ x, sc.names.lookup x = some .local → X.env.scope.names.lookup x = some .local
  cel : ∀ x, sc.names.lookup x = some .cell → X.env.scope.names.lookup x = some .cell ∧ X.fn x = true
  fre : ∀ x, sc.names.lookup x = some .free → X.env.scope.names.lookup x = some .cell ∨ X.env.scope.names.lookup x = some .free
  gls : ∀ x, sc.names.lookup x = some .globalImplicit → Gl X x
  lnt : ∀ x, sc.names.lookup x = some .globalExplicit → X.env.scope.names.lookup x = some .local
  lln : ∀ x ∈ S.ln, isLoc sc x = false
  lx : ∀ i x, X.N[i]? = some x → x ∉ S.ln → P.lx i = none
  un : X.A.units + 100 < cLine
  rm : cm = true → Room (n + 1) X.A
  tk : Takes X W
  po : cm = true → PassesOwn (model X.prog X.w) X.A X.env X.xe
  gl : ∀ p ∈ S.gl, ∃ u v, X.mg p.1 = some u ∧ RelV v u ∧ ∀ F H, R P F H p.2 v
  kd : ∀ p ∈ S.kd, KdF X.K X.w X.mg P p.1 p.2.1 p.2.2
  bl : ∀ x ∈ S.bl, X.mg x = none
  cls : ClsS X.K X.mg P S
  hxn : cm = true → P.hx = none
  xis : P.hx ≠ none → ∀ (cl : Caller) (i c : Nat) (b : Bool) (x y : Str) (p q r pos : Pos), varOk X.N sc i x = true → isGlb sc (Str.ofString "isinstance") = true → Str.ofString "isinstance" ∈ S.bl → isGlb sc y = true → dbg y = true → (c, y, b) ∈ S.xi →
    SndE P X W cl (.Call (.Name (Str.ofString "isinstance") p) [.Name x q, .Name y r] [] pos) (.xisi i c b)
  xat : P.hx ≠ none → ∀ (cl : Caller) (i c : Nat) (x y f : Str) (q pos : Pos), varOk X.N sc i x = true → S.cs[c]? = some (y, f) → c ∈ S.ini → SndE P X W cl (.Attribute (.Name x q) f pos) (.xattr i c)
  ini : ∀ c x f, S.cs[c]? = some (x, f) → c ∈ S.ini → IniF X.prog X.K X.mg (P.ca c) x f
  fo : cm = true → ∀ f Fd, S.fs[f]? = some Fd → ∃ fd, X.mg Fd.name = some (.ref (P.fa f)) ∧ PySem.W.keepIn X.K (.ref (P.fa f)) = true ∧ Binds X.K fd Fd.pars [] ∧
    FnG X.prog X.w X.K X.mg X.base (L2.CX X.prog X.w) (n + 1) (P.fa f) fd Fd.pars (spF P S n f)
  fr : cm = true → Free X.A


section
variable {P : Pl} {S : Stat} {cm : Bool} {n : Nat} {W : WX} {G G' F F' : Addr → Prop} {env env' : Env} {σ : L2.St} {H H' : Hp} {X : Cx} {sc : Scope} {cl : Caller}
theorem dbg_ok {x : Str} (h : dbg x = true) : (x == ("__debug__" : Str)) = false ∧ (x == ("__classdict__" : Str)) = false := by
  unfold dbg at h
  rw [Bool.and_eq_true, Bool.not_eq_true', Bool.not_eq_true'] at h
  exact h
theorem Ct.vis (c : Ct P S cm n X W sc) {x : Str} (h : isVis sc x = true) : Vis X.env.scope x := by
  unfold isVis at h
  split at h
  · rename_i e; exact .inl (c.lcl x e)
  · rename_i e; exact .inr (.inl (c.cel x e).1)
  · rename_i e; exact .inr (c.fre x e)
  · rename_i e; exact .inl (c.lnt x e)
  · cases h
theorem Ct.loc (c : Ct P S cm n X W sc) {x : Str} (h : isLoc sc x = true) : Loc X.env.scope x ∧ (X.fn x = true ∨ X.env.scope.names.lookup x = some .local) := by
  unfold isLoc at h
  split at h
  · rename_i e; exact ⟨.inl (c.lcl x e), .inr (c.lcl x e)⟩
  · rename_i e; exact ⟨.inr (c.cel x e).1, .inl (c.cel x e).2⟩
  · cases h
theorem Ct.nlx (c : Ct P S cm n X W sc) {i : Nat} {x : Str} (h : locOk X.N sc i x = true) : P.lx i = none := by
  unfold locOk at h
  rw [Bool.and_eq_true, Bool.and_eq_true] at h
  refine c.lx i x (of_decide_eq_true h.1.1) fun z => ?_
  have := c.lln x z
  rw [h.1.2] at this
  cases this
theorem isLcl_eq {x : Str} (h : isLcl sc x = true) : sc.names.lookup x = some .local := by
  unfold isLcl at h
  split at h
  · assumption
  · cases h
theorem Ct.glb (c : Ct P S cm n X W sc) {x : Str} (h : isGlb sc x = true) : Gl X x := by
  unfold isGlb at h
  split at h
  · rename_i e; exact c.gls x e
  · cases h

/-! ### names and constants -/
theorem snd_var (c : Ct P S cm n X W sc) {i : Nat} {x : Str} {pos : Pos} (h : varOk X.N sc i x = true) : SndE P X W cl (.Name x pos) (.var i) := by
  unfold varOk at h
  rw [Bool.and_eq_true, Bool.and_eq_true] at h
  obtain ⟨d1, d2⟩ := dbg_ok h.2
  refine ⟨_, pe_var (i := i) (of_decide_eq_true h.1.1) (c.vis h.1.2) d1 d2, ?_⟩
  intro G F env σ H Q r g
  unfold evalE at g
  split at g
  · rename_i d e
    obtain ⟨v, e1, q⟩ := r.valAt e
    exact ⟨v, e1, g F H (Step.refl ..) r v (.val q)⟩
  · rename_i d e
    obtain ⟨a, e1, q, _⟩ := r.ownAt e
    exact ⟨_, e1, g F H (Step.refl ..) r _ (.slot e1)⟩
  · exact g.elim
theorem snd_int {i : Int} {j : Nat} {pos : Pos} : SndE P X W cl (.Constant (.int i) j pos) (.con (.int i)) :=
  ⟨_, pe_int, fun G F env σ H Q r g => g F H (Step.refl ..) r _ (.val (.int i))⟩
theorem snd_bl {i : Bool} {j : Nat} {pos : Pos} : SndE P X W cl (.Constant (.bool i) j pos) (.con (.bl i)) :=
  ⟨_, pe_bl, fun G F env σ H Q r g => g F H (Step.refl ..) r _ (.val (.bl i))⟩
theorem snd_non {j : Nat} {pos : Pos} : SndE P X W cl (.Constant .none j pos) (.con .non) :=
  ⟨_, pe_non, fun G F env σ H Q r g => g F H (Step.refl ..) r _ (.val .non)⟩
theorem snd_str {x : Str} {j : Nat} {pos : Pos} : SndE P X W cl (.Constant (.str x) j pos) (.con (.str x)) :=
  ⟨_, pe_str, fun G F env σ H Q r g => g F H (Step.refl ..) r _ (.val (.str x))⟩
theorem snd_glob (c : Ct P S cm n X W sc) {x : Str} {d : D} {pos : Pos} (h : isGlb sc x = true) (hd : dbg x = true) (hm : (x, d) ∈ S.gl) : SndE P X W cl (.Name x pos) (.glob x d) := by
  obtain ⟨u, v, e1, e2, e3⟩ := c.gl _ hm
  refine ⟨_, pe_glob (c.glb h) e1 e2 (dbg_ok hd).1, ?_⟩
  intro G F env σ H Q r g
  exact g F H (Step.refl ..) r _ (.val (e3 F H))

/-! ### two operands in a row -/
theorem two {ea eb : Expr} {a b : E} (sa : SndE P X W cl ea a) (sb : SndE P X W cl eb b) : ∃ ta tb, PE X ea ta ∧ PE X eb tb ∧
    ∀ {β : Type} (C : β → Env → (Addr → Prop) → Hp → Prop) (k : Opd → Opd → Env → Res β) (Rr : V → V → Hp → Prop) G F env σ H, Rel P G F env σ H →
      GR P W G F σ H C ((evalE cl a env).bind fun x e1 => (evalE cl b e1).bind fun y e2 => k x y e2) →
      (∀ x y e2 F2 H2 vx vy, Step G F H F2 H2 → Rel P G F2 e2 σ H2 → Rel P (pendG G x vx) F2 e2 σ H2 → RO P G F2 e2 σ H2 x vx → RO P (pendG G x vx) F2 e2 σ H2 y vy → GR P W G F2 σ H2 C (k x y e2) → Rr vx vy H2) →
      ta σ H fun vx H1 => tb σ H1 fun vy H2 => Rr vx vy H2 := by
  obtain ⟨ta, pa, ha⟩ := sa
  obtain ⟨tb, pb, hb⟩ := sb
  refine ⟨ta, tb, pa, pb, ?_⟩
  intro β C k Rr G F env σ H r g hk
  refine ha G F env σ H _ r (GR.bind g fun x e1 F1 H1 st1 r1 g1 vx ox => ?_)
  refine hb (pendG G x vx) F1 e1 σ H1 _ (r1.pend ox) (GR.more (GR.bind g1 fun y e2 F2 H2 st2 r2 g2 => g2) pend_sub fun y e2 F2 H2 st2 r2 g2 vy oy => ?_)
  have st2' := st2.less (pend_sub (o := x) (v := vx))
  exact hk x y e2 F2 H2 vx vy (st1.trans st2') (r2.less pend_sub) r2 (ox.stay st2 r2) oy g2

/-! ### operands in a list -/
theorem ROs.shift {os : List Opd} : ∀ {G' G F F1 : Addr → Prop} {vs : List V}, ROs P F env σ H G' os vs → (∀ a, F a → F1 a) → (∀ a, F1 a → F a ∨ G' a) → (∀ a, G a → G' a) → ROs P F1 env σ H G os vs := by
  induction os with
  | nil => intro G' G F F1 vs h _ _ _; cases h; exact .nil _
  | cons o os ih =>
    intro G' G F F1 vs h h1 h2 h3
    cases h with
    | cons r t =>
      rename_i v vs
      refine .cons ?_ (ih t h1 (fun a z => (h2 a z).imp id .inl) fun a z => ?_)
      · cases r with
        | val q => exact .val (R.step (G := G) (Step.grow h1) q)
        | slot e => exact .slot e
        | fresh q n1 n2 n3 => exact .fresh (q.grow h1) (fun z => (h2 _ z).elim n1 n2) (fun z => n2 (h3 _ z)) n3
      · rcases z with z | z
        · exact .inl (h3 a z)
        · exact .inr z
theorem ROs.leaks {os : List Opd} : ∀ {G F : Addr → Prop} {vs : List V} {ds : List D}, Rel P G F env σ H → ROs P F env σ H G os vs → leaks os = some ds → ∃ F', Step G F H F' H ∧ Rel P G F' env σ H ∧ Rs P F' H ds vs := by
  induction os with
  | nil => intro G F vs ds r h e; cases h; cases e; exact ⟨F, Step.refl .., r, .nil⟩
  | cons o os ih =>
    intro G F vs ds r h e
    cases h with
    | cons ro t =>
      rename_i v vs
      unfold Pd.leaks at e
      cases z : o.leak with
      | none => rw [z] at e; cases e
      | some d =>
        rw [z] at e
        cases z2 : Pd.leaks os with
        | none => rw [z2] at e; cases e
        | some ds' =>
          rw [z2] at e
          cases e
          obtain ⟨F1, hF, st1, r1, q1⟩ := ro.leak r z
          obtain ⟨F2, st2, r2, q2⟩ := ih r1 (t.shift (G := G) st1.sub (fun a z => (hF a z).imp id .inr) fun a z => .inl z) z2
          exact ⟨F2, st1.trans st2, r2, .cons (R.step st2 q1) q2⟩
theorem ROs.gets {os : List Opd} : ∀ {G G' F : Addr → Prop} {vs : List V} {ds : List D}, Rel P G F env σ H → ROs P F env σ H G' os vs → gets env os = some ds → RTs P F H ds vs := by
  induction os with
  | nil => intro G G' F vs ds r h e; cases h; cases e; exact .nil
  | cons o os ih =>
    intro G G' F vs ds r h e
    cases h with
    | cons ro t =>
      rename_i v vs
      unfold Pd.gets at e
      cases z : o.get env with
      | none => rw [z] at e; cases e
      | some d =>
        rw [z] at e
        cases z2 : Pd.gets env os with
        | none => rw [z2] at e; cases e
        | some ds' =>
          rw [z2] at e
          cases e
          exact .cons (ro.get r z) (ih r t z2)

theorem snd_bin (c : Ct P S cm n X W sc) {ea eb : Expr} {a b : E} {pos : Pos} (sa : SndE P X W cl ea a) (sb : SndE P X W cl eb b) (op : BOp) : SndE P X W cl (.BinOp ea (bopOf op) eb pos) (.bin op a b) := by
  obtain ⟨ta, tb, pa, pb, h⟩ := two sa sb
  obtain ⟨r, hr, ok⟩ := bin_ok c.hK op
  refine ⟨_, pe_op hr pa pb, ?_⟩
  intro G F env σ H Q rel g
  unfold evalE at g
  refine h _ _ _ G F env σ H rel g fun x y e2 F2 H2 vx vy st r2 r2' ox oy g2 => ?_
  obtain ⟨dx, e3, g3⟩ := GR.opt g2
  obtain ⟨dy, e4, g4⟩ := GR.opt g3
  obtain ⟨d, e5, g5⟩ := GR.opt g4
  exact ok G F2 e2 σ H2 Q dx dy d vx vy r2 (ox.get r2 e3) (oy.get r2 e4) e5 fun F' H' v st r ro => g5 F' H' st r v ro
theorem snd_cmp (c : Ct P S cm n X W sc) {ea eb : Expr} {a b : E} {pos : Pos} (sa : SndE P X W cl ea a) (sb : SndE P X W cl eb b) (op : COp) (hm : behindInMarks (copOf op) eb = false) : SndE P X W cl (.Compare ea [copOf op] [eb] pos) (.cmp op a b) := by
  obtain ⟨ta, tb, pa, pb, h⟩ := two sa sb
  obtain ⟨r, hr, ok⟩ := cmp_ok c.hK c.un op
  refine ⟨_, pe_cmpR hr pa pb hm, ?_⟩
  intro G F env σ H Q rel g
  unfold evalE at g
  refine h _ _ _ G F env σ H rel g fun x y e2 F2 H2 vx vy st r2 r2' ox oy g2 => ?_
  obtain ⟨dx, e3, g3⟩ := GR.opt g2
  obtain ⟨dy, e4, g4⟩ := GR.opt g3
  obtain ⟨d, e5, g5⟩ := GR.opt g4
  exact ok G F2 e2 σ H2 Q dx dy d vx vy r2 (ox.get r2 e3) (oy.get r2 e4) e5 (g5 F2 H2 (Step.refl ..) r2 _ (.val (.bl d)))
/-- the same as a test -/
theorem snd_cmpT (c : Ct P S cm n X W sc) {ea eb : Expr} {a b : E} {pos : Pos} (sa : SndE P X W cl ea a) (sb : SndE P X W cl eb b) (op : COp) (hm : behindInMarks (copOf op) eb = false) : SndT P X W cl (.Compare ea [copOf op] [eb] pos) (.e (.cmp op a b)) := by
  obtain ⟨ta, tb, pa, pb, h⟩ := two sa sb
  obtain ⟨r, hr, ok⟩ := cmp_ok c.hK c.un op
  refine ⟨_, pt_cmpR hr pa pb hm, ?_⟩
  intro G F env σ H Q rel g
  unfold evalT at g
  unfold evalE at g
  have g' : GR P W G F σ H (fun k _ _ H' => Q k H') ((evalE cl a env).bind fun x e1 => (evalE cl b e1).bind fun y e2 => (ofO (x.get e2) e2).bind fun dx _ => (ofO (y.get e2) e2).bind fun dy _ => (ofO (cmpV op dx dy) e2).bind fun d e => .ok d e) := by
    revert g
    generalize evalE cl a env = ra
    cases ra with
    | stk => exact id
    | exc x e => exact id
    | ok x e1 =>
      simp only [Res.bind_ok]
      generalize evalE cl b e1 = rb
      cases rb with
      | stk => exact id
      | exc x e => exact id
      | ok y e2 =>
        simp only [Res.bind_ok]
        generalize x.get e2 = o1
        cases o1 with
        | none => exact id
        | some dx =>
          simp only [ofO_some, Res.bind_ok]
          generalize y.get e2 = o2
          cases o2 with
          | none => exact id
          | some dy =>
            simp only [ofO_some, Res.bind_ok]
            generalize cmpV op dx dy = o3
            cases o3 with
            | none => exact id
            | some k => exact id
  refine h _ _ _ G F env σ H rel g' fun x y e2 F2 H2 vx vy st r2 r2' ox oy g2 => ?_
  obtain ⟨dx, e3, g3⟩ := GR.opt g2
  obtain ⟨dy, e4, g4⟩ := GR.opt g3
  obtain ⟨d, e5, g5⟩ := GR.opt g4
  exact ok G F2 e2 σ H2 _ dx dy d vx vy r2 (ox.get r2 e3) (oy.get r2 e4) e5 ⟨d, rfl, g5 F2 H2 (Step.refl ..) r2⟩
theorem snd_idx (c : Ct P S cm n X W sc) {ea eb : Expr} {a b : E} {pos : Pos} (sa : SndE P X W cl ea a) (sb : SndE P X W cl eb b) (hp : PlainIx eb) : SndE P X W cl (.Subscript ea eb pos) (.idx a b) := by
  obtain ⟨ta, tb, pa, pb, h⟩ := two sa sb
  obtain ⟨r, hr, ok⟩ := idx_ok (X := X) c.hK
  refine ⟨_, pe_ix hr pa pb hp, ?_⟩
  intro G F env σ H Q rel g
  unfold evalE at g
  refine h _ _ _ G F env σ H rel g fun x y e2 F2 H2 vx vy st r2 r2' ox oy g2 => ?_
  obtain ⟨dx, e3, g3⟩ := GR.opt g2
  obtain ⟨dy, e4, g4⟩ := GR.opt g3
  obtain ⟨d, e5, g5⟩ := GR.opt g4
  exact ok G F2 e2 σ H2 Q dx dy d vx vy r2 (ox.get r2 e3) (oy.get r2 e4) e5 fun v q => g5 F2 H2 (Step.refl ..) r2 _ (.val q)
theorem snd_neg {ea : Expr} {a : E} {pos : Pos} (sa : SndE P X W cl ea a) : SndE P X W cl (.UnaryOp .USub ea pos) (.un .neg a) := by
  obtain ⟨ta, pa, ha⟩ := sa
  refine ⟨_, pe_un un_neg pa, ?_⟩
  intro G F env σ H Q rel g
  unfold evalE at g
  refine ha G F env σ H _ rel (GR.bind g fun x e1 F1 H1 st r1 g1 vx ox => ?_)
  obtain ⟨dx, e3, g3⟩ := GR.opt g1
  obtain ⟨d, e5, g5⟩ := GR.opt g3
  have rt := ox.get r1 e3
  unfold unV at e5
  split at e5 <;> first | cases e5 | skip
  cases rt.int
  exact ⟨_, rfl, g5 F1 H1 (Step.refl ..) r1 _ (.val (.int _))⟩
theorem snd_rev (c : Ct P S cm n X W sc) {ea : Expr} {a : E} {k : Nat} {p1 p2 p3 pos : Pos} (sa : SndE P X W cl ea a) : SndE P X W cl (.Subscript ea (.Slice none none (some (.UnaryOp .USub (.Constant (.int 1) k p1) p2)) p3) pos) (.rev a) := by
  obtain ⟨ta, pa, ha⟩ := sa
  refine ⟨_, pe_revA pa, ?_⟩
  intro G F env σ H Q rel g
  unfold evalE at g
  refine ha G F env σ H _ rel (GR.bind g fun x e1 F1 H1 st r1 g1 vx ox => ?_)
  obtain ⟨dx, e3, g3⟩ := GR.opt g1
  obtain ⟨d, e5, g5⟩ := GR.opt g3
  have rt := ox.get r1 e3
  have k : Kont P G F1 e1 σ H1 (mkO d) Q := fun F' H' v st r ro => g5 F' H' st r v ro
  unfold revV at e5
  split at e5 <;> first | cases e5 | skip
  · obtain ⟨a, xs, rfl, hx, sx⟩ := rt.lst
    exact ⟨a, xs, rfl, .inl ⟨by rw [c.hK]; exact hx, fun p hp => Kont.newL k r1 sx.reverse hp⟩⟩
  · obtain ⟨a, xs, rfl, hx, sx⟩ := rt.tup
    exact ⟨a, xs, rfl, .inr ⟨by rw [c.hK]; exact hx, fun p hp => Kont.newT k r1 sx.reverse hp⟩⟩
theorem Rs.evy : ∀ {ds : List D} {vs : List V}, Rs P F H ds vs → Rs P F H (Pd.evy ds) (Pd.evy vs)
  | _, _, .nil => .nil
  | _, _, .cons r .nil => .cons r .nil
  | _, _, .cons r (.cons _ t) => .cons r (Rs.evy t)
theorem snd_evy (c : Ct P S cm n X W sc) {ea : Expr} {a : E} {k j : Nat} {lo : Option Expr} {tl : TO} {p1 p3 pos : Pos} (hlo : PO X lo tl) (hl : ∀ σ H, tl σ H (fun o H2 => o = evL k ∧ H2 = H)) (sa : SndE P X W cl ea a) : SndE P X W cl (.Subscript ea (.Slice lo none (some (.Constant (.int 2) j p1)) p3) pos) (.evy k a) := by
  obtain ⟨ta, pa, ha⟩ := sa
  refine ⟨_, pe_evy pa hlo hl, ?_⟩
  intro G F env σ H Q rel g
  unfold evalE at g
  refine ha G F env σ H _ rel (GR.bind g fun x e1 F1 H1 st r1 g1 vx ox => ?_)
  obtain ⟨dx, e3, g3⟩ := GR.opt g1
  obtain ⟨d, e5, g5⟩ := GR.opt g3
  have rt := ox.get r1 e3
  have kk : Kont P G F1 e1 σ H1 (mkO d) Q := fun F' H' v st r ro => g5 F' H' st r v ro
  unfold evyV at e5
  split at e5 <;> first | cases e5 | skip
  · obtain ⟨a, xs, rfl, hx, sx⟩ := rt.lst
    exact ⟨a, xs, rfl, .inl ⟨by rw [c.hK]; exact hx, fun p hp => Kont.newL kk r1 (Rs.evy (Rs.drop k sx)) hp⟩⟩
  · obtain ⟨a, xs, rfl, hx, sx⟩ := rt.tup
    exact ⟨a, xs, rfl, .inr ⟨by rw [c.hK]; exact hx, fun p hp => Kont.newT kk r1 (Rs.evy (Rs.drop k sx)) hp⟩⟩
theorem snd_evy0 (c : Ct P S cm n X W sc) {ea : Expr} {a : E} {j : Nat} {p1 p3 pos : Pos} (sa : SndE P X W cl ea a) : SndE P X W cl (.Subscript ea (.Slice none none (some (.Constant (.int 2) j p1)) p3) pos) (.evy 0 a) :=
  snd_evy c po_none (fun σ H => ⟨rfl, rfl⟩) sa
theorem snd_evy1 (c : Ct P S cm n X W sc) {ea : Expr} {a : E} {i j : Nat} {p0 p1 p3 pos : Pos} (sa : SndE P X W cl ea a) : SndE P X W cl (.Subscript ea (.Slice (some (.Constant (.int 1) i p0)) none (some (.Constant (.int 2) j p1)) p3) pos) (.evy 1 a) :=
  snd_evy c (po_some pe_int) (fun σ H => ⟨1, rfl, rfl, rfl⟩) sa
end
end Pd
set_option autoImplicit false
set_option linter.all false
set_option maxRecDepth 100000
set_option maxHeartbeats 1000000
namespace Pd
open PySem L2
section
variable {P : Pl} {S : Stat} {cm : Bool} {n : Nat} {W : WX} {G G' F F' : Addr → Prop} {env env' : Env} {σ : L2.St} {H H' : Hp} {X : Cx} {sc : Scope} {cl : Caller}

/-! ### argument lists, displays -/
theorem snd_nil : SndA P X W cl [] .nil := ⟨_, pa_nil, fun G F env σ H Q r g => g F H (Step.refl ..) r _ (.nil _)⟩
theorem snd_cons {ea : Expr} {es : List Expr} {a : E} {b : Es} (sa : SndE P X W cl ea a) (sb : SndA P X W cl es b) (hs : starEach (ea :: es) X.env = (false, eval ea X.env) :: starEach es X.env) : SndA P X W cl (ea :: es) (.cons a b) := by
  obtain ⟨ta, pa, ha⟩ := sa
  obtain ⟨tb, pb, hb⟩ := sb
  refine ⟨_, pa_cons pa pb hs, ?_⟩
  intro G F env σ H Q r g
  unfold evalEs at g
  refine ha G F env σ H _ r (GR.bind g fun x e1 F1 H1 st1 r1 g1 vx ox => ?_)
  refine hb (pendG G x vx) F1 e1 σ H1 _ (r1.pend ox) (GR.more (GR.bind g1 fun y e2 F2 H2 st2 r2 g2 => g2) pend_sub fun y e2 F2 H2 st2 r2 g2 vy oy => ?_)
  exact g2 F2 H2 (Step.refl ..) (r2.less pend_sub) (vx :: vy) (.cons (ox.stay st2 r2) oy)
theorem evalEs_len : ∀ (es : Es) {env env' : Env} {os : List Opd}, evalEs cl es env = .ok os env' → os.length = lenEs es
  | .nil, env, env', os, h => by unfold evalEs at h; cases h; rfl
  | .cons a b, env, env', os, h => by
    unfold evalEs at h
    revert h
    generalize evalE cl a env = ra
    cases ra with
    | stk => intro h; cases h
    | exc x e => intro h; cases h
    | ok x e =>
      simp only [Res.bind_ok]
      cases z : evalEs cl b e with
      | stk => intro h; cases h
      | exc x e => intro h; cases h
      | ok ys e2 =>
        intro h
        cases h
        rw [List.length_cons, evalEs_len b z]
        rfl
theorem ROs.len {os : List Opd} : ∀ {G : Addr → Prop} {vs : List V}, ROs P F env σ H G os vs → os.length = vs.length := by
  induction os with
  | nil => intro G vs h; cases h; rfl
  | cons o os ih => intro G vs h; cases h with | cons r t => rw [List.length_cons, List.length_cons, ih t]
theorem snd_tup {es : List Expr} {b : Es} {k : Nat} {pos : Pos} (sb : SndA P X W cl es b) (hl : lenEs b ≤ cap) : SndE P X W cl (.Tuple es k pos) (.tup b) := by
  obtain ⟨tb, pb, hb⟩ := sb
  refine ⟨_, pe_tup pb, ?_⟩
  intro G F env σ H Q r g
  unfold evalE at g
  refine hb G F env σ H _ r (GR.bindE g fun os e F1 H1 eq st r1 g1 vs ro => ?_)
  obtain ⟨ds, e1, g2⟩ := GR.opt g1
  have hlen : vs.length ≤ sizeLine := by rw [← ro.len, evalEs_len b eq]; exact cap_le hl
  obtain ⟨F2, st2, r2, q2⟩ := ro.leaks r1 e1
  refine ⟨hlen, fun p hp => ?_⟩
  exact Kont.newT (fun F' H' v st r ro => g2 F' H' (st2.trans st) r v ro) r2 q2 hp
theorem snd_lst {es : List Expr} {b : Es} {pos : Pos} (sb : SndA P X W cl es b) (hl : lenEs b ≤ cap) : SndE P X W cl (.List es pos) (.lst b) := by
  obtain ⟨tb, pb, hb⟩ := sb
  refine ⟨_, pe_lst pb, ?_⟩
  intro G F env σ H Q r g
  unfold evalE at g
  refine hb G F env σ H _ r (GR.bindE g fun os e F1 H1 eq st r1 g1 vs ro => ?_)
  obtain ⟨ds, e1, g2⟩ := GR.opt g1
  have hlen : vs.length ≤ sizeLine := by rw [← ro.len, evalEs_len b eq]; exact cap_le hl
  obtain ⟨F2, st2, r2, q2⟩ := ro.leaks r1 e1
  refine ⟨hlen, fun p hp => ?_⟩
  exact Kont.newL (fun F' H' v st r ro => g2 F' H' (st2.trans st) r v ro) r2 q2 hp

/-! ### repr -/
theorem plain_small (d : D) (h : D.plain 60 d = true) : (toPy d).depth ≤ 60 ∧ (toPy d).hasDict = false := by
  obtain ⟨h1, h2⟩ := lay_toPy 60 d h
  exact ⟨h2, PyData.hasDict_of_canLay _ h1⟩
def rRepr (K : PySem.W.Frag) : List V → Hp → VK → Prop := fun xs H Q => ∃ (v : V) (p : PyData), xs = [v] ∧ Dp K H v p ∧ p.showable = true ∧ p.shown.length ≤ sizeLine ∧ p.depth ≤ 60 ∧ p.hasDict = false ∧ Q (.str p.shown) H
theorem call_repr (fr : Free X.A) (hu : X.A.units + 100 < cLine) : CallR X (.builtin "repr") (rRepr X.K) := by
  rintro pins s σ H xs us Q I r ⟨v, p, rfl, dp, sh, sz, dep, nd, q⟩
  obtain ⟨u, rfl, rv⟩ := vals1 r
  obtain ⟨as, rd⟩ := Dp.reads I p v u dp rv
  have fin : ∀ (x : Str) (tk t' : Tok) (h' : Heap), (∀ b o, s.heap.get? b = some o → h'.get? b = some o) → x = p.shown → EP X pins σ Q (.str x tk) { s with heap := h', toks := t' } := fun x tk t' h' k e => ⟨.str x, H, I.kept k, ⟨tk, rfl⟩, by rw [e]; exact q⟩
  cases dp with
  | non => cases rv; exact PySem.P.repr_of_none (fin "None" _ _ s.heap (fun _ _ z => z) rfl)
  | bl b => cases rv; exact PySem.P.repr_of_bool (fin (if b then "True" else "False") _ _ s.heap (fun _ _ z => z) rfl)
  | int i =>
    obtain ⟨t, rfl⟩ := rv
    exact PySem.P.repr_of_int (of_decide_eq_true sh) (fin (toString i) _ _ s.heap (fun _ _ z => z) rfl)
  | str x =>
    obtain ⟨t, rfl⟩ := rv
    exact PySem.P.repr_of_str (fin (reprText x) _ _ s.heap (fun _ _ z => z) rfl) sz
  | lst h1 h2 =>
    cases rv
    exact repr_of_reads' rd sh (fun z => by rw [nd] at z; cases z) fr (by omega) (fun _ _ z => z) (fun h' u tk k => fin _ u tk h' k rfl) sz
  | tup h1 h2 =>
    cases rv
    exact repr_of_reads' rd sh (fun z => by rw [nd] at z; cases z) fr (by omega) (fun _ _ z => z) (fun h' u tk k => fin _ u tk h' k rfl) sz
theorem blt_repr (hK : X.K = P.K) (fr : Free X.A) (hu : X.A.units + 100 < cLine) : BltOk P X (.builtin "repr") reprV := by
  refine ⟨_, call_repr fr hu, ?_⟩
  intro G F env σ H Q ds d vs rel rs e k
  unfold reprV at e
  split at e <;> first | cases e | skip
  split at e <;> first | cases e | skip
  rename_i h
  simp only [Bool.and_eq_true, decide_eq_true_eq] at h
  obtain ⟨v, rfl, r⟩ := rs.one
  obtain ⟨h1, h2⟩ := plain_small _ h.1.1
  exact ⟨v, _, rfl, by rw [hK]; exact r.dp h.1.1, h.1.2, cap_le h.2, h1, h2, Kont.here k rel (.str _)⟩
/-! ### built-ins by name -/
def bltN : Blt → Str
  | .len => "len" | .abs => "abs" | .int => "int" | .tuple => "tuple" | .list => "list" | .sum => "sum" | .max => "max" | .min => "min" | .max2 => "max" | .min2 => "min"
  | .all => "all" | .any => "any" | .sorted => "sorted" | .range1 => "range" | .range2 => "range" | .str => "str" | .bool => "bool" | .repr => "repr" | .isi _ => "isinstance"
def bltCalm : Blt → Bool
  | .sum | .max | .min | .max2 | .min2 | .all | .any | .repr | .tuple | .list | .sorted => true
  | _ => false
def bltHas : Blt → Bool
  | .str | .bool | .isi _ => false
  | _ => true
theorem blt_ok (hK : X.K = P.K) (b : Blt) (h : bltHas b = true) (hc : bltCalm b = true → X.calm = true) (hf : bltCalm b = true → Free X.A) (hu : X.A.units + 100 < cLine) : BltOk P X (bltOf b) (bltV b) := by
  cases b with
  | len => exact blt_len hK
  | abs => exact blt_abs hK
  | int => exact blt_int hK
  | tuple => exact blt_tuple hK (hc rfl)
  | list => exact blt_list hK (hc rfl)
  | sum => exact blt_sum hK (hc rfl)
  | max => exact blt_max hK (hc rfl)
  | min => exact blt_min hK (hc rfl)
  | max2 => exact blt_max2 hK (hc rfl)
  | min2 => exact blt_min2 hK (hc rfl)
  | all => exact blt_all hK (hc rfl)
  | any => exact blt_any hK (hc rfl)
  | sorted => exact blt_sorted hK (hc rfl) hu
  | range1 => exact blt_range1
  | range2 => exact blt_range2
  | str => cases h
  | bool => cases h
  | repr => exact blt_repr hK (hf rfl) hu
  | isi t => cases h
theorem backTo_plain : ∀ (es : List Expr) (env : PySem.Env) (pos : Pos), (starEach es env).any (·.1) = false → (backTo pos (starEach es env)).any (·.1) = false := by
  intro es env pos h
  unfold backTo
  rw [List.any_map]
  rw [List.any_eq_false] at h ⊢
  intro x hx
  exact h x hx
theorem snd_blt (c : Ct P S cm n X W sc) {x : Str} {p pos : Pos} {ea : Expr} {es : List Expr} {args : Es} (b : Blt) (sb : SndA P X W cl (ea :: es) args) (hb : bltHas b = true) (hc : bltCalm b = true → cm = true) (hx : x = bltN b) (hg : isGlb sc x = true) (hm : x ∈ S.bl)
    (hs : starEach (ea :: es) X.env = (false, eval ea X.env) :: starEach es X.env) (hs2 : (starEach es X.env).any (·.1) = false) : SndE P X W cl (.Call (.Name x p) (ea :: es) [] pos) (.blt b args) := by
  obtain ⟨tb, pb, hb'⟩ := sb
  obtain ⟨r, hr, ok⟩ := blt_ok (P := P) c.hK b hb (fun z => c.calm (hc z)) (fun z => c.fr (hc z)) c.un
  have run : ∀ {G F env σ H Q}, Rel P G F env σ H → GE P W G F σ H Q (evalE cl (.blt b args) env) → tCB r tb σ H Q := by
    intro G F env σ H Q rel g
    unfold evalE at g
    refine hb' G F env σ H _ rel (GR.bind g fun os e F1 H1 st r1 g1 vs ro => ?_)
    obtain ⟨ds, e1, g2⟩ := GR.opt g1
    obtain ⟨d, e2, g3⟩ := GR.opt g2
    exact ok G F1 e σ H1 Q ds d vs r1 (ro.gets r1 e1) e2 fun F' H' v st r ro => g3 F' H' st r v ro
  have hpl := backTo_plain es X.env pos hs2
  have hd : (x == ("__debug__" : Str)) = false := by rw [hx]; cases b <;> first | (cases hb; done) | decide +kernel
  have hn : x ≠ "__name__" := by rw [hx]; cases b <;> first | (cases hb; done) | decide +kernel
  have G1 := c.glb hg
  have M1 := c.bl x hm
  subst hx
  cases b with
  | len => exact ⟨_, pe_callB hr G1 M1 (by decide +kernel) pb hn hd hs hpl, fun G F env σ H Q rel g => run rel g⟩
  | abs => exact ⟨_, pe_callB hr G1 M1 (by decide +kernel) pb hn hd hs hpl, fun G F env σ H Q rel g => run rel g⟩
  | int => exact ⟨_, pe_callTy hr G1 M1 (by decide +kernel) pb hn hd hs hpl, fun G F env σ H Q rel g => run rel g⟩
  | tuple => exact ⟨_, pe_callTy hr G1 M1 (by decide +kernel) pb hn hd hs hpl, fun G F env σ H Q rel g => run rel g⟩
  | list => exact ⟨_, pe_callTy hr G1 M1 (by decide +kernel) pb hn hd hs hpl, fun G F env σ H Q rel g => run rel g⟩
  | sum => exact ⟨_, pe_callB hr G1 M1 (by decide +kernel) pb hn hd hs hpl, fun G F env σ H Q rel g => run rel g⟩
  | max => exact ⟨_, pe_callB hr G1 M1 (by decide +kernel) pb hn hd hs hpl, fun G F env σ H Q rel g => run rel g⟩
  | min => exact ⟨_, pe_callB hr G1 M1 (by decide +kernel) pb hn hd hs hpl, fun G F env σ H Q rel g => run rel g⟩
  | max2 => exact ⟨_, pe_callB hr G1 M1 (by decide +kernel) pb hn hd hs hpl, fun G F env σ H Q rel g => run rel g⟩
  | min2 => exact ⟨_, pe_callB hr G1 M1 (by decide +kernel) pb hn hd hs hpl, fun G F env σ H Q rel g => run rel g⟩
  | all => exact ⟨_, pe_callB hr G1 M1 (by decide +kernel) pb hn hd hs hpl, fun G F env σ H Q rel g => run rel g⟩
  | any => exact ⟨_, pe_callB hr G1 M1 (by decide +kernel) pb hn hd hs hpl, fun G F env σ H Q rel g => run rel g⟩
  | range1 => exact ⟨_, pe_callTy hr G1 M1 (by decide +kernel) pb hn hd hs hpl, fun G F env σ H Q rel g => run rel g⟩
  | range2 => exact ⟨_, pe_callTy hr G1 M1 (by decide +kernel) pb hn hd hs hpl, fun G F env σ H Q rel g => run rel g⟩
  | sorted => exact ⟨_, pe_callB hr G1 M1 (by decide +kernel) pb hn hd hs hpl, fun G F env σ H Q rel g => run rel g⟩
  | str => cases hb
  | bool => cases hb
  | repr => exact ⟨_, pe_callB hr G1 M1 (by decide +kernel) pb hn hd hs hpl, fun G F env σ H Q rel g => run rel g⟩
  | isi t => cases hb
theorem tyS_boot (t : Ty) : bootBuiltins (Str.ofString (tyS t)) = some (.type (tyS t)) ∧ ((Str.ofString (tyS t)) == ("__debug__" : Str)) = false ∧ Str.ofString (tyS t) ≠ "__name__" := by
  cases t <;> decide +kernel
/-- isinstance(x, T) -/
theorem snd_isi (c : Ct P S cm n X W sc) {x y : Str} {p p2 pos : Pos} {ea : Expr} {a : E} (t : Ty) (sa : SndE P X W cl ea a) (hx : x = "isinstance") (hy : y = Str.ofString (tyS t)) (hg : isGlb sc x = true) (hm : x ∈ S.bl) (hg2 : isGlb sc y = true) (hm2 : y ∈ S.bl)
    (hs : starEach [ea, .Name y p2] X.env = (false, eval ea X.env) :: starEach [.Name y p2] X.env) : SndE P X W cl (.Call (.Name x p) [ea, .Name y p2] [] pos) (.blt (.isi t) (.cons a .nil)) := by
  obtain ⟨ta, pa, ha⟩ := sa
  subst hx hy
  obtain ⟨b1, b2, b3⟩ := tyS_boot t
  have pt : PE X (.Name (Str.ofString (tyS t)) p2) (tC (.ty (tyS t))) := pe_bltn (c.glb hg2) (c.bl _ hm2) b1 rfl b3 b2
  refine ⟨_, pe_callB call_isi (c.glb hg) (c.bl _ hm) (by decide +kernel) (pa_cons pa (pa_cons pt pa_nil) hs) (by decide) (by decide) hs (by rfl), ?_⟩
  intro G F env σ H Q rel g
  unfold evalE at g
  unfold evalEs at g
  unfold evalEs at g
  have g' : GR P W G F σ H (fun o env' F' H' => ∀ v, RO P G F' env' σ H' o v → Q v H') ((evalE cl a env).bind fun x e => (ofO (gets e [x]) e).bind fun ds _ => (ofO (bltV (.isi t) ds) e).bind fun d e => .ok (mkO d) e) := by
    revert g
    generalize evalE cl a env = ra
    cases ra with
    | stk => exact id
    | exc x e => exact id
    | ok x e => exact id
  refine ha G F env σ H _ rel (GR.bind g' fun x e1 F1 H1 st r1 g1 vx ox => ?_)
  obtain ⟨ds, e3, g3⟩ := GR.opt g1
  obtain ⟨d, e5, g5⟩ := GR.opt g3
  unfold gets at e3
  cases z : x.get e1 with
  | none => rw [z] at e3; cases e3
  | some dx =>
    rw [z] at e3
    cases e3
    have rt := ox.get r1 z
    change isiV t [dx] = some d at e5
    have n1 : ∀ f, dx ≠ .fn f := fun f z => by subst z; cases e5
    have n2 : ∀ f, dx ≠ .scr f := fun f z => by subst z; cases e5
    have n3 : ∀ f g, dx ≠ .dic f g := fun f g z => by subst z; cases e5
    have n4 : ∀ f g, dx ≠ .rng f g := fun f g z => by subst z; cases e5
    have e6 : d = .bl (tyOf dx t) := by
      cases dx <;> first | (cases e5; rfl) | cases e5
    subst e6
    obtain ⟨nm, tx, kt⟩ := tyx_of (X := X) c.hK rt t n1 n2 n3 n4
    exact ⟨vx, .ty (tyS t), _, _, _, rfl, .ty _, tx, kit_ty kt, g5 F1 H1 (Step.refl ..) r1 _ (.val (.bl _))⟩
end
end Pd
set_option autoImplicit false
set_option linter.all false
set_option maxRecDepth 100000
set_option maxHeartbeats 1000000
namespace Pd
open PySem L2
section
variable {P : Pl} {S : Stat} {cm : Bool} {n : Nat} {W : WX} {G G' F F' : Addr → Prop} {env env' : Env} {σ : L2.St} {H H' : Hp} {X : Cx} {sc : Scope} {cl : Caller}
theorem truV_of (hK : X.K = P.K) {d : D} {v : V} {k : Bool} (r : RT P F H d v) (e : d.truth = some k) : TruV X.K v H k := by
  have ie : ∀ {ds : List D} {vs : List V}, Rs P F H ds vs → (!ds.isEmpty) = !vs.isEmpty := fun h => by cases h <;> rfl
  cases d with
  | non => cases r.non; cases e; rfl
  | bl b => cases r.bl; cases e; rfl
  | int b => cases r.int; cases e; rfl
  | str b =>
    cases r.str
    unfold D.truth at e
    simp only at e
    split at e
    · rename_i h
      cases e
      exact ⟨cap_le h, rfl⟩
    · cases e
  | tup ds =>
    obtain ⟨a, xs, rfl, hx, sx⟩ := r.tup
    cases e
    exact .inr (.inl ⟨xs, by rw [hK]; exact hx, ie sx⟩)
  | lst ds =>
    obtain ⟨a, xs, rfl, hx, sx⟩ := r.lst
    cases e
    exact .inl ⟨xs, by rw [hK]; exact hx, ie sx⟩
  | scr ds =>
    obtain ⟨a, xs, rfl, hx, sx⟩ := r.scr
    cases e
    exact .inl ⟨xs, by rw [hK]; exact hx, ie sx⟩
  | fn f => cases e
  | rng lo hi => cases e
  | dic f g => cases e

/-! ### and, or, not as values -/
theorem snd_one {op : BoolOp} {ea : Expr} {a : E} {pos : Pos} (sa : SndE P X W cl ea a) : SndE P X W cl (.BoolOp op [ea] pos) a := by
  obtain ⟨ta, pa, ha⟩ := sa
  exact ⟨ta, pe_one pa, ha⟩
theorem snd_and (c : Ct P S cm n X W sc) {ea eb : Expr} {a b : E} {rest : List Expr} {pos : Pos} (sa : SndE P X W cl ea a) (sb : SndE P X W cl (.BoolOp .And (eb :: rest) pos) b) : SndE P X W cl (.BoolOp .And (ea :: eb :: rest) pos) (.and a b) := by
  obtain ⟨ta, pa, ha⟩ := sa
  obtain ⟨tb, pb, hb⟩ := sb
  refine ⟨_, pe_andT pa pb, ?_⟩
  intro G F env σ H Q rel g
  unfold evalE at g
  refine ha G F env σ H _ rel (GR.bind g fun x e1 F1 H1 st r1 g1 vx ox => ?_)
  obtain ⟨dx, e3, g3⟩ := GR.opt g1
  obtain ⟨k, e4, g4⟩ := GR.opt g3
  obtain ⟨F2, _, st2, r2, q2⟩ := ox.leak r1 e3
  refine ⟨k, truV_of c.hK (.sh q2) e4, ?_⟩
  cases k with
  | true => rw [if_pos rfl]; exact hb G F2 e1 σ H1 Q r2 (GR.step g4 st2)
  | false => rw [if_neg (by decide)]; exact g4 F2 H1 st2 r2 _ (.val q2)
theorem snd_or (c : Ct P S cm n X W sc) {ea eb : Expr} {a b : E} {rest : List Expr} {pos : Pos} (sa : SndE P X W cl ea a) (sb : SndE P X W cl (.BoolOp .Or (eb :: rest) pos) b) : SndE P X W cl (.BoolOp .Or (ea :: eb :: rest) pos) (.or a b) := by
  obtain ⟨ta, pa, ha⟩ := sa
  obtain ⟨tb, pb, hb⟩ := sb
  refine ⟨_, pe_orT pa pb, ?_⟩
  intro G F env σ H Q rel g
  unfold evalE at g
  refine ha G F env σ H _ rel (GR.bind g fun x e1 F1 H1 st r1 g1 vx ox => ?_)
  obtain ⟨dx, e3, g3⟩ := GR.opt g1
  obtain ⟨k, e4, g4⟩ := GR.opt g3
  obtain ⟨F2, _, st2, r2, q2⟩ := ox.leak r1 e3
  refine ⟨k, truV_of c.hK (.sh q2) e4, ?_⟩
  cases k with
  | false => rw [if_neg (by decide)]; exact hb G F2 e1 σ H1 Q r2 (GR.step g4 st2)
  | true => rw [if_pos rfl]; exact g4 F2 H1 st2 r2 _ (.val q2)
theorem snd_not (c : Ct P S cm n X W sc) {ea : Expr} {a : E} {pos : Pos} (sa : SndE P X W cl ea a) : SndE P X W cl (.UnaryOp .Not ea pos) (.not a) := by
  obtain ⟨ta, pa, ha⟩ := sa
  refine ⟨_, pe_notT pa, ?_⟩
  intro G F env σ H Q rel g
  unfold evalE at g
  refine ha G F env σ H _ rel (GR.bind g fun x e1 F1 H1 st r1 g1 vx ox => ?_)
  obtain ⟨dx, e3, g3⟩ := GR.opt g1
  obtain ⟨k, e4, g4⟩ := GR.opt g3
  exact ⟨k, truV_of c.hK (ox.get r1 e3) e4, g4 F1 H1 (Step.refl ..) r1 _ (.val (.bl _))⟩

/-! ### tests -/
theorem snd_tr (c : Ct P S cm n X W sc) {ea : Expr} {a : E} (sa : SndE P X W cl ea a) (he : ∀ whole, isTrue ea X.env whole = (do let v ← whole; standAt ea.pos; holding [v] (truthy v))) : SndT P X W cl ea (.e a) := by
  obtain ⟨ta, pa, ha⟩ := sa
  refine ⟨_, pt_truth pa he, ?_⟩
  intro G F env σ H Q rel g
  unfold evalT at g
  refine ha G F env σ H _ rel (GR.bind g fun x e1 F1 H1 st r1 g1 vx ox => ?_)
  obtain ⟨dx, e3, g3⟩ := GR.opt g1
  obtain ⟨k, e4, g4⟩ := GR.opt1 g3
  exact ⟨k, truV_of c.hK (ox.get r1 e3) e4, g4 F1 H1 (Step.refl ..) r1⟩
/-- any of several tests, whatever the whole is -/
def SndW (P : Pl) (X : Cx) (W : WX) (cl : Caller) (e : Expr) (c : T) : Prop :=
  ∃ t, PW X e t ∧ ∀ G F env σ H Q, Rel P G F env σ H → GT P W G F σ H Q (evalT cl c env) → t σ H Q
theorem SndW.t {ea : Expr} {a : T} (h : SndW P X W cl ea a) : SndT P X W cl ea a := by
  obtain ⟨t, p, h⟩ := h
  exact ⟨t, p.pt, h⟩
theorem snd_tand1 {ea : Expr} {a : T} {pos : Pos} (sa : SndT P X W cl ea a) : SndW P X W cl (.BoolOp .And [ea] pos) a := by
  obtain ⟨t, p, h⟩ := sa
  exact ⟨t, pw_and1 p, h⟩
theorem snd_tor1 {ea : Expr} {a : T} {pos : Pos} (sa : SndT P X W cl ea a) : SndW P X W cl (.BoolOp .Or [ea] pos) a := by
  obtain ⟨t, p, h⟩ := sa
  exact ⟨t, pw_or1 p, h⟩
theorem snd_tand {ea eb : Expr} {a b : T} {rest : List Expr} {pos : Pos} (sa : SndT P X W cl ea a) (sb : SndW P X W cl (.BoolOp .And (eb :: rest) pos) b) : SndW P X W cl (.BoolOp .And (ea :: eb :: rest) pos) (.and a b) := by
  obtain ⟨ta, pa, ha⟩ := sa
  obtain ⟨tb, pb, hb⟩ := sb
  refine ⟨_, pw_and pa pb, ?_⟩
  intro G F env σ H Q rel g
  unfold evalT at g
  refine ha G F env σ H _ rel (GR.bind g fun k e1 F1 H1 st r1 g1 => ?_)
  cases k with
  | true => rw [if_pos rfl]; exact hb G F1 e1 σ H1 Q r1 g1
  | false => rw [if_neg (by decide)]; exact g1 F1 H1 (Step.refl ..) r1
theorem snd_tor {ea eb : Expr} {a b : T} {rest : List Expr} {pos : Pos} (sa : SndT P X W cl ea a) (sb : SndW P X W cl (.BoolOp .Or (eb :: rest) pos) b) : SndW P X W cl (.BoolOp .Or (ea :: eb :: rest) pos) (.or a b) := by
  obtain ⟨ta, pa, ha⟩ := sa
  obtain ⟨tb, pb, hb⟩ := sb
  refine ⟨_, pw_or pa pb, ?_⟩
  intro G F env σ H Q rel g
  unfold evalT at g
  refine ha G F env σ H _ rel (GR.bind g fun k e1 F1 H1 st r1 g1 => ?_)
  cases k with
  | false => rw [if_neg (by decide)]; exact hb G F1 e1 σ H1 Q r1 g1
  | true => rw [if_pos rfl]; exact g1 F1 H1 (Step.refl ..) r1
theorem snd_tnot {ea : Expr} {a : T} {pos : Pos} (sa : SndT P X W cl ea a) : SndT P X W cl (.UnaryOp .Not ea pos) (.not a) := by
  obtain ⟨ta, pa, ha⟩ := sa
  refine ⟨_, pt_not pa, ?_⟩
  intro G F env σ H Q rel g
  unfold evalT at g
  exact ha G F env σ H _ rel (GR.bind g fun k e1 F1 H1 st r1 g1 => g1 F1 H1 (Step.refl ..) r1)
theorem snd_ite {ec ea eb : Expr} {t : T} {a b : E} {pos : Pos} (st : SndT P X W cl ec t) (sa : SndE P X W cl ea a) (sb : SndE P X W cl eb b) : SndE P X W cl (.IfExp ec ea eb pos) (.ite t a b) := by
  obtain ⟨tt, pt, ht⟩ := st
  obtain ⟨ta, pa, ha⟩ := sa
  obtain ⟨tb, pb, hb⟩ := sb
  refine ⟨_, pe_ifExp pt pa pb, ?_⟩
  intro G F env σ H Q rel g
  unfold evalE at g
  refine ht G F env σ H _ rel (GR.bind g fun k e1 F1 H1 st r1 g1 => ?_)
  cases k with
  | true => rw [if_pos rfl]; exact ha G F1 e1 σ H1 Q r1 g1
  | false => rw [if_neg (by decide)]; exact hb G F1 e1 σ H1 Q r1 g1

/-! ### chains of comparisons -/
theorem chn_run (c : Ct P S cm n X W sc) {ea eb ec : Expr} {a b d : E} (sa : SndE P X W cl ea a) (sb : SndE P X W cl eb b) (sd : SndE P X W cl ec d) (op op' : COp) :
    ∃ r r' ta tb tc, OpR X (compareOp (copOf op)) r ∧ OpR X (compareOp (copOf op')) r' ∧ PE X ea ta ∧ PE X eb tb ∧ PE X ec tc ∧
      ∀ G F env σ H (Q : VK), Rel P G F env σ H → GE P W G F σ H Q (evalE cl (.chn op op' a b d) env) → tChain r r' ta tb tc σ H Q := by
  obtain ⟨ta, tb, pa, pb, h⟩ := two sa sb
  obtain ⟨td, pd, hd⟩ := sd
  obtain ⟨r, hr, ok⟩ := cmp_ok c.hK c.un op
  obtain ⟨r', hr', ok'⟩ := cmp_ok c.hK c.un op'
  refine ⟨r, r', ta, tb, td, hr, hr', pa, pb, pd, ?_⟩
  intro G F env σ H Q rel g
  unfold evalE at g
  refine h _ _ (fun vx vy H2 => r vx vy H2 fun z H3 => ∃ k, z = .bl k ∧ (if k = true then td σ H3 fun w' H4 => r' vy w' H4 Q else Q (.bl false) H3)) G F env σ H rel g fun x y e2 F2 H2 vx vy st r2 r2' ox oy g2 => ?_
  obtain ⟨dx, e3, g3⟩ := GR.opt g2
  obtain ⟨dy, e4, g4⟩ := GR.opt g3
  obtain ⟨k, e5, g5⟩ := GR.opt g4
  obtain ⟨F3, hF3, st3, r3, q3⟩ := ox.leak r2 e3
  have oy' : RO P G F3 e2 σ H2 y vy := by
    have z := ROs.shift (G := G) (.cons oy (.nil _)) st3.sub (fun a z => (hF3 a z).imp id .inr) fun a z => .inl z
    cases z with | cons z _ => exact z
  obtain ⟨F4, hF4, st4, r4, q4⟩ := oy'.leak r3 e4
  refine ok G F4 e2 σ H2 _ dx dy k vx vy r4 (.sh (R.step st4 q3)) (.sh q4) e5 ⟨k, rfl, ?_⟩
  have g6 := GR.step g5 (st3.trans st4)
  cases k with
  | false => rw [if_neg (by decide)]; exact g6 F4 H2 (Step.refl ..) r4 _ (.val (.bl _))
  | true =>
    rw [if_pos rfl]
    refine hd G F4 e2 σ H2 _ r4 (GR.bind g6 fun z e6 F6 H6 st6 r6 g7 vz oz => ?_)
    obtain ⟨dz, e7, g8⟩ := GR.opt g7
    obtain ⟨k', e8, g9⟩ := GR.opt g8
    obtain ⟨F7, _, st7, r7, q7⟩ := oz.leak r6 e7
    exact ok' G F7 e6 σ H6 Q dy dz k' vy vz r7 (.sh (R.step (st6.trans st7) q4)) (.sh q7) e8 (GR.step g9 st7 F7 H6 (Step.refl ..) r7 _ (.val (.bl _)))
theorem snd_chn (c : Ct P S cm n X W sc) {ea eb ec : Expr} {a b d : E} {pos : Pos} (sa : SndE P X W cl ea a) (sb : SndE P X W cl eb b) (sd : SndE P X W cl ec d) (op op' : COp) (hm : lastMarks [copOf op, copOf op'] [eb, ec] = false) :
    SndE P X W cl (.Compare ea [copOf op, copOf op'] [eb, ec] pos) (.chn op op' a b d) := by
  obtain ⟨r, r', ta, tb, tc, h1, h2, h3, h4, h5, h6⟩ := chn_run c sa sb sd op op'
  exact ⟨_, pe_chain h1 h2 h3 h4 h5 hm, h6⟩
theorem snd_chnT (c : Ct P S cm n X W sc) {ea eb ec : Expr} {a b d : E} {pos : Pos} (sa : SndE P X W cl ea a) (sb : SndE P X W cl eb b) (sd : SndE P X W cl ec d) (op op' : COp) (hm : lastMarks [copOf op, copOf op'] [eb, ec] = false) :
    SndT P X W cl (.Compare ea [copOf op, copOf op'] [eb, ec] pos) (.e (.chn op op' a b d)) := by
  obtain ⟨r, r', ta, tb, tc, h1, h2, h3, h4, h5, h6⟩ := chn_run c sa sb sd op op'
  refine ⟨_, pt_chain h1 h2 h3 h4 h5 hm, ?_⟩
  intro G F env σ H Q rel g
  refine h6 G F env σ H _ rel ?_
  unfold evalT at g
  have bl : ∀ {o e}, evalE cl (.chn op op' a b d) env = .ok o e → ∃ k, o = .val (.bl k) := by
    intro o e z
    unfold evalE at z
    revert z
    generalize evalE cl a env = ra
    cases ra with
    | stk => exact fun z => nomatch z
    | exc x e => exact fun z => nomatch z
    | ok x e1 =>
      simp only [Res.bind_ok]
      generalize evalE cl b e1 = rb
      cases rb with
      | stk => exact fun z => nomatch z
      | exc x e => exact fun z => nomatch z
      | ok y e2 =>
        simp only [Res.bind_ok]
        generalize x.leak = o1
        cases o1 with
        | none => exact fun z => nomatch z
        | some dx =>
          simp only [ofO_some, Res.bind_ok]
          generalize y.leak = o2
          cases o2 with
          | none => exact fun z => nomatch z
          | some dy =>
            simp only [ofO_some, Res.bind_ok]
            generalize cmpV op dx dy = o3
            cases o3 with
            | none => exact fun z => nomatch z
            | some k =>
              simp only [ofO_some, Res.bind_ok]
              cases k with
              | false => intro z; rw [if_neg (by decide)] at z; cases z; exact ⟨_, rfl⟩
              | true =>
                rw [if_pos rfl]
                generalize evalE cl d e2 = rc
                cases rc with
                | stk => exact fun z => nomatch z
                | exc x e => exact fun z => nomatch z
                | ok w e3 =>
                  simp only [Res.bind_ok]
                  generalize w.leak = o4
                  cases o4 with
                  | none => exact fun z => nomatch z
                  | some dw =>
                    simp only [ofO_some, Res.bind_ok]
                    generalize cmpV op' dy dw = o5
                    cases o5 with
                    | none => exact fun z => nomatch z
                    | some k => intro z; cases z; exact ⟨_, rfl⟩
  refine GR.bindE g fun o e F1 H1 eq st r1 g1 v ro => ?_
  obtain ⟨k, rfl⟩ := bl eq
  cases ro with
  | val q => cases q; exact ⟨k, rfl, g1 F1 H1 (Step.refl ..) r1⟩

/-! ### slices -/
def SndB (P : Pl) (X : Cx) (W : WX) (cl : Caller) (e : Option Expr) (c : Eo) : Prop :=
  ∃ t, PO X e t ∧ ∀ G F env σ H (Q : Option Int → Hp → Prop), Rel P G F env σ H → GR P W G F σ H (fun o _ _ H' => Q o H') (evalB cl c env) → t σ H Q
theorem snd_bno : SndB P X W cl none .no := ⟨_, po_none, fun G F env σ H Q r g => g F H (Step.refl ..) r⟩
theorem snd_bso {ea : Expr} {a : E} (sa : SndE P X W cl ea a) : SndB P X W cl (some ea) (.so a) := by
  obtain ⟨ta, pa, ha⟩ := sa
  refine ⟨_, po_some pa, ?_⟩
  intro G F env σ H Q rel g
  unfold evalB at g
  refine ha G F env σ H _ rel (GR.bind g fun x e1 F1 H1 st r1 g1 vx ox => ?_)
  cases ox with
  | val q =>
    cases q with
    | int i => exact ⟨i, rfl, g1 F1 H1 (Step.refl ..) r1⟩
    | _ => exact g1.elim
  | fresh q _ _ _ => exact g1.elim
  | slot e => exact g1.elim
theorem snd_sli (c : Ct P S cm n X W sc) {ea : Expr} {lo hi : Option Expr} {a : E} {l h : Eo} {p2 pos : Pos} (sa : SndE P X W cl ea a) (sl : SndB P X W cl lo l) (sh : SndB P X W cl hi h) : SndE P X W cl (.Subscript ea (.Slice lo hi none p2) pos) (.sli a l h) := by
  obtain ⟨ta, pa, ha⟩ := sa
  obtain ⟨tl, pl, hl⟩ := sl
  obtain ⟨th, ph, hh⟩ := sh
  obtain ⟨r, hr, ok⟩ := sli_ok (X := X) (P := P) c.hK
  refine ⟨_, pe_slice hr pa pl ph, ?_⟩
  intro G F env σ H Q rel g
  unfold evalE at g
  refine ha G F env σ H _ rel (GR.bind g fun x e1 F1 H1 st r1 g1 vx ox => ?_)
  refine hl (pendG G x vx) F1 e1 σ H1 _ (r1.pend ox) (GR.more (GR.bind g1 fun y e2 F2 H2 st2 r2 g2 => g2) pend_sub fun lo e2 F2 H2 st2 r2 g2 => ?_)
  have ox2 := ox.stay st2 r2
  refine hh (pendG G x vx) F2 e2 σ H2 _ r2 (GR.more (GR.bind g2 fun y e3 F3 H3 st3 r3 g3 => g3) pend_sub fun hi e3 F3 H3 st3 r3 g3 => ?_)
  have ox3 := ox2.stay st3 r3
  have r3' := r3.less (pend_sub (G := G) (o := x) (v := vx))
  obtain ⟨dx, e4, g4⟩ := GR.opt g3
  obtain ⟨d, e5, g5⟩ := GR.opt g4
  exact ok G F3 e3 σ H3 Q dx lo hi d vx r3' (ox3.get r3' e4) e5 fun F' H' v st r ro => g5 F' H' st r v ro
end
end Pd
set_option autoImplicit false
set_option linter.all false
set_option maxRecDepth 100000
set_option maxHeartbeats 1000000
namespace Pd
open PySem PySem.Spec PyProof.Rows L2
section
variable {P : Pl} {S : Stat} {cm : Bool} {n : Nat} {W : WX} {G G' F F' : Addr → Prop} {env env' : Env} {σ : L2.St} {H H' : Hp} {X : Cx} {sc : Scope} {cl : Caller}

/-! ### the arguments of a call -/
inductive ArgsOk (P : Pl) (F : Addr → Prop) (env : Env) (σ : L2.St) (H : Hp) : List Bool → List Opd → List Slot → List V → Prop
  | nil : ArgsOk P F env σ H [] [] [] []
  | val {ms : List Bool} {os : List Opd} {sl : List Slot} {vs : List V} {o : Opd} {d : D} {v : V} : R P F H d v → ArgsOk P F env σ H ms os sl vs → ArgsOk P F env σ H (false :: ms) (o :: os) (.val d :: sl) (v :: vs)
  | own {ms : List Bool} {os : List Opd} {sl : List Slot} {vs : List V} {i : Nat} {d : D} {a : Addr} : env[i]? = some (.own d) → σ[i]? = some (some (.ref a)) → i ∉ lentOf ms os → ArgsOk P F env σ H ms os sl vs →
      ArgsOk P F env σ H (true :: ms) (.slot i :: os) (.own d :: sl) (.ref a :: vs)
theorem ArgsOk.step {ms : List Bool} {os : List Opd} {sl : List Slot} {vs : List V} (st : Step G F H F' H) (h : ArgsOk P F env σ H ms os sl vs) : ArgsOk P F' env σ H ms os sl vs := by
  induction h with
  | nil => exact .nil
  | val r _ ih => exact .val (R.step st r) ih
  | own e1 e2 e3 _ ih => exact .own e1 e2 e3 ih
theorem nodupB_cons {x : Nat} {r : List Nat} (h : nodupB (x :: r) = true) : x ∉ r ∧ nodupB r = true := by
  unfold nodupB at h
  rw [Bool.and_eq_true, Bool.not_eq_true'] at h
  refine ⟨fun z => ?_, h.2⟩
  have := List.contains_iff_mem.mpr z
  rw [this] at h
  cases h.1
theorem lend_ok {os : List Opd} : ∀ {ms : List Bool} {G F : Addr → Prop} {vs : List V} {sl : List Slot}, Rel P G F env σ H → ROs P F env σ H G os vs → lendS env ms os = some sl → nodupB (lentOf ms os) = true →
    ∃ F', Step G F H F' H ∧ Rel P G F' env σ H ∧ ArgsOk P F' env σ H ms os sl vs := by
  induction os with
  | nil =>
    intro ms G F vs sl r h e nd
    cases h
    cases ms with
    | nil => cases e; exact ⟨F, Step.refl .., r, .nil⟩
    | cons m ms => cases m <;> cases e
  | cons o os ih =>
    intro ms G F vs sl r h e nd
    cases h with
    | cons ro t =>
      rename_i v vs
      cases ms with
      | nil => cases e
      | cons m ms =>
        cases m with
        | false =>
          unfold lendS at e
          cases z : o.leak with
          | none => rw [z] at e; cases e
          | some d =>
            rw [z] at e
            cases z2 : lendS env ms os with
            | none => rw [z2] at e; cases e
            | some sl' =>
              rw [z2] at e
              cases e
              obtain ⟨F1, hF, st1, r1, q1⟩ := ro.leak r z
              obtain ⟨F2, st2, r2, q2⟩ := ih r1 (t.shift (G := G) st1.sub (fun a z => (hF a z).imp id .inr) fun a z => .inl z) z2 (by unfold lentOf at nd; cases o <;> exact nd)
              exact ⟨F2, st1.trans st2, r2, .val (R.step st2 q1) q2⟩
        | true =>
          cases o with
          | val d => cases e
          | fresh d => cases e
          | slot i =>
            unfold lendS at e
            split at e
            · rename_i d e1
              cases z2 : lendS env ms os with
              | none => rw [z2] at e; cases e
              | some sl' =>
                rw [z2] at e
                cases e
                obtain ⟨n1, n2⟩ := nodupB_cons (show nodupB (i :: lentOf ms os) = true from nd)
                obtain ⟨F2, st2, r2, q2⟩ := ih r (t.shift (G := G) (fun _ z => z) (fun _ z => .inl z) fun a z => .inl z) z2 n2
                cases ro with
                | slot e2 =>
                  obtain ⟨a, e3, _⟩ := r.ownAt e1
                  rw [e2] at e3
                  cases e3
                  exact ⟨F2, st2, r2, .own e1 e2 n1 q2⟩
            · cases e
/-- whose lists are lent -/
theorem ArgsOk.lent {ms : List Bool} {os : List Opd} {sl : List Slot} {vs : List V} (h : ArgsOk P F env σ H ms os sl vs) : ∀ {j : Nat} {a : Addr}, OwnAt sl (argSt vs) j a → ∃ i, i ∈ lentOf ms os ∧ OwnAt env σ i a := by
  induction h with
  | nil => intro j a z; obtain ⟨⟨d, e⟩, _⟩ := z; simp at e
  | val r _ ih =>
    intro j a z
    cases j with
    | zero => obtain ⟨⟨d, e⟩, _⟩ := z; simp at e
    | succ j =>
      obtain ⟨⟨d, e⟩, e2⟩ := z
      obtain ⟨i, hi, q⟩ := ih (j := j) (a := a) ⟨⟨d, by simpa using e⟩, by simpa [argSt] using e2⟩
      exact ⟨i, by unfold lentOf; first | exact hi | (split <;> simp_all), q⟩
  | own e1 e2 e3 _ ih =>
    rename_i i d b _
    intro j a z
    cases j with
    | zero =>
      obtain ⟨_, e4⟩ := z
      have : b = a := by simpa [argSt] using e4
      subst this
      exact ⟨i, by simp [lentOf], ⟨_, e1⟩, e2⟩
    | succ j =>
      obtain ⟨⟨d, e⟩, e4⟩ := z
      obtain ⟨i', hi, q⟩ := ih (j := j) (a := a) ⟨⟨d, by simpa using e⟩, by simpa [argSt] using e4⟩
      exact ⟨i', by simp [lentOf, hi], q⟩
theorem ArgsOk.apart {ms : List Bool} {os : List Opd} {sl : List Slot} {vs : List V} (h : ArgsOk P F env σ H ms os sl vs) (ap : ∀ i j a, i ≠ j → OwnAt env σ i a → ¬ OwnAt env σ j a) : ∀ {j k : Nat} {a : Addr}, j ≠ k → OwnAt sl (argSt vs) j a → ¬ OwnAt sl (argSt vs) k a := by
  induction h with
  | nil => intro j k a _ z; obtain ⟨⟨d, e⟩, _⟩ := z; simp at e
  | val r _ ih =>
    intro j k a hn z1 z2
    cases j with
    | zero => obtain ⟨⟨d, e⟩, _⟩ := z1; simp at e
    | succ j =>
      cases k with
      | zero => obtain ⟨⟨d, e⟩, _⟩ := z2; simp at e
      | succ k =>
        obtain ⟨⟨d, e⟩, e2⟩ := z1
        obtain ⟨⟨d', e'⟩, e2'⟩ := z2
        exact ih (j := j) (k := k) (a := a) (by omega) ⟨⟨d, by simpa using e⟩, by simpa [argSt] using e2⟩ ⟨⟨d', by simpa using e'⟩, by simpa [argSt] using e2'⟩
  | own e1 e2 e3 t ih =>
    rename_i ms1 os1 sl1 vs1 i d b
    intro j k a hn z1 z2
    have hd : ∀ {m : Nat}, OwnAt (.own d :: sl1) (argSt (.ref b :: vs1)) (m + 1) a → b = a → False := fun {m} z e => by
      subst e
      obtain ⟨⟨d', e'⟩, e2'⟩ := z
      obtain ⟨i', hi, q⟩ := t.lent (j := m) (a := b) ⟨⟨d', by simpa using e'⟩, by simpa [argSt] using e2'⟩
      exact ap i i' b (fun z => e3 (by rw [z]; exact hi)) ⟨⟨_, e1⟩, e2⟩ q
    cases j with
    | zero =>
      cases k with
      | zero => exact hn rfl
      | succ k =>
        obtain ⟨_, e4⟩ := z1
        exact hd z2 (by simpa [argSt] using e4)
    | succ j =>
      cases k with
      | zero =>
        obtain ⟨_, e4⟩ := z2
        exact hd z1 (by simpa [argSt] using e4)
      | succ k =>
        obtain ⟨⟨d, e⟩, e2⟩ := z1
        obtain ⟨⟨d', e'⟩, e2'⟩ := z2
        exact ih (j := j) (k := k) (a := a) (by omega) ⟨⟨d, by simpa using e⟩, by simpa [argSt] using e2⟩ ⟨⟨d', by simpa using e'⟩, by simpa [argSt] using e2'⟩
theorem ArgsOk.len {ms : List Bool} {os : List Opd} {sl : List Slot} {vs : List V} (h : ArgsOk P F env σ H ms os sl vs) : sl.length = vs.length := by
  induction h with
  | nil => rfl
  | val _ _ ih => rw [List.length_cons, List.length_cons, ih]
  | own _ _ _ _ ih => rw [List.length_cons, List.length_cons, ih]
/-- what the callee may not touch: what others own, and our lists that are not lent -/
def keepG (G : Addr → Prop) (env : Env) (σ : L2.St) (ls : List Nat) : Addr → Prop := fun a => G a ∨ ∃ i, i ∉ ls ∧ OwnAt env σ i a
theorem ArgsOk.rel {ms : List Bool} {os : List Opd} {sl : List Slot} {vs : List V} (r : Rel P G F env σ H) (h : ArgsOk P F env σ H ms os sl vs) : Rel P.base (keepG G env σ (lentOf ms os)) F sl (argSt vs) H := by
  have sub : ∀ {sl' : List Slot} {vs' : List V} {ms' : List Bool} {os' : List Opd}, ArgsOk P F env σ H ms' os' sl' vs' → (∀ i, i ∈ lentOf ms' os' → i ∈ lentOf ms os) → ∀ (i : Nat) (s : Slot) (o : Option V), sl'[i]? = some s → (argSt vs')[i]? = some o → SlotR P.base (keepG G env σ (lentOf ms os)) F H s o := by
    intro sl' vs' ms' os' h'
    induction h' with
    | nil => intro _ i s o e; simp at e
    | val q _ ih =>
      intro hs i s o e1 e2
      cases i with
      | zero =>
        have x1 : Slot.val _ = s := Option.some.inj e1
        have x2 : some _ = o := Option.some.inj e2
        subst x1 x2
        exact .val (q.wl _)
      | succ i => exact ih (fun i hi => hs i (by unfold lentOf; first | exact hi | (split <;> simp_all))) i s o (by simpa using e1) (by simpa [argSt] using e2)
    | own e1 e2 e3 _ ih =>
      rename_i i0 d a _
      intro hs i s o x1 x2
      cases i with
      | zero =>
        have x1 : Slot.own d = s := Option.some.inj x1
        have x2 : some (V.ref a) = o := Option.some.inj x2
        subst x1 x2
        obtain ⟨b, y1, y2, y3, y4⟩ := r.ownAt e1
        rw [e2] at y1
        cases y1
        refine .own (y2.wl _) y3 fun z => ?_
        rcases z with z | ⟨j, hj, z⟩
        · exact y4 z
        · exact r.apart i0 j a (fun q => hj (by rw [← q]; exact hs i0 (by simp [lentOf]))) ⟨⟨_, e1⟩, e2⟩ z
      | succ i => exact ih (fun i hi => hs i (by simp [lentOf, hi])) i s o (by simpa using x1) (by simpa [argSt] using x2)
  refine ⟨by rw [h.len]; simp [argSt], sub h fun _ z => z, fun i j a hn => h.apart r.apart hn, r.domF, fun a z => ?_, fun a z q => ?_, fun i a z => nomatch z⟩
  · rcases z with z | ⟨j, _, z⟩
    · exact r.domG a z
    · obtain ⟨d, _, q, _⟩ := r.own_of z
      exact q.some
  · rcases q with q | ⟨j, _, q⟩
    · exact r.disj a z q
    · obtain ⟨d, _, _, n1, _⟩ := r.own_of q
      exact n1 z
/-- what comes back -/
theorem back_ok {F2 : Addr → Prop} {H2 : Hp} {ms : List Bool} {os : List Opd} {sl : List Slot} {vs : List V} (h : ArgsOk P F env σ H ms os sl vs) : ∀ {env0 env' : Env} {outs : List D}, env0.length = env.length → Outs P F2 H2 sl vs outs → back env0 ms os outs = some env' →
    env'.length = env0.length ∧ (∀ i, i ∉ lentOf ms os → env'[i]? = env0[i]?) ∧ (∀ i, i ∈ lentOf ms os → ∃ e a, env'[i]? = some (.own e) ∧ σ[i]? = some (some (.ref a)) ∧ OwnAt env σ i a ∧ Own P F2 H2 e a ∧ ¬ F2 a) := by
  induction h with
  | nil =>
    intro env0 env' outs hl ho e
    cases ho
    cases e
    exact ⟨rfl, fun _ _ => rfl, fun i z => by simp [lentOf] at z⟩
  | val q _ ih =>
    rename_i ms os sl vs o d v _
    intro env0 env' outs hl ho e
    have hle : lentOf (false :: ms) (o :: os) = lentOf ms os := by cases o <;> rfl
    rw [hle]
    cases ho with
    | skip hn ho => exact ih hl ho (by unfold back at e; exact e)
  | own e1 e2 e3 t ih =>
    rename_i ms os sl vs i d a
    intro env0 env' outs hl ho e
    cases ho with
    | skip hn ho => exact absurd rfl (hn d)
    | own q nf ho =>
      rename_i e0 outs
      have hi : i < env0.length := by rw [hl]; exact (List.getElem?_eq_some_iff.mp e1).1
      obtain ⟨z1, z2, z3⟩ := ih (env0 := env0.set i (.own e0)) (by rw [List.length_set]; exact hl) ho (by unfold back at e; exact e)
      refine ⟨by rw [z1, List.length_set], fun j hj => ?_, fun j hj => ?_⟩
      · have hj1 : j ≠ i := fun z => hj (by simp [lentOf, z])
        have hj2 : j ∉ lentOf ms os := fun z => hj (by simp [lentOf, z])
        rw [z2 j hj2, List.getElem?_set_ne (Ne.symm hj1)]
      · have hj : j = i ∨ j ∈ lentOf ms os := by simpa [lentOf] using hj
        rcases hj with rfl | hj
        · exact ⟨e0, a, by rw [z2 j e3, List.getElem?_set_self hi], e2, ⟨⟨d, e1⟩, e2⟩, q, nf⟩
        · exact z3 j hj
theorem Outs.wl {P : Pl} {F : Addr → Prop} {H : Hp} {sl : List Slot} {vs : List V} {outs : List D} (lx : Nat → Option Addr) (h : Outs P F H sl vs outs) : Outs (P.wl lx) F H sl vs outs := by
  induction h with
  | nil => exact .nil
  | own q n _ ih => exact .own (q.wl lx) n ih
  | skip h _ ih => exact .skip h ih
theorem Outs.unbase {P : Pl} {F : Addr → Prop} {H : Hp} {sl : List Slot} {vs : List V} {outs : List D} (h : Outs P.base F H sl vs outs) : Outs P F H sl vs outs := h.wl P.lx
theorem Own.unbase {P : Pl} {F : Addr → Prop} {H : Hp} {d : D} {a : Addr} (h : Own P.base F H d a) : Own P F H d a := h.wl P.lx
theorem R.unbase {P : Pl} {F : Addr → Prop} {H : Hp} {d : D} {v : V} (h : R P.base F H d v) : R P F H d v := h.wl P.lx
theorem RX.unbase {P : Pl} {F : Addr → Prop} {H : Hp} {x : Xn} {c : Value} {d : Option Addr} (h : RX P.base F H x c d) : RX P F H x c d := h.wl P.lx
theorem back_rel {F2 : Addr → Prop} {H2 : Hp} {ms : List Bool} {os : List Opd} {sl : List Slot} {vs : List V} {outs : List D} (r : Rel P G F env σ H) (h : ArgsOk P F env σ H ms os sl vs) (st : Step (keepG G env σ (lentOf ms os)) F H F2 H2)
    (dF : ∀ a, F2 a → H2 a ≠ none) (dj : ∀ a, F2 a → ¬ keepG G env σ (lentOf ms os) a) (ho : Outs P F2 H2 sl vs outs) (e : back env ms os outs = some env') :
    Rel P G F2 env' σ H2 ∧ ∀ i a, OwnAt env' σ i a → OwnAt env σ i a := by
  obtain ⟨z1, z2, z3⟩ := back_ok h rfl ho e
  have old : ∀ i a, OwnAt env' σ i a → OwnAt env σ i a := fun i a z => by
    obtain ⟨⟨d, e1⟩, e2⟩ := z
    by_cases hi : i ∈ lentOf ms os
    · obtain ⟨e, b, _, y2, y3, _⟩ := z3 i hi
      rw [e2] at y2
      cases y2
      exact y3
    · exact ⟨⟨d, by rw [← z2 i hi]; exact e1⟩, e2⟩
  refine ⟨⟨by rw [z1]; exact r.len, fun i s o e1 e2 => ?_, fun i j a hn a1 a2 => r.apart i j a hn (old i a a1) (old j a a2), dF, fun a z => st.there a (r.domG a z), fun a z q => dj a z (.inl q), r.fix⟩, old⟩
  by_cases hi : i ∈ lentOf ms os
  · obtain ⟨e, b, y1, y2, y3, y4, y5⟩ := z3 i hi
    rw [e1] at y1
    cases y1
    rw [e2] at y2
    cases y2
    obtain ⟨_, _, _, _, n2⟩ := r.own_of y3
    exact .own y4 y5 n2
  · have q := r.sl i s o (by rw [← z2 i hi]; exact e1) e2
    cases q with
    | un o => exact .un o
    | val q => exact .val (R.step st q)
    | own q n1 n2 =>
      rename_i d a
      have hk : keepG G env σ (lentOf ms os) a := .inr ⟨i, hi, ⟨⟨d, by rw [← z2 i hi]; exact e1⟩, e2⟩⟩
      exact .own (q.step st hk) (fun z => dj a z hk) n2
    | ex e q => exact .ex e (q.step st)

theorem ArgsOk.mem {ms : List Bool} {os : List Opd} {sl : List Slot} {vs : List V} {i : Nat} {a : Addr} (h : ArgsOk P F env σ H ms os sl vs) (z : OwnAt env σ i a) : i ∈ lentOf ms os → ∃ j, OwnAt sl (argSt vs) j a := by
  induction h with
  | nil => intro hi; simp [lentOf] at hi
  | val q _ ih =>
    rename_i o _ _ _
    intro hi
    obtain ⟨j, ⟨d, e⟩, e2⟩ := ih (by cases o <;> exact hi)
    exact ⟨j + 1, ⟨d, by simpa using e⟩, by simpa [argSt] using e2⟩
  | own e1 e2 e3 t ih =>
    rename_i ms1 os1 sl1 vs1 i0 d0 b
    intro hi
    have hi : i = i0 ∨ i ∈ lentOf ms1 os1 := by simpa [lentOf] using hi
    rcases hi with rfl | hi
    · obtain ⟨_, e4⟩ := z
      rw [e2] at e4
      cases e4
      exact ⟨0, ⟨_, rfl⟩, rfl⟩
    · obtain ⟨j, ⟨d, e⟩, e2⟩ := ih hi
      exact ⟨j + 1, ⟨d, by simpa using e⟩, by simpa [argSt] using e2⟩

theorem pe_callG {CX : CXT} {k : Nat} {f : Addr} {fd : FuncData} {ps : List Str} {sp : Sp} {E : L2.St → XK} {x : Str} {ea : Expr} {es : List Expr} {t : TA} {p pos : Pos} (F : FnG X.prog X.w X.K X.mg X.base CX k f fd ps sp) (fr : Free X.A) (hr : Room k X.A) (hg : Gl X x) (hm : X.mg x = some (.ref f)) (hk : PySem.W.keepIn X.K (.ref f) = true) (hb : Binds X.K fd ps []) (hx : ∀ σ, PassesAt CX X σ (E σ))
    (ha : PA X (ea :: es) t) (hdb : (x == ("__debug__" : Str)) = false) (he : starEach (ea :: es) X.env = (false, eval ea X.env) :: starEach es X.env) (hpl : (backTo pos (starEach es X.env)).any (·.1) = false) : PE X (.Call (.Name x p) (ea :: es) [] pos) (tCallS sp E t) := by
  refine ⟨fun pins s σ H Q I w => wpAny_Call_Name_kw (ld_glob I hg hm ?_ hdb)⟩
  refine PySem.W.callWith_K (h₀ := X.base) I.ok.mod.kin hk (thn (ha.run pos pins s σ H _ I w) fun us s1 ⟨vs, H1, I1, r, q⟩ => ⟨I1.kIn, ?_⟩) he hpl
  exact run_G F fr hr hb (hx σ) I1 r q
theorem pe_callS0 {CX : CXT} {k : Nat} {f : Addr} {fd : FuncData} {ps : List Str} {sp : Sp} {E : L2.St → XK} {x : Str} {p pos : Pos} (F : FnG X.prog X.w X.K X.mg X.base CX k f fd ps sp) (fr : Free X.A) (hr : Room k X.A) (hg : Gl X x) (hm : X.mg x = some (.ref f)) (hk : PySem.W.keepIn X.K (.ref f) = true) (hb : Binds X.K fd ps []) (hx : ∀ σ, PassesAt CX X σ (E σ))
    (hdb : (x == ("__debug__" : Str)) = false) : PE X (.Call (.Name x p) [] [] pos) (tCallS sp E tNil) := by
  refine ⟨fun pins s σ H Q I h => ?_⟩
  refine wpAny_Call_Name_kw (ld_glob I hg hm ?_ hdb)
  exact PySem.W.callWith_K0 I.kIn hk (run_G (us := []) F fr hr hb (hx σ) I .nil h)

/-- the call itself -/
theorem call_run {f : Nat} {ms : List Bool} {os : List Opd} {vs : List V} {Q : VK} (rel : Rel P G F env σ H) (ro : ROs P F env σ H G os vs) (g : GE P W G F σ H Q (callR (callF S.fs n) f ms os env)) : spF P S n f vs H Q (WE W σ) := by
  unfold callR at g
  split at g
  · rename_i nd
    split at g
    · exact g.elim
    · rename_i sl e1
      obtain ⟨F1, st1, r1, ao⟩ := lend_ok rel ro e1 nd
      refine ⟨keepG G env σ (lentOf ms os), F1, sl, ao.rel r1, ?_⟩
      have g := GR.step g st1
      have less : ∀ a, G a → keepG G env σ (lentOf ms os) a := fun a z => .inl z
      cases hc : callF S.fs n f sl with
      | stk => rw [hc] at g; exact g
      | ok d new outs =>
        rw [hc] at g
        obtain ⟨e, e2, g2⟩ := GR.opt g
        intro F2 H2 v st2 dF dj ho hv
        have ho := ho.unbase
        obtain ⟨r2, old⟩ := back_rel r1 ao st2 dF dj ho e2
        refine g2 F2 H2 (st2.less less) r2 v ?_
        cases new with
        | true =>
          obtain ⟨a, rfl, q, n1, n2, n3⟩ := hv
          refine .fresh q.unbase n1 (fun z => n2 (less _ z)) fun i z => ?_
          have z := old i a z
          by_cases hi : i ∈ lentOf ms os
          · -- then it is a parameter's
            obtain ⟨j, hj⟩ := ao.mem z hi
            exact n3 j hj
          · exact n2 (.inr ⟨i, hi, z⟩)
        | false => exact .val (R.unbase hv)
      | exc x outs =>
        rw [hc] at g
        obtain ⟨e, e2, g2⟩ := GR.opt g
        intro F2 H2 cls dd st2 dF dj ho rx
        have ho := ho.unbase
        have rx := rx.unbase
        obtain ⟨r2, old⟩ := back_rel r1 ao st2 dF dj ho e2
        exact g2 F2 H2 cls dd (st2.less less) r2 rx
  · exact g.elim
theorem snd_call (c : Ct P S cm n X W sc) {x : Str} {p pos : Pos} {ea : Expr} {es : List Expr} {args : Es} {f : Nat} {Fd : Fn} {ms : List Bool} (sb : SndA P X W (callF S.fs n) (ea :: es) args) (hc : cm = true) (hf : S.fs[f]? = some Fd) (hx : Fd.name = x) (hg : isGlb sc x = true) (hd : dbg x = true)
    (hs : starEach (ea :: es) X.env = (false, eval ea X.env) :: starEach es X.env) (hs2 : (starEach es X.env).any (·.1) = false) : SndE P X W (callF S.fs n) (.Call (.Name x p) (ea :: es) [] pos) (.call f ms args) := by
  obtain ⟨tb, pb, hb⟩ := sb
  obtain ⟨fd, m1, m2, m3, m4⟩ := c.fo hc f Fd hf
  subst hx
  refine ⟨_, pe_callG (E := WE W) m4 (c.fr hc) (c.rm hc) (c.glb hg) m1 m2 m3 (fun σ => passAt c.tk σ) pb (dbg_ok hd).1 hs (backTo_plain es X.env pos hs2), ?_⟩
  intro G F env σ H Q rel g
  unfold evalE at g
  exact hb G F env σ H _ rel (GR.bind g fun os e F1 H1 st r1 g1 vs ro => call_run r1 ro g1)
theorem snd_call0 (c : Ct P S cm n X W sc) {x : Str} {p pos : Pos} {f : Nat} {Fd : Fn} {ms : List Bool} (hc : cm = true) (hf : S.fs[f]? = some Fd) (hx : Fd.name = x) (hg : isGlb sc x = true) (hd : dbg x = true) : SndE P X W (callF S.fs n) (.Call (.Name x p) [] [] pos) (.call f ms .nil) := by
  obtain ⟨fd, m1, m2, m3, m4⟩ := c.fo hc f Fd hf
  subst hx
  refine ⟨_, pe_callS0 (E := WE W) m4 (c.fr hc) (c.rm hc) (c.glb hg) m1 m2 m3 (fun σ => passAt c.tk σ) (dbg_ok hd).1, ?_⟩
  intro G F env σ H Q rel g
  unfold evalE at g
  unfold evalEs at g
  exact call_run rel (.nil _) g
end
end Pd
set_option autoImplicit false
set_option linter.all false
set_option maxRecDepth 100000
namespace PySem
set_option maxHeartbeats 1000000 in
theorem pd_enum_new {v : Value} {o : Obj} {H : Heap → Prop} (B : Begins v o H) :
    Meets (Builtin.«enumerate.__new__» ⟨[.type "enumerate", v], []⟩) (fun _ R s => H s.heap ∧
      R (.ok (.ret (.ref (s.heap.push o).objs.size))) { s with heap := (s.heap.push o).push { cls := .type "enumerate", data := .fields #[.none, .bool false, .ref s.heap.objs.size, rawInt 0, .none, .none] } }) :=
  .of_wp fun prog w A R s h => by
    obtain ⟨hp, g, d, tk, os⟩ := s; obtain ⟨h1, h⟩ := h
    have hsub := sub_enumerate
    have q1 : ∀ {A' : Around} {E : Value → Shared → Prop} {Q : Value → Shared → Prop}, Q (.ref hp.objs.size) ⟨hp.push o, g, d, tk, os⟩ → wpAny (model prog w) A' (pyIter v) Q E ⟨hp, g, d, tk, os⟩ :=
      fun q => B.iter prog w _ _ ⟨hp, g, d, tk, os⟩ _ h1 q
    wp_walk using q1
    refine wpAny_stack_any fun st => wpAny_pure ?_
    split
    · rename_i c _ _ _ _ _
      cases (c == Value.type "enumerate")
      · wp_walk using q1
        exact ⟨_, rfl, h⟩
      · wp_walk using q1
        exact ⟨_, rfl, h⟩
    · wp_walk using q1
      exact ⟨_, rfl, h⟩
section
variable {prog : Program} {w : World} {A : Around} {E : Value → Shared → Prop} {s : Shared}
theorem pd_enum_begins {v : Value} {o : Obj} {H : Heap → Prop} {Q : Value → Shared → Prop} (B : Begins v o H) (h1 : H s.heap)
    (h : ∀ h', IsEnum h' (s.heap.objs.size + 1) s.heap.objs.size 0 .none → h'.get? s.heap.objs.size = some o → h'.objs.size = s.heap.objs.size + 2 →
      (∀ b o, s.heap.get? b = some o → h'.get? b = some o) → Q (.ref (s.heap.objs.size + 1)) { s with heap := h' }) :
    wpAny (model prog w) A (call (.type "enumerate") [v]) Q E s := by
  refine callType_new F.called_enumerate (by decide) (F.typeCall_enumerate_1 _) (F.newCall_enumerate_1 _) (fun obj => F.args_object_init_2 obj _) F.entry_enumerate_new
    (pd_enum_new B) ⟨h1, ?_⟩
  have hz : (s.heap.push o).objs.size = s.heap.objs.size + 1 := Heap.size_push ..
  show _ ∧ _
  rw [hz]
  have he : IsEnum ((s.heap.push o).push { cls := .type "enumerate", data := .fields #[.none, .bool false, .ref s.heap.objs.size, rawInt 0, .none, .none] }) (s.heap.objs.size + 1) s.heap.objs.size 0 .none := by
    have := Heap.get?_push_size (s.heap.push o) (o := { cls := .type "enumerate", data := .fields #[.none, .bool false, .ref s.heap.objs.size, rawInt 0, .none, .none] }) rfl
    rw [hz] at this; exact this
  refine ⟨⟨_, he, rfl⟩, h _ he (Heap.get?_push_of_some _ (Heap.get?_push_size _ B.free)) (by rw [Heap.size_push, hz]) fun b o x => Heap.get?_push_of_some _ (Heap.get?_push_of_some _ x)⟩
end
end PySem
namespace Pd
open PySem PySem.Spec PyProof.Rows L2
/-- the tuple at a, each item in a new pair -/
def IteT (K : PySem.W.Frag) (a : Addr) : L2.It :=
  ⟨fun i H => ∃ (xs : List V) (x : V), SqT K H a xs ∧ xs[i]? = some x, fun i H v H' => ∃ T x, v = .ref T ∧ H T = none ∧ H' = upd H T (.tup [.int (i : Nat), x]) ∧ ∀ xs, SqT K H a xs → xs[i]? = some x, fun i H => ∃ xs : List V, SqT K H a xs ∧ xs.length ≤ i⟩
theorem turn_enumT {P : Program} {w : World} {K : PySem.W.Frag} {elts : List Expr} {kk : Nat} {tpos : Pos} (a e it : Addr) :
    Turn P w K (.Tuple elts kk tpos) (IteT K a) [e, it] e (fun i h => (∃ old, IsEnum h e it ((i : Nat) : Int) old) ∧ h.IsTupleIter it a i ∧ e ≠ it ∧ a ≠ it ∧ a ≠ e) where
  mem := by simp
  obj := fun i h st b hb => by
    obtain ⟨⟨old, he⟩, ⟨o, ho, hc, hd⟩, _⟩ := st
    have e' : b = e ∨ b = it := by simpa using hb
    rcases e' with z | z
    · rw [z]; exact ⟨_, he, fun v q => nomatch q⟩
    · rw [z]; exact ⟨o, ho, fun v q => by rw [hd] at q; cases q⟩
  keep := fun i h h' st k => let ⟨⟨old, he⟩, hi, hne⟩ := st; ⟨⟨old, k e (by simp) _ he⟩, hi.at fun o q => k it (by simp) o q, hne⟩
  item := by
    intro X hP hw hK hc i pins s σ H E I hf st hg
    subst hP hw hK
    obtain ⟨⟨old, he⟩, hit, hne, hat, hae⟩ := st
    obtain ⟨xs, x, hq, hx⟩ := hg
    obtain ⟨its, rv, p, hz⟩ := I.tuple hq
    obtain ⟨u, hu, ru⟩ := rv.get hx
    have hel : e < s.heap.objs.size := Heap.lt_size he
    have hil : it < s.heap.objs.size := by obtain ⟨_, q, _⟩ := hit; exact Heap.lt_size q
    have hi : i < its.toArray.size := by
      rw [List.size_toArray]
      exact (List.getElem?_eq_some_iff.mp hu).1
    refine wpAny_pyNext_enum_itemD (Draws.tuple (A := X.A.in1) (show X.A.in1.handled = none from I.ok.hd hc) it a hat its.toArray) he ⟨hit, show s.heap.IsTuple a its.toArray from p⟩ hi hne (by simp only [List.mem_cons, List.not_mem_nil, or_false, not_or]; exact ⟨hne, fun z => hae z.symm⟩) fun x' h' tk hx' ho hst' hT hsz hk => ?_
    have hxu : x' = u := by
      have q1 : its[i]? = some x' := by simpa using hx'
      rw [hu] at q1
      exact (Option.some.inj q1).symm
    subst hxu
    refine ⟨_, rfl, wpAny_letOwnedTupleGo_enum (s := { s with heap := h', toks := tk + 1 }) ho fun h'' he' sb => ?_⟩
    have hT2 : h''.get? s.heap.objs.size = some { cls := .type "tuple", data := .seq #[.int i tk, x'] } := (sb.2 _ (Nat.ne_of_gt hel)).trans hT
    have new : ObjOk X.prog X.w (upd H s.heap.objs.size (.tup [.int (i : Nat), x])) h'' s.heap.objs.size (.tup [.int (i : Nat), x]) :=
      ⟨by show 2 ≤ sizeLine; decide, [.int i tk, x'], .cons ⟨_, rfl⟩ (.cons ru .nil), ⟨_, hT2, rfl, _, rfl⟩⟩
    have I1 : Inv X pins σ (upd H s.heap.objs.size (.tup [.int (i : Nat), x])) { s with heap := h'', toks := tk + 1 } :=
      I.turnedNew (ch := [e, it]) (fun b ob hb q => (sb.2 b (fun z => hb (by simp [z]))).trans (hk b ob (fun z => hb (by simp [z])) (fun z => hb (by simp [z])) q)) hf (Nat.le_refl _) new
    refine ⟨.ref s.heap.objs.size, _, I1, rfl, ⟨_, x, rfl, I.hok.fresh (Nat.le_refl _), rfl, fun ys hy => by rw [I.tuple_inj hy hq]; exact hx⟩, ⟨⟨x', ?_⟩, hst'.1.at fun o q => (sb.2 it (Ne.symm hne)).trans q, hne, hat, hae⟩, fun b hb => ?_⟩
    · have e1 : ((i + 1 : Nat) : Int) = (i : Int) + 1 := by omega
      rw [e1]; exact he'
    · have hb' : b < s.heap.objs.size := by
        have e' : b = e ∨ b = it := by simpa using hb
        rcases e' with z | z
        · rw [z]; exact hel
        · rw [z]; exact hil
      rw [upd_ne (Nat.ne_of_lt hb')]
      exact (hf b hb).1
  done := by
    intro X hP hw hK hc i pins s σ H E I hf st hg
    subst hP hw hK
    obtain ⟨⟨old, he⟩, hit, hne, hat, hae⟩ := st
    obtain ⟨xs, hq, hx⟩ := hg
    obtain ⟨its, rv, p, hz⟩ := I.tuple hq
    obtain ⟨f0, f1, f2, f3, f4, f5⟩ := hf it (by simp)
    have hl := rv.length
    have hit2 : s.heap.IsTupleIter it a its.toArray.size ∨ its.toArray.size < i := by
      by_cases z : i = its.toArray.size
      · rw [← z]; exact .inl hit
      · exact .inr (by rw [List.size_toArray] at z ⊢; omega)
    rcases hit2 with hit2 | hlt
    · exact wpAny_pyNext_enum_endD (Draws.tuple (A := X.A.in1) (show X.A.in1.handled = none from I.ok.hd hc) it a hat its.toArray) he ⟨hit2, show s.heap.IsTuple a its.toArray from p⟩ fun h' eb => ⟨rfl, I.turned (t' := s.toks) (fun b o hb q => eb b o hb q) f0 f1 f3 f4 f5⟩
    · refine wpAny_pyNext_enum_endD (n := i) (P := fun _ _ => True) (St := fun j h => h.IsTupleIter it a j ∧ h.IsTuple a its.toArray ∧ i ≤ j) (fp := [it, a]) ?_ he ⟨hit, p, Nat.le_refl _⟩ fun h' eb => ⟨rfl, I.turned (t' := s.toks) (fun b o hb q => eb b o hb q) f0 f1 f3 f4 f5⟩
      refine ⟨fun _ _ st => let ⟨o, ho, _⟩ := st.1; ⟨o, ho⟩, fun _ _ _ st hk => ⟨st.1.at fun o e => hk it (by simp) o e, st.2.1.at fun o e => hk a (by simp) o e, st.2.2⟩, fun j s Q E hj st hQ => absurd st.2.2 (by omega), fun s Q E st hE => ?_⟩
      exact wpAny_nextOf_tuple_end (show X.A.in1.handled = none from I.ok.hd hc) st.1 st.2.1 (Array.getElem?_eq_none (Nat.le_of_lt hlt)) hE
  self := fun A i s Q E st h => let ⟨⟨_, he⟩, _⟩ := st; wpAny_pyIter_enum he h
def iEnumA (K : PySem.W.Frag) (ta : TA) : TI := fun σ H R => ta σ H fun vs H1 => ∃ a xs, vs = [.ref a] ∧ ((SqL K H1 a xs ∧ R (Ite K a) H1) ∨ (SqT K H1 a xs ∧ R (IteT K a) H1))
theorem pi_enumA {X : Cx} {e : Expr} {ta : TA} {p pos tpos : Pos} {elts : List Expr} {kk : Nat} (hg : Gl X "enumerate") (hm : X.mg "enumerate" = none) (ha : PA X [e] ta) (hs : starEach [e] X.env = [(false, eval e X.env)]) :
    PI X (.Tuple elts kk tpos) (.Call (.Name "enumerate" p) [e] [] pos) (iEnumA X.K ta) := by
  refine ⟨fun pins s σ H R I h => ?_⟩
  refine Call_ (ld_blt I hg hm boot_enumerate (PyProof.Rows.callWith_type1 (thn (ha.run pos pins s σ H _ I h) fun us s1 ⟨vs, H1, I1, r1, q1⟩ => ?_) hs rfl))
  obtain ⟨a, xs, ex, hq⟩ := q1
  subst ex
  cases r1 with
  | cons r rr =>
    cases rr
    cases r
    have fp : ∀ b ∈ [s1.heap.objs.size + 1, s1.heap.objs.size], FpOk X pins H1 b := fun b hb => by
      have e' : b = s1.heap.objs.size + 1 ∨ b = s1.heap.objs.size := by simpa using hb
      have hle : s1.heap.objs.size ≤ b := by
        rcases e' with z | z
        · rw [z]; exact Nat.le_add_right _ _
        · rw [z]; exact Nat.le_refl _
      exact I1.fpOk hle (I1.hok.fresh hle)
    rcases hq with ⟨hq, q⟩ | ⟨hq, q⟩
    · obtain ⟨its, rv, p', hz⟩ := I1.list hq
      refine call_enumerate_list p'.isList fun h' he hit hsz hk => wpAny_pyIter_enum he ?_
      have I2 : Inv X pins σ H1 { s1 with heap := h' } := I1.kept (t' := s1.toks) hk
      exact ⟨s1.heap.objs.size + 1, [s1.heap.objs.size + 1, s1.heap.objs.size], _, _, H1, rfl, I2, turn_enum a (s1.heap.objs.size + 1) s1.heap.objs.size, ⟨⟨.none, he⟩, hit, Nat.succ_ne_self _⟩, fp, q⟩
    · obtain ⟨its, rv, p', hz⟩ := I1.tuple hq
      have hal : a < s1.heap.objs.size := p'.lt
      refine pd_enum_begins (begins_tuple a its.toArray) (show s1.heap.IsTuple a its.toArray from p') fun h' he hit hsz hk => wpAny_pyIter_enum he ?_
      have I2 : Inv X pins σ H1 { s1 with heap := h' } := I1.kept (t' := s1.toks) hk
      exact ⟨s1.heap.objs.size + 1, [s1.heap.objs.size + 1, s1.heap.objs.size], _, _, H1, rfl, I2, turn_enumT a (s1.heap.objs.size + 1) s1.heap.objs.size, ⟨⟨.none, he⟩, ⟨_, hit, rfl, rfl⟩, Nat.succ_ne_self _, Nat.ne_of_lt hal, Nat.ne_of_lt (Nat.lt_succ_of_lt hal)⟩, fp, q⟩
end Pd
set_option autoImplicit false
set_option linter.all false
set_option maxRecDepth 100000
set_option maxHeartbeats 1000000
namespace Pd
open PySem PySem.Spec PyProof.Rows L2
section
variable {P : Pl} {S : Stat} {cm : Bool} {n : Nat} {W : WX} {G G' F F' : Addr → Prop} {env env' : Env} {σ : L2.St} {H H' : Hp} {X : Cx} {sc : Scope} {cl : Caller}

/-! ### what a loop walks -/
/-- J gives the values of ds, one a turn, as long as what is shared at F0, H0 stays -/
structure Yields (P : Pl) (J : L2.It) (F0 : Addr → Prop) (H0 : Hp) (ds : List D) : Prop where
  item : ∀ (i : Nat) (d : D), ds[i]? = some d → ∀ (G F : Addr → Prop) (H : Hp) (env : Env) (σ : L2.St), Step (fun _ => False) F0 H0 F H → Rel P G F env σ H → J.go i H ∧ ∀ x H2, J.yld i H x H2 → ∃ F2, Step G F H F2 H2 ∧ Rel P G F2 env σ H2 ∧ R P F2 H2 d x ∧ ∀ a o, H a = some o → H2 a = some o
  stop : ∀ (i : Nat), ds.length ≤ i → ∀ (F : Addr → Prop) (H : Hp), Step (fun _ => False) F0 H0 F H → J.stop i H
theorem Yields.later {J : L2.It} {F0 F1 : Addr → Prop} {H0 H1 : Hp} {ds : List D} (y : Yields P J F0 H0 ds) (st : Step (fun _ => False) F0 H0 F1 H1) : Yields P J F1 H1 ds :=
  ⟨fun i d e G F H env σ s r => y.item i d e G F H env σ (st.trans s) r, fun i h F H s => y.stop i h F H (st.trans s)⟩
/-- a walked thing, shared -/
inductive Seq (P : Pl) (F : Addr → Prop) (H : Hp) : List D → V → Prop
  | lst {a : Addr} {xs : List V} {ds : List D} : F a → H a = some (.lst xs) → Rs P F H ds xs → Seq P F H ds (.ref a)
  | scr {a : Addr} {xs : List V} {ds : List D} : Shs P F H a xs → Rs P F H ds xs → Seq P F H ds (.ref a)
  | tup {a : Addr} {xs : List V} {ds : List D} : Sht P F H a xs → Rs P F H ds xs → Seq P F H ds (.ref a)
  | str {x : Str} : Seq P F H (x.cps.toList.map fun c => .str ⟨#[c]⟩) (.str x)
  | rng {a : Addr} {lo hi : Int} {m : Nat} : F a → H a = some (.rng lo hi) → rngN lo hi = some m → Seq P F H (upto lo m) (.ref a)
theorem Seq.of {o : Opd} {v : V} {ds : List D} (r : Rel P G F env σ H) (h : RO P G F env σ H o v) (e : itemsOf o = some ds) : ∃ F', Step G F H F' H ∧ Rel P G F' env σ H ∧ Seq P F' H ds v ∧ ∀ a, F' a → F a ∨ ((∃ d, o = .fresh d) ∧ v = .ref a) := by
  unfold itemsOf at e
  split at e <;> first | cases e | skip
  · cases h with
    | val q => cases q with | lst s q => exact ⟨F, Step.refl .., r, .lst s.1 s.2 q, fun a z => .inl z⟩
  · cases h with
    | val q => cases q with | tup s q => exact ⟨F, Step.refl .., r, .tup s q, fun a z => .inl z⟩
  · cases h with
    | val q => cases q with | scr s q => exact ⟨F, Step.refl .., r, .scr s q, fun a z => .inl z⟩
  · obtain ⟨F1, h1, h2, h3, h4⟩ := h.leak r rfl
    cases h4 with
    | lst s q => exact ⟨F1, h2, h3, .lst s.1 s.2 q, h1⟩
  · split at e
    · cases e
      cases h with
      | val q => cases q; exact ⟨F, Step.refl .., r, .str, fun a z => .inl z⟩
    · cases e
  · rename_i lo hi
    cases z : rngN lo hi with
    | none => rw [z] at e; cases e
    | some m =>
      rw [z] at e
      cases e
      cases h with
      | val q => cases q with | rng f q => exact ⟨F, Step.refl .., r, .rng f q z, fun a z => .inl z⟩
theorem Seq.step {v : V} {ds : List D} (st : Step G F H F' H') (h : Seq P F H ds v) : Seq P F' H' ds v := by
  cases h with
  | lst f e r => exact .lst (st.sub _ f) (st.keep _ _ (.inl f) e) (Rs.step st r)
  | scr s r => exact .scr (Shs.step st s) (Rs.step st r)
  | tup s r => exact .tup (Sht.step st s) (Rs.step st r)
  | str => exact .str
  | rng f e r => exact .rng (st.sub _ f) (st.keep _ _ (.inl f) e) r
/-- what the walk of a sequence's value is -/
def iSeq (K : PySem.W.Frag) (tl : TE) : TI := fun σ H R => tl σ H fun x H1 => (∃ a, x = .ref a ∧ (∃ xs, SqL K H1 a xs) ∧ R (Itl K a) H1) ∨ (∃ a, x = .ref a ∧ (∃ xs, SqT K H1 a xs) ∧ R (Itt K a) H1) ∨ (∃ s, x = .str s ∧ R (Its s) H1) ∨ ∃ a lo hi, x = .ref a ∧ H1 a = some (.rng lo hi) ∧ -(2 ^ 62) ≤ lo ∧ lo < 2 ^ 62 ∧ -(2 ^ 62) ≤ hi ∧ hi < 2 ^ 62 ∧ R (Itr lo (hi - lo).toNat) H1
theorem pi_seq {tg l : Expr} {tl : TE} (hl : PE X l tl) : PI X tg l (iSeq X.K tl) := by
  refine ⟨fun pins s σ H R I h => ?_⟩
  refine thn (hl.run pins s σ H _ I h) fun v s1 ⟨x, H1, I1, r1, q1⟩ => ?_
  rcases q1 with ⟨a, e, ⟨xs, hq⟩, q⟩ | ⟨a, e, ⟨xs, hq⟩, q⟩ | ⟨z, e, q⟩ | ⟨a, lo, hi, e, hr, h1, h2, h3, h4, q⟩
  · subst e
    cases r1
    obtain ⟨its, rv, p, hz⟩ := I1.list hq
    refine wpAny_pyIter_list p.isList ?_
    refine ⟨s1.heap.objs.size, [s1.heap.objs.size], _, _, H1, rfl, I1.kept (t' := s1.toks) fun b o e => Heap.get?_push_of_some _ e, turn_list a _, ⟨_, Heap.get?_push_size _ rfl, rfl, rfl⟩, fun b hb => ?_, q⟩
    have e : b = s1.heap.objs.size := by simpa using hb
    subst e
    exact I1.fpOk (Nat.le_refl _) (I1.hok.fresh (Nat.le_refl _))
  · subst e
    cases r1
    obtain ⟨its, rv, p, hz⟩ := I1.tuple hq
    refine wpAny_pyIter_tuple (show s1.heap.IsTuple a its.toArray from p) ?_
    refine ⟨s1.heap.objs.size, [s1.heap.objs.size], _, _, H1, rfl, I1.kept (t' := s1.toks) fun b o e => Heap.get?_push_of_some _ e, turn_tuple a _, ⟨_, Heap.get?_push_size _ rfl, rfl, rfl⟩, fun b hb => ?_, q⟩
    have e : b = s1.heap.objs.size := by simpa using hb
    subst e
    exact I1.fpOk (Nat.le_refl _) (I1.hok.fresh (Nat.le_refl _))
  · subst e
    obtain ⟨t, rfl⟩ := r1
    cases ha : z.cps.all (· < 128)
    · exact wpAny_pyIter_wide ha (pi_one (tk := s1.toks) I1 _ (turn_str _ z t "str_iterator" (.inr rfl)) ⟨_, Heap.get?_push_size _ rfl, rfl, rfl⟩ q)
    · exact wpAny_pyIter_ascii ha (pi_one (tk := s1.toks) I1 _ (turn_str _ z t "str_ascii_iterator" (.inl rfl)) ⟨_, Heap.get?_push_size _ rfl, rfl, rfl⟩ q)
  · subst e
    cases r1
    obtain ⟨t, u, v, ho⟩ := I1.hok a _ hr
    refine wpAny_pyIter_range ho (small_one h1 h2 h3 h4) ?_
    refine ⟨s1.heap.objs.size, [s1.heap.objs.size], _, _, H1, rfl, I1.kept (t' := s1.toks) fun b o e => Heap.get?_push_of_some _ e, turn_range _ lo (hi - lo).toNat, ?_, fun b hb => ?_, q⟩
    · have e1 : lo + ((0 : Nat) : Int) * 1 = lo := by simp
      have e2 : (((hi - lo).toNat : Nat) : Int) - ((0 : Nat) : Int) = Builtin.Range.rangeSize lo hi 1 := by rw [rangeSize_one]; split <;> omega
      show IsRangeIter _ _ (lo + ((0 : Nat) : Int) * 1) ((((hi - lo).toNat : Nat) : Int) - ((0 : Nat) : Int)) 1
      rw [e1, e2]
      exact Heap.get?_push_size _ rfl
    · have e : b = s1.heap.objs.size := by simpa using hb
      subst e
      exact I1.fpOk (Nat.le_refl _) (I1.hok.fresh (Nat.le_refl _))
theorem upto_get : ∀ (n : Nat) (lo : Int) (i : Nat), (upto lo n)[i]? = if i < n then some (.int (lo + i)) else none
  | 0, lo, i => by simp [upto]
  | n + 1, lo, 0 => by simp [upto]
  | n + 1, lo, i + 1 => by
    show (upto (lo + 1) n)[i]? = _
    rw [upto_get n (lo + 1) i]
    have : lo + 1 + (i : Int) = lo + ((i + 1 : Nat) : Int) := by omega
    rw [this]
    by_cases h : i < n
    · rw [if_pos h, if_pos (by omega)]
    · rw [if_neg h, if_neg (by omega)]
theorem upto_len : ∀ (n : Nat) (lo : Int), (upto lo n).length = n
  | 0, lo => rfl
  | n + 1, lo => by show (upto (lo + 1) n).length + 1 = _; rw [upto_len n]
theorem stepto_get : ∀ (n : Nat) (lo c : Int) (i : Nat), (stepto lo c n)[i]? = if i < n then some (.int (lo + i * c)) else none
  | 0, lo, c, i => by simp [stepto]
  | n + 1, lo, c, 0 => by simp [stepto]
  | n + 1, lo, c, i + 1 => by
    show (stepto (lo + c) c n)[i]? = _
    rw [stepto_get n (lo + c) c i]
    have : lo + c + (i : Int) * c = lo + ((i + 1 : Nat) : Int) * c := by
      rw [Int.natCast_add, Int.add_mul]; omega
    rw [this]
    by_cases h : i < n
    · rw [if_pos h, if_pos (by omega)]
    · rw [if_neg h, if_neg (by omega)]
theorem stepto_len : ∀ (n : Nat) (lo c : Int), (stepto lo c n).length = n
  | 0, lo, c => rfl
  | n + 1, lo, c => by show (stepto (lo + c) c n).length + 1 = _; rw [stepto_len n]
theorem rng_yields (lo : Int) (m : Nat) : Yields P (Itr lo m) F H (upto lo m) := by
  refine ⟨fun i d e G F1 H1 env σ st rel => ?_, fun i hi F1 H1 st => by rw [upto_len] at hi; exact hi⟩
  rw [upto_get] at e
  split at e
  · rename_i hi
    cases e
    refine ⟨hi, fun x H2 y => ?_⟩
    obtain ⟨rfl, rfl⟩ := y
    exact ⟨F1, Step.refl .., rel, .int _, fun _ _ z => z⟩
  · cases e
theorem rngN_some {lo hi : Int} {m : Nat} (h : rngN lo hi = some m) : (-(2 ^ 62) ≤ lo ∧ lo < 2 ^ 62 ∧ -(2 ^ 62) ≤ hi ∧ hi < 2 ^ 62) ∧ m = (hi - lo).toNat := by
  unfold rngN at h
  split at h
  · rename_i z
    cases h
    exact ⟨by omega, rfl⟩
  · cases h
/-- a list or tuple is walked item by item -/
theorem Seq.yields {K : PySem.W.Frag} (hK : K = P.K) {v : V} {ds : List D} (h : Seq P F H ds v) : (∃ a, v = .ref a ∧ (∃ xs, SqL K H a xs) ∧ Yields P (Itl K a) F H ds) ∨ (∃ a, v = .ref a ∧ (∃ xs, SqT K H a xs) ∧ Yields P (Itt K a) F H ds) ∨ (∃ s, v = .str s ∧ Yields P (Its s) F H ds) ∨ ∃ a lo hi, v = .ref a ∧ H a = some (.rng lo hi) ∧ -(2 ^ 62) ≤ lo ∧ lo < 2 ^ 62 ∧ -(2 ^ 62) ≤ hi ∧ hi < 2 ^ 62 ∧ Yields P (Itr lo (hi - lo).toNat) F H ds := by
  subst hK
  have lstY : ∀ {a : Addr} {xs : List V}, (∀ (F1 : Addr → Prop) (Hz : Hp), Step (fun _ => False) F H F1 Hz → SqL P.K Hz a xs) → Rs P F H ds xs → Yields P (Itl P.K a) F H ds := by
    intro a xs hs r
    refine ⟨fun i d e G F1 H1 env σ st rel => ?_, fun i hi F1 H1 st => ⟨xs, hs F1 H1 st, by rw [← r.length]; exact hi⟩⟩
    obtain ⟨v, e1, q⟩ := r.get e
    refine ⟨⟨xs, v, hs F1 H1 st, e1⟩, fun x H2 y => ?_⟩
    obtain ⟨eH, y⟩ := y
    subst eH
    have e2 := y xs (hs F1 _ st)
    rw [e1] at e2
    cases e2
    exact ⟨F1, Step.refl .., rel, R.step st q, fun _ _ z => z⟩
  cases h with
  | lst f e r => exact .inl ⟨_, rfl, ⟨_, SqL.of e⟩, lstY (fun F1 H1 st => SqL.of (st.keep _ _ (.inl f) e)) r⟩
  | scr s r => exact .inl ⟨_, rfl, ⟨_, s.sq⟩, lstY (fun F1 H1 st => (Shs.step st s).sq) r⟩
  | tup s r =>
    rename_i a xs
    refine .inr (.inl ⟨a, rfl, ⟨_, s.sq⟩, ⟨fun i d e G F1 H1 env σ st rel => ?_, fun i hi F1 H1 st => ⟨xs, (Sht.step st s).sq, by rw [← r.length]; exact hi⟩⟩⟩)
    obtain ⟨v, e1, q⟩ := r.get e
    refine ⟨⟨xs, v, (Sht.step st s).sq, e1⟩, fun x H2 y => ?_⟩
    obtain ⟨eH, y⟩ := y
    subst eH
    have e2 := y xs (Sht.step st s).sq
    rw [e1] at e2
    cases e2
    exact ⟨F1, Step.refl .., rel, R.step st q, fun _ _ z => z⟩
  | str =>
    rename_i x
    refine .inr (.inr (.inl ⟨x, rfl, ⟨fun i d e G F1 H1 env σ st rel => ?_, fun i hi F1 H1 st => by show x.cps.size ≤ i; simpa using hi⟩⟩))
    rw [List.getElem?_map] at e
    cases z : x.cps.toList[i]? with
    | none => rw [z] at e; cases e
    | some c =>
      rw [z] at e
      cases e
      have z' : x.cps[i]? = some c := by simpa using z
      refine ⟨by show i < x.cps.size; have := (List.getElem?_eq_some_iff.mp z).1; simpa using this, fun x' H2 y => ?_⟩
      obtain ⟨rfl, c', e1, rfl⟩ := y
      rw [z'] at e1
      cases e1
      exact ⟨F1, Step.refl .., rel, .str _, fun _ _ z => z⟩
  | rng f e r =>
    obtain ⟨⟨b1, b2, b3, b4⟩, rfl⟩ := rngN_some r
    exact .inr (.inr (.inr ⟨_, _, _, rfl, e, b1, b2, b3, b4, rng_yields _ _⟩))
theorem pair_yield {d e : D} {x y : V} {T : Addr} (rel : Rel P G F env σ H) (h : H T = none) (r1 : R P F H d x) (r2 : R P F H e y) :
    ∃ F2, Step G F H F2 (upd H T (.tup [x, y])) ∧ Rel P G F2 env σ (upd H T (.tup [x, y])) ∧ R P F2 (upd H T (.tup [x, y])) (.tup [d, e]) (.ref T) ∧ ∀ a o, H a = some o → upd H T (.tup [x, y]) a = some o := by
  have e1 : upd H T (.tup [x, y]) T = some (.tup [x, y]) := upd_same
  have r3 : Rel P G F env σ (upd H T (.tup [x, y])) := rel.same (same_new h)
  have st : Step G F H (fun a => F a ∨ a = T) (upd H T (.tup [x, y])) := (Step.same (same_new h)).trans (Step.grow fun _ z => .inl z)
  exact ⟨_, st, r3.share T (by rw [e1]; exact fun z => nomatch z) (rel.newG h) (rel.notOwn h), .tup (.inl ⟨.inr rfl, .inl e1⟩) (.cons (R.step st r1) (.cons (R.step st r2) .nil)), same_new h⟩
theorem enumL_get : ∀ (ds : List D) (k : Int) (i : Nat), (enumL k ds)[i]? = ds[i]?.map fun d => .tup [.int (k + i), d]
  | [], k, i => by simp [enumL]
  | d :: ds, k, 0 => by simp [enumL]
  | d :: ds, k, i + 1 => by
    show (enumL (k + 1) ds)[i]? = ds[i]?.map _
    rw [enumL_get ds (k + 1) i]
    have : k + 1 + (i : Int) = k + ((i + 1 : Nat) : Int) := by omega
    rw [this]
theorem enumL_len : ∀ (ds : List D) (k : Int), (enumL k ds).length = ds.length
  | [], k => rfl
  | d :: ds, k => by show (enumL (k + 1) ds).length + 1 = ds.length + 1; rw [enumL_len ds]
theorem enum_yields {K : PySem.W.Frag} (hK : K = P.K) {a : Addr} {xs : List V} {ds : List D} (r : Rs P F H ds xs) (h : Sht P F H a xs ∨ (F a ∧ (H a = some (.lst xs) ∨ ∃ ob, H a = some (.frz ob (.lst xs))))) : (SqL K H a xs ∧ Yields P (Ite K a) F H (enumL 0 ds)) ∨ (SqT K H a xs ∧ Yields P (IteT K a) F H (enumL 0 ds)) := by
  subst hK
  have lstY : ∀ {a : Addr} {xs : List V}, (∀ (F1 : Addr → Prop) (Hz : Hp), Step (fun _ => False) F H F1 Hz → SqL P.K Hz a xs) → Rs P F H ds xs → Yields P (Ite P.K a) F H (enumL 0 ds) := by
    intro a xs hs r
    refine ⟨fun i d e G F1 H1 env σ st rel => ?_, fun i hi F1 H1 st => ⟨xs, hs F1 H1 st, by rw [enumL_len] at hi; rw [← r.length]; exact hi⟩⟩
    rw [enumL_get] at e
    cases z : ds[i]? with
    | none => rw [z] at e; cases e
    | some d0 =>
      rw [z] at e
      cases e
      obtain ⟨v, e1, q⟩ := r.get z
      refine ⟨⟨xs, v, hs F1 H1 st, e1⟩, fun x H2 y => ?_⟩
      obtain ⟨T, x0, rfl, hT, rfl, y⟩ := y
      have e2 := y xs (hs F1 H1 st)
      rw [e1] at e2
      cases e2
      have := pair_yield rel hT (.int (i : Nat)) (R.step st q)
      rw [Int.zero_add]
      exact this
  rcases h with s | ⟨f, e | ⟨ob, e⟩⟩
  · refine .inr ⟨s.sq, ⟨fun i d e G F1 H1 env σ st rel => ?_, fun i hi F1 H1 st => ⟨xs, (Sht.step st s).sq, by rw [enumL_len] at hi; rw [← r.length]; exact hi⟩⟩⟩
    rw [enumL_get] at e
    cases z : ds[i]? with
    | none => rw [z] at e; cases e
    | some d0 =>
      rw [z] at e
      cases e
      obtain ⟨v, e1, q⟩ := r.get z
      refine ⟨⟨xs, v, (Sht.step st s).sq, e1⟩, fun x H2 y => ?_⟩
      obtain ⟨T, x0, rfl, hT, rfl, y⟩ := y
      have e2 := y xs (Sht.step st s).sq
      rw [e1] at e2
      cases e2
      have := pair_yield rel hT (.int (i : Nat)) (R.step st q)
      rw [Int.zero_add]
      exact this
  · exact .inl ⟨SqL.of e, lstY (fun F1 H1 st => SqL.of (st.keep _ _ (.inl f) e)) r⟩
  · exact .inl ⟨.inl (.inr ⟨_, e⟩), lstY (fun F1 H1 st => .inl (.inr ⟨_, st.keep _ _ (.inl f) e⟩)) r⟩
theorem rngC_yields (lo c : Int) (m : Nat) : Yields P (Itc lo c m) F H (stepto lo c m) := by
  refine ⟨fun i d e G F1 H1 env σ st rel => ?_, fun i hi F1 H1 st => by rw [stepto_len] at hi; exact hi⟩
  rw [stepto_get] at e
  split at e
  · rename_i hi
    cases e
    refine ⟨hi, fun x H2 y => ?_⟩
    obtain ⟨rfl, rfl⟩ := y
    exact ⟨F1, Step.refl .., rel, .int _, fun _ _ z => z⟩
  · cases e
end
end Pd
set_option autoImplicit false
set_option linter.all false
set_option maxRecDepth 100000
set_option maxHeartbeats 1000000
namespace Pd
open PySem PySem.Spec PyProof.Rows L2
section
variable {P : Pl} {S : Stat} {cm : Bool} {n : Nat} {W : WX} {G G' F F' : Addr → Prop} {env env' : Env} {σ : L2.St} {H H' : Hp} {X : Cx} {sc : Scope} {cl : Caller}

/-- what may be walked -/
def SndI (P : Pl) (X : Cx) (W : WX) (cl : Caller) (tg iter : Expr) (c : It) : Prop :=
  ∃ wi, PI X tg iter wi ∧ ∀ G F env σ H (R : L2.It → Hp → Prop), Rel P G F env σ H → GR P W G F σ H (fun ds env' F' H' => ∀ F1 J, Step G F' H' F1 H' → Rel P G F1 env' σ H' → Yields P J F1 H' ds → R J H') (evalI cl c env) → wi σ H R
theorem snd_iseq (c : Ct P S cm n X W sc) {tg ea : Expr} {a : E} (sa : SndE P X W cl ea a) : SndI P X W cl tg ea (.plain a) := by
  obtain ⟨ta, pa, ha⟩ := sa
  refine ⟨_, pi_seq pa, ?_⟩
  intro G F env σ H R rel g
  unfold evalI at g
  refine ha G F env σ H _ rel (GR.bind g fun x e1 F1 H1 st r1 g1 vx ox => ?_)
  obtain ⟨ds, e3, g3⟩ := GR.opt1 g1
  obtain ⟨F2, st2, r2, sq, _⟩ := Seq.of r1 ox e3
  rcases sq.yields (K := X.K) c.hK with ⟨a, e, h, y⟩ | ⟨a, e, h, y⟩ | ⟨s, e, y⟩ | ⟨a, lo, hi, e, h, b1, b2, b3, b4, y⟩
  · exact .inl ⟨a, e, h, g3 F1 H1 (Step.refl ..) r1 F2 _ st2 r2 y⟩
  · exact .inr (.inl ⟨a, e, h, g3 F1 H1 (Step.refl ..) r1 F2 _ st2 r2 y⟩)
  · exact .inr (.inr (.inl ⟨s, e, g3 F1 H1 (Step.refl ..) r1 F2 _ st2 r2 y⟩))
  · exact .inr (.inr (.inr ⟨a, lo, hi, e, h, b1, b2, b3, b4, g3 F1 H1 (Step.refl ..) r1 F2 _ st2 r2 y⟩))
theorem snd_rng1 (c : Ct P S cm n X W sc) {tg ea : Expr} {p pos : Pos} {a : E} (sa : SndE P X W cl ea a) (hg : isGlb sc "range" = true) (hm : Str.ofString "range" ∈ S.bl) (hs : starEach [ea] X.env = [(false, eval ea X.env)]) : SndI P X W cl tg (.Call (.Name "range" p) [ea] [] pos) (.rng1 a) := by
  obtain ⟨ta, pa, ha⟩ := sa
  refine ⟨_, pi_range1 (c.glb hg) (c.bl _ hm) (pa_cons pa pa_nil hs) hs, ?_⟩
  intro G F env σ H R rel g
  unfold evalI at g
  refine ha G F env σ H _ rel (GR.bind g fun x e1 F1 H1 st r1 g1 vx ox => ?_)
  cases ox with
  | fresh q _ _ _ => exact g1.elim
  | slot e => exact g1.elim
  | val q =>
    cases q with
    | int j =>
      obtain ⟨m, e3, g3⟩ := GR.opt g1
      obtain ⟨b, em⟩ := rngN_some e3
      refine ⟨j, rfl, b.2.2.1, b.2.2.2, ?_⟩
      have := g3 F1 H1 (Step.refl ..) r1 F1 _ (Step.refl ..) r1 (rng_yields 0 m)
      rw [em, Int.sub_zero] at this
      exact this
    | _ => exact g1.elim
theorem snd_rng2 (c : Ct P S cm n X W sc) {tg ea eb : Expr} {p pos : Pos} {a b : E} (sa : SndE P X W cl ea a) (sb : SndE P X W cl eb b) (hg : isGlb sc "range" = true) (hm : Str.ofString "range" ∈ S.bl) (hs : starEach [ea, eb] X.env = [(false, eval ea X.env), (false, eval eb X.env)])
    (hs2 : starEach [eb] X.env = [(false, eval eb X.env)]) : SndI P X W cl tg (.Call (.Name "range" p) [ea, eb] [] pos) (.rng2 a b) := by
  obtain ⟨ta, tb, pa, pb, h⟩ := two sa sb
  refine ⟨_, pi_range2 (c.glb hg) (c.bl _ hm) (pa_cons pa (pa_cons pb pa_nil hs2) (by rw [hs, hs2])) hs hs2, ?_⟩
  intro G F env σ H R rel g
  unfold evalI at g
  refine h _ _ _ G F env σ H rel g fun x y e2 F2 H2 vx vy st r2 r2' ox oy g2 => ?_
  cases ox with
  | fresh q _ _ _ => exact g2.elim
  | slot e => exact g2.elim
  | val q =>
    cases oy with
    | fresh q' _ _ _ => cases q <;> exact g2.elim
    | slot e => cases q <;> exact g2.elim
    | val q' =>
      cases q with
      | int i =>
        cases q' with
        | int j =>
          obtain ⟨m, e3, g3⟩ := GR.opt g2
          obtain ⟨b, em⟩ := rngN_some e3
          refine ⟨i, j, rfl, b, ?_⟩
          have := g3 F2 H2 (Step.refl ..) r2 F2 _ (Step.refl ..) r2 (rng_yields i m)
          rw [em] at this
          exact this
        | _ => exact g2.elim
      | _ => cases q' <;> exact g2.elim
theorem three {ea eb ec : Expr} {a b d : E} (sa : SndE P X W cl ea a) (sb : SndE P X W cl eb b) (sd : SndE P X W cl ec d) : ∃ ta tb tc, PE X ea ta ∧ PE X eb tb ∧ PE X ec tc ∧
    ∀ {β : Type} (C : β → Env → (Addr → Prop) → Hp → Prop) (k : Opd → Opd → Opd → Env → Res β) (Rr : V → V → V → Hp → Prop) G F env σ H, Rel P G F env σ H →
      GR P W G F σ H C ((evalE cl a env).bind fun x e1 => (evalE cl b e1).bind fun y e2 => (evalE cl d e2).bind fun z e3 => k x y z e3) →
      (∀ x y z e2 F2 H2 vx vy vz, Step G F H F2 H2 → Rel P G F2 e2 σ H2 → RO P G F2 e2 σ H2 x vx → RO P G F2 e2 σ H2 y vy → RO P G F2 e2 σ H2 z vz → GR P W G F2 σ H2 C (k x y z e2) → Rr vx vy vz H2) →
      ta σ H fun vx H1 => tb σ H1 fun vy H2 => tc σ H2 fun vz H3 => Rr vx vy vz H3 := by
  obtain ⟨ta, tb, pa, pb, h⟩ := two sa sb
  obtain ⟨tc, pc, hc⟩ := sd
  refine ⟨ta, tb, tc, pa, pb, pc, ?_⟩
  intro β C k Rr G F env σ H r g hk
  refine h C (fun x y e2 => (evalE cl d e2).bind fun z e3 => k x y z e3) _ G F env σ H r g fun x y e2 F2 H2 vx vy st r2 r2' ox oy g2 => ?_
  refine hc (pendG (pendG G x vx) y vy) F2 e2 σ H2 _ (r2'.pend oy) (GR.more (GR.bind g2 fun z e3 F3 H3 st3 r3 g3 => g3) (fun a z => pend_sub a (pend_sub a z)) fun z e3 F3 H3 st3 r3 g3 vz oz => ?_)
  have sub : ∀ a, G a → pendG (pendG G x vx) y vy a := fun a z => pend_sub a (pend_sub a z)
  have st3' : Step (pendG G x vx) F2 H2 F3 H3 := st3.less pend_sub
  have r3' : Rel P (pendG G x vx) F3 e3 σ H3 := r3.less pend_sub
  exact hk x y z e3 F3 H3 vx vy vz (st.trans (st3.less sub)) (r3.less sub) (ox.stay st3' r3') ((oy.stay st3 r3).less pend_sub) (oz.less sub) g3
theorem stepN_eq (lo hi k : Int) (hk : k ≠ 0) : Builtin.Range.rangeSize lo hi k = stepN lo hi k := by
  unfold Builtin.Range.rangeSize stepN
  have nn : (0 : Int) ≤ (if k > 0 then (if lo < hi then (hi - lo - 1) / k + 1 else 0) else (if lo > hi then (lo - hi - 1) / (-k) + 1 else 0)) := by
    split
    · split
      · have := Int.ediv_nonneg (a := hi - lo - 1) (b := k) (by omega) (by omega); omega
      · omega
    · split
      · have := Int.ediv_nonneg (a := lo - hi - 1) (b := -k) (by omega) (by omega); omega
      · omega
  exact (Int.toNat_of_nonneg nn).symm
theorem rngC_some {lo hi k : Int} {m : Nat} (h : rngC lo hi k = some m) : RgC lo hi k m := by
  unfold rngC at h
  split at h
  · rename_i z
    cases h
    obtain ⟨z1, z2, z3, z4, z5, z6, z7⟩ := z
    have hs := stepN_eq lo hi k z5
    refine ⟨z5, by omega, ?_, hs⟩
    have hc : (stepN lo hi k : Int) ≤ 1000000 := by have : cap = 1000000 := rfl; omega
    unfold Builtin.Range.small
    rw [hs]
    simp only [Builtin.Range.rangeFitsLong, Bool.and_eq_true, Bool.or_eq_true, decide_eq_true_eq, beq_iff_eq]
    refine ⟨⟨⟨⟨by omega, by omega⟩, by omega⟩, by omega⟩, .inr ?_⟩
    split <;> (simp only [Bool.and_eq_true, decide_eq_true_eq]; omega)
  · cases h
theorem snd_rng3 (c : Ct P S cm n X W sc) {tg ea eb ec : Expr} {p pos : Pos} {a b d : E} (sa : SndE P X W cl ea a) (sb : SndE P X W cl eb b) (sd : SndE P X W cl ec d) (hg : isGlb sc "range" = true) (hm : Str.ofString "range" ∈ S.bl)
    (hs : starEach [ea, eb, ec] X.env = [(false, eval ea X.env), (false, eval eb X.env), (false, eval ec X.env)]) (hs2 : starEach [eb, ec] X.env = [(false, eval eb X.env), (false, eval ec X.env)]) (hs3 : starEach [ec] X.env = [(false, eval ec X.env)]) :
    SndI P X W cl tg (.Call (.Name "range" p) [ea, eb, ec] [] pos) (.rng3 a b d) := by
  obtain ⟨ta, tb, tc, pa, pb, pc, h⟩ := three sa sb sd
  refine ⟨_, pi_range3 (c.glb hg) (c.bl _ hm) (pa_cons pa (pa_cons pb (pa_cons pc pa_nil hs3) (by rw [hs2, hs3])) (by rw [hs, hs2])) (by rw [hs, hs2]) (by rw [hs2]; rfl) , ?_⟩
  intro G F env σ H R rel g
  unfold evalI at g
  refine h _ _ _ G F env σ H rel g fun x y z e2 F2 H2 vx vy vz st r2 ox oy oz g2 => ?_
  have key : ∃ i j k m, vx = .int i ∧ vy = .int j ∧ vz = .int k ∧ rngC i j k = some m ∧ R (Itc i k m) H2 := by
    cases ox with
    | fresh q _ _ _ => exact g2.elim
    | slot e => exact g2.elim
    | val q =>
      cases oy with
      | fresh q' _ _ _ => cases q <;> exact g2.elim
      | slot e => cases q <;> exact g2.elim
      | val q' =>
        cases oz with
        | fresh q'' _ _ _ => cases q <;> cases q' <;> exact g2.elim
        | slot e => cases q <;> cases q' <;> exact g2.elim
        | val q'' =>
          cases q with
          | int i =>
            cases q' with
            | int j =>
              cases q'' with
              | int k =>
                obtain ⟨m, e3, g3⟩ := GR.opt g2
                exact ⟨i, j, k, m, rfl, rfl, rfl, e3, g3 F2 H2 (Step.refl ..) r2 F2 _ (Step.refl ..) r2 (rngC_yields i k m)⟩
              | _ => exact g2.elim
            | _ => cases q'' <;> exact g2.elim
          | _ => cases q' <;> cases q'' <;> exact g2.elim
  obtain ⟨i, j, k, m, rfl, rfl, rfl, e, q⟩ := key
  exact ⟨i, j, k, m, rfl, rngC_some e, q⟩
/-- a sequence's kind is told by the operand's -/
theorem Seq.kind {o : Opd} {v : V} {ds : List D} (r : Rel P G F env σ H) (h : RO P G F env σ H o v) (e : itemsOf o = some ds) (hs : isStrO o = false) : ∃ F', Step G F H F' H ∧ Rel P G F' env σ H ∧ (∀ a, F' a → F a ∨ ((∃ d, o = .fresh d) ∧ v = .ref a)) ∧
    ∃ a xs, v = .ref a ∧ Rs P F' H ds xs ∧ ((isTupO o = true ∧ Sht P F' H a xs) ∨ (isTupO o = false ∧ F' a ∧ (H a = some (.lst xs) ∨ ∃ ob, H a = some (.frz ob (.lst xs))))) := by
  unfold itemsOf at e
  split at e <;> first | cases e | skip
  · cases h with
    | val q => cases q with | lst s q => exact ⟨F, Step.refl .., r, fun a z => .inl z, _, _, rfl, q, .inr ⟨rfl, s.1, .inl s.2⟩⟩
  · cases h with
    | val q => cases q with | tup s q => exact ⟨F, Step.refl .., r, fun a z => .inl z, _, _, rfl, q, .inl ⟨rfl, s⟩⟩
  · cases hs
  · obtain ⟨F1, h1, h2, h3, h4⟩ := h.leak r rfl
    cases h4 with
    | lst s q => exact ⟨F1, h2, h3, h1, _, _, rfl, q, .inr ⟨rfl, s.1, .inl s.2⟩⟩
  · cases hs
  · cases hs
theorem snd_enum (c : Ct P S cm n X W sc) {ea : Expr} {elts : List Expr} {kk : Nat} {p pos tpos : Pos} {a : E} (sa : SndE P X W cl ea a) (hg : isGlb sc "enumerate" = true) (hm : Str.ofString "enumerate" ∈ S.bl) (hs : starEach [ea] X.env = [(false, eval ea X.env)]) :
    SndI P X W cl (.Tuple elts kk tpos) (.Call (.Name "enumerate" p) [ea] [] pos) (.enum a) := by
  obtain ⟨ta, pa, ha⟩ := sa
  refine ⟨_, pi_enumA (c.glb hg) (c.bl _ hm) (pa_cons pa pa_nil hs) hs, ?_⟩
  intro G F env σ H R rel g
  unfold evalI at g
  refine ha G F env σ H _ rel (GR.bind g fun x e1 F1 H1 st r1 g1 vx ox => ?_)
  obtain ⟨ds, e3, g3⟩ := GR.opt1 g1
  unfold enumO at e3
  split at e3
  · cases e3
  · rename_i hns
    cases z : itemsOf x with
    | none => rw [z] at e3; cases e3
    | some xs =>
      rw [z] at e3
      cases e3
      obtain ⟨F2, st2, r2, _, a, ys, e, rs, hk⟩ := Seq.kind r1 ox z (by simpa using hns)
      rcases enum_yields (K := X.K) c.hK rs (hk.imp (fun z => z.2) fun z => z.2) with ⟨h, y⟩ | ⟨h, y⟩
      · exact ⟨a, ys, by rw [e], .inl ⟨h, g3 F1 H1 (Step.refl ..) r1 F2 _ st2 r2 y⟩⟩
      · exact ⟨a, ys, by rw [e], .inr ⟨h, g3 F1 H1 (Step.refl ..) r1 F2 _ st2 r2 y⟩⟩
theorem zipL_get : ∀ (xs ys : List D) (i : Nat), (zipL xs ys)[i]? = match xs[i]?, ys[i]? with | some x, some y => some (.tup [x, y]) | _, _ => none
  | [], ys, i => by simp [zipL]
  | x :: xs, [], i => by
    show ([] : List D)[i]? = _
    cases (x :: xs)[i]? <;> simp
  | x :: xs, y :: ys, 0 => by simp [zipL]
  | x :: xs, y :: ys, i + 1 => by
    show (zipL xs ys)[i]? = _
    rw [zipL_get xs ys i]
    rfl
theorem zipL_len : ∀ (xs ys : List D), (zipL xs ys).length = min xs.length ys.length
  | [], ys => by simp [zipL]
  | x :: xs, [] => by simp [zipL]
  | x :: xs, y :: ys => by
    show (zipL xs ys).length + 1 = min (xs.length + 1) (ys.length + 1)
    rw [zipL_len xs ys]
    omega
theorem zip_yieldsL {K : PySem.W.Frag} (hK : K = P.K) {a b : Addr} {xs ys : List V} {ds es : List D} (ha : ∀ (F1 : Addr → Prop) (Hz : Hp), Step (fun _ => False) F H F1 Hz → SqL K Hz a xs) (hb : ∀ (F1 : Addr → Prop) (Hz : Hp), Step (fun _ => False) F H F1 Hz → SqL K Hz b ys)
    (ra : Rs P F H ds xs) (rb : Rs P F H es ys) : Yields P (Itz K a b) F H (zipL ds es) := by
  refine ⟨fun i d e G F1 H1 env σ st rel => ?_, fun i hi F1 H1 st => ⟨xs, ys, ha F1 H1 st, hb F1 H1 st, by rw [zipL_len] at hi; rw [← ra.length, ← rb.length]; omega⟩⟩
  rw [zipL_get] at e
  cases z1 : ds[i]? with
  | none => rw [z1] at e; cases e
  | some d1 =>
    cases z2 : es[i]? with
    | none => rw [z1, z2] at e; cases e
    | some d2 =>
      rw [z1, z2] at e
      cases e
      obtain ⟨v1, e1, q1⟩ := ra.get z1
      obtain ⟨v2, e2, q2⟩ := rb.get z2
      refine ⟨⟨xs, ys, v1, v2, ha F1 H1 st, hb F1 H1 st, e1, e2⟩, fun x H2 y => ?_⟩
      obtain ⟨T, x0, y0, rfl, hT, rfl, y1, y2⟩ := y
      have e3 := y1 xs (ha F1 H1 st)
      rw [e1] at e3
      cases e3
      have e4 := y2 ys (hb F1 H1 st)
      rw [e2] at e4
      cases e4
      exact pair_yield rel hT (R.step st q1) (R.step st q2)
theorem zip_yieldsT {K : PySem.W.Frag} (hK : K = P.K) {a b : Addr} {xs ys : List V} {ds es : List D} (ha : ∀ (F1 : Addr → Prop) (Hz : Hp), Step (fun _ => False) F H F1 Hz → SqT K Hz a xs) (hb : ∀ (F1 : Addr → Prop) (Hz : Hp), Step (fun _ => False) F H F1 Hz → SqT K Hz b ys)
    (ra : Rs P F H ds xs) (rb : Rs P F H es ys) : Yields P (RZ.ItzT K a b) F H (zipL ds es) := by
  refine ⟨fun i d e G F1 H1 env σ st rel => ?_, fun i hi F1 H1 st => ⟨xs, ys, ha F1 H1 st, hb F1 H1 st, by rw [zipL_len] at hi; rw [← ra.length, ← rb.length]; omega⟩⟩
  rw [zipL_get] at e
  cases z1 : ds[i]? with
  | none => rw [z1] at e; cases e
  | some d1 =>
    cases z2 : es[i]? with
    | none => rw [z1, z2] at e; cases e
    | some d2 =>
      rw [z1, z2] at e
      cases e
      obtain ⟨v1, e1, q1⟩ := ra.get z1
      obtain ⟨v2, e2, q2⟩ := rb.get z2
      refine ⟨⟨xs, ys, v1, v2, ha F1 H1 st, hb F1 H1 st, e1, e2⟩, fun x H2 y => ?_⟩
      obtain ⟨T, x0, y0, rfl, hT, rfl, y1, y2⟩ := y
      have e3 := y1 xs (ha F1 H1 st)
      rw [e1] at e3
      cases e3
      have e4 := y2 ys (hb F1 H1 st)
      rw [e2] at e4
      cases e4
      exact pair_yield rel hT (R.step st q1) (R.step st q2)
theorem snd_zip (c : Ct P S cm n X W sc) {ea eb : Expr} {elts : List Expr} {kk : Nat} {p pos tpos : Pos} {a b : E} (sa : SndE P X W cl ea a) (sb : SndE P X W cl eb b) (hg : isGlb sc "zip" = true) (hm : Str.ofString "zip" ∈ S.bl) (hs : starEach [ea, eb] X.env = [(false, eval ea X.env), (false, eval eb X.env)])
    (hs2 : starEach [eb] X.env = [(false, eval eb X.env)]) : SndI P X W cl (.Tuple elts kk tpos) (.Call (.Name "zip" p) [ea, eb] [] pos) (.zip a b) := by
  obtain ⟨ta, tb, pa, pb, h⟩ := two sa sb
  refine ⟨_, RZ.pi_zipA (c.glb hg) (c.bl _ hm) (pa_cons pa (pa_cons pb pa_nil hs2) (by rw [hs, hs2])) (by rw [hs, hs2]) (by rw [hs2]; rfl), ?_⟩
  intro G F env σ H R rel g
  unfold evalI at g
  refine h _ _ _ G F env σ H rel g fun x y e2 F2 H2 vx vy st r2 r2' ox oy g2 => ?_
  obtain ⟨ds, e3, g3⟩ := GR.opt1 g2
  unfold zipO at e3
  split at e3
  · cases e3
  · rename_i hk
    simp only [Bool.or_eq_true, not_or, Bool.not_eq_true] at hk
    obtain ⟨⟨k1, k2⟩, k3⟩ := hk
    cases z1 : itemsOf x with
    | none => rw [z1] at e3; cases e3
    | some xs =>
      rw [z1] at e3
      cases z2 : itemsOf y with
      | none => rw [z2] at e3; cases e3
      | some ys =>
        rw [z2] at e3
        cases e3
        obtain ⟨F3, st3, r3, hF3, av, us, rfl, qx, kx⟩ := Seq.kind r2 ox z1 k1
        have oy' : RO P G F3 e2 σ H2 y vy := by
          have z := ROs.shift (G := G) (.cons oy (.nil _)) st3.sub (fun a z => (hF3 a z).imp id .inr) fun a z => .inl z
          cases z with | cons z _ => exact z
        obtain ⟨F4, st4, r4, hF4, bv, ws, rfl, qy, ky⟩ := Seq.kind r3 oy' z2 k2
        have go := g3 F2 H2 (Step.refl ..) r2 F4
        have qx4 := Rs.step st4 qx
        have keepL : ∀ {a : Addr} {zs : List V}, F4 a → (H2 a = some (.lst zs) ∨ ∃ ob, H2 a = some (.frz ob (.lst zs))) → ∀ (F1 : Addr → Prop) (Hz : Hp), Step (fun _ => False) F4 H2 F1 Hz → SqL X.K Hz a zs := by
          intro a zs f h F1 Hz st
          rcases h with h | ⟨ob, h⟩
          · exact SqL.of (st.keep _ _ (.inl f) h)
          · exact .inl (.inr ⟨ob, st.keep _ _ (.inl f) h⟩)
        have keepT : ∀ {a : Addr} {zs : List V}, Sht P F4 H2 a zs → ∀ (F1 : Addr → Prop) (Hz : Hp), Step (fun _ => False) F4 H2 F1 Hz → SqT X.K Hz a zs := by
          intro a zs h F1 Hz st
          rw [c.hK]
          exact (Sht.step st h).sq
        rcases kx with ⟨t1, kx⟩ | ⟨t1, f1, kx⟩
        · rcases ky with ⟨t2, ky⟩ | ⟨t2, f2, ky⟩
          · have kx4 := Sht.step st4 kx
            exact ⟨av, bv, us, ws, rfl, .inr ⟨keepT kx4 F4 H2 (Step.refl ..), keepT ky F4 H2 (Step.refl ..), go _ (st3.trans st4) r4 (zip_yieldsT c.hK (keepT kx4) (keepT ky) qx4 qy)⟩⟩
          · rw [t1, t2] at k3; cases k3
        · rcases ky with ⟨t2, ky⟩ | ⟨t2, f2, ky⟩
          · rw [t1, t2] at k3; cases k3
          · have f1' := st4.sub _ f1
            exact ⟨av, bv, us, ws, rfl, .inl ⟨keepL f1' kx F4 H2 (Step.refl ..), keepL f2 ky F4 H2 (Step.refl ..), go _ (st3.trans st4) r4 (zip_yieldsL c.hK (keepL f1' kx) (keepL f2 ky) qx4 qy)⟩⟩
end
end Pd
set_option autoImplicit false
set_option linter.all false
set_option maxRecDepth 100000
set_option maxHeartbeats 1000000
namespace Pd
open PySem PySem.Spec PyProof.Rows L2
section
variable {P : Pl} {S : Stat} {cm : Bool} {n : Nat} {W : WX} {G G' F F' : Addr → Prop} {env env' : Env} {σ : L2.St} {H H' : Hp} {X : Cx} {sc : Scope} {cl : Caller}

/-! ### slots stored -/
theorem OwnAt.of_set {i j : Nat} {a : Addr} {s : Slot} {o : Option V} (hs : ∀ d, s ≠ .own d) (h : OwnAt (env.set i s) (σ.set i o) j a) : j ≠ i ∧ OwnAt env σ j a := by
  obtain ⟨⟨d, e1⟩, e2⟩ := h
  by_cases hj : i = j
  · subst hj
    by_cases hl : i < env.length
    · rw [List.getElem?_set_self hl] at e1
      exact absurd (Option.some.inj e1) (hs d)
    · rw [List.getElem?_eq_none (by simpa using hl)] at e1
      cases e1
  · rw [List.getElem?_set_ne hj] at e1 e2
    exact ⟨fun z => hj z.symm, ⟨d, e1⟩, e2⟩
theorem fix_set {i : Nat} {o : Option V} (r : Rel P G F env σ H) (hx : ∀ b, P.lx i = some b → o = some (.ref b)) : ∀ j b, P.lx j = some b → (σ.set i o)[j]? = some (some (.ref b)) := by
  intro j b h
  by_cases hj : i = j
  · subst hj
    have q := r.fix i b h
    rw [List.getElem?_set_self (List.getElem?_eq_some_iff.mp q).1, hx b h]
  · rw [List.getElem?_set_ne hj]
    exact r.fix j b h
theorem nolx {i : Nat} (h : P.lx i = none) {p : Addr → Prop} : ∀ b, P.lx i = some b → p b := fun b e => by rw [h] at e; cases e
theorem Rel.setVal (r : Rel P G F env σ H) {i : Nat} {d : D} {v : V} (hx : ∀ b, P.lx i = some b → some v = some (V.ref b)) (q : R P F H d v) : Rel P G F (env.set i (.val d)) (σ.set i (some v)) H := by
  refine ⟨by rw [List.length_set, List.length_set]; exact r.len, fun j s o e1 e2 => ?_, fun j k a hn a1 a2 => r.apart j k a hn (OwnAt.of_set (fun _ => by simp) a1).2 (OwnAt.of_set (fun _ => by simp) a2).2, r.domF, r.domG, r.disj, fix_set r hx⟩
  by_cases hj : i = j
  · subst hj
    by_cases hl : i < env.length
    · rw [List.getElem?_set_self hl] at e1
      rw [List.getElem?_set_self (by rw [← r.len]; exact hl)] at e2
      cases e1
      cases e2
      exact .val q
    · rw [List.getElem?_eq_none (by simpa using hl)] at e1
      cases e1
  · rw [List.getElem?_set_ne hj] at e1 e2
    exact r.sl j s o e1 e2
theorem Rel.setEx (r : Rel P G F env σ H) {i : Nat} {x : Xn} {b : Addr} {cls : Value} {dx : Option Addr} (hh : P.hx = some (b, cls, dx)) (rx : RX P F H x cls dx) (hx : P.lx i = none) : Rel P G F (env.set i (.ex x)) (σ.set i (some (.ref b))) H := by
  refine ⟨by rw [List.length_set, List.length_set]; exact r.len, fun j s o e1 e2 => ?_, fun j k a hn a1 a2 => r.apart j k a hn (OwnAt.of_set (fun _ => by simp) a1).2 (OwnAt.of_set (fun _ => by simp) a2).2, r.domF, r.domG, r.disj, fix_set r (fun b z => by rw [hx] at z; cases z)⟩
  by_cases hj : i = j
  · subst hj
    by_cases hl : i < env.length
    · rw [List.getElem?_set_self hl] at e1
      rw [List.getElem?_set_self (by rw [← r.len]; exact hl)] at e2
      cases e1
      cases e2
      exact .ex hh rx
    · rw [List.getElem?_eq_none (by simpa using hl)] at e1
      cases e1
  · rw [List.getElem?_set_ne hj] at e1 e2
    exact r.sl j s o e1 e2
theorem Rel.setUn (r : Rel P G F env σ H) {i : Nat} (o : Option V) (hx : ∀ b, P.lx i = some b → o = some (V.ref b)) : Rel P G F (env.set i .un) (σ.set i o) H := by
  refine ⟨by rw [List.length_set, List.length_set]; exact r.len, fun j s o e1 e2 => ?_, fun j k a hn a1 a2 => r.apart j k a hn (OwnAt.of_set (fun _ => by simp) a1).2 (OwnAt.of_set (fun _ => by simp) a2).2, r.domF, r.domG, r.disj, fix_set r hx⟩
  by_cases hj : i = j
  · subst hj
    by_cases hl : i < env.length
    · rw [List.getElem?_set_self hl] at e1
      cases e1
      exact .un _
    · rw [List.getElem?_eq_none (by simpa using hl)] at e1
      cases e1
  · rw [List.getElem?_set_ne hj] at e1 e2
    exact r.sl j s o e1 e2
theorem Rel.setOwn (r : Rel P G F env σ H) {i : Nat} {d : D} {a : Addr} (hx : ∀ b, P.lx i = some b → some (V.ref a) = some (V.ref b)) (q : Own P F H d a) (n1 : ¬ F a) (n2 : ¬ G a) (n3 : ∀ j, j ≠ i → ¬ OwnAt env σ j a) : Rel P G F (env.set i (.own d)) (σ.set i (some (.ref a))) H := by
  have cases' : ∀ {j : Nat} {b : Addr}, OwnAt (env.set i (.own d)) (σ.set i (some (.ref a))) j b → (j = i ∧ b = a) ∨ (j ≠ i ∧ OwnAt env σ j b) := by
    intro j b h
    obtain ⟨⟨d', e1⟩, e2⟩ := h
    by_cases hj : i = j
    · subst hj
      by_cases hl : i < env.length
      · rw [List.getElem?_set_self (by rw [← r.len]; exact hl)] at e2
        cases e2
        exact .inl ⟨rfl, rfl⟩
      · rw [List.getElem?_eq_none (by simpa using hl)] at e1
        cases e1
    · rw [List.getElem?_set_ne hj] at e1 e2
      exact .inr ⟨fun z => hj z.symm, ⟨d', e1⟩, e2⟩
  refine ⟨by rw [List.length_set, List.length_set]; exact r.len, fun j s o e1 e2 => ?_, fun j k b hn a1 a2 => ?_, r.domF, r.domG, r.disj, fix_set r hx⟩
  · by_cases hj : i = j
    · subst hj
      by_cases hl : i < env.length
      · rw [List.getElem?_set_self hl] at e1
        rw [List.getElem?_set_self (by rw [← r.len]; exact hl)] at e2
        cases e1
        cases e2
        exact .own q n1 n2
      · rw [List.getElem?_eq_none (by simpa using hl)] at e1
        cases e1
    · rw [List.getElem?_set_ne hj] at e1 e2
      exact r.sl j s o e1 e2
  · rcases cases' a1 with ⟨rfl, rfl⟩ | ⟨h1, h2⟩
    · rcases cases' a2 with ⟨rfl, _⟩ | ⟨h3, h4⟩
      · exact hn rfl
      · exact n3 k h3 h4
    · rcases cases' a2 with ⟨rfl, rfl⟩ | ⟨h3, h4⟩
      · exact n3 j h1 h2
      · exact r.apart j k b hn h2 h4
/-- an operand goes into a slot -/
theorem Rel.bindO (r : Rel P G F env σ H) {i : Nat} {o : Opd} {v : V} (hx : P.lx i = none) (ro : RO P G F env σ H o v) (e : bindO i o env = some env') : Rel P G F env' (σ.set i (some v)) H := by
  unfold Pd.bindO at e
  split at e
  · cases ro with
    | val q => cases e; exact r.setVal (nolx hx) q
    | fresh q n1 n2 n3 => cases e; exact r.setOwn (nolx hx) q n1 n2 fun j _ => n3 j
    | slot e1 => cases e
  · cases e
theorem Ct.pgn (c : Ct P S cm n X W sc) {i : Nat} {x : Str} {pos : Pos} (h : locOk X.N sc i x = true) : PG X (.Name x pos) (gName i) := by
  unfold locOk at h
  rw [Bool.and_eq_true, Bool.and_eq_true] at h
  obtain ⟨h1, h2⟩ := c.loc h.1.2
  exact pg_name c.nd (of_decide_eq_true h.1.1) h1 h2

/-! ### targets of loops -/
def tgIn : Tg → List Nat → Bool
  | .nm i, own => own.contains i
  | .tp a b, own => own.contains a && own.contains b
  | .tp3 a b c, own => own.contains a && own.contains b && own.contains c
theorem wipe_set {own : List Nat} : ∀ {σ : L2.St} {i : Nat} {o : Option V}, i ∈ own → wipe (σ.set i o) own = wipe σ own := by
  induction own with
  | nil => intro σ i o h; simp at h
  | cons j r ih =>
    intro σ i o h
    unfold wipe
    by_cases hj : i = j
    · subst hj
      by_cases hr : i ∈ r
      · rw [ih hr]
      · have : ∀ (l : List Nat) (s : L2.St), i ∉ l → wipe (s.set i o) l = (wipe s l).set i o := by
          intro l
          induction l with
          | nil => intro s _; rfl
          | cons k l ihl =>
            intro s hs
            unfold wipe
            rw [ihl s (fun z => hs (List.mem_cons_of_mem _ z)), List.set_comm _ _ (fun z => hs (by rw [z]; exact List.mem_cons_self))]
        rw [this r σ hr, List.set_set]
    · have hr : i ∈ r := by
        rcases List.mem_cons.mp h with h | h
        · exact absurd h hj
        · exact h
      rw [ih hr]
theorem wipe_idem (own : List Nat) : ∀ (σ : L2.St), wipe (wipe σ own) own = wipe σ own := by
  have get : ∀ (own : List Nat) (σ : L2.St) (j : Nat), (wipe σ own)[j]? = if j ∈ own ∧ j < σ.length then some none else σ[j]? := by
    intro own
    induction own with
    | nil => intro σ j; simp [wipe]
    | cons i r ih =>
      intro σ j
      unfold wipe
      by_cases hj : i = j
      · subst hj
        by_cases hl : i < σ.length
        · rw [List.getElem?_set_self (by rw [wipe_length]; exact hl), if_pos ⟨List.mem_cons_self, hl⟩]
        · rw [List.getElem?_eq_none (by rw [List.length_set, wipe_length]; omega), if_neg (fun z => hl z.2), List.getElem?_eq_none (by omega)]
      · rw [List.getElem?_set_ne hj, ih σ j]
        have : (j ∈ i :: r ∧ j < σ.length) ↔ (j ∈ r ∧ j < σ.length) := by
          rw [List.mem_cons]
          exact ⟨fun z => ⟨z.1.elim (fun z => absurd z.symm hj) id, z.2⟩, fun z => ⟨.inr z.1, z.2⟩⟩
        simp only [this]
  intro σ
  apply List.ext_getElem?
  intro j
  rw [get own (wipe σ own) j, get own σ j, wipe_length]
  split <;> rfl
theorem wipe_get (own : List Nat) : ∀ (σ : L2.St) (j : Nat), j ∉ own → (wipe σ own)[j]? = σ[j]? := by
  induction own with
  | nil => intro σ j _; rfl
  | cons i r ih =>
    intro σ j h
    unfold wipe
    rw [List.getElem?_set_ne (fun z => h (by rw [z]; exact List.mem_cons_self)), ih σ j fun z => h (List.mem_cons_of_mem _ z)]
theorem wipeE_get (own : List Nat) : ∀ (e : Env) (j : Nat), j ∉ own → (wipeE e own)[j]? = e[j]? := by
  induction own with
  | nil => intro σ j _; rfl
  | cons i r ih =>
    intro σ j h
    unfold wipeE
    rw [List.getElem?_set_ne (fun z => h (by rw [z]; exact List.mem_cons_self)), ih σ j fun z => h (List.mem_cons_of_mem _ z)]
theorem wipeE_len (own : List Nat) (e : Env) : (wipeE e own).length = e.length := by
  induction own with
  | nil => rfl
  | cons i r ih => unfold wipeE; rw [List.length_set, ih]
def SndG (P : Pl) (X : Cx) (tg : Expr) (t : Tg) : Prop :=
  ∃ g, PG X tg g ∧ ∀ G F env σ H d v e1 (Q : L2.St → Hp → Prop), Rel P G F env σ H → R P F H d v → bindD t d env = some e1 → (∀ F' σ' H', Step G F H F' H' → Rel P G F' e1 σ' H' → (∀ own, tgIn t own = true → wipe σ' own = wipe σ own) → Q σ' H') → g v σ H Q
theorem snd_gnm (c : Ct P S cm n X W sc) {i : Nat} {x : Str} {pos : Pos} (h : locOk X.N sc i x = true) : SndG P X (.Name x pos) (.nm i) := by
  refine ⟨_, c.pgn h, ?_⟩
  intro G F env σ H d v e1 Q r q e k
  change bind1 i d env = some e1 at e
  unfold bind1 at e
  split at e
  · cases e
    exact k F _ H (Step.refl ..) (r.setVal (nolx (c.nlx h)) q) fun own ho => wipe_set (by simpa [tgIn] using ho)
  · cases e
theorem snd_gtp (c : Ct P S cm n X W sc) {i j : Nat} {x y : Str} {p1 p2 pos : Pos} {k : Nat} (hc : cm = true) (h1 : locOk X.N sc i x = true) (h2 : locOk X.N sc j y = true) : SndG P X (.Tuple [.Name x p1, .Name y p2] k pos) (.tp i j) := by
  refine ⟨_, pg_tup (c.calm hc) (pgs_cons (c.pgn h1) (pgs_cons (c.pgn h2) pgs_nil)), ?_⟩
  intro G F env σ H d v e1 Q r q e k
  change bind2 i j d env = some e1 at e
  unfold bind2 at e
  split at e <;> first | cases e | skip
  split at e
  · cases e
    cases q with
    | tup s q =>
      cases q with
      | cons q1 q =>
        cases q with
        | cons q2 q =>
          cases q
          rename_i v1 v2
          refine ⟨_, [v1, v2], rfl, by rw [c.hK]; exact s.sq, rfl, v1, [v2], rfl, v2, [], rfl, rfl, ?_⟩
          refine k F _ H (Step.refl ..) ((r.setVal (nolx (c.nlx h1)) q1).setVal (nolx (c.nlx h2)) q2) fun own ho => ?_
          unfold tgIn at ho
          rw [Bool.and_eq_true] at ho
          rw [wipe_set (by simpa using ho.2), wipe_set (by simpa using ho.1)]
  · cases e
theorem snd_gtp3 (c : Ct P S cm n X W sc) {i j l : Nat} {x y z : Str} {p1 p2 p3 pos : Pos} {k : Nat} (hc : cm = true) (h1 : locOk X.N sc i x = true) (h2 : locOk X.N sc j y = true) (h3 : locOk X.N sc l z = true) : SndG P X (.Tuple [.Name x p1, .Name y p2, .Name z p3] k pos) (.tp3 i j l) := by
  refine ⟨_, pg_tup (c.calm hc) (pgs_cons (c.pgn h1) (pgs_cons (c.pgn h2) (pgs_cons (c.pgn h3) pgs_nil))), ?_⟩
  intro G F env σ H d v e1 Q r q e k
  change bind3 i j l d env = some e1 at e
  unfold bind3 at e
  split at e <;> first | cases e | skip
  split at e
  · cases e
    cases q with
    | tup s q =>
      cases q with
      | cons q1 q =>
        cases q with
        | cons q2 q =>
          cases q with
          | cons q3 q =>
            cases q
            rename_i v1 v2 v3
            refine ⟨_, [v1, v2, v3], rfl, by rw [c.hK]; exact s.sq, rfl, v1, [v2, v3], rfl, v2, [v3], rfl, v3, [], rfl, rfl, ?_⟩
            refine k F _ H (Step.refl ..) (((r.setVal (nolx (c.nlx h1)) q1).setVal (nolx (c.nlx h2)) q2).setVal (nolx (c.nlx h3)) q3) fun own ho => ?_
            unfold tgIn at ho
            rw [Bool.and_eq_true, Bool.and_eq_true] at ho
            rw [wipe_set (by simpa using ho.2), wipe_set (by simpa using ho.1.2), wipe_set (by simpa using ho.1.1)]
  · cases e
end
end Pd
set_option autoImplicit false
set_option linter.all false
set_option maxRecDepth 100000
set_option maxHeartbeats 1000000
namespace Pd
open PySem PySem.Spec PyProof.Rows L2
section
variable {P : Pl} {S : Stat} {cm : Bool} {n : Nat} {W : WX} {G G' F F' : Addr → Prop} {env env' : Env} {σ : L2.St} {H H' : Hp} {X : Cx} {sc : Scope} {cl : Caller}

/-! ### for -/
theorem snd_for (c : Ct P S cm n X W sc) {tg iter : Expr} {body : List Stmt} {t : Tg} {it : It} {b : Ss} {pos : Pos} (hc : cm = true) (sI : SndI P X W cl tg iter it) (sG : SndG P X tg t) (sB : SndSs P X W cl body b) (hs : ∀ x, foldedSetIterable iter X.env x = pure x) :
    SndS P X W cl (.For tg iter body [] pos) (.for_ t it b) := by
  obtain ⟨wi, pI, hI⟩ := sI
  obtain ⟨g, pG, hG⟩ := sG
  obtain ⟨tb, pB, hB⟩ := sB
  refine ⟨_, ps_for (c.po hc) (c.calm hc) pI pG pB hs, ?_⟩
  intro G F env σ H E rel gs
  unfold evalS at gs
  refine hI G F env σ H _ rel ?_
  cases hr : evalI cl it env with
  | stk => rw [hr] at gs; exact gs
  | exc x e => rw [hr] at gs; exact fun F' H' cls d st r rx => gs F' σ H' cls d st r rx
  | ok ds e1 =>
    rw [hr] at gs
    intro F1 H1 st1 r1 F2 J st2 r2 y
    have gs : GS P W G F2 H1 E (forL t (fun e => evalSs cl b e) ds e1) := GS.step gs (st1.trans st2)
    refine ⟨fun i m σ H => m = ds.length - i ∧ i ≤ ds.length ∧ ∃ F env, Step G F2 H1 F H ∧ Rel P G F env σ H ∧ GS P W G F H E (forL t (fun e => evalSs cl b e) (ds.drop i) env), ⟨ds.length, rfl, Nat.zero_le _, F2, e1, Step.refl .., r2, by rw [List.drop_zero]; exact gs⟩, ?_⟩
    rintro i m σ H ⟨rfl, hi, F3, env3, st3, r3, g3⟩
    by_cases hlt : i < ds.length
    · have e : ds[i]? = some ds[i] := List.getElem?_eq_getElem hlt
      obtain ⟨go, turn⟩ := y.item i _ e G F3 H env3 σ (st3.less fun _ z => z.elim) r3
      refine .inr ⟨go, fun σ' H' => ∃ m', m' < ds.length - i ∧ (m' = ds.length - (i + 1) ∧ i + 1 ≤ ds.length ∧ ∃ F env, Step G F2 H1 F H' ∧ Rel P G F env σ' H' ∧ GS P W G F H' E (forL t (fun e => evalSs cl b e) (ds.drop (i + 1)) env)), fun σ' H' h => h, fun x H4 yl => ?_⟩
      obtain ⟨F4, st4, r4, q4, _⟩ := turn x H4 yl
      rw [List.drop_eq_getElem_cons hlt] at g3
      unfold forL at g3
      cases hb : bindD t ds[i] env3 with
      | none => rw [hb] at g3; exact g3.elim
      | some e5 =>
        rw [hb] at g3
        refine hG G F4 env3 σ H4 _ x e5 _ r4 q4 hb fun F5 σ5 H5 st5 r5 _ => ?_
        refine hB G F5 e5 σ5 H5 _ r5 ?_
        have stA := st3.trans (st4.trans st5)
        have g5 := GS.step g3 (st4.trans st5)
        have nxt : ∀ {e}, GS P W G F5 H5 E (forL t (fun e => evalSs cl b e) (ds.drop (i + 1)) e) → ∀ F' σ' H', Step G F5 H5 F' H' → Rel P G F' e σ' H' → ∃ m', m' < ds.length - i ∧ (m' = ds.length - (i + 1) ∧ i + 1 ≤ ds.length ∧ ∃ F env, Step G F2 H1 F H' ∧ Rel P G F env σ' H' ∧ GS P W G F H' E (forL t (fun e => evalSs cl b e) (ds.drop (i + 1)) env)) :=
          fun {e} gg F' σ' H' st r => ⟨ds.length - (i + 1), by omega, rfl, hlt, F', e, stA.trans st, r, GS.step gg st⟩
        cases hbd : evalSs cl b e5 with
        | nx e => simp only [hbd] at g5; exact nxt g5
        | ct e => simp only [hbd] at g5; exact nxt g5
        | bk e => simp only [hbd] at g5; exact g5
        | rt o e => simp only [hbd] at g5; exact g5
        | exc x e => simp only [hbd] at g5; exact g5
        | stk => simp only [hbd] at g5; exact g5
    · have ei : i = ds.length := by omega
      subst ei
      rw [List.drop_length] at g3
      exact .inl ⟨y.stop _ (Nat.le_refl _) F3 H (st3.less fun _ z => z.elim), g3 F3 σ H (Step.refl ..) r3⟩

/-! ### while -/
theorem snd_whl (c : Ct P S cm n X W sc) {ec : Expr} {body : List Stmt} {t : T} {b : Ss} {pos : Pos} (hc : cm = true) (sT : SndT P X W cl ec t) (sB : SndSs P X W cl body b) : SndS P X W cl (.While ec body [] pos) (.whl t b) := by
  obtain ⟨tt, pT, hT⟩ := sT
  obtain ⟨tb, pB, hB⟩ := sB
  refine ⟨_, ps_while (c.po hc) pT pB, ?_⟩
  intro G F env σ H E rel gs
  unfold evalS at gs
  refine ⟨fun m σ' H' => ∃ F' env', Step G F H F' H' ∧ Rel P G F' env' σ' H' ∧ GS P W G F' H' E (whlL (fun e => evalT cl t e) (fun e => evalSs cl b e) m env'), ⟨fuel, F, env, Step.refl .., rel, gs⟩, ?_⟩
  rintro m σ1 H1 ⟨F1, env1, st1, r1, g1⟩
  cases m with
  | zero => exact g1.elim
  | succ m =>
    unfold whlL at g1
    refine hT G F1 env1 σ1 H1 _ r1 ?_
    cases hr : evalT cl t env1 with
    | stk => rw [hr] at g1; exact g1
    | exc x e => rw [hr] at g1; exact fun F' H' cls d st r rx => g1 F' σ1 H' cls d st r rx
    | ok k e =>
      rw [hr] at g1
      intro F2 H2 st2 r2
      cases k with
      | false => rw [if_neg (by decide)]; exact g1 F2 σ1 H2 st2 r2
      | true =>
        rw [if_pos rfl]
        refine ⟨fun σ' H' => ∃ m', m' < m + 1 ∧ ∃ F' env', Step G F H F' H' ∧ Rel P G F' env' σ' H' ∧ GS P W G F' H' E (whlL (fun e => evalT cl t e) (fun e => evalSs cl b e) m' env'), fun σ' H' h => h, ?_⟩
        refine hB G F2 e σ1 H2 _ r2 ?_
        have g2 := GS.step g1 st2
        have nxt : ∀ {e}, GS P W G F2 H2 E (whlL (fun e => evalT cl t e) (fun e => evalSs cl b e) m e) → ∀ F' σ' H', Step G F2 H2 F' H' → Rel P G F' e σ' H' → ∃ m', m' < m + 1 ∧ ∃ F' env', Step G F H F' H' ∧ Rel P G F' env' σ' H' ∧ GS P W G F' H' E (whlL (fun e => evalT cl t e) (fun e => evalSs cl b e) m' env') :=
          fun {e} gg F' σ' H' st r => ⟨m, Nat.lt_succ_self m, F', e, st1.trans (st2.trans st), r, GS.step gg st⟩
        cases hbd : evalSs cl b e with
        | nx e => simp only [hbd] at g2; exact nxt g2
        | ct e => simp only [hbd] at g2; exact nxt g2
        | bk e => simp only [hbd] at g2; exact g2
        | rt o e => simp only [hbd] at g2; exact g2
        | exc x e => simp only [hbd] at g2; exact g2
        | stk => simp only [hbd] at g2; exact g2

/-! ### comprehensions -/
abbrev W0 : WX := fun _ _ _ _ => False
theorem Rel.wipe (r : Rel P G F env σ H) (own : List Nat) (hx : ∀ i ∈ own, P.lx i = none) : Rel P (fun a => G a ∨ ∃ i, i ∈ own ∧ OwnAt env σ i a) F (wipeE env own) (L2.wipe σ own) H := by
  have base : ∀ own : List Nat, (∀ i ∈ own, P.lx i = none) → Rel P G F (wipeE env own) (L2.wipe σ own) H := fun own hx => by
    induction own with
    | nil => exact r
    | cons i r' ih => unfold wipeE L2.wipe; exact (ih fun j hj => hx j (List.mem_cons_of_mem _ hj)).setUn none (nolx (hx i List.mem_cons_self))
  have b := base own hx
  have inOwn : ∀ {j : Nat}, j ∈ own → ∀ d, (wipeE env own)[j]? ≠ some (.own d) := by
    have : ∀ (own : List Nat) (j : Nat), j ∈ own → ∀ d, (wipeE env own)[j]? ≠ some (.own d) := by
      intro own
      induction own with
      | nil => intro j hj; simp at hj
      | cons i r' ih =>
        intro j hj d e
        unfold wipeE at e
        by_cases hij : i = j
        · subst hij
          by_cases hl : i < (wipeE env r').length
          · rw [List.getElem?_set_self hl] at e; cases e
          · rw [List.getElem?_eq_none (by simpa using hl)] at e; cases e
        · rw [List.getElem?_set_ne hij] at e
          exact ih j ((List.mem_cons.mp hj).elim (fun z => absurd z.symm hij) id) d e
    exact fun {j} hj => this own j hj
  have old : ∀ {j : Nat} {a : Addr}, OwnAt (wipeE env own) (L2.wipe σ own) j a → j ∉ own ∧ OwnAt env σ j a := fun {j a} z => by
    obtain ⟨⟨d, e1⟩, e2⟩ := z
    have hj : j ∉ own := fun hj => inOwn hj d e1
    rw [wipeE_get own env j hj] at e1
    rw [wipe_get own σ j hj] at e2
    exact ⟨hj, ⟨d, e1⟩, e2⟩
  refine ⟨b.len, fun i s o e1 e2 => ?_, b.apart, b.domF, fun a z => ?_, fun a z q => ?_, b.fix⟩
  · have q := b.sl i s o e1 e2
    cases q with
    | un o => exact .un o
    | val q => exact .val q
    | ex e q => exact .ex e q
    | own q n1 n2 =>
      rename_i d a
      refine .own q n1 fun z => ?_
      rcases z with z | ⟨k, hk, z⟩
      · exact n2 z
      · obtain ⟨hi, oi⟩ := old ⟨⟨_, e1⟩, e2⟩
        exact r.apart i k a (fun q => hi (by rw [q]; exact hk)) oi z
  · rcases z with z | ⟨k, hk, z⟩
    · exact r.domG a z
    · obtain ⟨d, _, q, _⟩ := r.own_of z; exact q.some
  · rcases q with q | ⟨k, hk, q⟩
    · exact r.disj a z q
    · obtain ⟨d, _, _, n1, _⟩ := r.own_of q; exact n1 z
/-- one more that others own: a new thing -/
theorem Rel.addG (r : Rel P G F env σ H) {p : Addr} (h : H p ≠ none) (nf : ¬ F p) (no : ∀ i, ¬ OwnAt env σ i p) : Rel P (fun a => G a ∨ a = p) F env σ H := by
  refine ⟨r.len, fun i s o e1 e2 => ?_, r.apart, r.domF, fun a z => ?_, fun a z q => ?_, r.fix⟩
  · have q := r.sl i s o e1 e2
    cases q with
    | un o => exact .un o
    | val q => exact .val q
    | ex e q => exact .ex e q
    | own q n1 n2 => exact .own q n1 fun z => z.elim n2 fun z => no i (by subst z; exact ⟨⟨_, e1⟩, e2⟩)
  · rcases z with z | z
    · exact r.domG a z
    · rw [z]; exact h
  · rcases q with q | q
    · exact r.disj a z q
    · rw [q] at z; exact nf z
theorem step_upd {p : Addr} {o : HO} (nf : ¬ F p) (ng : ¬ G p) : Step G F H F (upd H p o) :=
  ⟨fun _ z => z, fun a u z e => by rw [upd_ne (fun q => by subst q; exact z.elim nf ng)]; exact e, fun a z => by
    by_cases h : a = p
    · subst h; rw [upd_same]; exact fun q => nomatch q
    · rw [upd_ne h]; exact z⟩
/-- a thing that is neither shared nor a slot's changes -/
theorem Rel.updG (r : Rel P G F env σ H) {p : Addr} {o : HO} (g : G p) : Rel P G F env σ (upd H p o) := by
  have nf : ¬ F p := fun z => r.disj p z g
  have st : Step (fun _ => False) F H F (upd H p o) := step_upd nf id
  refine ⟨r.len, fun i s ov e1 e2 => ?_, r.apart, fun a z => st.there a (r.domF a z), fun a z => st.there a (r.domG a z), r.disj, r.fix⟩
  have q := r.sl i s ov e1 e2
  cases q with
  | un _ => exact .un _
  | val q => exact .val (R.step st q)
  | ex e q => exact .ex e (q.step st)
  | own q n1 n2 =>
    refine .own ?_ n1 n2
    cases q with
    | lst e rs => exact .lst (by rw [upd_ne (fun z => n2 (by rw [z]; exact g))]; exact e) (Rs.step st rs)
    | dic e l rs => exact .dic (by rw [upd_ne (fun z => n2 (by rw [z]; exact g))]; exact e) l (Rs.step st rs)
theorem backE_get (old e : Env) (own : List Nat) (hl : e.length = old.length) : (backE old e own).length = e.length ∧ ∀ i : Nat, (backE old e own)[i]? = if i ∈ own then old[i]? else e[i]? := by
  induction own with
  | nil => exact ⟨rfl, fun i => by simp [backE]⟩
  | cons j r ih =>
    unfold backE
    cases z : old[j]? with
    | none =>
      refine ⟨ih.1, fun i => ?_⟩
      rw [ih.2 i]
      by_cases hij : i = j
      · subst hij
        rw [if_pos List.mem_cons_self]
        split
        · rfl
        · rw [z]
          have := List.getElem?_eq_none_iff.mp z
          exact List.getElem?_eq_none (by omega)
      · have : i ∈ j :: r ↔ i ∈ r := by rw [List.mem_cons]; exact ⟨fun q => q.elim (fun q => absurd q hij) id, .inr⟩
        simp only [this]
    | some s =>
      refine ⟨by rw [List.length_set]; exact ih.1, fun i => ?_⟩
      by_cases hij : j = i
      · subst hij
        have hlt := (List.getElem?_eq_some_iff.mp z).1
        rw [List.getElem?_set_self (by rw [ih.1, hl]; exact hlt), if_pos List.mem_cons_self, z]
      · rw [List.getElem?_set_ne hij, ih.2 i]
        have : i ∈ j :: r ↔ i ∈ r := by rw [List.mem_cons]; exact ⟨fun q => q.elim (fun q => absurd q.symm hij) id, .inr⟩
        simp only [this]
/-- behind the block: the slots as they were -/
theorem Rel.restore {own : List Nat} {F0 : Addr → Prop} {H0 : Hp} {e1 e2 : Env} {G2 : Addr → Prop} (r0 : Rel P G F0 e1 σ H0) (st : Step (fun a => G a ∨ ∃ i, i ∈ own ∧ OwnAt e1 σ i a) F0 H0 F H) (hG2 : ∀ a, (G a ∨ ∃ i, i ∈ own ∧ OwnAt e1 σ i a) → G2 a)
    (r2 : Rel P G2 F (wipeE e2 own) (L2.wipe σ own) H) (hl : e2.length = e1.length) : Rel P G F (backE e1 e2 own) σ H ∧ ∀ i a, OwnAt (backE e1 e2 own) σ i a → (i ∈ own ∧ OwnAt e1 σ i a) ∨ (i ∉ own ∧ ¬ G2 a) := by
  obtain ⟨b1, b2⟩ := backE_get e1 e2 own hl
  have own' : ∀ i a, OwnAt (backE e1 e2 own) σ i a → (i ∈ own ∧ OwnAt e1 σ i a) ∨ (i ∉ own ∧ ¬ G2 a ∧ OwnAt (wipeE e2 own) (L2.wipe σ own) i a) := fun i a z => by
    obtain ⟨⟨d, x1⟩, x2⟩ := z
    rw [b2 i] at x1
    by_cases hi : i ∈ own
    · rw [if_pos hi] at x1
      exact .inl ⟨hi, ⟨d, x1⟩, x2⟩
    · rw [if_neg hi] at x1
      have z : OwnAt (wipeE e2 own) (L2.wipe σ own) i a := ⟨⟨d, by rw [wipeE_get own e2 i hi]; exact x1⟩, by rw [wipe_get own σ i hi]; exact x2⟩
      obtain ⟨_, _, _, _, n2⟩ := r2.own_of z
      exact .inr ⟨hi, n2, z⟩
  refine ⟨⟨by rw [b1, hl]; exact r0.len, fun i s o x1 x2 => ?_, fun i j a hn z1 z2 => ?_, r2.domF, fun a z => st.there a (r0.domG a z), fun a z q => r2.disj a z (hG2 a (.inl q)), r0.fix⟩, fun i a z => (own' i a z).imp id fun z => ⟨z.1, z.2.1⟩⟩
  · rw [b2 i] at x1
    by_cases hi : i ∈ own
    · rw [if_pos hi] at x1
      have q := r0.sl i s o x1 x2
      cases q with
      | un o => exact .un o
      | val q => exact .val (R.step st q)
      | ex e q => exact .ex e (q.step st)
      | own q n1 n2 =>
        rename_i d a
        have gk : (G a ∨ ∃ i, i ∈ own ∧ OwnAt e1 σ i a) := .inr ⟨i, hi, ⟨_, x1⟩, x2⟩
        exact .own (q.step st gk) (fun z => r2.disj a z (hG2 a gk)) n2
    · rw [if_neg hi] at x1
      have q := r2.sl i s o (by rw [wipeE_get own e2 i hi]; exact x1) (by rw [wipe_get own σ i hi]; exact x2)
      cases q with
      | un o => exact .un o
      | val q => exact .val q
      | ex e q => exact .ex e q
      | own q n1 n2 => exact .own q n1 fun z => n2 (hG2 _ (.inl z))
  · rcases own' i a z1 with ⟨h1, z1⟩ | ⟨h1, n1, z1⟩
    · rcases own' j a z2 with ⟨h2, z2⟩ | ⟨h2, n2, z2⟩
      · exact r0.apart i j a hn z1 z2
      · exact n2 (hG2 a (.inr ⟨i, h1, z1⟩))
    · rcases own' j a z2 with ⟨h2, z2⟩ | ⟨h2, n2, z2⟩
      · exact n1 (hG2 a (.inr ⟨j, h2, z2⟩))
      · exact r2.apart i j a hn z1 z2
end
end Pd
set_option autoImplicit false
set_option linter.all false
set_option maxRecDepth 100000
set_option maxHeartbeats 1000000
namespace Pd
open PySem PySem.Spec PyProof.Rows L2
section
variable {P : Pl} {S : Stat} {cm : Bool} {n : Nat} {W : WX} {G G' F F' : Addr → Prop} {env env' : Env} {σ : L2.St} {H H' : Hp} {X : Cx} {sc : Scope} {cl : Caller}
theorem compL_noexc {t : Tg} {own : List Nat} {c : Env → Res Bool} {f : Env → Res Opd} : ∀ (ds acc : List D) (env : Env) (x : Xn) (e : Env), compL t own c f ds acc env ≠ .exc x e
  | [], acc, env, x, e => fun h => nomatch h
  | d :: ds, acc, env, x, e => fun h => by
    unfold compL at h
    split at h
    · cases h
    · split at h
      · split at h
        · split at h
          · exact compL_noexc ds _ _ x e h
          · cases h
        · cases h
      · exact compL_noexc ds _ _ x e h
      · cases h
/-- [elt for tg in iter if c] -/
theorem comp_run {wi : TI} {g : TG} {tt : TT} {te : TE} {elt : E} {t : Tg} {it : It} {q : T} {own : List Nat} (hlx : ∀ i ∈ own, P.lx i = none) (hown : tgIn t own = true)
    (hI : ∀ G F env σ H (R : L2.It → Hp → Prop), Rel P G F env σ H → GR P W G F σ H (fun ds env' F' H' => ∀ F1 J, Step G F' H' F1 H' → Rel P G F1 env' σ H' → Yields P J F1 H' ds → R J H') (evalI cl it env) → wi σ H R)
    (hG : ∀ G F env σ H d v e1 (Q : L2.St → Hp → Prop), Rel P G F env σ H → R P F H d v → bindD t d env = some e1 → (∀ F' σ' H', Step G F H F' H' → Rel P G F' e1 σ' H' → (∀ own, tgIn t own = true → L2.wipe σ' own = L2.wipe σ own) → Q σ' H') → g v σ H Q)
    (hT : ∀ G F env σ H Q, Rel P G F env σ H → GT P W0 G F σ H Q (evalT cl q env) → tt σ H Q)
    (hE : ∀ G F env σ H Q, Rel P G F env σ H → GE P W0 G F σ H Q (evalE cl elt env) → te σ H Q)
    {Q : VK} (rel : Rel P G F env σ H) (gs : GE P W G F σ H Q (evalE cl (.comp elt t it q own) env)) : tLc wi g tt te own σ H Q := by
  unfold evalE at gs
  refine hI G F env σ H _ rel ?_
  cases hr : evalI cl it env with
  | stk => rw [hr] at gs; exact gs
  | exc x e => rw [hr] at gs; exact gs
  | ok ds e1 =>
    rw [hr] at gs
    intro F1 H1 st1 r1 F2 J st2 r2 y D hD
    have gs : GR P W G F σ H (fun o env' F' H' => ∀ v, RO P G F' env' σ H' o v → Q v H') (if ds.length ≤ cap then (compL t own (fun e => evalT cl q e) (fun e => evalE cl elt e) ds [] e1).bind fun ys e2 => .ok (.fresh (.lst ys)) (backE e1 e2 own) else .stk) := gs
    split at gs
    case isFalse => exact gs.elim
    rename_i hcap
    cases hcl : compL t own (fun e => evalT cl q e) (fun e => evalE cl elt e) ds [] e1 with
    | stk => rw [hcl] at gs; exact gs.elim
    | exc x e => exact absurd hcl (compL_noexc ds [] e1 x e)
    | ok ys e2 =>
      rw [hcl] at gs
      have gs : GR P W G F2 σ H1 (fun o env' F' H' => ∀ v, RO P G F' env' σ H' o v → Q v H') (.ok (.fresh (.lst ys)) (backE e1 e2 own)) := GR.step gs (st1.trans st2)
      let Gb : Addr → Prop := fun a => G a ∨ ∃ i, i ∈ own ∧ OwnAt e1 σ i a
      let Gd : Addr → Prop := fun a => Gb a ∨ a = D
      have nD : ¬ Gb D := fun z => z.elim (fun z => r2.domG D z hD) fun ⟨i, _, z⟩ => r2.notOwn hD i z
      have sub : ∀ a, Gb a → Gd a := fun a z => .inl z
      have rw0 := r2.wipe own hlx
      have rel0 : Rel P Gd F2 (wipeE e1 own) (L2.wipe σ own) (upd H1 D (.lst [])) :=
        (rw0.same (same_new hD)).addG (by rw [upd_same]; exact fun q => nomatch q) (r2.newF hD) (rw0.notOwn hD)
      let Wt : Nat → Nat → Hp → Prop := fun i m H => m = ds.length - i ∧ i ≤ ds.length ∧ ∃ F env acc vacc, Step Gb F2 H1 F H ∧ Rel P Gd F (wipeE env own) (L2.wipe σ own) H ∧ env.length = e1.length ∧ H D = some (.lst vacc) ∧ Rs P F H acc vacc ∧ acc.length ≤ i ∧
        compL t own (fun e => evalT cl q e) (fun e => evalE cl elt e) (ds.drop i) acc env = .ok ys e2
      refine ⟨Wt, ⟨ds.length, rfl, Nat.zero_le _, F2, e1, [], [], Step.same (same_new hD), rel0, rfl, upd_same, .nil, Nat.le_refl _, by rw [List.drop_zero]; exact hcl⟩, ?_⟩
      rintro i m H ⟨rfl, hi, F3, env3, acc, vacc, st3, r3, hl3, hD3, rs3, hacc, hc3⟩
      by_cases hlt : i < ds.length
      · have e : ds[i]? = some ds[i] := List.getElem?_eq_getElem hlt
        obtain ⟨go, turn⟩ := y.item i _ e Gd F3 H (wipeE env3 own) (L2.wipe σ own) (st3.less fun _ z => z.elim) r3
        refine .inr ⟨go, fun H' => Wt (i + 1) (ds.length - (i + 1)) H', fun H' w => ⟨_, by omega, w⟩, fun x H4 yl => ?_⟩
        obtain ⟨F4, st4, r4, q4, _⟩ := turn x H4 yl
        rw [List.drop_eq_getElem_cons hlt] at hc3
        unfold compL at hc3
        cases hb : bindD t ds[i] (wipeE env3 own) with
        | none => rw [hb] at hc3; cases hc3
        | some e5 =>
          rw [hb] at hc3
          refine hG Gd F4 (wipeE env3 own) (L2.wipe σ own) H4 _ x e5 _ r4 q4 hb fun F5 σ5 H5 st5 r5 hw => ?_
          have hw5 : L2.wipe σ5 own = L2.wipe σ own := (hw own hown).trans (wipe_idem own σ)
          refine ⟨hw5, ?_⟩
          have len5 : σ5.length = e1.length := by
            have z := congrArg List.length hw5
            rw [wipe_length, wipe_length] at z
            rw [z, ← r2.len]
          refine hT Gd F5 e5 σ5 H5 _ r5 ?_
          cases ht : evalT cl q e5 with
          | stk => simp only [ht] at hc3; cases hc3
          | exc x e => simp only [ht] at hc3; cases hc3
          | ok k e6 =>
            intro F6 H6 st6 r6
            have stA := (st4.trans st5).trans st6
            have D6 : H6 D = some (.lst vacc) := stA.keep D _ (.inr (.inr rfl)) hD3
            cases k with
            | false =>
              refine iteF ?_
              simp only [ht] at hc3
              have rw6 := (r6.wipe own hlx).less (fun a z => .inl z) (G' := Gd)
              rw [hw5] at rw6
              exact ⟨rfl, hlt, F6, e6, acc, vacc, st3.trans (stA.less sub), rw6, by rw [r6.len]; exact len5, D6, Rs.step stA rs3, by omega, hc3⟩
            | true =>
              refine iteT ?_
              simp only [ht] at hc3
              refine hE Gd F6 e6 σ5 H6 _ r6 ?_
              cases he : evalE cl elt e6 with
              | stk => rw [he] at hc3; cases hc3
              | exc x e => rw [he] at hc3; cases hc3
              | ok o e7 =>
                rw [he] at hc3
                intro F7 H7 st7 r7 v ro
                cases hk : o.leak with
                | none => simp only [hk] at hc3; cases hc3
                | some d7 =>
                  simp only [hk] at hc3
                  obtain ⟨F8, _, st8, r8, q8⟩ := ro.leak r7 hk
                  have stB := (stA.trans st7).trans st8
                  have D7 : H7 D = some (.lst vacc) := stB.keep D _ (.inr (.inr rfl)) hD3
                  have len7 : vacc.length = acc.length := rs3.length.symm
                  refine ⟨vacc, D7, ?_, ?_⟩
                  · rw [len7]
                    exact Nat.lt_of_lt_of_le (Nat.lt_of_le_of_lt hacc hlt) (cap_le hcap)
                  · have nF8 : ¬ F8 D := fun z => r8.disj D z (.inr rfl)
                    have stU : Step Gb F8 H7 F8 (upd H7 D (.lst (vacc ++ [v]))) := step_upd nF8 nD
                    have rw8 := (r8.wipe own hlx).less (fun a z => .inl z) (G' := Gd)
                    rw [hw5] at rw8
                    refine ⟨rfl, hlt, F8, e7, acc ++ [d7], vacc ++ [v], (st3.trans (stB.less sub)).trans stU, rw8.updG (.inr rfl), by rw [r8.len]; exact len5, upd_same, Rs.step stU (Rs.append (Rs.step stB rs3) (.cons q8 .nil)), ?_, hc3⟩
                    rw [List.length_append]
                    exact Nat.succ_le_succ hacc
      · have ei : i = ds.length := by omega
        subst ei
        rw [List.drop_length] at hc3
        cases hc3
        obtain ⟨r5, old⟩ := r2.restore (own := own) st3 sub r3 hl3
        refine .inl ⟨y.stop _ (Nat.le_refl _) F3 H (st3.less fun _ z => z.elim), ?_⟩
        refine gs F3 H (st3.less fun a z => .inl z) r5 _ (.fresh (.lst hD3 rs3) (fun z => r3.disj D z (.inr rfl)) (fun z => nD (.inl z)) fun i z => ?_)
        rcases old i D z with ⟨_, z⟩ | ⟨_, z⟩
        · exact r2.notOwn hD i z
        · exact z (.inr rfl)

/-! ### the context of a block -/
theorem lookup_relS_any {so : Scope} : ∀ {names : List (Str × NameKind)} {x : Str} {k : NameKind}, names.lookup x = some k →
    ∃ k', (names.map fun (n, k) => if (k == NameKind.free && so.kind == .function && so.names.lookup n == some .cell) then (n, NameKind.cell) else (n, k)).lookup x = some k' ∧ (k' = k ∨ (k = .free ∧ k' = .cell))
  | [], x, k, h => by simp at h
  | (m, k0) :: r, x, k, h => by
    have ih := @lookup_relS_any so r x k
    show ∃ k', List.lookup x ((if (k0 == NameKind.free && so.kind == .function && so.names.lookup m == some .cell) = true then (m, NameKind.cell) else (m, k0)) :: (r.map _)) = some k' ∧ _
    cases hx : x == m with
    | true =>
      simp only [List.lookup_cons, hx] at h
      have hk : k0 = k := Option.some.inj h
      subst hk
      by_cases hc : (k0 == NameKind.free && so.kind == .function && so.names.lookup m == some .cell) = true
      · rw [if_pos hc]
        simp only [Bool.and_eq_true, beq_iff_eq] at hc
        exact ⟨.cell, by simp only [List.lookup_cons, hx], .inr ⟨hc.1.1, rfl⟩⟩
      · rw [if_neg hc]
        exact ⟨k0, by simp only [List.lookup_cons, hx], .inl rfl⟩
    | false =>
      simp only [List.lookup_cons, hx] at h
      obtain ⟨k', e, q⟩ := ih h
      by_cases hc : (k0 == NameKind.free && so.kind == .function && so.names.lookup m == some .cell) = true
      · rw [if_pos hc]; exact ⟨k', by simp only [List.lookup_cons, hx]; exact e, q⟩
      · rw [if_neg hc]; exact ⟨k', by simp only [List.lookup_cons, hx]; exact e, q⟩
theorem Ct.blk (c : Ct P S cm n X W sc) (hc : cm = true) (scope : Scope) (hl : ∀ x ∈ S.ln, isLoc scope x = false) (hg : ∀ x, scope.names.lookup x ≠ some .globalExplicit) (s : Shared) (Hb : Hp) (C : Addr) (cls : List (Str × Addr)) (fp : List Addr) : Ct P S cm n (X.blk s Hb scope (compEnvC scope cls C X.env) fp) W0 scope where
  hK := c.hK
  calm := c.calm
  nd := c.nd
  lcl := fun x h => lookup_relS_keep (by decide) h
  cel := fun x h => ⟨lookup_relS_keep (by decide) h, by show (scope.names.lookup x == some .cell) = true; rw [h]; rfl⟩
  fre := fun x h => by
    obtain ⟨k', e, q⟩ := lookup_relS_any (so := X.env.scope) h
    rcases q with rfl | ⟨_, rfl⟩
    · exact .inr e
    · exact .inl e
  gls := fun x h => lookup_relS_keep (by decide) h
  lnt := fun x h => absurd h (hg x)
  lln := hl
  lx := c.lx
  un := c.un
  rm := c.rm
  tk := fun _ _ x => by
    obtain ⟨_, _, _, _, _, _, _, _, _, _, _, _, _, _, _, _, w⟩ := x
    exact w.elim
  po := fun _ => PassesOwn.never
  gl := c.gl
  kd := c.kd
  bl := c.bl
  cls := c.cls
  hxn := c.hxn
  xis := fun z => absurd (c.hxn hc) z
  xat := fun z => absurd (c.hxn hc) z
  ini := c.ini
  fo := c.fo
  fr := c.fr
theorem Ct.blkOk (c : Ct P S cm n X W sc) {scope : Scope} {own : List (Str × Nat)} (h : blkC X.N sc scope own = true) : BlkOk X.N X.env.scope scope own := by
  have b := blkOk_by h
  refine ⟨b.kind, b.uniq, b.ix, fun y hy e => ?_, b.own⟩
  rcases b.free y hy e with q | q
  · exact .inl (c.cel _ q).1
  · exact c.fre _ q
theorem Ct.own_lx (c : Ct P S cm n X W sc) {scope : Scope} {own : List (Str × Nat)} (hl : ∀ x ∈ S.ln, isLoc scope x = false) (hlo : ∀ p ∈ own, isLoc scope p.1 = true) (b : BlkOk X.N X.env.scope scope own) {i : Nat} (hi : i ∈ own.map (·.2)) : P.lx i = none := by
  obtain ⟨p, hp, rfl⟩ := List.mem_map.mp hi
  refine c.lx _ p.1 (b.ix p hp) fun z => ?_
  have := hl _ z
  rw [hlo p hp] at this
  cases this
theorem pick5 {A B C D E τ : Type _} {p : A → B → C → D → E → τ → Prop} (h : ∀ a b c d e, ∃ t, p a b c d e t) : ∃ t : A → B → C → D → E → τ, ∀ a b c d e, p a b c d e (t a b c d e) :=
  ⟨fun a b c d e => (h a b c d e).choose, fun a b c d e => (h a b c d e).choose_spec⟩
/-- one reading for all blocks -/
abbrev BlkX (X : Cx) (scope : Scope) (s : Shared) (H : Hp) (C : Addr) (cls : List (Str × Addr)) (fp : List Addr) : Cx := X.blk s H scope (compEnvC scope cls C X.env) fp
theorem blk_E {scope : Scope} {e : Expr} {c : E} (h : ∀ s H C cls fp, SndE P (BlkX X scope s H C cls fp) W0 cl e c) : ∃ t, (∀ s H C cls fp, PE (BlkX X scope s H C cls fp) e t) ∧ ∀ G F env σ H Q, Rel P G F env σ H → GE P W0 G F σ H Q (evalE cl c env) → t σ H Q := by
  obtain ⟨t, ht⟩ := pick5 h
  exact ⟨fun σ H Q => ∀ s H' C cls fp, t s H' C cls fp σ H Q, fun s H' C cls fp => ⟨fun pins s' σ H Q I z => ((ht s H' C cls fp).1).run pins s' σ H Q I (z s H' C cls fp)⟩, fun G F env σ H Q r g s H' C cls fp => (ht s H' C cls fp).2 G F env σ H Q r g⟩
theorem blk_T {scope : Scope} {es : List Expr} {c : T} (h : ∀ s H C cls fp, ∃ t, PTs (BlkX X scope s H C cls fp) es t ∧ ∀ G F env σ H Q, Rel P G F env σ H → GT P W0 G F σ H Q (evalT cl c env) → t σ H Q) :
    ∃ t, (∀ s H C cls fp, PTs (BlkX X scope s H C cls fp) es t) ∧ ∀ G F env σ H Q, Rel P G F env σ H → GT P W0 G F σ H Q (evalT cl c env) → t σ H Q := by
  obtain ⟨t, ht⟩ := pick5 h
  exact ⟨fun σ H Q => ∀ s H' C cls fp, t s H' C cls fp σ H Q, fun s H' C cls fp => ⟨fun pins s' σ H Q I z => ((ht s H' C cls fp).1).run pins s' σ H Q I (z s H' C cls fp)⟩, fun G F env σ H Q r g s H' C cls fp => (ht s H' C cls fp).2 G F env σ H Q r g⟩
theorem blk_G {scope : Scope} {e : Expr} {c : Tg} (h : ∀ s H C cls fp, SndG P (BlkX X scope s H C cls fp) e c) : ∃ t, (∀ s H C cls fp, PG (BlkX X scope s H C cls fp) e t) ∧
    ∀ G F env σ H d v e1 (Q : L2.St → Hp → Prop), Rel P G F env σ H → R P F H d v → bindD c d env = some e1 → (∀ F' σ' H', Step G F H F' H' → Rel P G F' e1 σ' H' → (∀ own, tgIn c own = true → L2.wipe σ' own = L2.wipe σ own) → Q σ' H') → t v σ H Q := by
  obtain ⟨t, ht⟩ := pick5 h
  exact ⟨fun v σ H Q => ∀ s H' C cls fp, t s H' C cls fp v σ H Q, fun s H' C cls fp => ⟨fun pins s' σ H v u Q I rv z => ((ht s H' C cls fp).1).run pins s' σ H v u Q I rv (z s H' C cls fp)⟩, fun G F env σ H d v e1 Q r q e k s H' C cls fp => (ht s H' C cls fp).2 G F env σ H d v e1 Q r q e k⟩
/-- the whole comprehension, as a value, and stored in a name on its line -/
theorem snd_comp (c : Ct P S cm n X W sc) {eltE tg iter : Expr} {ifs : List Expr} {scope : Scope} {pos : Pos} {elt : E} {t : Tg} {it : It} {q : T} {own : List (Str × Nat)} (hc : cm = true) (hl : ∀ x ∈ S.ln, isLoc scope x = false) (hlo : ∀ p ∈ own, isLoc scope p.1 = true) (hb : blkC X.N sc scope own = true) (hown : tgIn t (own.map (·.2)) = true)
    (sI : SndI P X W cl tg iter it) (sG : ∀ s H C cls fp, SndG P (BlkX X scope s H C cls fp) tg t) (sT : ∀ s H C cls fp, ∃ t, PTs (BlkX X scope s H C cls fp) ifs t ∧ ∀ G F env σ H Q, Rel P G F env σ H → GT P W0 G F σ H Q (evalT cl q env) → t σ H Q)
    (sE : ∀ s H C cls fp, SndE P (BlkX X scope s H C cls fp) W0 cl eltE elt) (hs : ∀ x, foldedSetIterable iter X.env x = pure x) :
    ∃ te : TE, PE X (.ListComp eltE [⟨tg, iter, ifs, 0⟩] scope pos) te ∧ (∀ G F env σ H Q, Rel P G F env σ H → GE P W G F σ H Q (evalE cl (.comp elt t it q (own.map (·.2))) env) → te σ H Q) ∧
      ∀ {i : Nat} {y : Str} {py spos : Pos}, X.N[i]? = some y → X.env.scope.names.lookup y = some .local → swapsWith (.ListComp eltE [⟨tg, iter, ifs, 0⟩] scope pos) (some (.Name y py)) spos.line X.env = pure true →
        PS X (.Assign [.Name y py] (.ListComp eltE [⟨tg, iter, ifs, 0⟩] scope pos) spos) (tAsg te (gName i)) := by
  obtain ⟨wi, pI, hI⟩ := sI
  obtain ⟨g, pG, hG⟩ := blk_G sG
  obtain ⟨tt, pT, hT⟩ := blk_T sT
  obtain ⟨te, pE, hE⟩ := blk_E sE
  refine ⟨tLc wi g tt te (own.map (·.2)), pe_lc (c.calm hc) c.nd pI (c.blkOk hb) pG pT pE hs, fun G F env σ H Q rel gs => comp_run (fun i hi => c.own_lx hl hlo (c.blkOk hb) hi) hown hI hG hT hE rel gs, ?_⟩
  intro i y py spos h1 h2 h3
  exact ps_setLc (c.calm hc) c.nd h1 h2 h3 pI (c.blkOk hb) pG pT pE hs
end
end Pd
set_option autoImplicit false
set_option linter.all false
set_option maxRecDepth 100000
set_option maxHeartbeats 1000000
namespace Pd
open PySem PySem.Spec PyProof.Rows L2
/-- a def's own body (not a comprehension's block) -/
structure Top (X : Cx) : Prop where
  stk : X.stack = X.env :: X.outer
  frm : X.env.frame = some X.env.locals
  knd : X.env.scope.kind = .function
section
variable {P : Pl} {S : Stat} {cm : Bool} {n : Nat} {W : WX} {G G' F F' : Addr → Prop} {env env' : Env} {σ : L2.St} {H H' : Hp} {X : Cx} {sc : Scope} {cl : Caller}
theorem GS.fl {α : Type} {E : Ends} {r : Res α} {k : α → Env → Fl} (g : GS P W G F H E (r.fl k)) : GR P W G F σ H (fun a e F' H' => GS P W G F' H' E (k a e)) r := by
  cases r with
  | stk => exact g
  | exc x e => exact fun F' H' cls d st r rx => g F' σ H' cls d st r rx
  | ok a e => exact fun F' H' st r => GS.step g st
theorem GS.nxO {E : Ends} {o : Option Env} (g : GS P W G F H E (nxO o)) : ∃ e, o = some e ∧ GS P W G F H E (.nx e) := by
  cases o with
  | none => exact g.elim
  | some e => exact ⟨e, rfl, g⟩

/-! ### small statements -/
theorem snd_pass {pos : Pos} : SndS P X W cl (.Pass pos) .pass := ⟨_, ps_pass, fun G F env σ H E r g => g F σ H (Step.refl ..) r⟩
theorem snd_brk {pos : Pos} : SndS P X W cl (.Break pos) .brk := ⟨_, ps_break, fun G F env σ H E r g => g F σ H (Step.refl ..) r⟩
theorem snd_cnt {pos : Pos} : SndS P X W cl (.Continue pos) .cnt := ⟨_, ps_continue, fun G F env σ H E r g => g F σ H (Step.refl ..) r⟩
theorem snd_exp {ea : Expr} {a : E} {pos : Pos} (sa : SndE P X W cl ea a) (hs : swapsWith ea none pos.line X.env = pure false) : SndS P X W cl (.Expr ea pos) (.exp a) := by
  obtain ⟨t, p, h⟩ := sa
  refine ⟨_, ps_expr p hs, ?_⟩
  intro G F env σ H E rel g
  unfold evalS at g
  exact h G F env σ H _ rel (GR.more (GS.fl g) (fun _ z => z) fun o e F1 H1 st r1 g1 v ro => g1 F1 σ H1 (Step.refl ..) r1)
theorem snd_ret {ea : Expr} {a : E} {pos : Pos} (sa : SndE P X W cl ea a) : SndS P X W cl (.Return (some ea) pos) (.ret a) := by
  obtain ⟨t, p, h⟩ := sa
  refine ⟨_, ps_ret p, ?_⟩
  intro G F env σ H E rel g
  unfold evalS at g
  exact h G F env σ H _ rel (GR.more (GS.fl g) (fun _ z => z) fun o e F1 H1 st r1 g1 v ro => g1 F1 σ H1 v (Step.refl ..) r1 ro)
theorem snd_retN {pos : Pos} : SndS P X W cl (.Return none pos) .retN := by
  refine ⟨_, ps_retN, ?_⟩
  intro G F env σ H E rel g
  exact g F σ H _ (Step.refl ..) rel (.val .non)
theorem snd_if {ec : Expr} {sa sb : List Stmt} {t : T} {a b : Ss} {pos : Pos} (st : SndT P X W cl ec t) (ha : SndSs P X W cl sa a) (hb : SndSs P X W cl sb b) : SndS P X W cl (.If ec sa sb pos) (.cond t a b) := by
  obtain ⟨tt, pt, ht⟩ := st
  obtain ⟨ta, pa, ha⟩ := ha
  obtain ⟨tb, pb, hb⟩ := hb
  refine ⟨_, ps_if pt pa pb, ?_⟩
  intro G F env σ H E rel g
  unfold evalS at g
  refine ht G F env σ H _ rel (GR.more (GS.fl g) (fun _ z => z) fun k e F1 H1 st r1 g1 => ?_)
  cases k with
  | true => exact iteT (ha G F1 e σ H1 E r1 g1)
  | false => exact iteF (hb G F1 e σ H1 E r1 g1)
theorem snd_snil : SndSs P X W cl [] .nil := ⟨_, pss_nil, fun G F env σ H E r g => g F σ H (Step.refl ..) r⟩
theorem snd_scons {st : Stmt} {rest : List Stmt} {s : Pd.S} {r : Ss} (h1 : SndS P X W cl st s) (h2 : SndSs P X W cl rest r) : SndSs P X W cl (st :: rest) (.cons s r) := by
  obtain ⟨ta, pa, ha⟩ := h1
  obtain ⟨tb, pb, hb⟩ := h2
  refine ⟨_, pss_cons pa pb, ?_⟩
  intro G F env σ H E rel g
  unfold evalSs at g
  refine ha G F env σ H _ rel ?_
  cases hs : evalS cl s env with
  | nx e => simp only [hs] at g; exact fun F1 σ1 H1 st r1 => hb G F1 e σ1 H1 E r1 (GS.step g st)
  | bk e => simp only [hs] at g; exact g
  | ct e => simp only [hs] at g; exact g
  | rt o e => simp only [hs] at g; exact g
  | exc x e => simp only [hs] at g; exact g
  | stk => simp only [hs] at g; exact g
/-- a list is let go, nothing else -/
theorem snd_frz {rest : List Stmt} {i : Nat} {r : Ss} (hx : P.lx i = none) (h2 : SndSs P X W cl rest r) : SndSs P X W cl rest (.cons (.frz i) r) := by
  obtain ⟨tb, pb, hb⟩ := h2
  refine ⟨_, pb, ?_⟩
  intro G F env σ H E rel g
  unfold evalSs at g
  unfold evalS at g
  cases he : env[i]? with
  | none => simp only [he] at g; exact g.elim
  | some s =>
    cases s with
    | un => simp only [he] at g; exact g.elim
    | ex x => simp only [he] at g; exact g.elim
    | val d => simp only [he] at g; exact hb G F env σ H E rel g
    | own d =>
      simp only [he] at g
      obtain ⟨a, e1, q, n1, n2⟩ := rel.ownAt he
      -- i's list becomes shared
      have hσ : σ.set i (some (.ref a)) = σ := by
        apply List.ext_getElem?
        intro j
        by_cases hj : i = j
        · subst hj
          rw [List.getElem?_set_self (List.getElem?_eq_some_iff.mp e1).1, e1]
        · rw [List.getElem?_set_ne hj]
      have un : Rel P G F (env.set i .un) σ H := by
        have z := rel.setUn (i := i) (some (V.ref a)) (nolx hx)
        rw [hσ] at z
        exact z
      have no : ∀ j, ¬ OwnAt (env.set i .un) σ j a := fun j z => by
        have z' : OwnAt (env.set i .un) (σ.set i (some (V.ref a))) j a := by rw [hσ]; exact z
        obtain ⟨hj, z2⟩ := OwnAt.of_set (fun _ => by simp) z'
        exact rel.apart j i a hj z2 ⟨⟨d, he⟩, e1⟩
      have sh := un.share a q.some n2 no
      have st : Step G F H (fun x => F x ∨ x = a) H := Step.grow fun _ z => .inl z
      have qR : R P (fun x => F x ∨ x = a) H d (.ref a) := by
        cases q with
        | lst e rs => exact .lst ⟨.inr rfl, e⟩ (Rs.step st rs)
        | dic e l rs => exact .dic (.inr rfl) e l (Rs.step st rs)
      have fin := sh.setVal (i := i) (nolx hx) qR
      rw [hσ, List.set_set] at fin
      exact hb G _ (env.set i (.val d)) σ H E fin (GS.step g st)

/-! ### names stored -/
theorem sw_off {e : Expr} (he : (match e with | .ListComp .. => false | .SetComp .. => false | .DictComp .. => false | _ => true) = true) (t : Option Expr) (l : Nat) (env : PySem.Env) : swapsWith e t l env = pure false := by
  cases e <;> first | rfl | cases he
theorem sw_other {e : Expr} {t : Expr} (ht : (match t with | .Name .. => false | _ => true) = true) (l : Nat) (env : PySem.Env) : swapsWith e (some t) l env = pure false := by
  cases e <;> first | rfl | (cases t <;> first | rfl | cases ht)
theorem sws_tup {es : List Expr} {k : Nat} {p : Pos} {e : Expr} {l : Nat} {env : PySem.Env} : swapsWithSole [.Tuple es k p] e l env = pure false := sw_other (t := .Tuple es k p) rfl l env
theorem sw_tup {es : List Expr} {k : Nat} {p : Pos} {e : Expr} {l : Nat} {env : PySem.Env} : swapsWith e (some (.Tuple es k p)) l env = pure false := sw_other (t := .Tuple es k p) rfl l env
theorem set_run {te : TE} {a : E} {i : Nat} (hx : P.lx i = none) (h : ∀ G F env σ H Q, Rel P G F env σ H → GE P W G F σ H Q (evalE cl a env) → te σ H Q) {E : Ends} (rel : Rel P G F env σ H) (g : GS P W G F H E (evalS cl (.set i a) env)) : tAsg te (gName i) E σ H := by
  unfold evalS at g
  refine h G F env σ H _ rel (GR.more (GS.fl g) (fun _ z => z) fun o e F1 H1 st r1 g1 v ro => ?_)
  obtain ⟨e2, eq, g2⟩ := GS.nxO g1
  exact g2 F1 _ H1 (Step.refl ..) (r1.bindO hx ro eq)
theorem snd_set (c : Ct P S cm n X W sc) {x : Str} {ea : Expr} {a : E} {i : Nat} {p pos : Pos} (h : locOk X.N sc i x = true) (sa : SndE P X W cl ea a) (hs : swapsWith ea (some (.Name x p)) pos.line X.env = pure false) : SndS P X W cl (.Assign [.Name x p] ea pos) (.set i a) := by
  have hx := c.nlx h
  unfold locOk at h
  rw [Bool.and_eq_true, Bool.and_eq_true] at h
  obtain ⟨h1, h2⟩ := c.loc h.1.2
  obtain ⟨t, pa, ha⟩ := sa
  exact ⟨_, ps_set c.nd (of_decide_eq_true h.1.1) h1 pa hs h2, fun G F env σ H E rel g => set_run hx ha rel g⟩
/-- names in a row -/
def namesOk (N : List Str) (sc : Scope) : List Nat → List Expr → Bool
  | [], [] => true
  | i :: is, .Name x _ :: es => locOk N sc i x && namesOk N sc is es
  | _, _ => false
def setAll : L2.St → List Nat → List V → L2.St
  | σ, i :: is, v :: vs => setAll (σ.set i (some v)) is vs
  | σ, _, _ => σ
theorem pgs_names (c : Ct P S cm n X W sc) : ∀ {is : List Nat} {es : List Expr}, namesOk X.N sc is es = true →
    (∃ t, PGs X es t ∧ ∀ vs σ H Q, vs.length = is.length → Q (setAll σ is vs) H → t vs σ H Q) ∧ (assignEach es X.env).length = is.length ∧ (assignEach es X.env).findIdx? (·.1) = none
  | [], [], _ => ⟨⟨_, pgs_nil, fun vs σ H Q hl q => ⟨List.length_eq_zero_iff.mp hl, by cases vs <;> exact q⟩⟩, rfl, rfl⟩
  | [], e :: es, h => by simp [namesOk] at h
  | i :: is, [], h => by simp [namesOk] at h
  | i :: is, e :: es, h => by
    cases e with
    | Name x pos =>
      have h : (locOk X.N sc i x && namesOk X.N sc is es) = true := h
      rw [Bool.and_eq_true] at h
      obtain ⟨⟨t, pt, ht⟩, hl, hf⟩ := pgs_names c h.2
      refine ⟨⟨_, pgs_cons (c.pgn h.1) pt, fun vs σ H Q hl q => ?_⟩, ?_, ?_⟩
      · cases vs with
        | nil => cases hl
        | cons v vs => exact ⟨v, vs, rfl, ht vs _ H Q (by simpa using hl) q⟩
      · show (assignEach es X.env).length + 1 = is.length + 1
        rw [hl]
      · show ((false, assign (.Name x pos) X.env) :: assignEach es X.env).findIdx? (·.1) = none
        rw [List.findIdx?_cons, hf]
        rfl
    | _ => simp [namesOk] at h
theorem bindDs_rel : ∀ {is : List Nat} {ds : List D} {vs : List V} {env env' : Env} {σ : L2.St}, (∀ i ∈ is, P.lx i = none) → Rel P G F env σ H → Rs P F H ds vs → bindDs is ds env = some env' → Rel P G F env' (setAll σ is vs) H ∧ vs.length = is.length
  | [], _, _, env, env', σ, hx, r, .nil, e => by cases e; exact ⟨r, rfl⟩
  | [], _, _, env, env', σ, hx, r, .cons _ _, e => by cases e
  | i :: is, _, _, env, env', σ, hx, r, .nil, e => by cases e
  | i :: is, _, _, env, env', σ, hx, r, .cons (d := d) (v := v) q t, e => by
    unfold bindDs at e
    cases z : Pd.bindO i (.val d) env with
    | none => rw [z] at e; cases e
    | some e1 =>
      rw [z] at e
      have r1 := r.bindO (hx i List.mem_cons_self) (.val q) z
      obtain ⟨r2, hl⟩ := bindDs_rel (fun j hj => hx j (List.mem_cons_of_mem _ hj)) r1 t e
      exact ⟨r2, by rw [List.length_cons, List.length_cons, hl]⟩
theorem names_lx (c : Ct P S cm n X W sc) : ∀ {is : List Nat} {es : List Expr}, namesOk X.N sc is es = true → ∀ i ∈ is, P.lx i = none
  | [], _, _, i, hi => by simp at hi
  | j :: is, [], h, i, hi => by simp [namesOk] at h
  | j :: is, e :: es, h, i, hi => by
    cases e with
    | Name x pos =>
      have h : (locOk X.N sc j x && namesOk X.N sc is es) = true := h
      rw [Bool.and_eq_true] at h
      rcases List.mem_cons.mp hi with rfl | hi
      · exact c.nlx h.1
      · exact names_lx c h.2 i hi
    | _ => simp [namesOk] at h
theorem PG.or {tg : Expr} {g1 g2 : TG} (h1 : PG X tg g1) (h2 : PG X tg g2) : PG X tg (fun v σ H Q => g1 v σ H Q ∨ g2 v σ H Q) :=
  ⟨fun pins s σ H v u Q I r h => h.elim (h1.run pins s σ H v u Q I r) (h2.run pins s σ H v u Q I r)⟩
theorem snd_unp (c : Ct P S cm n X W sc) {es : List Expr} {is : List Nat} {ea : Expr} {a : E} {k : Nat} {p pos : Pos} (hc : cm = true) (h : namesOk X.N sc is es = true) (sa : SndE P X W cl ea a) (hw : swappedStores [.Tuple es k p] ea X.env = pure none) :
    SndS P X W cl (.Assign [.Tuple es k p] ea pos) (.unp is a) := by
  obtain ⟨t, pa, ha⟩ := sa
  obtain ⟨⟨g, pg, hg⟩, hl, hf⟩ := pgs_names c h
  refine ⟨_, ps_asg pa (Pd.PG.or (pg_tup (c.calm hc) pg hl hf) (pg_lst (c.calm hc) pg hl hf)) sws_tup hw rfl, ?_⟩
  intro G F env σ H E rel gs
  unfold evalS at gs
  refine ha G F env σ H _ rel (GR.more (GS.fl gs) (fun _ z => z) fun o e F1 H1 st r1 g1 v ro => ?_)
  cases ro with
  | slot e1 => exact g1.elim
  | fresh q n1 n2 n3 =>
    cases q with
    | lst e1 rs =>
      obtain ⟨e2, eq, g2⟩ := GS.nxO g1
      obtain ⟨r2, hl2⟩ := bindDs_rel (names_lx c h) r1 rs eq
      exact .inr ⟨_, _, rfl, SqL.of e1, hl2, hg _ _ _ _ hl2 (g2 F1 _ H1 (Step.refl ..) r2)⟩
    | dic e1 l rs => exact g1.elim
  | val q =>
    cases q with
    | tup s rs =>
      obtain ⟨e2, eq, g2⟩ := GS.nxO g1
      obtain ⟨r2, hl2⟩ := bindDs_rel (names_lx c h) r1 rs eq
      exact .inl ⟨_, _, rfl, by rw [c.hK]; exact s.sq, hl2, hg _ _ _ _ hl2 (g2 F1 _ H1 (Step.refl ..) r2)⟩
    | lst s rs =>
      obtain ⟨e2, eq, g2⟩ := GS.nxO g1
      obtain ⟨r2, hl2⟩ := bindDs_rel (names_lx c h) r1 rs eq
      exact .inr ⟨_, _, rfl, by rw [c.hK]; exact s.sq, hl2, hg _ _ _ _ hl2 (g2 F1 _ H1 (Step.refl ..) r2)⟩
    | _ => exact g1.elim
theorem ROs.bound {os : List Opd} : ∀ {G' : Addr → Prop} {vs : List V} {i : Nat} {o : Opd} {v : V}, (∀ a, pendG G o v a → G' a) → Rel P G F env σ H → RO P G F env σ H o v → ROs P F env σ H G' os vs → (∀ o ∈ os, ∀ j, o ≠ .slot j) → ∀ {env1 : Env}, Pd.bindO i o env = some env1 →
    ROs P F env1 (σ.set i (some v)) H G' os vs := by
  induction os with
  | nil => intro G' vs i o v _ _ _ h _ env1 _; cases h; exact .nil _
  | cons p os ih =>
    intro G' vs i o v hG' rel ro h hn env1 eb
    cases h with
    | cons r t =>
      refine .cons ?_ (ih (fun a z => .inl (hG' a z)) rel ro t (fun o ho => hn o (List.mem_cons_of_mem _ ho)) eb)
      cases r with
      | val q => exact .val q
      | slot e => exact absurd rfl (hn _ List.mem_cons_self _)
      | fresh q n1 n2 n3 =>
        rename_i d a
        refine .fresh q n1 n2 fun j z => ?_
        unfold Pd.bindO at eb
        split at eb
        · cases o with
          | slot k => cases eb
          | val d' =>
            cases eb
            exact n3 j (OwnAt.of_set (fun _ => by simp) z).2
          | fresh d' =>
            cases eb
            obtain ⟨⟨d'', e1⟩, e2⟩ := z
            by_cases hj : i = j
            · subst hj
              cases ro with
              | fresh q' m1 m2 m3 =>
                rename_i hlt b
                rw [List.getElem?_set_self (by rw [← rel.len]; exact hlt)] at e2
                cases e2
                exact n2 (hG' _ (.inr ⟨⟨_, rfl⟩, rfl⟩))
            · rw [List.getElem?_set_ne hj] at e1 e2
              exact n3 j ⟨⟨d'', e1⟩, e2⟩
        · cases eb
theorem binds_rel {os : List Opd} : ∀ {is : List Nat} {G : Addr → Prop} {vs : List V} {env env' : Env} {σ : L2.St}, (∀ i ∈ is, P.lx i = none) → Rel P G F env σ H → ROs P F env σ H G os vs → binds is os env = some env' → Rel P G F env' (setAll σ is vs) H ∧ vs.length = is.length := by
  induction os with
  | nil =>
    intro is G vs env env' σ hx r h e
    cases h
    cases is with
    | nil => cases e; exact ⟨r, rfl⟩
    | cons i is => cases e
  | cons o os ih =>
    intro is G vs env env' σ hx r h e
    cases is with
    | nil => cases e
    | cons i is =>
      cases h with
      | cons ro t =>
        rename_i v vs
        unfold binds at e
        cases z : Pd.bindO i o env with
        | none => rw [z] at e; cases e
        | some e1 =>
          rw [z] at e
          have e : binds is os e1 = some env' := e
          have r1 := r.bindO (hx i List.mem_cons_self) ro z
          have nslot : ∀ (is : List Nat) (os : List Opd) (e1 : Env), binds is os e1 = some env' → ∀ o ∈ os, ∀ j, o ≠ .slot j := by
            intro is os
            induction os generalizing is with
            | nil => intro e1 _ o ho; simp at ho
            | cons p os ih2 =>
              intro e1 h o ho j
              cases is with
              | nil => cases h
              | cons i is =>
                unfold binds at h
                cases z : Pd.bindO i p e1 with
                | none => rw [z] at h; cases h
                | some e2 =>
                  rw [z] at h
                  rcases List.mem_cons.mp ho with rfl | ho
                  · intro q
                    subst q
                    unfold Pd.bindO at z
                    split at z <;> cases z
                  · exact ih2 is e2 h o ho j
          have t1 := ROs.bound (i := i) (fun a z => z) r ro t (nslot is os e1 e) z
          have t2 := t1.shift (G := G) (fun _ z => z) (fun _ z => .inl z) fun a z => .inl z
          obtain ⟨r2, hl⟩ := ih (fun j hj => hx j (List.mem_cons_of_mem _ hj)) r1 t2 e
          exact ⟨r2, by rw [List.length_cons, List.length_cons, hl]⟩
theorem par_run {ta : TA} {es : Es} {is : List Nat} (hx : ∀ i ∈ is, P.lx i = none) (h : ∀ G F env σ H Q, Rel P G F env σ H → GA P W G F σ H Q (evalEs cl es env) → ta σ H Q) {E : Ends} (rel : Rel P G F env σ H) (g : GS P W G F H E (evalS cl (.par is es) env)) (Q : List V → Hp → Prop)
    (hQ : ∀ vs H1 F1 e, Rel P G F1 e σ H1 → (∃ os, evalEs cl es env = .ok os e ∧ os.length = vs.length) → vs.length = is.length → (∀ (H2 : Hp), (∀ a o, H1 a = some o → H2 a = some o) → E.nx (setAll σ is vs) H2) → Q vs H1) : ta σ H Q := by
  unfold evalS at g
  refine h G F env σ H _ rel ?_
  cases hr : evalEs cl es env with
  | stk => rw [hr] at g; exact g
  | exc x e => rw [hr] at g; exact fun F' H' cls d st r rx => g F' σ H' cls d st r rx
  | ok os e =>
    rw [hr] at g
    intro F1 H1 st r1 vs ro
    have g1 : GS P W G F1 H1 E (nxO (binds is os e)) := GS.step g st
    obtain ⟨e2, eq, g2⟩ := GS.nxO g1
    obtain ⟨r2, hl⟩ := binds_rel hx r1 ro eq
    exact hQ vs H1 F1 e r1 ⟨os, hr, ro.len⟩ hl fun H2 same => g2 F1 _ H2 (Step.same same) (r2.same same)
theorem snd_par (c : Ct P S cm n X W sc) {es vsE : List Expr} {is : List Nat} {b : Es} {k k2 : Nat} {p p2 pos : Pos} (hc : cm = true) (h : namesOk X.N sc is es = true) (sb : SndA P X W cl vsE b) (hl : lenEs b ≤ cap) (hw : swappedStores [.Tuple es k p] (.Tuple vsE k2 p2) X.env = pure none) :
    SndS P X W cl (.Assign [.Tuple es k p] (.Tuple vsE k2 p2) pos) (.par is b) := by
  obtain ⟨t, pa, ha⟩ := sb
  obtain ⟨⟨g, pg, hg⟩, hl1, hf⟩ := pgs_names c h
  refine ⟨_, ps_asg (pe_tup pa) (pg_tup (c.calm hc) pg hl1 hf) sws_tup hw rfl, ?_⟩
  intro G F env σ H E rel gs
  refine par_run (names_lx c h) ha rel gs _ fun vs H1 F1 e r1 hos hl2 hq => ?_
  obtain ⟨os, eo, lo⟩ := hos
  refine ⟨by rw [← lo, evalEs_len b eo]; exact cap_le hl, fun q hq0 => ?_⟩
  exact ⟨q, vs, rfl, SqT.of upd_same, hl2, hg vs σ _ _ hl2 (hq _ (same_new hq0))⟩
theorem snd_par2 (c : Ct P S cm n X W sc) {x y : Str} {i j : Nat} {ea eb : Expr} {b : Es} {k k2 : Nat} {px py p p2 pos : Pos} (hc : cm = true) (hx : ∀ k ∈ [i, j], P.lx k = none) (h1 : X.N[i]? = some x) (h2 : X.N[j]? = some y) (hij : i ≠ j) (l1 : isLcl sc x = true) (l2 : isLcl sc y = true) (sb : SndA P X W cl [ea, eb] b)
    (hw : swappedStores [.Tuple [.Name x px, .Name y py] k p] (.Tuple [ea, eb] k2 p2) X.env = pure (some [x, y])) : SndS P X W cl (.Assign [.Tuple [.Name x px, .Name y py] k p] (.Tuple [ea, eb] k2 p2) pos) (.par [i, j] b) := by
  obtain ⟨t, pa, ha⟩ := sb
  refine ⟨_, ps_par (c.calm hc) c.nd h1 h2 hij (c.lcl _ (isLcl_eq l1)) (c.lcl _ (isLcl_eq l2)) pa hw sws_tup, ?_⟩
  intro G F env σ H E rel gs
  refine par_run hx ha rel gs _ fun vs H1 F1 e r1 hos hl2 hq => ?_
  match vs, hl2 with
  | [v, w'], _ => exact ⟨v, w', rfl, hq H1 fun _ _ z => z⟩
theorem snd_par3 (c : Ct P S cm n X W sc) {x y z : Str} {i j l : Nat} {ea eb ec : Expr} {b : Es} {k k2 : Nat} {px py pz p p2 pos : Pos} (hc : cm = true) (hx : ∀ k ∈ [i, j, l], P.lx k = none) (h1 : X.N[i]? = some x) (h2 : X.N[j]? = some y) (h3 : X.N[l]? = some z) (hij : i ≠ j) (hil : i ≠ l) (hjl : j ≠ l)
    (l1 : isLcl sc x = true) (l2 : isLcl sc y = true) (l3 : isLcl sc z = true) (sb : SndA P X W cl [ea, eb, ec] b)
    (hw : swappedStores [.Tuple [.Name x px, .Name y py, .Name z pz] k p] (.Tuple [ea, eb, ec] k2 p2) X.env = pure (some [x, y, z])) : SndS P X W cl (.Assign [.Tuple [.Name x px, .Name y py, .Name z pz] k p] (.Tuple [ea, eb, ec] k2 p2) pos) (.par [i, j, l] b) := by
  obtain ⟨t, pa, ha⟩ := sb
  refine ⟨_, ps_par3 (c.calm hc) c.nd h1 h2 h3 hij hil hjl (c.lcl _ (isLcl_eq l1)) (c.lcl _ (isLcl_eq l2)) (c.lcl _ (isLcl_eq l3)) pa hw sws_tup, ?_⟩
  intro G F env σ H E rel gs
  refine par_run hx ha rel gs _ fun vs H1 F1 e r1 hos hl2 hq => ?_
  match vs, hl2 with
  | [u, v, w'], _ => exact ⟨u, v, w', rfl, hq H1 fun _ _ z => z⟩
end
end Pd
set_option autoImplicit false
set_option linter.all false
set_option maxRecDepth 100000
set_option maxHeartbeats 1000000
namespace Pd
open PySem PySem.Spec PyProof.Rows L2
section
variable {P : Pl} {S : Stat} {cm : Bool} {n : Nat} {W : WX} {G G' F F' : Addr → Prop} {env env' : Env} {σ : L2.St} {H H' : Hp} {X : Cx} {sc : Scope} {cl : Caller}

/-! ### a slot's own list changes -/
theorem Rel.ownUpd (r : Rel P G F env σ H) {i : Nat} {d : D} {a : Addr} {ds : List D} {xs : List V} (e : env[i]? = some (.own d)) (e2 : σ[i]? = some (some (.ref a))) (q : Rs P F H ds xs) :
    Rel P G F (env.set i (.own (.lst ds))) σ (upd H a (.lst xs)) ∧ Step G F H F (upd H a (.lst xs)) := by
  obtain ⟨a', e3, o, n1, n2⟩ := r.ownAt e
  rw [e2] at e3
  cases e3
  have hx : ∀ b, P.lx i = some b → some (V.ref a) = some (V.ref b) := fun b hb => by
    have := r.fix i b hb
    rw [e2] at this
    exact Option.some.inj this
  have hσ : σ.set i (some (.ref a)) = σ := by
    apply List.ext_getElem?
    intro j
    by_cases hj : i = j
    · subst hj
      rw [List.getElem?_set_self (List.getElem?_eq_some_iff.mp e2).1, e2]
    · rw [List.getElem?_set_ne hj]
  have un : Rel P G F (env.set i .un) σ H := by
    have z := r.setUn (i := i) (some (V.ref a)) hx
    rw [hσ] at z
    exact z
  have no : ∀ j, ¬ OwnAt (env.set i .un) σ j a := fun j z => by
    have z' : OwnAt (env.set i .un) (σ.set i (some (V.ref a))) j a := by rw [hσ]; exact z
    obtain ⟨hj, z2⟩ := OwnAt.of_set (fun _ => by simp) z'
    exact r.apart j i a hj z2 ⟨⟨d, e⟩, e2⟩
  have st : Step G F H F (upd H a (.lst xs)) := step_upd n1 n2
  have r1 := (un.addG o.some n1 no).updG (o := .lst xs) (.inr rfl)
  have r2 := (r1.less (G' := G) fun _ z => .inl z).setOwn (i := i) (d := .lst ds) (a := a) hx (.lst upd_same (Rs.step st q)) n1 n2 fun j _ => no j
  rw [hσ, List.set_set] at r2
  exact ⟨r2, st⟩
theorem Rel.ownLst (r : Rel P G F env σ H) {i : Nat} {ds : List D} (e : env[i]? = some (.own (.lst ds))) : ∃ a xs, σ[i]? = some (some (.ref a)) ∧ H a = some (.lst xs) ∧ Rs P F H ds xs := by
  obtain ⟨a, e3, o, _⟩ := r.ownAt e
  cases o with
  | lst h q => exact ⟨a, _, e3, h, q⟩

/-! ### x[i] = e -/
theorem sws_sub {o ix : Expr} {p : Pos} {e : Expr} {l : Nat} {env : PySem.Env} : swapsWithSole [.Subscript o ix p] e l env = pure false := sw_other (t := .Subscript o ix p) rfl l env
def PlainSt (ix : Expr) : Prop := ∀ (o : Expr) (pos : Pos) (env : PySem.Env) (v : Value), assign (.Subscript o ix pos) env v = (do
      let ov ← holding [v] (eval o env)
      let iv ← holding [v, ov] (eval ix env)
      standAt pos
      holding [v, ov, iv] (setItem ov iv v)
      release [v, ov, iv] [])
def PlainAug (ix : Expr) : Prop := ∀ ov iv new : Value, augStore ix ov iv new = (do holding [new, ov, iv] (setItem ov iv new); release [new, ov, iv] []; pure .next)
theorem setOwn_some {i : Nat} {k d : D} (h : setOwn i k d env = some env') : ∃ xs j p, env[i]? = some (.own (.lst xs)) ∧ k = .int j ∧ place xs.length j = some p ∧ env' = env.set i (.own (.lst (xs.set p d))) := by
  unfold Pd.setOwn at h
  split at h
  · rename_i xs j e
    cases z : place xs.length j with
    | none => rw [z] at h; cases h
    | some p => rw [z] at h; cases h; exact ⟨xs, j, p, e, rfl, z, rfl⟩
  · cases h
theorem set_own {i : Nat} {k d : D} {vk v : V} (r : Rel P G F env σ H) (h : setOwn i k d env = some env') (rk : R P F H k vk) (rv : R P F H d v) {Q : L2.St → Hp → Prop}
    (q : ∀ H', Step G F H F H' → Rel P G F env' σ H' → Q σ H') : ∃ a, σ[i]? = some (some (.ref a)) ∧ rSetL (.ref a) vk v H fun H' => Q σ H' := by
  obtain ⟨ds, j, p, e1, rfl, e2, rfl⟩ := setOwn_some h
  obtain ⟨a, xs, e3, e4, rs⟩ := r.ownLst e1
  cases rk
  refine ⟨a, e3, a, xs, j, p, rfl, rfl, e4, by rw [← rs.length]; exact e2, ?_⟩
  obtain ⟨r2, st⟩ := r.ownUpd e1 e3 (Rs.set rv p rs)
  exact q _ st r2
/-- the list's name, as an operand -/
theorem pe_slot (c : Ct P S cm n X W sc) {i : Nat} {x : Str} {pos : Pos} (h : varOk X.N sc i x = true) : PE X (.Name x pos) (tVar i) := by
  unfold varOk at h
  rw [Bool.and_eq_true, Bool.and_eq_true] at h
  obtain ⟨d1, d2⟩ := dbg_ok h.2
  exact pe_var (i := i) (of_decide_eq_true h.1.1) (c.vis h.1.2) d1 d2
theorem slot_run {i : Nat} {a : Addr} {Q : VK} (e : σ[i]? = some (some (.ref a))) (q : Q (.ref a) H) : tVar i σ H Q := ⟨_, e, q⟩
theorem bind2_some {α β γ : Type} {a : Option α} {b : Option β} {f : α → β → Option γ} {c : γ} (h : (a.bind fun x => b.bind fun y => f x y) = some c) : ∃ x y, a = some x ∧ b = some y ∧ f x y = some c := by
  cases a with
  | none => cases h
  | some x => cases b with
    | none => cases h
    | some y => exact ⟨x, y, rfl, rfl, h⟩
theorem isOwn_at (r : Rel P G F env σ H) {i : Nat} (h : isOwn i env = true) : ∃ a, σ[i]? = some (some (.ref a)) ∧ ∃ ds, Own P F H (.lst ds) a := by
  unfold isOwn at h
  split at h
  · rename_i d e
    obtain ⟨a, e1, q, _⟩ := r.ownAt e
    exact ⟨a, e1, d, q⟩
  · cases h
/-- one store at a place of a slot's list -/
theorem sub_run {ti : TE} {ix : E} {i : Nat} {d : D} {v : V} (hi : ∀ G F env σ H Q, Rel P G F env σ H → GE P W G F σ H Q (evalE cl ix env) → ti σ H Q) {C : Env → (Addr → Prop) → Hp → Prop} (rel : Rel P G F env σ H) (rv : R P F H d v) (ho : isOwn i env = true) {k : Opd → Env → Res Unit}
    (g : GR P W G F σ H (fun _ e F' H' => C e F' H') ((evalE cl ix env).bind k))
    {Q : L2.St → Hp → Prop} (hk : ∀ o e F1 H1, Step G F H F1 H1 → Rel P G F1 e σ H1 → GR P W G F1 σ H1 (fun _ e F' H' => C e F' H') (k o e) → ∃ kd e', o.leak = some kd ∧ setOwn i kd d e = some e' ∧ ∀ F2 H2, Step G F1 H1 F2 H2 → Rel P G F2 e' σ H2 → Q σ H2) :
    gSub (tVar i) ti rSetL v σ H Q := by
  obtain ⟨a, ea, _⟩ := isOwn_at rel ho
  refine slot_run ea ?_
  refine hi G F env σ H _ rel (GR.bind g fun o e F1 H1 st r1 g1 vk rk => ?_)
  obtain ⟨kd, e', h1, h2, h3⟩ := hk o e F1 H1 st r1 g1
  obtain ⟨F2, _, st2, r2, q2⟩ := rk.leak r1 h1
  obtain ⟨a', ea', hs⟩ := set_own (Q := Q) r2 h2 q2 (R.step (st.trans st2) rv) fun H' st3 r3 => h3 F2 H' (st2.trans st3) r3
  rw [ea] at ea'
  cases ea'
  exact hs
theorem snd_setI (c : Ct P S cm n X W sc) {x : Str} {ei ea : Expr} {ix a : E} {i : Nat} {p p2 pos : Pos} (h : varOk X.N sc i x = true) (si : SndE P X W cl ei ix) (sa : SndE P X W cl ea a) (hp : PlainSt ei) :
    SndS P X W cl (.Assign [.Subscript (.Name x p) ei p2] ea pos) (.setI i ix a) := by
  obtain ⟨ti, pi, hi⟩ := si
  obtain ⟨ta, pa, ha⟩ := sa
  refine ⟨_, ps_asg pa (pg_sub (pe_slot c h) pi set_list (hp _ _ _)) sws_sub, ?_⟩
  intro G F env σ H E rel g
  unfold evalS at g
  refine ha G F env σ H _ rel (GR.more (GS.fl g) (fun _ z => z) fun o e1 F1 H1 st r1 g1 v ro => ?_)
  split at g1
  · rename_i d hd
    split at g1
    · rename_i ho
      obtain ⟨F2, _, st2, r2, q2⟩ := ro.leak r1 hd
      have g2 := GS.fl (σ := σ) (GS.step g1 st2)
      obtain ⟨a', ea', _⟩ := isOwn_at r2 ho
      refine slot_run ea' (hi G F2 e1 σ H1 _ r2 (GR.more g2 (fun _ z => z) fun k e F3 H3 st3 r3 g3 vk rk => ?_))
      obtain ⟨e', he, g4⟩ := GS.nxO g3
      cases z : k.leak with
      | none => rw [z] at he; cases he
      | some kd =>
        rw [z] at he
        obtain ⟨F4, _, st4, r4, q4⟩ := rk.leak r3 z
        obtain ⟨a2, ea2, hs⟩ := set_own (Q := fun σ H => E.nx σ H) r4 he q4 (R.step (st3.trans st4) q2) fun H' st5 r5 => g4 F4 _ H' (st4.trans st5) r5
        rw [ea'] at ea2
        cases ea2
        exact hs
    · exact g1.elim
  · exact g1.elim

/-! ### x[i], y[j] = a, b -/
theorem swst_sub2 {o1 i1 o2 i2 ea eb : Expr} {p1 p2 p q : Pos} {k k2 : Nat} {env : PySem.Env} : swappedStores [.Tuple [.Subscript o1 i1 p1, .Subscript o2 i2 p2] k p] (.Tuple [ea, eb] k2 q) env = pure none := by
  unfold swappedStores
  simp
theorem sws_tup2 {es : List Expr} {k : Nat} {p : Pos} {e : Expr} {l : Nat} {env : PySem.Env} : swapsWithSole [.Tuple es k p] e l env = pure false := sws_tup
theorem leaks2 {os : List Opd} {d d' : D} (h : leaks os = some [d, d']) {vs : List V} (ro : ROs P F env σ H G os vs) (r : Rel P G F env σ H) : ∃ F' v v', vs = [v, v'] ∧ Step G F H F' H ∧ Rel P G F' env σ H ∧ R P F' H d v ∧ R P F' H d' v' := by
  obtain ⟨F2, st2, r2, q2⟩ := ro.leaks r h
  cases q2 with
  | cons a q =>
    cases q with
    | cons b q =>
      cases q
      exact ⟨F2, _, _, rfl, st2, r2, a, b⟩
theorem snd_setI2 (c : Ct P S cm n X W sc) {x y : Str} {ei ej ea eb : Expr} {ix jx : E} {b : Es} {i j : Nat} {k k2 : Nat} {p1 p2 q1 q2 p q pos : Pos} (hc : cm = true) (h : varOk X.N sc i x = true) (h' : varOk X.N sc j y = true) (si : SndE P X W cl ei ix) (sj : SndE P X W cl ej jx) (sb : SndA P X W cl [ea, eb] b) (hb : lenEs b ≤ cap) (hp : PlainSt ei) (hp' : PlainSt ej) :
    SndS P X W cl (.Assign [.Tuple [.Subscript (.Name x p1) ei p2, .Subscript (.Name y q1) ej q2] k p] (.Tuple [ea, eb] k2 q) pos) (.setI2 i ix j jx b) := by
  obtain ⟨ti, pi, hi⟩ := si
  obtain ⟨tj, pj, hj⟩ := sj
  obtain ⟨ta, pa, ha⟩ := sb
  refine ⟨_, ps_asg (pe_tup pa) (pg_tup (c.calm hc) (pgs_cons (pg_sub (pe_slot c h) pi set_list (hp _ _ _)) (pgs_cons (pg_sub (pe_slot c h') pj set_list (hp' _ _ _)) pgs_nil))) sws_tup swst_sub2, ?_⟩
  intro G F env σ H E rel g
  unfold evalS at g
  refine ha G F env σ H _ rel ?_
  have g := GS.fl (σ := σ) g
  cases hr : evalEs cl b env with
  | stk => rw [hr] at g; exact g.elim
  | exc x e => rw [hr] at g; exact g
  | ok os e1 =>
    rw [hr] at g
    intro F1 H1 st r1 vs ro
    have g1 := g F1 H1 st r1
    dsimp only at g1
    refine ⟨by rw [← ro.len, evalEs_len b hr]; exact cap_le hb, fun T hT => ?_⟩
    split at g1
    · rename_i d d' hl
      obtain ⟨F2, v, v', rfl, st2, r2, ra, rb⟩ := leaks2 hl ro r1
      split at g1
      · rename_i ho
        have stT : Step G F1 H1 F2 (upd H1 T (.tup [v, v'])) := st2.trans (Step.same (same_new hT))
        have r3 : Rel P G F2 e1 σ (upd H1 T (.tup [v, v'])) := r2.same (same_new hT)
        have sT : Step G F2 H1 F2 (upd H1 T (.tup [v, v'])) := Step.same (same_new hT)
        have g2 := GS.fl (σ := σ) (GS.step g1 stT)
        refine ⟨T, [v, v'], rfl, SqT.of upd_same, rfl, v, [v'], rfl, ?_⟩
        obtain ⟨a', ea', _⟩ := isOwn_at r3 ho
        refine slot_run ea' (hi G F2 e1 σ _ _ r3 (GR.more g2 (fun _ z => z) fun k e F3 H3 st3 r3 g3 vk rk => ?_))
        cases z : k.leak with
        | none => rw [z] at g3; exact g3.elim
        | some kd =>
          rw [z] at g3
          obtain ⟨F4, _, st4, r4, q4⟩ := rk.leak r3 z
          split at g3
          · rename_i e3 he
            split at g3
            · rename_i ho2
              have stA := (sT.trans st3).trans st4
              have cont : ∀ H', Step G F4 H3 F4 H' → Rel P G F4 e3 σ H' → gCons (gSub (tVar j) tj rSetL) gNil [v'] σ H' E.nx := by
                intro H' st5 r5
                refine ⟨v', [], rfl, ?_⟩
                obtain ⟨a3, ea3, _⟩ := isOwn_at r5 ho2
                have g5 := GS.fl (σ := σ) (GS.step g3 (st4.trans st5))
                refine slot_run ea3 (hj G F4 e3 σ _ _ r5 (GR.more g5 (fun _ z => z) fun k6 e6 F6 H6 st6 r6 g6 vk6 rk6 => ?_))
                obtain ⟨e7, he7, g7⟩ := GS.nxO g6
                cases z6 : k6.leak with
                | none => rw [z6] at he7; cases he7
                | some kd6 =>
                  rw [z6] at he7
                  obtain ⟨F8, _, st8, r8, q8⟩ := rk6.leak r6 z6
                  obtain ⟨a4, ea4, hs4⟩ := set_own (Q := fun σ0 H0 => gNil [] σ0 H0 E.nx) r8 he7 q8 (R.step (((stA.trans st5).trans st6).trans st8) rb) fun H' st9 r9 => ⟨rfl, g7 F8 _ H' (st8.trans st9) r9⟩
                  rw [ea3] at ea4
                  cases ea4
                  exact hs4
              obtain ⟨a2, ea2, hs⟩ := set_own (Q := fun σ0 H0 => gCons (gSub (tVar j) tj rSetL) gNil [v'] σ0 H0 E.nx) r4 he q4 (R.step stA ra) cont
              rw [ea'] at ea2
              cases ea2
              exact hs
            · exact g3.elim
          · exact g3.elim
      · exact g1.elim
    · exact g1.elim

/-! ### op= -/
theorem op_fdivP : OpR X (inplaceOp .FloorDiv) (rI CDivW fun i j => .int (i / j)) := iop_fdivW
theorem iop_mulP : OpR X (inplaceOp .Mult) (rI CMulW fun i j => .int (i * j)) := opI fun _ _ _ _ _ _ _ hc q => imul_int q hc.ok
def bopA : BOp → Operator
  | .add => .Add | .sub => .Sub | .mul => .Mult | .fdiv => .FloorDiv | .mod => .Mod | .pow => .Pow
theorem aug_ok (op : BOp) : ∃ r, PIp X (bopA op) r ∧ ∀ {d y z : D} {vx vy : V} {Q : VK}, R P F H d vx → R P F H y vy → augV op d y = some z → (∀ v, R P F H z v → Q v H) → r vx vy H Q := by
  have no : ∀ op, ∃ r : TIp, PIp X op r ∧ r = fun _ _ _ _ => False := fun op => ⟨_, fun _ _ _ _ _ _ _ _ _ _ _ _ h => h.elim, rfl⟩
  cases op with
  | add =>
    refine ⟨_, OpR.or iop_add iop_add_str, ?_⟩
    intro d y z vx vy Q r1 r2 e k
    unfold augV at e
    cases r1 <;> cases r2 <;> first | cases e | skip
    · exact .inl ⟨_, _, rfl, rfl, k _ (.int _)⟩
    · simp only at e
      split at e
      · rename_i hl
        cases e
        exact .inr ⟨_, _, rfl, rfl, cap_le hl, k _ (.str _)⟩
      · cases e
  | sub =>
    refine ⟨_, iop_sub, ?_⟩
    intro d y z vx vy Q r1 r2 e k
    unfold augV at e
    cases r1 <;> cases r2 <;> first | cases e | skip
    exact ⟨_, _, rfl, rfl, k _ (.int _)⟩
  | mul =>
    refine ⟨_, iop_mulP, ?_⟩
    intro d y z vx vy Q r1 r2 e k
    unfold augV at e
    cases r1 <;> cases r2 <;> first | cases e | skip
    simp only at e
    split at e
    · rename_i hl
      cases e
      refine ⟨_, _, rfl, rfl, ?_, k _ (.int _)⟩
      unfold mulOk at hl
      unfold CMulW
      exact of_decide_eq_true hl
    · cases e
  | fdiv =>
    refine ⟨_, iop_fdivW, ?_⟩
    intro d y z vx vy Q r1 r2 e k
    unfold augV at e
    cases r1 <;> cases r2 <;> first | cases e | skip
    simp only at e
    split at e
    · rename_i hl
      cases e
      exact ⟨_, _, rfl, rfl, hl, k _ (.int _)⟩
    · cases e
  | mod =>
    refine ⟨_, iop_mod, ?_⟩
    intro d y z vx vy Q r1 r2 e k
    unfold augV at e
    cases r1 <;> cases r2 <;> first | cases e | skip
    simp only at e
    split at e
    · rename_i hl
      cases e
      exact ⟨_, _, rfl, rfl, hl, k _ (.int _)⟩
    · cases e
  | pow =>
    obtain ⟨r, h, e⟩ := no (bopA .pow)
    refine ⟨r, h, ?_⟩
    intro d y z vx vy Q r1 r2 e k
    unfold augV at e
    cases r1 <;> cases r2 <;> cases e
theorem snd_aug (c : Ct P S cm n X W sc) {x : Str} {ea : Expr} {a : E} {i : Nat} (op : BOp) {p pos : Pos} (h : locOk X.N sc i x = true) (sa : SndE P X W cl ea a) : SndS P X W cl (.AugAssign (.Name x p) (bopA op) ea pos) (.aug i op a) := by
  have hx := c.nlx h
  unfold locOk at h
  rw [Bool.and_eq_true, Bool.and_eq_true] at h
  obtain ⟨h1, h2⟩ := c.loc h.1.2
  obtain ⟨t, pa, ha⟩ := sa
  -- the operation's wish, for all heaps
  have op_all : ∃ r, PIp X (bopA op) r ∧ ∀ (F : Addr → Prop) (H : Hp) {d y z : D} {vx vy : V} {Q : VK}, R P F H d vx → R P F H y vy → augV op d y = some z → (∀ v, R P F H z v → Q v H) → r vx vy H Q := by
    refine ⟨fun vx vy H Q => ∃ r, PIp X (bopA op) r ∧ r vx vy H Q, ?_, ?_⟩
    · intro pins s σ H x y v u Q I r1 r2 ⟨r, hr, q⟩
      exact hr pins s σ H x y v u Q I r1 r2 q
    · intro F H d y z vx vy Q r1 r2 e k
      obtain ⟨r, hr, ok⟩ := aug_ok (X := X) (P := P) (F := F) (H := H) op
      exact ⟨r, hr, ok r1 r2 e k⟩
  obtain ⟨r, hr, ok⟩ := op_all
  refine ⟨_, ps_aug c.nd (of_decide_eq_true h.1.1) h1 pa hr h2, ?_⟩
  intro G F env σ H E rel g
  unfold evalS at g
  split at g
  · rename_i d hd
    unfold getVal at hd
    split at hd
    · rename_i d' e
      cases hd
      obtain ⟨v, e1, q⟩ := rel.valAt e
      refine ⟨v, e1, ha G F env σ H _ rel (GR.more (GS.fl g) (fun _ z => z) fun o e F1 H1 st r1 g1 vo ro => ?_)⟩
      obtain ⟨e2, he, g2⟩ := GS.nxO g1
      cases z : o.leak with
      | none => rw [z] at he; cases he
      | some y =>
        rw [z] at he
        cases z2 : augV op d y with
        | none => simp only [Option.bind_some, z2, Option.bind_none] at he; cases he
        | some zz =>
          simp only [Option.bind_some, z2] at he
          obtain ⟨F2, _, st2, r2, q2⟩ := ro.leak r1 z
          exact ok F2 H1 (R.step (st.trans st2) q) q2 z2 fun w rw' => g2 F2 _ H1 st2 (r2.bindO hx (.val rw') he)
    · cases hd
  · exact g.elim
theorem pget_list : PGet X (rIxL X.K) := by
  intro pins s σ H x y v u Q I rx ry h
  obtain ⟨p, xs, i, z, rfl, rfl, hq, he, q⟩ := h
  cases rx
  obtain ⟨t, rfl⟩ := ry
  obtain ⟨its, r, pl, hz⟩ := I.list hq
  obtain ⟨j, h1, h2, h3, h4, h5⟩ := atI_get he
  obtain ⟨w, ew, rw'⟩ := r.get h2
  have hl := r.length
  have hn := line63
  have fin : EP X pins σ Q w s := ⟨z, H, I, rw', q⟩
  by_cases h0 : 0 ≤ i
  · have hj : i.toNat = j := by
      rw [seqIndex_of h0 h5] at h1
      exact Option.some.inj h1
    exact wpAny_getItem_list pl.isList h0 (by omega) (by rw [hj]; simpa using ew) fin
  · have hj : (i + (its.toArray.size : Int)).toNat = j := by
      rw [seqIndex_neg (by omega) h4] at h1
      rw [List.size_toArray, ← hl]
      exact Option.some.inj h1
    exact wpAny_getItem_list_neg pl.isList (by omega) (by rw [List.size_toArray] <;> omega) (by omega) (by rw [hj]; simpa using ew) fin
theorem snd_augI (c : Ct P S cm n X W sc) {x : Str} {ei ea : Expr} {ix a : E} {i : Nat} (op : BOp) {p p2 pos : Pos} (h : varOk X.N sc i x = true) (si : SndE P X W cl ei ix) (sa : SndE P X W cl ea a) (hp : PlainAug ei) :
    SndS P X W cl (.AugAssign (.Subscript (.Name x p) ei p2) (bopA op) ea pos) (.augI i ix op a) := by
  obtain ⟨ti, pi, hi⟩ := si
  obtain ⟨ta, pa, ha⟩ := sa
  have op_all : ∃ r, PIp X (bopA op) r ∧ ∀ (F : Addr → Prop) (H : Hp) {d y z : D} {vx vy : V} {Q : VK}, R P F H d vx → R P F H y vy → augV op d y = some z → (∀ v, R P F H z v → Q v H) → r vx vy H Q := by
    refine ⟨fun vx vy H Q => ∃ r, PIp X (bopA op) r ∧ r vx vy H Q, ?_, ?_⟩
    · intro pins s σ H x y v u Q I r1 r2 ⟨r, hr, q⟩
      exact hr pins s σ H x y v u Q I r1 r2 q
    · intro F H d y z vx vy Q r1 r2 e k
      obtain ⟨r, hr, ok⟩ := aug_ok (X := X) (P := P) (F := F) (H := H) op
      exact ⟨r, hr, ok r1 r2 e k⟩
  obtain ⟨r, hr, ok⟩ := op_all
  refine ⟨_, ps_augS (pe_slot c h) pi pget_list pa hr set_list hp, ?_⟩
  intro G F env σ H E rel g
  unfold evalS at g
  split at g
  · rename_i ho
    obtain ⟨a', ea', _⟩ := isOwn_at rel ho
    refine slot_run ea' (hi G F env σ H _ rel (GR.more (GS.fl g) (fun _ z => z) fun k e F1 H1 st r1 g1 vk rk => ?_))
    cases z : k.leak with
    | none => rw [z] at g1; exact g1.elim
    | some kd =>
      rw [z] at g1
      cases z2 : getOwn i kd e with
      | none => simp only [Option.bind_some, z2, Option.map_none] at g1; exact g1.elim
      | some d =>
        simp only [Option.bind_some, z2, Option.map_some] at g1
        obtain ⟨F2, _, st2, r2, q2⟩ := rk.leak r1 z
        have g2 := GS.fl (σ := σ) (GS.step g1 st2)
        -- the item
        unfold getOwn at z2
        split at z2
        · rename_i dl hs
          obtain ⟨a2, ea2, o2, _⟩ := r2.ownAt hs
          rw [ea'] at ea2
          cases ea2
          unfold idxV at z2
          split at z2 <;> first | cases z2 | skip
          · rename_i ds j
            cases o2 with
            | lst hH rs =>
              cases q2
              cases z3 : place ds.length j with
              | none => rw [z3] at z2; cases z2
              | some pl =>
                rw [z3] at z2
                obtain ⟨v, h1, h2⟩ := rs.get (show ds[pl]? = some d from z2)
                refine ⟨a', _, j, v, rfl, rfl, SqL.of hH, ?_, ?_⟩
                · unfold atI
                  rw [← rs.length, ← place_eq, z3]
                  exact h1
                refine ha G F2 e σ H1 _ r2 (GR.more g2 (fun _ z => z) fun o e3 F3 H3 st3 r3 g3 vo ro => ?_)
                obtain ⟨e4, he, g4⟩ := GS.nxO g3
                cases z5 : o.leak with
                | none => rw [z5] at he; cases he
                | some y =>
                  rw [z5] at he
                  cases z6 : augV op d y with
                  | none => simp only [Option.bind_some, z6, Option.bind_none] at he; cases he
                  | some zz =>
                    simp only [Option.bind_some, z6] at he
                    obtain ⟨F4, _, st4, r4, q4⟩ := ro.leak r3 z5
                    refine ok F4 H3 (R.step (st3.trans st4) h2) q4 z6 fun w rw' => ?_
                    obtain ⟨a5, ea5, hs5⟩ := set_own (Q := fun σ0 H0 => E.nx σ0 H0) r4 he (.int j) rw' fun H' st5 r5 => g4 F4 _ H' (st4.trans st5) r5
                    rw [ea'] at ea5
                    cases ea5
                    exact hs5
          · cases o2
        · cases z2
  · exact g.elim

/-! ### methods of lists -/
theorem swm {f : Expr} {es : List Expr} {kw : List Keyword} {p : Pos} {l : Nat} {t : Option Expr} {env : PySem.Env} : swapsWith (.Call f es kw p) t l env = pure false := by
  cases t with
  | none => rfl
  | some t => cases t <;> rfl
theorem few1 {ea : Expr} {env : PySem.Env} {pos : Pos} (hs : starEach [ea] env = [(false, eval ea env)]) : ((backTo pos (starEach [ea] env)).all (fun x => !x.1) && (backToKw pos (keywordEach [] env)).all (fun x => x.1.isSome)
      && decide (([ea] : List Expr).length + ([] : List Keyword).length + (if ([] : List Keyword).isEmpty then 0 else 1) < 30)) = true := by
  rw [hs]
  rfl
theorem snd_app (c : Ct P S cm n X W sc) {x : Str} {ea : Expr} {a : E} {i : Nat} {p ap cp pos : Pos} (h : varOk X.N sc i x = true) (sa : SndE P X W cl ea a) (hl : (ap.endLine == cp.line) = true) (hs : starEach [ea] X.env = [(false, eval ea X.env)]) :
    SndS P X W cl (.Expr (.Call (.Attribute (.Name x p) "append" ap) [ea] [] cp) pos) (.app i a) := by
  obtain ⟨ta, pa, ha⟩ := sa
  refine ⟨_, ps_expr (pe_bm PySem.F.plainAttrs_list PySem.F.slot_list_append PySem.F.type_list_append mt_append (pe_slot c h) (pa_cons pa pa_nil hs) rfl (few1 hs) hl hs rfl) swm, ?_⟩
  intro G F env σ H E rel g
  unfold evalS at g
  split at g
  · rename_i ho
    obtain ⟨a', ea', _, o⟩ := isOwn_at rel ho
    change tBM X.K "list" rAppend (tVar i) (tCons ta tNil) σ H (fun _ H' => E.nx σ H')
    refine slot_run ea' ?_
    refine ⟨?_, ?_⟩
    · cases o with | lst e _ => exact .inl ⟨rfl, _, SqL.of e⟩
    refine ha G F env σ H _ rel (GR.more (GS.fl g) (fun _ z => z) fun k e F1 H1 st r1 g1 vk rk => ?_)
    obtain ⟨e2, he, g2⟩ := GS.nxO g1
    cases z : k.leak with
    | none => rw [z] at he; cases he
    | some d =>
      rw [z] at he
      change appOwn i d e = some e2 at he
      obtain ⟨F2, _, st2, r2, q2⟩ := rk.leak r1 z
      unfold appOwn at he
      split at he
      · rename_i ds e5
        split at he
        · rename_i hlt
          cases he
          obtain ⟨a3, xs, e6, e7, rs⟩ := r2.ownLst e5
          rw [ea'] at e6
          cases e6
          obtain ⟨r4, st4⟩ := r2.ownUpd e5 ea' (Rs.append rs (.cons q2 .nil))
          refine ⟨a', xs, vk, rfl, rfl, e7, ?_, g2 F2 _ _ (st2.trans st4) r4⟩
          rw [← rs.length]
          exact Nat.lt_of_lt_of_le hlt (cap_le (Nat.le_refl _))
        · cases he
      · cases he
  · exact g.elim
theorem snd_ext (c : Ct P S cm n X W sc) {x : Str} {ea : Expr} {a : E} {i : Nat} {p ap cp pos : Pos} (h : varOk X.N sc i x = true) (sa : SndE P X W cl ea a) (hl : (ap.endLine == cp.line) = true) (hs : starEach [ea] X.env = [(false, eval ea X.env)]) :
    SndS P X W cl (.Expr (.Call (.Attribute (.Name x p) "extend" ap) [ea] [] cp) pos) (.ext i a) := by
  obtain ⟨ta, pa, ha⟩ := sa
  refine ⟨_, ps_expr (pe_bm PySem.F.plainAttrs_list PySem.F.slot_list_extend PySem.F.type_list_extend mt_extend (pe_slot c h) (pa_cons pa pa_nil hs) rfl (few1 hs) hl hs rfl) swm, ?_⟩
  intro G F env σ H E rel g
  unfold evalS at g
  split at g
  · rename_i ho
    obtain ⟨a', ea', _, o⟩ := isOwn_at rel ho
    change tBM X.K "list" rExtend (tVar i) (tCons ta tNil) σ H (fun _ H' => E.nx σ H')
    refine slot_run ea' ?_
    refine ⟨?_, ?_⟩
    · cases o with | lst e _ => exact .inl ⟨rfl, _, SqL.of e⟩
    refine ha G F env σ H _ rel (GR.more (GS.fl g) (fun _ z => z) fun k e F1 H1 st r1 g1 vk rk => ?_)
    obtain ⟨e2, he, g2⟩ := GS.nxO g1
    cases z : k.leak with
    | none => rw [z] at he; cases he
    | some d =>
      rw [z] at he
      change extOwn i d e = some e2 at he
      obtain ⟨F2, _, st2, r2, q2⟩ := rk.leak r1 z
      unfold extOwn at he
      split at he
      · rename_i ds es e5
        split at he
        · rename_i hlt
          cases he
          obtain ⟨a3, xs, e6, e7, rs⟩ := r2.ownLst e5
          rw [ea'] at e6
          cases e6
          cases q2 with
          | lst s rs2 =>
            obtain ⟨r4, st4⟩ := r2.ownUpd e5 ea' (Rs.append rs rs2)
            refine ⟨a', _, xs, _, rfl, rfl, e7, s.2, ?_, g2 F2 _ _ (st2.trans st4) r4⟩
            rw [← rs.length, ← rs2.length]
            exact cap_le hlt
        · cases he
      · cases he
  · exact g.elim
theorem pop_run {i : Nat} {d : D} (rel : Rel P G F env σ H) (h : popOwn i env = some (d, env')) {Q : VK} (q : ∀ v H', Step G F H F H' → Rel P G F env' σ H' → R P F H' d v → Q v H') : tBM0 X.K "list" rPop (tVar i) σ H Q := by
  unfold popOwn at h
  split at h
  · rename_i ds e5
    obtain ⟨a3, xs, e6, e7, rs⟩ := rel.ownLst e5
    cases z : ds[ds.length - 1]? with
    | none => rw [z] at h; cases h
    | some d0 =>
      rw [z] at h
      cases h
      obtain ⟨v, h1, h2⟩ := rs.get z
      obtain ⟨r4, st4⟩ := rel.ownUpd e5 e6 rs.dropLast
      refine slot_run e6 ⟨.inl ⟨rfl, _, SqL.of e7⟩, a3, xs, v, rfl, rfl, e7, by rw [← rs.length]; exact h1, q v _ st4 r4 (R.step st4 h2)⟩
  · cases h
theorem snd_pop (c : Ct P S cm n X W sc) {x : Str} {i : Nat} {p ap cp pos : Pos} (h : varOk X.N sc i x = true) (hl : (ap.endLine == cp.line) = true) :
    SndS P X W cl (.Expr (.Call (.Attribute (.Name x p) "pop" ap) [] [] cp) pos) (.pop none i) := by
  refine ⟨_, ps_expr (pe_bm0 PySem.F.plainAttrs_list PySem.F.slot_list_pop PySem.F.type_list_pop mt_pop (pe_slot c h) rfl hl) swm, ?_⟩
  intro G F env σ H E rel g
  unfold evalS at g
  split at g
  · rename_i d e1 ho
    exact pop_run rel ho fun v H' st r _ => g F _ H' st r
  · exact g.elim
theorem snd_popS (c : Ct P S cm n X W sc) {x y : Str} {i j : Nat} {p py ap cp pos : Pos} (h : varOk X.N sc i x = true) (hy : locOk X.N sc j y = true) (hl : (ap.endLine == cp.line) = true) :
    SndS P X W cl (.Assign [.Name y py] (.Call (.Attribute (.Name x p) "pop" ap) [] [] cp) pos) (.pop (some j) i) := by
  have hx := c.nlx hy
  unfold locOk at hy
  rw [Bool.and_eq_true, Bool.and_eq_true] at hy
  obtain ⟨h1, h2⟩ := c.loc hy.1.2
  refine ⟨_, ps_set c.nd (of_decide_eq_true hy.1.1) h1 (pe_bm0 PySem.F.plainAttrs_list PySem.F.slot_list_pop PySem.F.type_list_pop mt_pop (pe_slot c h) rfl hl) swm h2, ?_⟩
  intro G F env σ H E rel g
  unfold evalS at g
  split at g
  · rename_i d e1 ho
    refine pop_run rel ho fun v H' st r q => ?_
    obtain ⟨e2, he, g2⟩ := GS.nxO g
    exact g2 F _ H' st (r.bindO hx (.val q) he)
  · exact g.elim
theorem popAt_run {i : Nat} {k d : D} {a : Addr} {vk : V} (rel : Rel P G F env σ H) (ea : σ[i]? = some (some (.ref a))) (rk : R P F H k vk) (h : popAtOwn i k env = some (d, env')) {Q : VK} (q : ∀ v H', Step G F H F H' → Rel P G F env' σ H' → R P F H' d v → Q v H') : rPopAt (.ref a) [vk] H Q := by
  unfold popAtOwn at h
  split at h
  · rename_i ds p e5
    split at h
    · rename_i hcap
      obtain ⟨a3, xs, e6, e7, rs⟩ := rel.ownLst e5
      rw [ea] at e6
      cases e6
      cases rk
      cases z : place ds.length p with
      | none => rw [z] at h; cases h
      | some j =>
        rw [z] at h
        cases z2 : ds[j]? with
        | none => simp only [Option.bind_some, z2, Option.map_none] at h; cases h
        | some d0 =>
          simp only [Option.bind_some, z2, Option.map_some] at h
          cases h
          obtain ⟨v, h1, h2⟩ := rs.get z2
          obtain ⟨r4, st4⟩ := rel.ownUpd e5 ea (rs.eraseIdx j)
          obtain ⟨b1, b2, b3, b4⟩ := ixN_seq (show ixN ds.length p = some j from z)
          have hc : cap = 1000000 := rfl
          refine ⟨a, xs, p, j, v, rfl, rfl, e7, by omega, by omega, by rw [← rs.length]; exact b1, h1, q v _ st4 r4 (R.step st4 h2)⟩
    · cases h
  · cases h
theorem popI_run {ti : TE} {ix : E} {i : Nat} (hi : ∀ G F env σ H Q, Rel P G F env σ H → GE P W G F σ H Q (evalE cl ix env) → ti σ H Q) (rel : Rel P G F env σ H) (ho : isOwn i env = true) {E : Ends} {k : D → Env → Option Env}
    (g : GS P W G F H E ((evalE cl ix env).fl fun o e1 => match o.leak.bind fun k => popAtOwn i k e1 with
      | some (d, e2) => nxO (k d e2)
      | none => .stk)) {Q : VK} (q : ∀ d e1 e2 v F' H', Step G F H F' H' → Rel P G F' e1 σ H' → R P F' H' d v → k d e1 = some e2 → GS P W G F' H' E (.nx e2) → Q v H') : tBM X.K "list" rPopAt (tVar i) (tCons ti tNil) σ H Q := by
  obtain ⟨a', ea', _, o⟩ := isOwn_at rel ho
  refine slot_run ea' ?_
  refine ⟨?_, ?_⟩
  · cases o with | lst e _ => exact .inl ⟨rfl, _, SqL.of e⟩
  refine hi G F env σ H _ rel (GR.more (GS.fl g) (fun _ z => z) fun o e F1 H1 st r1 g1 vk rk => ?_)
  cases z : o.leak with
  | none => rw [z] at g1; exact g1.elim
  | some kd =>
    rw [z] at g1
    cases z2 : popAtOwn i kd e with
    | none => simp only [Option.bind_some, z2] at g1; exact g1.elim
    | some de =>
      obtain ⟨d, e2⟩ := de
      simp only [Option.bind_some, z2] at g1
      obtain ⟨e3, he, g2⟩ := GS.nxO g1
      obtain ⟨F2, _, st2, r2, q2⟩ := rk.leak r1 z
      exact popAt_run r2 ea' q2 z2 fun v H' st3 r3 q3 => q d e2 e3 v F2 H' (st.trans (st2.trans st3)) r3 q3 he (GS.step g2 (st2.trans st3))
theorem snd_popI (c : Ct P S cm n X W sc) {x : Str} {ei : Expr} {ix : E} {i : Nat} {p ap cp pos : Pos} (h : varOk X.N sc i x = true) (si : SndE P X W cl ei ix) (hl : (ap.endLine == cp.line) = true) (hs : starEach [ei] X.env = [(false, eval ei X.env)]) :
    SndS P X W cl (.Expr (.Call (.Attribute (.Name x p) "pop" ap) [ei] [] cp) pos) (.popI none i ix) := by
  obtain ⟨ti, pi, hi⟩ := si
  refine ⟨_, ps_expr (pe_bm PySem.F.plainAttrs_list PySem.F.slot_list_pop PySem.F.type_list_pop mt_popAt (pe_slot c h) (pa_cons pi pa_nil hs) rfl (few1 hs) hl hs rfl) swm, ?_⟩
  intro G F env σ H E rel g
  unfold evalS at g
  split at g
  · rename_i ho
    exact popI_run (k := fun _ e => some e) hi rel ho g fun d e1 e2 v F' H' st r q he g => by cases he; exact g F' _ H' (Step.refl ..) r
  · exact g.elim
theorem snd_popIS (c : Ct P S cm n X W sc) {x y : Str} {ei : Expr} {ix : E} {i j : Nat} {p py ap cp pos : Pos} (h : varOk X.N sc i x = true) (hy : locOk X.N sc j y = true) (si : SndE P X W cl ei ix) (hl : (ap.endLine == cp.line) = true) (hs : starEach [ei] X.env = [(false, eval ei X.env)]) :
    SndS P X W cl (.Assign [.Name y py] (.Call (.Attribute (.Name x p) "pop" ap) [ei] [] cp) pos) (.popI (some j) i ix) := by
  have hx := c.nlx hy
  unfold locOk at hy
  rw [Bool.and_eq_true, Bool.and_eq_true] at hy
  obtain ⟨h1, h2⟩ := c.loc hy.1.2
  obtain ⟨ti, pi, hi⟩ := si
  refine ⟨_, ps_set c.nd (of_decide_eq_true hy.1.1) h1 (pe_bm PySem.F.plainAttrs_list PySem.F.slot_list_pop PySem.F.type_list_pop mt_popAt (pe_slot c h) (pa_cons pi pa_nil hs) rfl (few1 hs) hl hs rfl) swm h2, ?_⟩
  intro G F env σ H E rel g
  unfold evalS at g
  split at g
  · rename_i ho
    exact popI_run (k := fun d e => Pd.bindO j (.val d) e) hi rel ho g fun d e1 e2 v F' H' st r q he g => g F' _ H' (Step.refl ..) (r.bindO hx (.val q) he)
  · exact g.elim
/-- what is never reached -/
theorem snd_deadE {e : Expr} : SndE P X W cl e .dead := ⟨fun _ _ _ => False, ⟨fun _ _ _ _ _ _ h => h.elim⟩, fun G F env σ H Q r g => by unfold evalE at g; exact g⟩
theorem snd_deadS {s : Stmt} : SndS P X W cl s .dead := ⟨fun _ _ _ => False, ⟨fun _ _ _ _ _ _ h => h.elim⟩, fun G F env σ H E r g => by unfold evalS at g; exact g⟩
end
end Pd
set_option autoImplicit false
set_option linter.all false
set_option maxRecDepth 100000
set_option maxHeartbeats 1000000
/-! try with several clauses, each with or without a name -/
namespace Pd
open PySem PySem.Spec PyProof.Rows L2
abbrev ATS := Addr → Value → Option Addr → TS
/-- a clause: its class, its name's slot, its suite's reading -/
structure Cl where
  cv : Value
  sl : Option Nat
  rd : ATS
/-- behind the suite the name is gone -/
def unb (D : Ends) (i : Nat) : Ends :=
  { nx := fun τ J => D.nx (τ.set i none) J
    rt := D.rt
    bk := fun τ J => D.bk (τ.set i none) J
    ct := fun τ J => D.ct (τ.set i none) J }
def Cl.wish (q : Cl) (D : Ends) (a : Addr) (k : Value) (d : Option Addr) (τ : L2.St) (J : Hp) : Prop := match q.sl with
  | none => q.rd a k d D τ J
  | some i => q.rd a k d (unb D i) (τ.set i (some (.ref a))) J
def wCl (K : PySem.W.Frag) (U : WX) (D : Ends) : List Cl → WX
  | [] => U
  | q :: r => fun k d τ J => ∃ hit, PySem.W.exmOne K k q.cv = some hit ∧ (hit = true → ∀ a, J a = none → q.wish D a k d τ J) ∧ (hit = false → wCl K U D r k d τ J)
def SuiteOk (X : Cx) (b : Stmt) (r : List Stmt) (rd : ATS) : Prop :=
  ∀ (a : Addr) (oe : Obj) (k : Value) (d : Option Addr) (pn : List (Addr × Obj)), Zc k d oe → (∃ w, oe.data = .fields w) → PSs (X.suite a ((a, oe) :: pn)) (b :: r) (rd a k d)
inductive ClsOk (X : Cx) : List ExceptHandler → List Cl → Prop
  | nil : ClsOk X [] []
  | bare {x : Str} {c : Value} {rd : ATS} {b : Stmt} {r : List Stmt} {p q : Pos} {hs : List ExceptHandler} {l : List Cl} : Names X x c → SuiteOk X b r rd → ClsOk X hs l →
      ClsOk X (.ExceptHandler (some (.Name x p)) none (b :: r) q :: hs) (⟨c, none, rd⟩ :: l)
  | named {x n : Str} {c : Value} {i : Nat} {rd : ATS} {b : Stmt} {r : List Stmt} {p q : Pos} {hs : List ExceptHandler} {l : List Cl} : Names X x c → X.N[i]? = some n → X.env.kindOf n = some .local → SuiteOk X b r rd → ClsOk X hs l →
      ClsOk X (.ExceptHandler (some (.Name x p)) (some n) (b :: r) q :: hs) (⟨c, some i, rd⟩ :: l)
section
variable {X : Cx} {pins pins' : List (Addr × Obj)} {τ : L2.St} {J : Hp} {D : Ends} {U : WX} {a : Addr} {B : Heap} {sI s' : Shared} {k : Value} {d : Option Addr}
/-- an exception, landed in the frame of the try -/
structure Landed (X : Cx) (pins : List (Addr × Obj)) (τ : L2.St) (J : Hp) (a : Addr) (B : Heap) (k : Value) (d : Option Addr) (sI s' : Shared) (h : Heap) : Prop where
  I : Inv X pins τ J sI
  nb : ∀ b o, sI.heap.get? b = some o → b ∉ frs X.stack → B.get? b = some o
  up : sI.heap.UpToSlots h
  fl : HandSPX.FlyingZ B (X.env :: X.outer) a (Zc k d) h
  na : J a = none
  os : s'.os = sI.os
  ag : AllBare s'.gens
  frame : X.env.frame = some X.env.locals
  stack : X.stack = X.env :: X.outer
theorem Landed.inv {h : Heap} (L : Landed X pins τ J a B k d sI s' h) : Inv X pins τ J { s' with heap := h } := L.I.landed L.nb L.fl.1 L.up L.os L.ag
theorem Landed.obj {h : Heap} (L : Landed X pins τ J a B k d sI s' h) : ∃ oe, h.get? a = some oe ∧ Zc k d oe ∧ (∃ w, oe.data = .fields w) ∧ a ≠ X.env.locals ∧ a ∉ X.fs := by
  obtain ⟨oe, w, e, z, dd⟩ := L.fl.there
  have out : a ∉ frs (X.env :: X.outer) := fun q => by
    obtain ⟨_, o', e', n⟩ := L.fl.2.2.1.mem q
    rw [e] at e'
    cases e'
    exact n _ dd
  refine ⟨oe, e, z, ⟨w, dd⟩, fun q => out ?_, fun q => out ?_⟩
  · exact List.mem_filterMap.mpr ⟨_, List.mem_cons_self, by rw [L.frame, q]⟩
  · obtain ⟨v, hv, z⟩ := List.mem_filterMap.mp q
    exact List.mem_filterMap.mpr ⟨v, List.mem_cons_of_mem _ hv, z⟩
/-- no clause takes it: it goes on -/
theorem Landed.pass {h : Heap} (L : Landed X pins τ J a B k d sI s' h) (tk : Takes X U) (w : U k d τ J) :
    wpAny (model X.prog X.w) X.A (handleBy (.ref a) X.env []) (SP X pins D) X.xe { s' with heap := h } := by
  refine wpAny_handleBy_nil ?_
  obtain ⟨_, _, _, oe, vs, t, ot, tr, e, z, dd, f1, _⟩ := id L.fl
  unfold PySem.passOn
  refine wpAny_bind (wpAny_field e dd f1 ?_)
  rw [if_neg (by simp : ¬ ((Value.ref t == Value.none) = true))]
  have last : wpAny (model X.prog X.w) X.A (setFlight (.ref a) X.env.frame) (fun _ u => wpAny (model X.prog X.w) X.A (throw (.ref a) : Sem Flow) (SP X pins D) X.xe u) X.xe { s' with heap := h } := by
    rw [L.frame]
    exact HandSPX.setFlight_upZ L.fl fun g hg ug => wpAny_throw (tk _ _ ⟨a, B, sI, pins, τ, J, k, d, rfl, L.I, L.nb, L.up.trans ug, .inr (.inr (by rw [L.stack]; exact hg)), L.na, L.os, L.ag, w⟩)
  first
    | exact wpAny_bind (wpAny_pure (wpAny_bind last))
    | exact wpAny_bind last
theorem Landed.go {h : Heap} (L : Landed X pins τ J a B k d sI s' h) (nd : X.N.Nodup) (tk : Takes X U) {hs : List ExceptHandler} {l : List Cl} (c : ClsOk X hs l) :
    wCl X.K U D l k d τ J → wpAny (model X.prog X.w) X.A (handleBy (.ref a) X.env hs) (SP X pins D) X.xe { s' with heap := h } := by
  have ok := L.I.ok
  obtain ⟨oe, e, z, fs, nl, nf⟩ := L.obj
  have sui := L.inv.suite e fs.choose_spec L.na nl nf
  have name : ∀ {x : Str} {cv : Value} {p : Pos} {Q E : Value → Shared → Prop}, Names X x cv → Q cv { s' with heap := h } → wpAny (model X.prog X.w) (X.A.mark (some (.ref a))) (eval (.Name x p) X.env) Q E { s' with heap := h } := by
    intro x cv p Q E ⟨g, nd, m⟩ q
    rcases m with m | ⟨m, bv, nn⟩
    · exact ld_glob (X := X.suite a ((a, oe) :: (X.pn ++ pins))) sui g m q nd
    · exact ld_blt (X := X.suite a ((a, oe) :: (X.pn ++ pins))) sui g m bv q nn nd
  have typ : PySem.W.Looks (model X.prog X.w) h (typeOf (.ref a)) k := fun A Q E s kp q => wpAny_typeOf_ref (kp _ _ e) (by rw [z.1]; exact q)
  induction c with
  | nil => exact fun w => L.pass tk w
  | bare nm su _ ih =>
    rintro ⟨hit, e1, yes, no⟩
    have mt := PySem.W.exm_one (M := model X.prog X.w) L.inv.kIn typ e1
    refine wpAny_handleBy_cons (codeAny_handlers_test (name nm (mt.here ?_))) (by intro q; cases q)
    cases hit with
    | false => exact ih (no rfl)
    | true =>
      refine codeAny_handlers_suite (HandSPX.lands_againZ L.fl fun g fg ug => ?_)
      have L' : Landed X pins τ J a B k d sI s' g := ⟨L.I, L.nb, L.up.trans ug, fg, L.na, L.os, L.ag, L.frame, L.stack⟩
      obtain ⟨oe', e', z', fs', nl', nf'⟩ := L'.obj
      have run := (su a oe' k d (X.pn ++ pins) z' fs').run [] _ _ J _ (L'.inv.suite e' fs'.choose_spec L.na nl' nf') (yes rfl a L.na)
      refine wpAny_mono run (fun f u hf => ?_) (fun _ _ q => q.elim)
      cases f with
      | next => obtain ⟨τ6, J6, S6, q⟩ := hf; exact ⟨_, _, S6.unsuite ok, q⟩
      | brk => obtain ⟨τ6, J6, S6, q⟩ := hf; exact ⟨_, _, S6.unsuite ok, q⟩
      | cont => obtain ⟨τ6, J6, S6, q⟩ := hf; exact ⟨_, _, S6.unsuite ok, q⟩
      | ret v => obtain ⟨x, τ6, J6, S6, r, q⟩ := hf; exact ⟨_, _, _, S6.unsuite ok, r, q⟩
  | @named x n c i rd b r p q hs l nm hi lc su _ ih =>
    rintro ⟨hit, e1, yes, no⟩
    have mt := PySem.W.exm_one (M := model X.prog X.w) L.inv.kIn typ e1
    refine wpAny_handleBy_cons (codeAny_handlers_test (name nm (mt.here ?_))) (by intro q; cases q)
    cases hit with
    | false => exact ih (no rfl)
    | true =>
      refine codeAny_handlers_suite_as (HandSPX.lands_againZ L.fl fun g fg ug => ?_)
      have L' : Landed X pins τ J a B k d sI s' g := ⟨L.I, L.nb, L.up.trans ug, fg, L.na, L.os, L.ag, L.frame, L.stack⟩
      obtain ⟨oe', e', z', fs', nl', nf'⟩ := L'.obj
      refine store_ok (X := X.suite a ((a, oe') :: (X.pn ++ pins))) (v := .ref a) (L'.inv.suite e' fs'.choose_spec L.na nl' nf') nd hi (.inl lc) rfl (fun u5 S5 => ?_) (.inr lc)
      have run := (su a oe' k d (X.pn ++ pins) z' fs').run [] u5 _ J _ S5 (yes rfl a L.na)
      refine wpAny_mono run (fun f u hf => ?_) (fun _ _ q => q.elim)
      have off : ∀ {τ6 : L2.St} {J6 : Hp} {Q : Shared → Prop}, Inv (X.suite a ((a, oe') :: (X.pn ++ pins))) [] τ6 J6 u → (∀ u7, Inv X pins (τ6.set i none) J6 u7 → Q u7) →
          wpAny (model X.prog X.w) X.A (do bindName X.env n .none; unbindBehindTheSuite X.env n q) (fun _ u7 => Q u7) X.xe u := fun S6 hq => gone_ok (S6.unsuite ok) nd hi lc hq
      cases f with
      | next => obtain ⟨τ6, J6, S6, q⟩ := hf; exact off S6 fun u7 J7 => ⟨_, _, J7, q⟩
      | brk => obtain ⟨τ6, J6, S6, q⟩ := hf; exact off S6 fun u7 J7 => ⟨_, _, J7, q⟩
      | cont => obtain ⟨τ6, J6, S6, q⟩ := hf; exact off S6 fun u7 J7 => ⟨_, _, J7, q⟩
      | ret v => obtain ⟨x, τ6, J6, S6, r, q⟩ := hf; exact off S6 fun u7 J7 => ⟨_, _, _, J7, r, q⟩
theorem ps_tryA {body : List Stmt} {h₀ : ExceptHandler} {hs : List ExceptHandler} {l : List Cl} {pos : Pos} {tb : WX → TS} (st : X.stack = X.env :: X.outer) (fr : X.env.frame = some X.env.locals) (nd : X.N.Nodup) (tk : Takes X U)
    (hb : ∀ (W : WX) (pn : List (Addr × Obj)) (xe : Value → Shared → Prop), Takes (X.tr pn xe) W → PassesOwn (model X.prog X.w) X.A X.env xe → PSs (X.tr pn xe) body (tb W))
    (c : ClsOk X (h₀ :: hs) l) : PS X (.Try body (h₀ :: hs) [] [] pos) (fun D τ J => tb (wCl X.K U D l) D τ J) := by
  refine ⟨fun pins s τ0 J0 D I w0 => wpAny_Try_except ?_⟩
  have ok := I.ok
  have afr : X.A.frames = some (X.env :: X.outer) := by rw [ok.frames, st]
  refine wpAny_mono ((hb (wCl X.K U D l) (X.pn ++ pins) (fun e u1 => wpAny (model X.prog X.w) X.A (noteFrame e X.env) (fun _ u2 => wpAny (model X.prog X.w) X.A (setFlight e none) (fun _ u3 =>
    wpAny (model X.prog X.w) X.A (handleBy e X.env (h₀ :: hs)) (SP X pins D) X.xe u3) X.xe u2) X.xe u1) (fun e u xx => ?_) PassesOwn.looking).run [] s τ0 J0 D (I.toTry _) w0) (fun f u1 hf => ?_) (fun e u1 he => he)
  · obtain ⟨a, B, sI, pins', τ, J, k, d, rfl, I', nb, up, sky, na, os, ag, w⟩ := xx
    show wpAny (model X.prog X.w) X.A (noteFrame (.ref a) X.env) _ _ _
    have sky' : Sky B (X.env :: X.outer) a (Zc k d) X.env.locals u.heap := by rw [← st]; exact sky
    refine Sky.land Zc.steady afr fr sky' fun g fg ug => ?_
    have L : Landed X pins τ J a B k d sI u g := ⟨I'.ofTry ok, nb, up.trans ug, fg, na, os, ag, fr, st⟩
    exact L.go nd tk c w
  · cases f with
    | next => obtain ⟨τ, J, I', q⟩ := hf; exact wpAny_execs_nil ⟨τ, J, I'.ofTry ok, q⟩
    | brk => obtain ⟨τ, J, I', q⟩ := hf; exact ⟨τ, J, I'.ofTry ok, q⟩
    | cont => obtain ⟨τ, J, I', q⟩ := hf; exact ⟨τ, J, I'.ofTry ok, q⟩
    | ret v => obtain ⟨x, τ, J, I', r, q⟩ := hf; exact ⟨x, τ, J, I'.ofTry ok, r, q⟩
end
end Pd
set_option autoImplicit false
set_option linter.all false
set_option maxRecDepth 100000
set_option maxHeartbeats 1000000
namespace Pd
open PySem PySem.Spec PyProof.Rows L2
def Pl.wh (P : Pl) (h : Addr × Value × Option Addr) : Pl := { P with hx := some h }
section
variable {P : Pl} {S : Stat} {cm : Bool} {n : Nat} {W : WX} {G G' F F' : Addr → Prop} {env env' : Env} {σ : L2.St} {H H' : Hp} {X : Cx} {sc : Scope} {cl : Caller}
section
variable (h : Addr × Value × Option Addr)
mutual
theorem R.wh : ∀ {d : D} {v : V}, R P F H d v → R (P.wh h) F H d v
  | _, _, .non => .non
  | _, _, .bl b => .bl b
  | _, _, .int i => .int i
  | _, _, .str x => .str x
  | _, _, .fn f => .fn f
  | _, _, .lst s r => .lst s (Rs.wh r)
  | _, _, .tup s r => .tup s (Rs.wh r)
  | _, _, .scr s r => .scr s (Rs.wh r)
  | _, _, .rng f s => .rng f s
  | _, _, .dic f s l r => .dic f s l (Rs.wh r)
theorem Rs.wh : ∀ {ds : List D} {vs : List V}, Rs P F H ds vs → Rs (P.wh h) F H ds vs
  | _, _, .nil => .nil
  | _, _, .cons r t => .cons (R.wh r) (Rs.wh t)
end
mutual
theorem R.uh : ∀ {d : D} {v : V}, R (P.wh h) F H d v → R P F H d v
  | _, _, .non => .non
  | _, _, .bl b => .bl b
  | _, _, .int i => .int i
  | _, _, .str x => .str x
  | _, _, .fn f => .fn f
  | _, _, .lst s r => .lst s (Rs.uh r)
  | _, _, .tup s r => .tup s (Rs.uh r)
  | _, _, .scr s r => .scr s (Rs.uh r)
  | _, _, .rng f s => .rng f s
  | _, _, .dic f s l r => .dic f s l (Rs.uh r)
theorem Rs.uh : ∀ {ds : List D} {vs : List V}, Rs (P.wh h) F H ds vs → Rs P F H ds vs
  | _, _, .nil => .nil
  | _, _, .cons r t => .cons (R.uh r) (Rs.uh t)
end
theorem Own.wh {d : D} {a : Addr} (z : Own P F H d a) : Own (P.wh h) F H d a := by
  cases z with
  | lst e r => exact .lst e (r.wh h)
  | dic e l r => exact .dic e l (r.wh h)
theorem Own.uh {d : D} {a : Addr} (z : Own (P.wh h) F H d a) : Own P F H d a := by
  cases z with
  | lst e r => exact .lst e (r.uh h)
  | dic e l r => exact .dic e l (r.uh h)
theorem RX.wh {x : Xn} {c : Value} {d : Option Addr} (z : RX P F H x c d) : RX (P.wh h) F H x c d := by
  cases z with
  | no c l => exact .no (P := P.wh h) c l
  | so l f q e => exact .so (P := P.wh h) l f (q.wh h) e
theorem Rel.wh (r : Rel P G F env σ H) (hn : P.hx = none) : Rel (P.wh h) G F env σ H :=
  ⟨r.len, fun i s o e1 e2 => by
    cases r.sl i s o e1 e2 with
    | un o => exact .un o
    | val q => exact .val (q.wh h)
    | own q n1 n2 => exact .own (q.wh h) n1 n2
    | ex e q => exact absurd (hn.symm.trans e) (by simp), r.apart, r.domF, r.domG, r.disj, r.fix⟩
theorem clrEx_own {i : Nat} {a : Addr} (z : OwnAt (clrEx env) σ i a) : OwnAt env σ i a := by
  obtain ⟨⟨d, e⟩, e2⟩ := z
  refine ⟨⟨d, ?_⟩, e2⟩
  unfold clrEx at e
  rw [List.getElem?_map] at e
  cases hh : env[i]? with
  | none => rw [hh] at e; cases e
  | some s =>
    rw [hh] at e
    cases s with
    | ex x => cases e
    | un => cases e
    | val d => cases e
    | own d => exact e
theorem Rel.uh (r : Rel (P.wh h) G F env σ H) : Rel P G F (clrEx env) σ H := by
  refine ⟨by unfold clrEx; rw [List.length_map]; exact r.len, fun i s o e1 e2 => ?_, fun i j a hn z1 z2 => r.apart i j a hn (clrEx_own z1) (clrEx_own z2), r.domF, r.domG, r.disj, r.fix⟩
  unfold clrEx at e1
  rw [List.getElem?_map] at e1
  cases h0 : env[i]? with
  | none => rw [h0] at e1; cases e1
  | some s0 =>
    rw [h0] at e1
    cases r.sl i s0 o h0 e2 with
    | un o => cases e1; exact .un o
    | val q => cases e1; exact .val (q.uh h)
    | own q n1 n2 => cases e1; exact .own (q.uh h) n1 n2
    | ex e q => cases e1; exact .un _
theorem RO.uh {o : Opd} {v : V} (z : RO (P.wh h) G F env σ H o v) : RO P G F (clrEx env) σ H o v := by
  cases z with
  | val q => exact .val (q.uh h)
  | fresh q n1 n2 n3 => exact .fresh (q.uh h) n1 n2 fun i z => n3 i (clrEx_own z)
  | slot e => exact .slot e
end
theorem RX.cls {x : Xn} {k : Value} {d : Option Addr} (z : RX P F H x k d) : k = .ref (P.ca x.c) := by
  cases z <;> rfl
theorem RX.lt {x : Xn} {k : Value} {d : Option Addr} (z : RX P F H x k d) : x.c < P.nc := by
  cases z <;> assumption
theorem RX.dict {x : Xn} {k : Value} {d : Option Addr} (z : RX P F H x k d) {dd : Addr} (h : d = some dd) : ∃ fs, H dd = some (.xd fs) := by
  cases z with
  | no c l => cases h
  | so l f q e => cases h; exact ⟨_, e⟩
theorem Rel.noEx (r : Rel P G F env σ H) (hn : P.hx = none) {i : Nat} {x : Xn} (e : env[i]? = some (.ex x)) : False := by
  have hi : i < env.length := (List.getElem?_eq_some_iff.mp e).1
  have e2 : σ[i]? = some (σ[i]'(by rw [← r.len]; exact hi)) := List.getElem?_eq_getElem _
  have z := r.sl i _ _ e e2
  revert z
  generalize σ[i]'(by rw [← r.len]; exact hi) = o
  intro z
  cases z with
  | ex e q => rw [hn] at e; cases e
theorem clrEx_same (r : Rel P G F env σ H) (hn : P.hx = none) : clrEx env = env := by
  unfold clrEx
  apply List.ext_getElem?
  intro i
  rw [List.getElem?_map]
  cases h0 : env[i]? with
  | none => rfl
  | some s => cases s with
    | ex x => exact (r.noEx hn h0).elim
    | _ => rfl
theorem Rel.exAt (r : Rel P G F env σ H) {i : Nat} {x : Xn} (e : env[i]? = some (.ex x)) : ∃ a cls d, P.hx = some (a, cls, d) ∧ RX P F H x cls d ∧ σ[i]? = some (some (.ref a)) := by
  have hi : i < env.length := (List.getElem?_eq_some_iff.mp e).1
  have e2 : σ[i]? = some (σ[i]'(by rw [← r.len]; exact hi)) := List.getElem?_eq_getElem _
  have z := r.sl i _ _ e e2
  rw [e2]
  revert z
  generalize σ[i]'(by rw [← r.len]; exact hi) = o
  intro z
  cases z with
  | ex e q => exact ⟨_, _, _, e, q, rfl⟩

/-! ### raise -/
theorem snd_raise (c : Ct P S cm n X W sc) {x m : Str} {k j : Nat} {p p2 pos pos' : Pos} (hc : cm = true) (hk : S.cs[k]? = some (x, Str.ofString "")) (hg : isGlb sc x = true) (hd : dbg x = true) :
    SndS P X W cl (.Raise (some (.Call (.Name x p) [.Constant (.str m) j p2] [] pos)) none pos') (.raise k .no) := by
  have f := c.cls.raise k x hk
  refine ⟨_, ps_raise (c.calm hc) c.tk (pmk_own PySem.F.excBase_ValueError f.x f.g f.k (raises_own f.b f.t) (c.glb hg) (dbg_ok hd).1), ?_⟩
  intro G F env σ H E rel g
  unfold evalS at g
  have hk' : k < P.nc := by rw [c.cls.many]; exact (List.getElem?_eq_some_iff.mp hk).1
  exact g F σ H _ none (Step.refl ..) rel (.no k hk')

/-- raise C(e), C's own __init__ stores e -/
theorem snd_raiseF (c : Ct P S cm n X W sc) {x f : Str} {ea : Expr} {a : E} {k : Nat} {p pos pos' : Pos} (hc : cm = true) (hk : S.cs[k]? = some (x, f)) (hi : k ∈ S.ini) (hg : isGlb sc x = true) (hd : dbg x = true)
    (hs : starEach [ea] X.env = [(false, eval ea X.env)]) (sa : SndE P X W cl ea a) :
    SndS P X W cl (.Raise (some (.Call (.Name x p) [ea] [] pos)) none pos') (.raise k (.so a)) := by
  have I := c.ini k x f hk hi
  obtain ⟨ta, pa, ha⟩ := sa
  obtain ⟨fI, fd, q1, q2, iC, tI, bi, fn⟩ := I.fn
  have hk' : k < P.nc := by rw [c.cls.many]; exact (List.getElem?_eq_some_iff.mp hk).1
  obtain ⟨_, _, hcf⟩ := c.cls.fld k x f hk hi
  refine ⟨_, ps_raise (c.calm hc) c.tk (pmk_oex (CX := fun _ _ _ _ _ _ => False) (k := n) I.T iC tI (fn X.w X.base _ _) (c.rm hc) bi .nil (fun _ _ _ _ _ _ _ h => h.elim) (c.glb hg) I.g (pa_cons pa pa_nil hs) (dbg_ok hd).1 hs (by rfl)), ?_⟩
  intro G F env σ H E rel g
  unfold evalS at g
  refine ha G F env σ H _ rel (GR.more (GS.fl g) (fun _ h => h) fun o e F1 H1 st r1 g1 v ro => ?_)
  cases hl : o.leak with
  | none => simp only [hl] at g1; exact g1.elim
  | some d =>
    simp only [hl] at g1
    obtain ⟨F2, _, st2, r2, q⟩ := ro.leak r1 hl
    refine ⟨by simp, fun b hb => ⟨b, v, rfl, upd_same, fun dx hdx hne => ⟨rfl, dx, [(f, v)], upd_same, ?_, ?_, ?_⟩⟩⟩
    · rw [upd_ne hne, upd_same]
    · rw [upd_ne hne] at hdx; exact hdx
    · rw [upd_ne hne] at hdx
      have eh : upd (del (upd (upd (upd H1 b (exo b (P.ca k) none)) dx (exd dx [(f, v)])) b (exo b (P.ca k) (some dx))) b) dx (.xd [(f, v)]) = upd H1 dx (.xd [(f, v)]) := by
        funext z
        by_cases h1 : z = dx
        · rw [h1, upd_same, upd_same]
        · rw [upd_ne h1, upd_ne h1]
          by_cases h2 : z = b
          · rw [h2, del_same, hb]
          · rw [del_ne h2, upd_ne h2, upd_ne h1, upd_ne h2]
      rw [eh]
      have e1 : upd H1 dx (.xd [(f, v)]) dx = some (.xd [(f, v)]) := upd_same
      have r3 : Rel P G F2 e σ (upd H1 dx (.xd [(f, v)])) := r2.same (same_new hdx)
      have r4 := r3.share dx (by rw [e1]; exact fun z => nomatch z) (r2.newG hdx) (r2.notOwn hdx)
      have st3 : Step G F2 H1 (fun a => F2 a ∨ a = dx) (upd H1 dx (.xd [(f, v)])) := (Step.same (same_new hdx)).trans (Step.grow fun _ z => .inl z)
      exact g1 _ _ _ _ _ (st2.trans st3) r4 (.so hk' (.inr rfl) (R.step st3 q) (by rw [hcf]; exact e1))

/-! ### try -/
theorem Ct.tr (c : Ct P S cm n X W sc) (hc : cm = true) {W' : WX} {pn : List (Addr × Obj)} {xe : Value → Shared → Prop} (tk : Takes (X.tr pn xe) W') (po : PassesOwn (model X.prog X.w) X.A X.env xe) : Ct P S cm n (X.tr pn xe) W' sc where
  hK := c.hK
  calm := c.calm
  nd := c.nd
  lcl := c.lcl
  cel := c.cel
  fre := c.fre
  gls := c.gls
  lnt := c.lnt
  lln := c.lln
  lx := c.lx
  un := c.un
  rm := c.rm
  tk := tk
  po := fun _ => po
  gl := c.gl
  kd := c.kd
  bl := c.bl
  cls := c.cls
  hxn := c.hxn
  xis := fun z => absurd (c.hxn hc) z
  xat := fun z => absurd (c.hxn hc) z
  ini := c.ini
  fo := c.fo
  fr := c.fr
theorem ClsS.wh {K : PySem.W.Frag} {mg : Str → Option Value} (c : ClsS K mg P S) (h : Addr × Value × Option Addr) : ClsS K mg (P.wh h) S := ⟨c.many, c.raise, c.name, c.ex, c.isx, c.fld⟩
/-- isinstance(e, c) of the exception at a, which may have a dict -/
def rIsE2 (K : PySem.W.Frag) (D a : Addr) (d : Option Addr) : List V → Hp → VK → Prop := fun xs H Q => ∃ (c : V) (u : Value) (b : Bool), xs = [.ref a, c] ∧ (∀ w, RelV c w → w = u) ∧ PySem.W.kitOne K (.ref D) u = some b ∧ (∀ dd, d = some dd → ∃ fs, H dd = some (.xd fs)) ∧ Q (.bl b) H
theorem call_isE2 {a D : Addr} {d : Option Addr} {oe : Obj} {pn : List (Addr × Obj)} (C : ExcC X.K D) (z : Zc (.ref D) d oe) (fs : ∃ w, oe.data = .fields w) : CallR (X.suite a ((a, oe) :: pn)) (.builtin "isinstance") (rIsE2 X.K D a d) := by
  rintro pins s σ H xs us Q I r ⟨c, u, b, rfl, hu, ku, hd, q⟩
  cases r with
  | cons r1 r =>
    cases r with
    | cons r2 r =>
      cases r
      cases r1
      have := hu _ r2
      subst this
      obtain ⟨ha, _⟩ := I.pin (a, oe) (List.mem_append_left _ List.mem_cons_self)
      have J : ∃ od, PySem.W.InstAt s.heap a oe D od := by
        obtain ⟨w, hw⟩ := fs
        cases d with
        | none => exact ⟨none, ha, z.1, by unfold PySem.W.notCls; rw [hw] <;> rfl, by rw [z.2]; trivial⟩
        | some dd =>
          obtain ⟨fs, hx⟩ := hd dd rfl
          have ox : ObjOk X.prog X.w H s.heap dd (.xd fs) := I.hok dd _ hx
          obtain ⟨mA, hns, _⟩ := ox
          obtain ⟨od, ho, _⟩ := lookIn_ns hns
          exact ⟨some od, ha, z.1, by unfold PySem.W.notCls; rw [hw] <;> rfl, by rw [z.2]; exact ho⟩
      obtain ⟨od, J⟩ := J
      have isC : (PySem.W.clsIn X.K D).isSome = true := by
        have z := C.hd
        unfold PySem.W.hasDictIn at z
        revert z
        cases PySem.W.clsIn X.K D with
        | none => intro z; cases z
        | some cd => intro _; rfl
      exact PySem.W.kia_one (PySem.W.kitx_exc isC C.hg C.hk C.hs C.ha C.hn C.ht C.hm) I.kIn J ku (fun z => nomatch z) fun tk => ⟨.bl b, H, I.kept (t' := tk) fun _ _ z => z, rfl, q⟩
/-- isinstance(e, y) of the exception that is handled -/
theorem snd_xis (hz : ∀ x ∈ S.bl, X.mg x = none) (clsS : ClsS X.K X.mg P S) {a : Addr} {oe : Obj} {k : Value} {d : Option Addr} {pn : List (Addr × Obj)} (z : Zc k d oe) (fs : ∃ w, oe.data = .fields w) (vis : ∀ x, isVis sc x = true → Vis X.env.scope x) (glb : ∀ x, isGlb sc x = true → Gl X x)
    (cl : Caller) (i c : Nat) (b : Bool) (x y : Str) (p q r pos : Pos) (hv : varOk X.N sc i x = true) (hg : isGlb sc (Str.ofString "isinstance") = true) (hm : Str.ofString "isinstance" ∈ S.bl) (hy : isGlb sc y = true) (hyd : dbg y = true) (hx : (c, y, b) ∈ S.xi) :
    SndE (P.wh (a, k, d)) (X.suite a ((a, oe) :: pn)) W0 cl (.Call (.Name (Str.ofString "isinstance") p) [.Name x q, .Name y r] [] pos) (.xisi i c b) := by
  have f := clsS.isx _ hx
  obtain ⟨u, gu, ku⟩ := f.g
  unfold varOk at hv
  rw [Bool.and_eq_true, Bool.and_eq_true] at hv
  obtain ⟨d1, d2⟩ := dbg_ok hv.2
  have off : (¬ ∃ w, k = .ref (P.ca c) ∧ w = d) → SndE (P.wh (a, k, d)) (X.suite a ((a, oe) :: pn)) W0 cl (.Call (.Name (Str.ofString "isinstance") p) [.Name x q, .Name y r] [] pos) (.xisi i c b) := fun hk => by
    refine ⟨fun _ _ _ => False, ⟨fun _ _ _ _ _ _ h => h.elim⟩, ?_⟩
    intro G F env σ H Q rel g
    unfold evalE at g
    cases e : env[i]? with
    | none => rw [e] at g; exact g.elim
    | some s =>
      cases s with
      | ex xx =>
        obtain ⟨a', k', d', e1, rx, e2⟩ := rel.exAt e
        cases e1
        rw [e] at g
        obtain ⟨c', ad⟩ := xx
        simp only at g
        split at g
        · rename_i hcc
          subst hcc
          exact hk ⟨d, rx.cls, rfl⟩
        · exact g.elim
      | _ => rw [e] at g; exact g.elim
  by_cases hk : ∃ w, k = .ref (P.ca c) ∧ w = d
  case neg => exact off hk
  obtain ⟨w, rfl, rfl⟩ := hk
  refine ⟨_, pe_callB (call_isE2 f.c z fs) (glb _ hg) (hz _ hm) (by decide +kernel) (pa_cons (pe_var (i := i) (of_decide_eq_true hv.1.1) (vis _ hv.1.2) d1 d2) (pa_cons (pe_glob (v := .ref u) (glb _ hy) gu rfl (dbg_ok hyd).1) pa_nil)), ?_⟩
  intro G F env σ H Q rel g
  unfold evalE at g
  cases e : env[i]? with
  | none => rw [e] at g; exact g.elim
  | some s =>
    cases s with
    | ex xx =>
      obtain ⟨a', k', d', e1, rx, e2⟩ := rel.exAt e
      cases e1
      rw [e] at g
      obtain ⟨c', ad⟩ := xx
      simp only at g
      split at g
      · have hw : ∀ dd, w = some dd → ∃ fs, H dd = some (.xd fs) := by
          intro dd hdd
          exact rx.dict hdd
        exact ⟨_, e2, _, _, b, rfl, fun u' hu => hu, ku, hw, g F H (Step.refl ..) rel _ (.val (.bl b))⟩
      · exact g.elim
    | _ => rw [e] at g; exact g.elim

theorem RX.soAt {c : Nat} {y : D} {k : Value} {dd : Option Addr} (z : RX P F H ⟨c, some y⟩ k dd) : ∃ b v, dd = some b ∧ R P F H y v ∧ H b = some (.xd [(P.cf c, v)]) := by
  cases z with
  | so l f q e => exact ⟨_, _, rfl, q, e⟩
/-- e.f of the exception that is handled -/
theorem snd_xat (clsS : ClsS X.K X.mg P S) {a : Addr} {oe : Obj} {k : Value} {d : Option Addr} {pn : List (Addr × Obj)} (z : Zc k d oe) (fs : ∃ w, oe.data = .fields w) (vis : ∀ x, isVis sc x = true → Vis X.env.scope x)
    (cl : Caller) (i c : Nat) (x y f : Str) (q pos : Pos) (hv : varOk X.N sc i x = true) (hk : S.cs[c]? = some (y, f)) (hi : c ∈ S.ini) :
    SndE (P.wh (a, k, d)) (X.suite a ((a, oe) :: pn)) W0 cl (.Attribute (.Name x q) f pos) (.xattr i c) := by
  obtain ⟨xf, hno, hcf⟩ := clsS.fld c y f hk hi
  unfold varOk at hv
  rw [Bool.and_eq_true, Bool.and_eq_true] at hv
  obtain ⟨d1, d2⟩ := dbg_ok hv.2
  refine ⟨_, pe_xf xf hno z fs (pe_var (i := i) (of_decide_eq_true hv.1.1) (vis _ hv.1.2) d1 d2), ?_⟩
  intro G F env σ H Q rel g
  unfold evalE at g
  split at g
  · rename_i c' d' e
    split at g
    · rename_i hcc
      subst hcc
      obtain ⟨a', k', d'', e1, rx, e2⟩ := rel.exAt e
      cases e1
      refine ⟨_, e2, rfl, rx.cls, ?_⟩
      obtain ⟨b, v, ed, qq, ee⟩ := rx.soAt
      have hcf' : (P.wh (a, k, d)).cf c' = f := hcf
      rw [hcf'] at ee
      exact ⟨_, _, _, ed, ee, by simp [List.lookup], g F H (Step.refl ..) rel _ (.val qq)⟩
    · exact g.elim
  · exact g.elim

/-! ### the clauses -/
/-- a suite that returns an expression -/
def rdRet (P : Pl) (cl : Caller) (e : E) (nm : Bool) : ATS := fun a k d D σ H =>
  if nm then ∃ G F env, Rel (P.wh (a, k, d)) G F env σ H ∧ GE (P.wh (a, k, d)) W0 G F σ H (fun v H' => D.rt v H') (evalE cl e env)
  else ∃ G F env, Rel P G F env σ H ∧ GE P W0 G F σ H (fun v H' => D.rt v H') (evalE cl e env)
theorem PSs.weak {X : Cx} {l : List Stmt} {t t' : TS} (p : PSs X l t) (h : ∀ D σ H, t' D σ H → t D σ H) : PSs X l t' := ⟨fun pins s σ H D I z => p.run pins s σ H D I (h _ _ _ z)⟩
theorem suite_bare {e : Expr} {a : E} {pos : Pos} (h : ∀ (b : Addr) (oe : Obj) (k : Value) (d : Option Addr) (pn : List (Addr × Obj)), Zc k d oe → (∃ w, oe.data = .fields w) → SndE P (X.suite b ((b, oe) :: pn)) W0 cl e a) :
    SuiteOk X (.Return (some e) pos) [] (rdRet P cl a false) := by
  intro b oe k d pn z fs
  obtain ⟨t, p, q⟩ := h b oe k d pn z fs
  refine PSs.weak (pss_cons (ps_ret p) pss_nil) fun D σ H w => ?_
  simp only [rdRet, Bool.false_eq_true, if_false] at w
  obtain ⟨G, F, env, rel, g⟩ := w
  exact q G F env σ H _ rel g
theorem suite_named {e : Expr} {a : E} {pos : Pos} (h : ∀ (b : Addr) (oe : Obj) (k : Value) (d : Option Addr) (pn : List (Addr × Obj)), Zc k d oe → (∃ w, oe.data = .fields w) → SndE (P.wh (b, k, d)) (X.suite b ((b, oe) :: pn)) W0 cl e a) :
    SuiteOk X (.Return (some e) pos) [] (rdRet P cl a true) := by
  intro b oe k d pn z fs
  obtain ⟨t, p, q⟩ := h b oe k d pn z fs
  refine PSs.weak (pss_cons (ps_ret p) pss_nil) fun D σ H w => ?_
  simp only [rdRet, if_true] at w
  obtain ⟨G, F, env, rel, g⟩ := w
  exact q G F env σ H _ rel g
/-- the clauses and their text -/
inductive HsR (P : Pl) (S : Stat) (X : Cx) (sc : Scope) (cl : Caller) : List ExceptHandler → Hs → Prop
  | nil : HsR P S X sc cl [] .nil
  | bare {x f : Str} {k : Nat} {e : Expr} {a : E} {p q pos : Pos} {hs : List ExceptHandler} {r : Hs} : S.cs[k]? = some (x, f) → isGlb sc x = true → dbg x = true → SuiteOk X (.Return (some e) pos) [] (rdRet P cl a false) → HsR P S X sc cl hs r →
      HsR P S X sc cl (.ExceptHandler (some (.Name x p)) none [.Return (some e) pos] q :: hs) (.cons k none a r)
  | named {x n f : Str} {k i : Nat} {e : Expr} {a : E} {p q pos : Pos} {hs : List ExceptHandler} {r : Hs} : S.cs[k]? = some (x, f) → isGlb sc x = true → dbg x = true → X.N[i]? = some n → X.env.kindOf n = some .local → P.lx i = none → SuiteOk X (.Return (some e) pos) [] (rdRet P cl a true) → HsR P S X sc cl hs r →
      HsR P S X sc cl (.ExceptHandler (some (.Name x p)) (some n) [.Return (some e) pos] q :: hs) (.cons k (some i) a r)
theorem hs_ok (c : Ct P S cm n X W sc) (hn : P.hx = none) {hs : List ExceptHandler} {r : Hs} (h : HsR P S X sc cl hs r) :
    ∃ l, ClsOk X hs l ∧ ∀ G F x env σ H D k d, Rel P G F env σ H → RX P F H x k d → GS P W G F H D (evalHs cl r x env) → wCl X.K W D l k d σ H := by
  induction h with
  | nil => exact ⟨[], .nil, fun G F x env σ H D k d rel rx g => g F σ H k d (Step.refl ..) rel rx⟩
  | @bare x f k e a p q pos hs r hk hg hd su _ ih =>
    obtain ⟨l, cl1, ih⟩ := ih
    refine ⟨⟨.ref (P.ca k), none, _⟩ :: l, .bare ⟨c.glb hg, (dbg_ok hd).1, .inl (c.cls.name k x f hk)⟩ su cl1, ?_⟩
    intro G F xn env σ H D kv d rel rx g
    unfold evalHs at g
    have hl : xn.c < S.cs.length := by rw [← c.cls.many]; exact rx.lt
    have em := c.cls.ex xn.c k _ _ (List.getElem?_eq_getElem hl) hk
    rw [rx.cls]
    refine ⟨_, em, fun hit b nb => ?_, fun hit => ?_⟩
    · rw [if_pos (of_decide_eq_true hit)] at g
      show rdRet P cl a false b (.ref (P.ca xn.c)) d D σ H
      simp only [rdRet, Bool.false_eq_true, if_false]
      refine ⟨G, F, env, rel, ?_⟩
      simp only at g
      revert g
      cases evalE cl a env with
      | stk => exact fun g => g.elim
      | exc x e => exact fun g => g.elim
      | ok o e2 =>
        intro g F' H' st r' v ro
        refine g F' σ H' v st ?_ ?_
        · rw [clrEx_same r' hn]; exact r'
        · rw [clrEx_same r' hn]; exact ro
    · rw [if_neg (of_decide_eq_false hit)] at g
      rw [← rx.cls]
      exact ih G F xn env σ H D kv d rel rx g
  | @named x n f k i e a p q pos hs r hk hg hd hi hlc hlx su _ ih =>
    obtain ⟨l, cl1, ih⟩ := ih
    refine ⟨⟨.ref (P.ca k), some i, _⟩ :: l, .named ⟨c.glb hg, (dbg_ok hd).1, .inl (c.cls.name k x f hk)⟩ hi hlc su cl1, ?_⟩
    intro G F xn env σ H D kv d rel rx g
    unfold evalHs at g
    have hl : xn.c < S.cs.length := by rw [← c.cls.many]; exact rx.lt
    have em := c.cls.ex xn.c k _ _ (List.getElem?_eq_getElem hl) hk
    have rxc := rx.cls
    subst rxc
    refine ⟨_, em, fun hit b nb => ?_, fun hit => ?_⟩
    · rw [if_pos (of_decide_eq_true hit)] at g
      simp only at g
      show rdRet P cl a true b (.ref (P.ca xn.c)) d (unb D i) (σ.set i (some (.ref b))) H
      simp only [rdRet, if_true]
      split at g
      case isFalse => exact g.elim
      rename_i hlt
      refine ⟨G, F, env.set i (.ex xn), (rel.wh (b, .ref (P.ca xn.c), d) hn).setEx (P := P.wh (b, .ref (P.ca xn.c), d)) rfl (rx.wh _) hlx, ?_⟩
      revert g
      cases evalE cl a (env.set i (.ex xn)) with
      | stk => exact fun g => g.elim
      | exc x e => exact fun g => g.elim
      | ok o e2 =>
        intro g F' H' st r' v ro
        exact g F' _ H' v st (r'.uh _) (ro.uh _)
    · rw [if_neg (of_decide_eq_false hit)] at g
      exact ih G F xn env σ H D _ d rel rx g
theorem snd_try (c : Ct P S cm n X W sc) (tp : Top X) (hc : cm = true) {body : List Stmt} {b : Ss} {h₀ : ExceptHandler} {hs : List ExceptHandler} {r : Hs} {pos : Pos} (hb : ∀ {pn : List (Addr × Obj)} {xe : Value → Shared → Prop} {W' : WX}, Ct P S cm n (X.tr pn xe) W' sc → Top (X.tr pn xe) → SndSs P (X.tr pn xe) W' cl body b)
    (hh : HsR P S X sc cl (h₀ :: hs) r) : SndS P X W cl (.Try body (h₀ :: hs) [] [] pos) (.tryX b r) := by
  have hn := c.hxn hc
  obtain ⟨l, cl1, ok⟩ := hs_ok c hn hh
  refine ⟨_, ps_tryA (tb := fun W' D σ H => ∃ G F env, Rel P G F env σ H ∧ GS P W' G F H D (evalSs cl b env)) tp.stk tp.frm c.nd c.tk (fun W' pn xe tk po => ?_) cl1, ?_⟩
  · obtain ⟨t, p, q⟩ := hb (c.tr hc tk po) ⟨tp.stk, tp.frm, tp.knd⟩
    refine PSs.weak p fun D σ H w => ?_
    obtain ⟨G, F, env, rel, g⟩ := w
    exact q G F env σ H D rel g
  · intro G F env σ H D rel g
    refine ⟨G, F, env, rel, ?_⟩
    unfold evalS at g
    revert g
    cases evalSs cl b env with
    | exc x e =>
      intro g F' σ' H' k d st r' rx
      exact ok G F' x e σ' H' D k d r' rx (GS.step g st)
    | _ => exact id

/-! ### a call of a value -/
theorem eval_callG {ef : Expr} {args : List Expr} {pos : Pos} {env : PySem.Env} (h : ∀ o m p, ef ≠ .Attribute o m p) : eval (.Call ef args [] pos) env = (do callWith pos (← eval ef env) [] (backTo pos (starEach args env)) (backToKw pos (keywordEach [] env))) := by
  cases ef <;> first | rfl | exact absurd rfl (h _ _ _)
theorem snd_callv (c : Ct P S cm n X W sc) {ef ea : Expr} {es : List Expr} {a : E} {args : Es} {fl : List Nat} {pos : Pos} (sf : SndE P X W (callF S.fs n) ef a) (sb : SndA P X W (callF S.fs n) (ea :: es) args) (hc : cm = true) (hna : ∀ o m p, ef ≠ .Attribute o m p) (hfl : ∀ f ∈ fl, f < S.fs.length)
    (hs : starEach (ea :: es) X.env = (false, eval ea X.env) :: starEach es X.env) (hs2 : (starEach es X.env).any (·.1) = false) : SndE P X W (callF S.fs n) (.Call ef (ea :: es) [] pos) (.callv fl a args) := by
  obtain ⟨ta, pa, ha⟩ := sf
  obtain ⟨tb, pb, hb⟩ := sb
  refine ⟨fun σ H Q => ta σ H fun v H1 => ∃ f, f ∈ fl ∧ v = .ref (P.fa f) ∧ tb σ H1 fun vs H2 => spF P S n f vs H2 Q (WE W σ), ⟨fun pins s σ H Q I w => ?_⟩, ?_⟩
  · rw [eval_callG hna]
    refine wpAny_bind (thn (pa.run pins s σ H _ I w) fun u s1 ⟨v, H1, I1, rv, f, hf, e, w1⟩ => ?_)
    subst e
    cases rv
    obtain ⟨fd, m1, m2, m3, m4⟩ := c.fo hc f _ (List.getElem?_eq_getElem (hfl f hf))
    refine PySem.W.callWith_K (h₀ := X.base) I1.ok.mod.kin m2 (thn (pb.run pos pins s1 σ H1 _ I1 w1) fun us s2 ⟨vs, H2, I2, r2, w2⟩ => ⟨I2.kIn, ?_⟩) hs (backTo_plain es X.env pos hs2)
    exact run_G m4 (c.fr hc) (c.rm hc) m3 (passAt c.tk σ) I2 r2 w2
  · intro G F env σ H Q rel g
    unfold evalE at g
    refine ha G F env σ H _ rel (GR.bind g fun x e1 F1 H1 st r1 g1 v ro => ?_)
    cases ro with
    | fresh q n1 n2 n3 => exact g1.elim
    | slot e => exact g1.elim
    | val q =>
      cases q with
      | fn f =>
        simp only at g1
        split at g1
        case isFalse => exact g1.elim
        rename_i hf
        refine ⟨f, by simpa using hf, rfl, hb G F1 e1 σ H1 _ r1 (GR.bind g1 fun os e2 F2 H2 st2 r2 g2 vs ros => call_run r2 ros g2)⟩
      | _ => exact g1.elim
end
end Pd
set_option autoImplicit false
set_option linter.all false
set_option maxRecDepth 100000
set_option maxHeartbeats 1000000
namespace Pd
open PySem PySem.Spec PyProof.Rows L2
/-! comprehensions of two clauses -/
section
variable {P : Pl} {S : Stat} {cm : Bool} {n : Nat} {W : WX} {G G' F F' : Addr → Prop} {env env' : Env} {σ : L2.St} {H H' : Hp} {X : Cx} {sc : Scope} {cl : Caller}
theorem comp2L_noexc {t : Tg} {own : List Nat} {f : List D → Env → Res (List D)} : ∀ (ds acc : List D) (env : Env) (x : Xn) (e : Env), comp2L t own f ds acc env ≠ .exc x e
  | [], acc, env, x, e => fun h => nomatch h
  | d :: ds, acc, env, x, e => fun h => by
    unfold comp2L at h
    split at h
    · cases h
    · split at h
      · exact comp2L_noexc ds _ _ x e h
      · cases h
/-- the inner turns: a list D grows -/
theorem turns {g : TG} {tt : TT} {te : TE} {elt : E} {t : Tg} {q : T} {own : List Nat} (hlx : ∀ i ∈ own, P.lx i = none) (hown : tgIn t own = true)
    (hG : ∀ G F env σ H d v e1 (Q : L2.St → Hp → Prop), Rel P G F env σ H → R P F H d v → bindD t d env = some e1 → (∀ F' σ' H', Step G F H F' H' → Rel P G F' e1 σ' H' → (∀ own, tgIn t own = true → L2.wipe σ' own = L2.wipe σ own) → Q σ' H') → g v σ H Q)
    (hT : ∀ G F env σ H Q, Rel P G F env σ H → GT P W0 G F σ H Q (evalT cl q env) → tt σ H Q)
    (hE : ∀ G F env σ H Q, Rel P G F env σ H → GE P W0 G F σ H Q (evalE cl elt env) → te σ H Q)
    {Gb : Addr → Prop} {D : Addr} (nD : ¬ Gb D) {F0 : Addr → Prop} {H0 : Hp} {env0 : Env} (rel : Rel P (fun a => Gb a ∨ a = D) F0 (wipeE env0 own) (L2.wipe σ own) H0) (hlen : env0.length = σ.length)
    {J : L2.It} {ds : List Pd.D} (y : Yields P J F0 H0 ds) {acc0 : List Pd.D} {vacc0 : List V} (hD0 : H0 D = some (.lst vacc0)) (rs0 : Rs P F0 H0 acc0 vacc0) (hcap : acc0.length + ds.length ≤ cap)
    {ys : List Pd.D} {e2 : Env} (hcl : compL t own (fun e => evalT cl q e) (fun e => evalE cl elt e) ds acc0 env0 = .ok ys e2)
    {Nx : Hp → Prop} (K : ∀ F H vys, Step Gb F0 H0 F H → Rel P (fun a => Gb a ∨ a = D) F (wipeE e2 own) (L2.wipe σ own) H → e2.length = σ.length → H D = some (.lst vys) → Rs P F H ys vys → Nx H) :
    ∃ W1 : Nat → Nat → Hp → Prop, (∃ m, W1 0 m H0) ∧ ∀ i m H, W1 i m H → (J.stop i H ∧ Nx H) ∨ (J.go i H ∧ ∃ Nx1 : Hp → Prop, (∀ H', Nx1 H' → ∃ m', m' < m ∧ W1 (i + 1) m' H') ∧ ∀ x H', J.yld i H x H' → g x (L2.wipe σ own) H' fun σ2 H2 => L2.wipe σ2 own = L2.wipe σ own ∧ tt σ2 H2 fun b H3 =>
      if b = true then te σ2 H3 fun y H4 => ∃ acc, H4 D = some (.lst acc) ∧ acc.length < sizeLine ∧ Nx1 (upd H4 D (.lst (acc ++ [y]))) else Nx1 H3) := by
  let Gd : Addr → Prop := fun a => Gb a ∨ a = D
  have sub : ∀ a, Gb a → Gd a := fun a z => .inl z
  let Wt : Nat → Nat → Hp → Prop := fun i m H => m = ds.length - i ∧ i ≤ ds.length ∧ ∃ F env acc vacc, Step Gb F0 H0 F H ∧ Rel P Gd F (wipeE env own) (L2.wipe σ own) H ∧ env.length = σ.length ∧ H D = some (.lst vacc) ∧ Rs P F H acc vacc ∧ acc.length ≤ acc0.length + i ∧
    compL t own (fun e => evalT cl q e) (fun e => evalE cl elt e) (ds.drop i) acc env = .ok ys e2
  refine ⟨Wt, ⟨ds.length, rfl, Nat.zero_le _, F0, env0, acc0, vacc0, Step.refl .., rel, hlen, hD0, rs0, Nat.le_refl _, by rw [List.drop_zero]; exact hcl⟩, ?_⟩
  rintro i m H ⟨rfl, hi, F3, env3, acc, vacc, st3, r3, hl3, hD3, rs3, hacc, hc3⟩
  by_cases hlt : i < ds.length
  · have e : ds[i]? = some ds[i] := List.getElem?_eq_getElem hlt
    obtain ⟨go, turn⟩ := y.item i _ e Gd F3 H (wipeE env3 own) (L2.wipe σ own) (st3.less fun _ z => z.elim) r3
    refine .inr ⟨go, fun H' => Wt (i + 1) (ds.length - (i + 1)) H', fun H' w => ⟨_, by omega, w⟩, fun x H4 yl => ?_⟩
    obtain ⟨F4, st4, r4, q4, _⟩ := turn x H4 yl
    rw [List.drop_eq_getElem_cons hlt] at hc3
    unfold compL at hc3
    cases hb : bindD t ds[i] (wipeE env3 own) with
    | none => rw [hb] at hc3; cases hc3
    | some e5 =>
      rw [hb] at hc3
      refine hG Gd F4 (wipeE env3 own) (L2.wipe σ own) H4 _ x e5 _ r4 q4 hb fun F5 σ5 H5 st5 r5 hw => ?_
      have hw5 : L2.wipe σ5 own = L2.wipe σ own := (hw own hown).trans (wipe_idem own σ)
      refine ⟨hw5, ?_⟩
      have len5 : σ5.length = σ.length := by
        have z := congrArg List.length hw5
        rwa [wipe_length, wipe_length] at z
      refine hT Gd F5 e5 σ5 H5 _ r5 ?_
      cases ht : evalT cl q e5 with
      | stk => simp only [ht] at hc3; cases hc3
      | exc x e => simp only [ht] at hc3; cases hc3
      | ok k e6 =>
        intro F6 H6 st6 r6
        have stA := (st4.trans st5).trans st6
        have D6 : H6 D = some (.lst vacc) := stA.keep D _ (.inr (.inr rfl)) hD3
        cases k with
        | false =>
          refine iteF ?_
          simp only [ht] at hc3
          have rw6 := (r6.wipe own hlx).less (fun a z => .inl z) (G' := Gd)
          rw [hw5] at rw6
          exact ⟨rfl, hlt, F6, e6, acc, vacc, st3.trans (stA.less sub), rw6, by rw [r6.len]; exact len5, D6, Rs.step stA rs3, by omega, hc3⟩
        | true =>
          refine iteT ?_
          simp only [ht] at hc3
          refine hE Gd F6 e6 σ5 H6 _ r6 ?_
          cases he : evalE cl elt e6 with
          | stk => rw [he] at hc3; cases hc3
          | exc x e => rw [he] at hc3; cases hc3
          | ok o e7 =>
            rw [he] at hc3
            intro F7 H7 st7 r7 v ro
            cases hk : o.leak with
            | none => simp only [hk] at hc3; cases hc3
            | some d7 =>
              simp only [hk] at hc3
              obtain ⟨F8, _, st8, r8, q8⟩ := ro.leak r7 hk
              have stB := (stA.trans st7).trans st8
              have D7 : H7 D = some (.lst vacc) := stB.keep D _ (.inr (.inr rfl)) hD3
              have len7 : vacc.length = acc.length := rs3.length.symm
              refine ⟨vacc, D7, ?_, ?_⟩
              · rw [len7]
                exact Nat.lt_of_lt_of_le (show acc.length < acc0.length + ds.length by omega) (cap_le hcap)
              · have nF8 : ¬ F8 D := fun z => r8.disj D z (.inr rfl)
                have stU : Step Gb F8 H7 F8 (upd H7 D (.lst (vacc ++ [v]))) := step_upd nF8 nD
                have rw8 := (r8.wipe own hlx).less (fun a z => .inl z) (G' := Gd)
                rw [hw5] at rw8
                refine ⟨rfl, hlt, F8, e7, acc ++ [d7], vacc ++ [v], (st3.trans (stB.less sub)).trans stU, rw8.updG (.inr rfl), by rw [r8.len]; exact len5, upd_same, Rs.step stU (Rs.append (Rs.step stB rs3) (.cons q8 .nil)), ?_, hc3⟩
                rw [List.length_append, List.length_singleton]
                omega
  · have ei : i = ds.length := by omega
    subst ei
    rw [List.drop_length] at hc3
    cases hc3
    exact .inl ⟨y.stop _ (Nat.le_refl _) F3 H (st3.less fun _ z => z.elim), K F3 H vacc st3 r3 hl3 hD3 rs3⟩
theorem wipe_sub {own own' : List Nat} (h : ∀ i ∈ own', i ∈ own) (σ : L2.St) : L2.wipe (L2.wipe σ own') own = L2.wipe σ own := by
  induction own' generalizing σ with
  | nil => rfl
  | cons i r ih =>
    show L2.wipe ((L2.wipe σ r).set i none) own = _
    rw [wipe_set (h i List.mem_cons_self)]
    exact ih (fun j hj => h j (List.mem_cons_of_mem _ hj)) σ
theorem wipeE_set {own : List Nat} {e : Env} {i : Nat} {s : Slot} (h : i ∈ own) (hu : s = .un) : wipeE (e.set i s) own = wipeE e own := by
  subst hu
  induction own generalizing e with
  | nil => simp at h
  | cons j r ih =>
    show (wipeE (e.set i .un) r).set j .un = (wipeE e r).set j .un
    by_cases hr : i ∈ r
    · rw [ih hr]
    · have hj : i = j := by rcases List.mem_cons.mp h with h | h; exact h; exact absurd h hr
      subst hj
      apply List.ext_getElem?
      intro k
      by_cases hk : i = k
      · subst hk
        have l : ∀ (own : List Nat) (e : Env), (wipeE e own).length = e.length := fun own => by
          induction own with
          | nil => intro e; rfl
          | cons j r ih => intro e; show ((wipeE e r).set j .un).length = _; rw [List.length_set, ih]
        by_cases hl : i < e.length
        · rw [List.getElem?_set_self (by rw [l, List.length_set]; exact hl), List.getElem?_set_self (by rw [l]; exact hl)]
        · rw [List.getElem?_eq_none (by rw [List.length_set, l, List.length_set]; omega), List.getElem?_eq_none (by rw [List.length_set, l]; omega)]
      · rw [List.getElem?_set_ne hk, List.getElem?_set_ne hk]
        by_cases hkr : k ∈ r
        · -- both are wiped there
          have at_ : ∀ (own : List Nat) (e e' : Env), e.length = e'.length → k ∈ own → (wipeE e own)[k]? = (wipeE e' own)[k]? := fun own => by
            induction own with
            | nil => intro e e' _ h; simp at h
            | cons j r ih =>
              intro e e' hl h
              show ((wipeE e r).set j .un)[k]? = ((wipeE e' r).set j .un)[k]?
              have l : ∀ (own : List Nat) (e : Env), (wipeE e own).length = e.length := fun own => by
                induction own with
                | nil => intro e; rfl
                | cons j r ih => intro e; show ((wipeE e r).set j .un).length = _; rw [List.length_set, ih]
              by_cases hj : j = k
              · subst hj
                by_cases hb : j < e.length
                · rw [List.getElem?_set_self (by rw [l]; exact hb), List.getElem?_set_self (by rw [l]; omega)]
                · rw [List.getElem?_eq_none (by rw [List.length_set, l]; omega), List.getElem?_eq_none (by rw [List.length_set, l]; omega)]
              · rw [List.getElem?_set_ne hj, List.getElem?_set_ne hj]
                have hr : k ∈ r := by rcases List.mem_cons.mp h with h | h; exact absurd h.symm hj; exact h
                exact ih e e' hl hr
          exact at_ r _ _ (by rw [List.length_set]) hkr
        · rw [wipeE_get r _ k hkr, wipeE_get r _ k hkr, List.getElem?_set_ne hk]
theorem wipeE_sub {own own' : List Nat} (h : ∀ i ∈ own', i ∈ own) (e : Env) : wipeE (wipeE e own') own = wipeE e own := by
  induction own' generalizing e with
  | nil => rfl
  | cons i r ih =>
    show wipeE ((wipeE e r).set i .un) own = _
    rw [wipeE_set (h i List.mem_cons_self) rfl]
    exact ih (fun j hj => h j (List.mem_cons_of_mem _ hj)) e
/-- [elt for tg in iter for tg' in iter' if c] -/
theorem comp2_run {wi wi' : TI} {g g' : TG} {tt tt' : TT} {te : TE} {elt : E} {t t' : Tg} {it it' : It} {q : T} {own own' : List Nat} (hlx : ∀ i ∈ own, P.lx i = none) (hsub : ∀ i ∈ own', i ∈ own) (hown : tgIn t own = true) (hown' : tgIn t' own' = true)
    (hI : ∀ G F env σ H (R : L2.It → Hp → Prop), Rel P G F env σ H → GR P W G F σ H (fun ds env' F' H' => ∀ F1 J, Step G F' H' F1 H' → Rel P G F1 env' σ H' → Yields P J F1 H' ds → R J H') (evalI cl it env) → wi σ H R)
    (hI' : ∀ G F env σ H (R : L2.It → Hp → Prop), Rel P G F env σ H → GR P W0 G F σ H (fun ds env' F' H' => ∀ F1 J, Step G F' H' F1 H' → Rel P G F1 env' σ H' → Yields P J F1 H' ds → R J H') (evalI cl it' env) → wi' σ H R)
    (hG : ∀ G F env σ H d v e1 (Q : L2.St → Hp → Prop), Rel P G F env σ H → R P F H d v → bindD t d env = some e1 → (∀ F' σ' H', Step G F H F' H' → Rel P G F' e1 σ' H' → (∀ own, tgIn t own = true → L2.wipe σ' own = L2.wipe σ own) → Q σ' H') → g v σ H Q)
    (hG' : ∀ G F env σ H d v e1 (Q : L2.St → Hp → Prop), Rel P G F env σ H → R P F H d v → bindD t' d env = some e1 → (∀ F' σ' H', Step G F H F' H' → Rel P G F' e1 σ' H' → (∀ own, tgIn t' own = true → L2.wipe σ' own = L2.wipe σ own) → Q σ' H') → g' v σ H Q)
    (hY : ∀ G F env σ H Q, Rel P G F env σ H → GT P W0 G F σ H Q (.ok true env) → tt σ H Q)
    (hT : ∀ G F env σ H Q, Rel P G F env σ H → GT P W0 G F σ H Q (evalT cl q env) → tt' σ H Q)
    (hE : ∀ G F env σ H Q, Rel P G F env σ H → GE P W0 G F σ H Q (evalE cl elt env) → te σ H Q)
    {Q : VK} (rel : Rel P G F env σ H) (gs : GE P W G F σ H Q (evalE cl (.comp2 elt t it t' it' q own own') env)) : tLc2 wi g tt wi' g' tt' te own own' σ H Q := by
  unfold evalE at gs
  refine hI G F env σ H _ rel ?_
  cases hr : evalI cl it env with
  | stk => rw [hr] at gs; exact gs
  | exc x e => rw [hr] at gs; exact gs
  | ok ds e1 =>
    rw [hr] at gs
    intro F1 H1 st1 r1 F2 J st2 r2 y D hD
    obtain ⟨fI, hfI⟩ : ∃ fI : List Pd.D → Env → Res (List Pd.D), fI = fun acc e => (evalI cl it' e).bind fun ds' e2 => if acc.length + ds'.length ≤ cap then compL t' own' (fun e => evalT cl q e) (fun e => evalE cl elt e) ds' acc e2 else .stk := ⟨_, rfl⟩
    have gs : GR P W G F σ H (fun o env' F' H' => ∀ v, RO P G F' env' σ H' o v → Q v H') (if ds.length ≤ cap then (comp2L t own fI ds [] e1).bind fun ys e2 => .ok (.fresh (.lst ys)) (backE e1 e2 own) else .stk) := by rw [hfI]; exact gs
    split at gs
    case isFalse => exact gs.elim
    rename_i hcap
    cases hcl : comp2L t own fI ds [] e1 with
    | stk => rw [hcl] at gs; exact gs.elim
    | exc x e => exact absurd hcl (comp2L_noexc ds [] e1 x e)
    | ok ys e2 =>
      rw [hcl] at gs
      have gs : GR P W G F2 σ H1 (fun o env' F' H' => ∀ v, RO P G F' env' σ H' o v → Q v H') (.ok (.fresh (.lst ys)) (backE e1 e2 own)) := GR.step gs (st1.trans st2)
      let Gb : Addr → Prop := fun a => G a ∨ ∃ i, i ∈ own ∧ OwnAt e1 σ i a
      let Gd : Addr → Prop := fun a => Gb a ∨ a = D
      have nD : ¬ Gb D := fun z => z.elim (fun z => r2.domG D z hD) fun ⟨i, _, z⟩ => r2.notOwn hD i z
      have sub : ∀ a, Gb a → Gd a := fun a z => .inl z
      have rw0 := r2.wipe own hlx
      have rel0 : Rel P Gd F2 (wipeE e1 own) (L2.wipe σ own) (upd H1 D (.lst [])) :=
        (rw0.same (same_new hD)).addG (by rw [upd_same]; exact fun q => nomatch q) (r2.newF hD) (rw0.notOwn hD)
      let Wt : Nat → Nat → Hp → Prop := fun i m H => m = ds.length - i ∧ i ≤ ds.length ∧ ∃ F env acc vacc, Step Gb F2 H1 F H ∧ Rel P Gd F (wipeE env own) (L2.wipe σ own) H ∧ env.length = e1.length ∧ H D = some (.lst vacc) ∧ Rs P F H acc vacc ∧
        comp2L t own fI (ds.drop i) acc env = .ok ys e2
      refine ⟨Wt, ⟨ds.length, rfl, Nat.zero_le _, F2, e1, [], [], Step.same (same_new hD), rel0, rfl, upd_same, .nil, by rw [List.drop_zero]; exact hcl⟩, ?_⟩
      rintro i m H ⟨rfl, hi, F3, env3, acc, vacc, st3, r3, hl3, hD3, rs3, hc3⟩
      by_cases hlt : i < ds.length
      · have e : ds[i]? = some ds[i] := List.getElem?_eq_getElem hlt
        obtain ⟨go, turn⟩ := y.item i _ e Gd F3 H (wipeE env3 own) (L2.wipe σ own) (st3.less fun _ z => z.elim) r3
        refine .inr ⟨go, fun H' => Wt (i + 1) (ds.length - (i + 1)) H', fun H' w => ⟨_, by omega, w⟩, fun x H4 yl => ?_⟩
        obtain ⟨F4, st4, r4, q4, _⟩ := turn x H4 yl
        rw [List.drop_eq_getElem_cons hlt] at hc3
        unfold comp2L at hc3
        cases hb : bindD t ds[i] (wipeE env3 own) with
        | none => rw [hb] at hc3; cases hc3
        | some e5 =>
          rw [hb] at hc3
          refine hG Gd F4 (wipeE env3 own) (L2.wipe σ own) H4 _ x e5 _ r4 q4 hb fun F5 σ5 H5 st5 r5 hw => ?_
          have hw5 : L2.wipe σ5 own = L2.wipe σ own := (hw own hown).trans (wipe_idem own σ)
          refine ⟨hw5, ?_⟩
          have len5 : σ5.length = e1.length := by
            have z := congrArg List.length hw5
            rw [wipe_length, wipe_length] at z
            rw [z, ← r2.len]
          refine hY Gd F5 e5 σ5 H5 _ r5 ?_
          intro F6 H6 st6 r6
          refine iteT ?_
          simp only [hfI] at hc3
          refine hI' Gd F6 e5 σ5 H6 _ r6 ?_
          cases hi' : evalI cl it' e5 with
          | stk => simp only [hi'] at hc3; cases hc3
          | exc x e => simp only [hi'] at hc3; cases hc3
          | ok ds' e6 =>
            simp only [hi', Res.bind_ok] at hc3
            by_cases hcap' : acc.length + ds'.length ≤ cap
            case neg => simp only [if_neg hcap'] at hc3; cases hc3
            simp only [if_pos hcap'] at hc3
            intro F7 H7 st7 r7 F8 J' st8 r8 y'
            cases hin : compL t' own' (fun e => evalT cl q e) (fun e => evalE cl elt e) ds' acc e6 with
            | stk => simp only [hin] at hc3; cases hc3
            | exc x e => simp only [hin] at hc3; cases hc3
            | ok acc' e7 =>
              simp only [hin] at hc3
              have stA := (((st4.trans st5).trans st6).trans st7).trans st8
              have D8 : H7 D = some (.lst vacc) := stA.keep D _ (.inr (.inr rfl)) hD3
              have hlx' : ∀ i ∈ own', P.lx i = none := fun i z => hlx i (hsub i z)
              have rw8 : Rel P Gd F8 (wipeE e6 own') (L2.wipe σ5 own') H7 := (r8.wipe own' hlx').less (fun a z => .inl z)
              refine turns hlx' hown' hG' hT hE nD rw8 r8.len y' D8 (Rs.step stA rs3) hcap' hin fun F9 H9 vys st9 r9 hl9 hD9 rs9 => ?_
              have rwf := (r9.wipe own hlx).less (fun a z => .inl z) (G' := Gd)
              rw [wipeE_sub hsub, wipe_sub hsub, hw5] at rwf
              refine ⟨rfl, hlt, F9, e7, acc', vys, (st3.trans (stA.less sub)).trans st9, rwf, by rw [hl9]; exact len5, hD9, rs9, ?_⟩
              rw [hfI]
              exact hc3
      · have ei : i = ds.length := by omega
        subst ei
        rw [List.drop_length] at hc3
        cases hc3
        obtain ⟨r5, old⟩ := r2.restore (own := own) st3 sub r3 hl3
        refine .inl ⟨y.stop _ (Nat.le_refl _) F3 H (st3.less fun _ z => z.elim), ?_⟩
        refine gs F3 H (st3.less fun a z => .inl z) r5 _ (.fresh (.lst hD3 rs3) (fun z => r3.disj D z (.inr rfl)) (fun z => nD (.inl z)) fun i z => ?_)
        rcases old i D z with ⟨_, z⟩ | ⟨_, z⟩
        · exact r2.notOwn hD i z
        · exact z (.inr rfl)
theorem blk_I {scope : Scope} {tg iter : Expr} {it : It} (h : ∀ s H C cls fp, SndI P (BlkX X scope s H C cls fp) W0 cl tg iter it) : ∃ t, (∀ s H C cls fp, PI (BlkX X scope s H C cls fp) tg iter t) ∧
    ∀ G F env σ H (R : L2.It → Hp → Prop), Rel P G F env σ H → GR P W0 G F σ H (fun ds env' F' H' => ∀ F1 J, Step G F' H' F1 H' → Rel P G F1 env' σ H' → Yields P J F1 H' ds → R J H') (evalI cl it env) → t σ H R := by
  obtain ⟨t, ht⟩ := pick5 h
  exact ⟨fun σ H R => ∀ s H' C cls fp, t s H' C cls fp σ H R, fun s H' C cls fp => ⟨fun pins s' σ H R I z => ((ht s H' C cls fp).1).run pins s' σ H R I (z s H' C cls fp)⟩, fun G F env σ H R r g s H' C cls fp => (ht s H' C cls fp).2 G F env σ H R r g⟩
/-- the whole of it, as a value, and stored in a name on its line -/
theorem snd_comp2 (c : Ct P S cm n X W sc) {eltE tg iter tg' iter' : Expr} {ifs : List Expr} {scope : Scope} {pos : Pos} {elt : E} {t t' : Tg} {it it' : It} {q : T} {own : List (Str × Nat)} {own' : List Nat} (hc : cm = true) (hl : ∀ x ∈ S.ln, isLoc scope x = false) (hlo : ∀ p ∈ own, isLoc scope p.1 = true) (hb : blkC X.N sc scope own = true) (hown : tgIn t (own.map (·.2)) = true) (hown' : tgIn t' own' = true) (hsub : ∀ i ∈ own', i ∈ own.map (·.2))
    (sI : SndI P X W cl tg iter it) (sG : ∀ s H C cls fp, SndG P (BlkX X scope s H C cls fp) tg t) (sY : ∀ s H C cls fp, ∃ t, PTs (BlkX X scope s H C cls fp) [] t ∧ ∀ G F env σ H Q, Rel P G F env σ H → GT P W0 G F σ H Q (evalT cl .yes env) → t σ H Q)
    (sI' : ∀ s H C cls fp, SndI P (BlkX X scope s H C cls fp) W0 cl tg' iter' it') (sG' : ∀ s H C cls fp, SndG P (BlkX X scope s H C cls fp) tg' t')
    (sT : ∀ s H C cls fp, ∃ t, PTs (BlkX X scope s H C cls fp) ifs t ∧ ∀ G F env σ H Q, Rel P G F env σ H → GT P W0 G F σ H Q (evalT cl q env) → t σ H Q)
    (sE : ∀ s H C cls fp, SndE P (BlkX X scope s H C cls fp) W0 cl eltE elt) (hs : ∀ x, foldedSetIterable iter X.env x = pure x) (hs' : ∀ env x, foldedSetIterable iter' env x = pure x) :
    ∃ te : TE, PE X (.ListComp eltE [⟨tg, iter, [], 0⟩, ⟨tg', iter', ifs, 0⟩] scope pos) te ∧ (∀ G F env σ H Q, Rel P G F env σ H → GE P W G F σ H Q (evalE cl (.comp2 elt t it t' it' q (own.map (·.2)) own') env) → te σ H Q) ∧
      ∀ {i : Nat} {y : Str} {py spos : Pos}, X.N[i]? = some y → X.env.scope.names.lookup y = some .local → swapsWith (.ListComp eltE [⟨tg, iter, [], 0⟩, ⟨tg', iter', ifs, 0⟩] scope pos) (some (.Name y py)) spos.line X.env = pure true →
        PS X (.Assign [.Name y py] (.ListComp eltE [⟨tg, iter, [], 0⟩, ⟨tg', iter', ifs, 0⟩] scope pos) spos) (tAsg te (gName i)) := by
  obtain ⟨wi, pI, hI⟩ := sI
  obtain ⟨g, pG, hG⟩ := blk_G sG
  obtain ⟨ty, pY, hY⟩ := blk_T (c := .yes) sY
  obtain ⟨wi', pI', hI'⟩ := blk_I sI'
  obtain ⟨g', pG', hG'⟩ := blk_G sG'
  obtain ⟨tt, pT, hT⟩ := blk_T sT
  obtain ⟨te, pE, hE⟩ := blk_E sE
  have hY' : ∀ G F env σ H Q, Rel P G F env σ H → GT P W0 G F σ H Q (.ok true env) → ty σ H Q := fun G F env σ H Q r z => hY G F env σ H Q r (by unfold evalT; exact z)
  refine ⟨tLc2 wi g ty wi' g' tt te (own.map (·.2)) own', pe_lc2 (c.calm hc) c.nd pI (c.blkOk hb) hsub pG pY pI' pG' pT pE hs hs', fun G F env σ H Q rel gs => comp2_run (fun i hi => c.own_lx hl hlo (c.blkOk hb) hi) hsub hown hown' hI hI' hG hG' hY' hT hE rel gs, ?_⟩
  intro i y py spos h1 h2 h3
  exact ps_setLc2 (c.calm hc) c.nd h1 h2 h3 pI (c.blkOk hb) hsub pG pY pI' pG' pT pE hs hs'
end
end Pd
set_option autoImplicit false
set_option linter.all false
set_option maxRecDepth 100000
set_option maxHeartbeats 1000000
namespace Pd
open PySem PySem.Spec PyProof.Rows L2
/-! a op b op' c op'' d, as a test -/
section
variable {X : Cx} {a b c d : Expr} {ta tb tc td : TE} {pos : Pos}
def tChain3 (r r' r'' : R2) (ta tb tc td : TE) : TT := fun σ H Q => ta σ H fun x H1 => tb σ H1 fun y H2 => r x y H2 fun z H3 => ∃ k, z = .bl k ∧
  (if k = true then tc σ H3 fun w H4 => r' y w H4 fun z' H5 => ∃ k', z' = .bl k' ∧ (if k' = true then td σ H5 fun u H6 => r'' w u H6 fun z2 H7 => ∃ k2, z2 = .bl k2 ∧ Q k2 H7 else Q false H5) else Q false H3)
theorem pt_chain3 {op op' op'' : CmpOp} {r r' r'' : R2} (ho : OpR X (compareOp op) r) (ho' : OpR X (compareOp op') r') (ho2 : OpR X (compareOp op'') r'') (ha : PE X a ta) (hb : PE X b tb) (hc : PE X c tc) (hd : PE X d td)
    (hm : lastMarks [op, op', op''] [b, c, d] = false) : PT X (.Compare a [op, op', op''] [b, c, d] pos) (tChain3 r r' r'' ta tb tc td) := by
  refine ⟨fun pins s σ H Q I h => ?_⟩
  refine isTrue_chain (thn (ha.run pins s σ H _ I h) fun v s1 ⟨x, H1, I1, rx, q1⟩ => test_link (thn (hb.run pins s1 σ H1 _ I1 q1) fun u s2 ⟨y, H2, I2, ry, q2⟩ =>
    thn (ho pins s2 σ H2 x y v u _ I2 rx ry q2) fun t s3 ⟨z, H3, I3, rz, k, e, q3⟩ => ?_)) hm
  subst e
  cases rz
  refine wpAny_truthy_bool ?_
  cases k with
  | false => exact ite_ff ⟨H3, I3, q3⟩
  | true =>
    refine ite_tt (test_link (thn (hc.run pins s3 σ H3 _ I3 q3) fun w' s4 ⟨w, H4, I4, rw4, q4⟩ => thn (ho' pins s4 σ H4 y w u w' _ I4 ry rw4 q4) fun t2 s5 ⟨z2, H5, I5, rz2, k2, e2, q5⟩ => ?_))
    subst e2
    cases rz2
    refine wpAny_truthy_bool ?_
    cases k2 with
    | false => exact ite_ff ⟨H5, I5, q5⟩
    | true =>
      refine ite_tt (test_last (thn (hd.run pins s5 σ H5 _ I5 q5) fun m' s6 ⟨m, H6, I6, rm, q6⟩ => thn (ho2 pins s6 σ H6 w m w' m' _ I6 rw4 rm q6) fun t3 s7 ⟨z3, H7, I7, rz3, k3, e3, q7⟩ => ?_))
      subst e3
      cases rz3
      exact wpAny_truthy_bool ⟨H7, I7, q7⟩
end
section
variable {P : Pl} {S : Stat} {cm : Bool} {n : Nat} {W : WX} {G G' F F' : Addr → Prop} {env env' : Env} {σ : L2.St} {H H' : Hp} {X : Cx} {sc : Scope} {cl : Caller}
theorem snd_chn3 (c : Ct P S cm n X W sc) {ea eb ec ed : Expr} {a b d f : E} {pos : Pos} (sa : SndE P X W cl ea a) (sb : SndE P X W cl eb b) (sd : SndE P X W cl ec d) (sf : SndE P X W cl ed f) (op op' op'' : COp)
    (hm : lastMarks [copOf op, copOf op', copOf op''] [eb, ec, ed] = false) : SndT P X W cl (.Compare ea [copOf op, copOf op', copOf op''] [eb, ec, ed] pos) (.chn3 op op' op'' a b d f) := by
  obtain ⟨ta, tb, pa, pb, h⟩ := two sa sb
  obtain ⟨td, pd, hd⟩ := sd
  obtain ⟨tf, pf, hf⟩ := sf
  obtain ⟨r, hr, ok⟩ := cmp_ok c.hK c.un op
  obtain ⟨r', hr', ok'⟩ := cmp_ok c.hK c.un op'
  obtain ⟨r2, hr2, ok2⟩ := cmp_ok c.hK c.un op''
  refine ⟨_, pt_chain3 hr hr' hr2 pa pb pd pf hm, ?_⟩
  intro G F env σ H Q rel g
  unfold evalT at g
  refine h _ _ (fun vx vy H2 => r vx vy H2 fun z H3 => ∃ k, z = .bl k ∧ (if k = true then td σ H3 fun w H4 => r' vy w H4 fun z' H5 => ∃ k', z' = .bl k' ∧ (if k' = true then tf σ H5 fun u H6 => r2 w u H6 fun z2 H7 => ∃ k2, z2 = .bl k2 ∧ Q k2 H7 else Q false H5) else Q false H3)) G F env σ H rel g fun x y e2 F2 H2 vx vy st q1 q1' ox oy g2 => ?_
  obtain ⟨dx, e3, g3⟩ := GR.opt g2
  obtain ⟨dy, e4, g4⟩ := GR.opt g3
  obtain ⟨k, e5, g5⟩ := GR.opt g4
  obtain ⟨F3, hF3, st3, r3, q3⟩ := ox.leak q1 e3
  have oy' : RO P G F3 e2 σ H2 y vy := by
    have z := ROs.shift (G := G) (.cons oy (.nil _)) st3.sub (fun a z => (hF3 a z).imp id .inr) fun a z => .inl z
    cases z with | cons z _ => exact z
  obtain ⟨F4, hF4, st4, r4, q4⟩ := oy'.leak r3 e4
  refine ok G F4 e2 σ H2 _ dx dy k vx vy r4 (.sh (R.step st4 q3)) (.sh q4) e5 ⟨k, rfl, ?_⟩
  have g6 := GR.step g5 (st3.trans st4)
  cases k with
  | false => rw [if_neg (by decide)]; exact g6 F4 H2 (Step.refl ..) r4
  | true =>
    rw [if_pos rfl]
    refine hd G F4 e2 σ H2 _ r4 (GR.bind g6 fun z e6 F6 H6 st6 r6 g7 vz oz => ?_)
    obtain ⟨dz, e7, g8⟩ := GR.opt g7
    obtain ⟨k', e8, g9⟩ := GR.opt g8
    obtain ⟨F7, _, st7, r7, q7⟩ := oz.leak r6 e7
    refine ok' G F7 e6 σ H6 _ dy dz k' vy vz r7 (.sh (R.step (st6.trans st7) q4)) (.sh q7) e8 ⟨k', rfl, ?_⟩
    have g10 := GR.step g9 st7
    cases k' with
    | false => rw [if_neg (by decide)]; exact g10 F7 H6 (Step.refl ..) r7
    | true =>
      rw [if_pos rfl]
      refine hf G F7 e6 σ H6 _ r7 (GR.bind g10 fun u e9 F9 H9 st9 r9 g11 vu ou => ?_)
      obtain ⟨du, e10, g12⟩ := GR.opt g11
      obtain ⟨k2, e11, g13⟩ := GR.opt1 g12
      obtain ⟨F10, _, st10, r10, q10⟩ := ou.leak r9 e10
      exact ok2 G F10 e9 σ H9 _ dz du k2 vz vu r10 (.sh (R.step (st9.trans st10) q7)) (.sh q10) e11 ⟨k2, rfl, GR.step g13 st10 F10 H9 (Step.refl ..) r10⟩
end
end Pd
set_option autoImplicit false
set_option linter.all false
set_option maxRecDepth 100000
set_option maxHeartbeats 1000000
namespace Pd
open PySem L2
/-! a.split(b); {'x': e, ..}[k] -/
section
variable {P : Pl} {W : WX} {cl : Caller} {G F : Addr → Prop} {env : Env} {σ : L2.St} {H : Hp} {X : Cx} {S : Stat} {cm : Bool} {n : Nat} {sc : Scope}
theorem Rs.strs (F : Addr → Prop) (H : Hp) : ∀ ws : List Str, Rs P F H (ws.map D.str) (ws.map V.str)
  | [] => .nil
  | w :: ws => .cons (.str w) (Rs.strs F H ws)
theorem snd_spl {ea eb : Expr} {a b : E} {apos pos : Pos} (sa : SndE P X W cl ea a) (sb : SndE P X W cl eb b) (hs : starEach [eb] X.env = [(false, eval eb X.env)]) (hb : attributeBase ea "split" X.env (eval ea X.env) = eval ea X.env) (hl : (apos.endLine == pos.line) = true) :
    SndE P X W cl (.Call (.Attribute ea "split" apos) [eb] [] pos) (.spl a b) := by
  obtain ⟨ta, pa, ha⟩ := sa
  obtain ⟨tb, pb, hb'⟩ := sb
  refine ⟨_, pe_split pa pb hs hb hl, ?_⟩
  intro G F env σ H Q rel g
  unfold evalE at g
  refine ha G F env σ H _ rel (GR.bind g fun x e1 F1 H1 st r1 g1 vx ox => ?_)
  obtain ⟨dx, e3, g3⟩ := GR.opt g1
  obtain ⟨s, e4, g4⟩ := GR.opt g3
  have rt := ox.get r1 e3
  have hx : dx = .str s := by
    unfold strOf at e4
    split at e4 <;> first | (cases e4; rfl) | cases e4
  subst hx
  cases rt.str
  refine ⟨⟨s, rfl⟩, hb' G F1 e1 σ H1 _ r1 (GR.bind g4 fun y e2 F2 H2 st2 r2 g5 vy oy => ?_)⟩
  obtain ⟨dy, e6, g6⟩ := GR.opt g5
  obtain ⟨d, e7, g7⟩ := GR.opt g6
  have rt2 := oy.get r2 e6
  unfold splV at e7
  split at e7 <;> first | cases e7 | skip
  rename_i b
  split at e7 <;> first | cases e7 | skip
  rename_i hc
  cases rt2.str
  refine ⟨s, b, rfl, rfl, ?_, cap_le hc.2, fun p hp => ?_⟩
  · simp only [beq_eq_false_iff_ne, ne_eq]; omega
  · exact Kont.newL (fun F' H' v st r ro => g7 F' H' st r v ro) r2 (Rs.strs F2 H2 _) hp
/-- something new that nobody may touch -/
theorem Rel.holdG (r : Rel P G F env σ H) (p : Addr) (h : H p ≠ none) (nf : ¬ F p) (no : ∀ i, ¬ OwnAt env σ i p) : Rel P (fun a => G a ∨ a = p) F env σ H := by
  refine ⟨r.len, fun i s ov e1 e2 => ?_, r.apart, r.domF, fun a z => ?_, fun a z q => ?_, r.fix⟩
  · have z := r.sl i s ov e1 e2
    cases z with
    | un _ => exact .un _
    | val q => exact .val q
    | own q n1 n2 =>
      refine .own q n1 fun w => ?_
      rcases w with w | w
      · exact n2 w
      · exact no i (by subst w; exact ⟨⟨_, e1⟩, e2⟩)
    | ex e q => exact .ex e q
  · rcases z with z | z
    · exact r.domG a z
    · rw [z]; exact h
  · rcases q with q | q
    · exact r.disj a z q
    · rw [q] at z; exact nf z
def tKs : List Str → List TE → List (TE × TE)
  | k :: ks, t :: ts => (tC (.str k), t) :: tKs ks ts
  | _, _ => []
inductive KeysAre : List Str → List (Option Expr) → Prop
  | nil : KeysAre [] []
  | cons {k : Str} {ks : List Str} {j : Nat} {p : Pos} {es : List (Option Expr)} : KeysAre ks es → KeysAre (k :: ks) (some (.Constant (.str k) j p) :: es)
theorem KeysAre.len {ks : List Str} {es : List (Option Expr)} (h : KeysAre ks es) : es.length = ks.length := by
  induction h with
  | nil => rfl
  | cons h ih => rw [List.length_cons, List.length_cons, ih]
theorem KeysAre.all {ks : List Str} {es : List (Option Expr)} (h : KeysAre ks es) : es.all (·.isSome) = true := by
  induction h with
  | nil => rfl
  | cons h ih => rw [List.all_cons, ih]; rfl
/-- the pairs of a display, their keys written -/
def SndP (P : Pl) (X : Cx) (W : WX) (cl : Caller) (pos : Pos) (ks : List Str) (keys : List (Option Expr)) (vs : List Expr) (c : Es) : Prop :=
  ∃ trs, PPs X pos keys vs trs ∧ ∀ G F env σ H Q, Rel P G F env σ H → GA P W G F σ H (fun xs H' => Q ((ks.map V.str).zip xs) H') (evalEs cl c env) → tPairs trs σ H Q
theorem sndP_nil {pos : Pos} : SndP P X W cl pos [] [] [] .nil := ⟨_, pps_nil, fun G F env σ H Q r g => g F H (Step.refl ..) r _ (.nil _)⟩
theorem sndP_cons {pos : Pos} {k : Str} {ks : List Str} {keys : List (Option Expr)} {j : Nat} {p : Pos} {ea : Expr} {es : List Expr} {a : E} {b : Es} (sa : SndE P X W cl ea a) (sb : SndP P X W cl pos ks keys es b) : SndP P X W cl pos (k :: ks) (some (.Constant (.str k) j p) :: keys) (ea :: es) (.cons a b) := by
  obtain ⟨ta, pa, ha⟩ := sa
  obtain ⟨tb, pb, hb⟩ := sb
  refine ⟨_, pps_cons pe_str pa pb, ?_⟩
  intro G F env σ H Q r g
  unfold evalEs at g
  refine ha G F env σ H _ r (GR.bind g fun x e1 F1 H1 st1 r1 g1 vx ox => ?_)
  refine hb (pendG G x vx) F1 e1 σ H1 _ (r1.pend ox) (GR.more (GR.bind g1 fun y e2 F2 H2 st2 r2 g2 => g2) pend_sub fun y e2 F2 H2 st2 r2 g2 vy oy => ?_)
  exact g2 F2 H2 (Step.refl ..) (r2.less pend_sub) (vx :: vy) (.cons (ox.stay st2 r2) oy)
theorem zip_kv : ∀ (ks : List Str) (xs : List V), (ks.map V.str).zip xs = ((ks.map (Sum.inr : Str → Key)).zip xs).map (fun kv => (kV kv.1, kv.2))
  | [], _ => rfl
  | _ :: _, [] => rfl
  | k :: ks, x :: xs => by
    show (V.str k, x) :: (ks.map V.str).zip xs = (kV (.inr k), x) :: _
    rw [zip_kv ks xs]; rfl
theorem putK_new {k : Key} {v : V} {kvs : List (Key × V)} (h : ∀ kv ∈ kvs, kv.1 ≠ k) : putK kvs k v = kvs ++ [(k, v)] := by
  unfold putK
  rw [if_neg]
  intro z
  obtain ⟨kv, hm, he⟩ := List.any_eq_true.mp z
  exact h kv hm (of_decide_eq_true he)
theorem mergeK_new : ∀ (more kvs : List (Key × V)), (more.map (·.1)).Nodup → (∀ a ∈ more, ∀ b ∈ kvs, b.1 ≠ a.1) → mergeK kvs more = kvs ++ more
  | [], kvs, _, _ => by rw [List.append_nil]; rfl
  | m :: more, kvs, nd, h => by
    rw [List.map_cons, List.nodup_cons] at nd
    show mergeK (putK kvs m.1 m.2) more = _
    rw [putK_new fun kv hk => h m List.mem_cons_self kv hk, mergeK_new more _ nd.2 fun a ha b hb => by
      rcases List.mem_append.mp hb with hb | hb
      · exact h a (List.mem_cons_of_mem _ ha) b hb
      · rw [List.mem_singleton] at hb
        subst hb
        intro e
        exact nd.1 (e ▸ List.mem_map.mpr ⟨a, ha, rfl⟩)]
    rw [List.append_assoc]; rfl
theorem zip_keys : ∀ (ks : List Str) (xs : List V), ks.length = xs.length → ((ks.map (Sum.inr : Str → Key)).zip xs).map (·.1) = ks.map Sum.inr
  | [], [], _ => rfl
  | k :: ks, x :: xs, h => by
    exact congrArg (List.cons (Sum.inr k : Key)) (zip_keys ks xs (by simpa using h))
theorem nodup_inr {ks : List Str} (h : ks.Nodup) : (ks.map (Sum.inr : Str → Key)).Nodup := by
  induction ks with
  | nil => exact List.nodup_nil
  | cons k ks ih =>
    rw [List.nodup_cons] at h
    rw [List.map_cons, List.nodup_cons]
    refine ⟨fun z => ?_, ih h.2⟩
    obtain ⟨b, hb, e⟩ := List.mem_map.mp z
    cases e
    exact h.1 hb
theorem dix_val {x : Str} {d : D} : ∀ {ks : List Str} {ds : List D} {xs : List V}, Rs P F H ds xs → dixV ks ds (.str x) = some d → ∃ v, valV ((ks.map (Sum.inr : Str → Key)).zip xs) (.inr x) = some v ∧ R P F H d v
  | [], ds, xs, h, e => by cases ds <;> cases e
  | k :: ks, _, _, .nil, e => by cases e
  | k :: ks, _, _, .cons (v := v) (vs := vs) r t, e => by
    unfold dixV at e
    by_cases c : k = x
    · rw [if_pos c] at e
      cases e
      refine ⟨v, ?_, r⟩
      subst c
      unfold valV
      show Option.map _ (List.find? _ (((Sum.inr k : Key), v) :: _)) = _
      rw [List.find?_cons_of_pos (by simp)]; rfl
    · rw [if_neg c] at e
      obtain ⟨w, hw, q⟩ := dix_val t e
      refine ⟨w, ?_, q⟩
      unfold valV at hw ⊢
      show Option.map _ (List.find? _ (((Sum.inr k : Key), v) :: _)) = _
      rw [List.find?_cons_of_neg (by simp [c])]
      exact hw
theorem snd_dix (hu : X.A.units + 1 < cLine) {ks : List Str} {keys : List (Option Expr)} {vs : List Expr} {es : Es} {ei : Expr} {a : E} {dpos pos : Pos} (sp : SndP P X W cl dpos ks keys vs es) (hk : KeysAre ks keys) (nd : ks.Nodup) (h0 : ks ≠ []) (h15 : ks.length ≤ 15) (hl : lenEs es = ks.length) (hv : vs.length = ks.length)
    (sa : SndE P X W cl ei a) (hn : NoSl ei) : SndE P X W cl (.Subscript (.Dict keys vs dpos) ei pos) (.dix ks es a) := by
  obtain ⟨trs, pp, hp⟩ := sp
  obtain ⟨ti, pi, hi⟩ := sa
  refine ⟨_, pe_dget hu (pe_disp pp hk.all (by rw [hk.len, hv]) (fun z => h0 (by have := hk.len; rw [z] at this; exact List.length_eq_zero_iff.mp this.symm)) (by rw [hk.len]; exact h15)) pi hn, ?_⟩
  intro G F env σ H Q rel g
  unfold evalE at g
  intro p hp0
  have e1 : upd H p (.dK []) p = some (.dK []) := upd_same
  have r1 : Rel P G F env σ (upd H p (.dK [])) := rel.same (same_new hp0)
  have r2 := r1.holdG p (by rw [e1]; exact fun z => nomatch z) (rel.newF hp0) (rel.notOwn hp0)
  have g' := GR.step g (Step.same (same_new hp0) : Step G F H F (upd H p (.dK [])))
  refine hp _ F env σ _ _ r2 (GR.more (GR.bindE g' fun os e F1 H1 eq st r g1 => And.intro eq g1) (fun _ z => .inl z) fun os e F1 H1 st r ⟨eq, g1⟩ xs ro => ?_)
  have hlx : ks.length = xs.length := by rw [← ro.len, evalEs_len es eq, hl]
  obtain ⟨ds, e2, g2⟩ := GR.opt g1
  obtain ⟨F2, st2, r3, q2⟩ := ro.leaks r e2
  have kv := zip_kv ks xs
  refine ⟨st.keep p _ (.inr (.inr rfl)) e1, (ks.map Sum.inr).zip xs, kv, by rw [List.length_zip, List.length_map]; omega, ?_⟩
  rw [mergeK_new _ [] (by rw [zip_keys ks xs hlx]; exact nodup_inr nd) (fun _ _ _ z => nomatch z), List.nil_append]
  have st3 : Step G F2 H1 F2 (upd H1 p (.dK ((ks.map Sum.inr).zip xs))) := step_upd (fun z => r3.disj p z (.inr rfl)) (rel.newG hp0)
  have r4 : Rel P (fun a => G a ∨ a = p) F2 e σ (upd H1 p (.dK ((ks.map Sum.inr).zip xs))) := r3.updG (.inr rfl)
  have g3 := GR.step g2 ((st2.less fun _ z => .inl z).trans st3)
  have q3 := Rs.step st3 q2
  refine hi _ F2 e σ _ _ r4 (GR.more (GR.bind g3 fun y e5 F3 H3 st r g => g) (fun _ z => .inl z) fun y e5 F3 H3 st5 r6 g4 vy oy => ?_)
  obtain ⟨dy, e6, g5⟩ := GR.opt g4
  obtain ⟨d, e7, g6⟩ := GR.opt g5
  have rt := oy.get r6 e6
  have hs : ∃ x, dy = .str x := by
    cases ks with
    | nil => exact absurd rfl h0
    | cons k ks =>
      cases ds with
      | nil => cases dy <;> cases e7
      | cons d' ds => cases dy <;> first | exact ⟨_, rfl⟩ | cases e7
  obtain ⟨x, rfl⟩ := hs
  cases rt.str
  obtain ⟨v, hv2, qv⟩ := dix_val (Rs.step st5 q3) e7
  refine ⟨p, v, rfl, .inl ⟨_, .inr x, .inl (st5.keep p _ (.inr (.inr rfl)) upd_same), rfl, hv2.symm⟩, ?_⟩
  exact g6 F3 H3 (Step.refl ..) (r6.less fun _ z => .inl z) v (.val qv)
end
end Pd
set_option autoImplicit false
set_option linter.all false
set_option maxRecDepth 100000
set_option maxHeartbeats 1000000
namespace Pd
open PySem L2
/-! dicts that live on -/
section
variable {P : Pl} {S : Stat} {cm : Bool} {n : Nat} {W : WX} {G G' F F' : Addr → Prop} {env env' : Env} {σ : L2.St} {H H' : Hp} {X : Cx} {sc : Scope} {cl : Caller}
theorem key_of {d : D} {v : V} {k : Key} (r : RT P F H d v) (e : keyD d = some k) : v = kV k := by
  unfold keyD at e
  split at e <;> first | cases e | skip
  · exact r.int
  · exact r.str
theorem val_zip {k : Key} : ∀ (ks : List Key) {ds : List D} {vs : List V}, ks.length = vs.length → Rs P F H ds vs →
    (∀ d, getK ks ds k = some d → ∃ v, valV (ks.zip vs) k = some v ∧ R P F H d v) ∧ (getK ks ds k = none → valV (ks.zip vs) k = none) := by
  intro ks
  induction ks with
  | nil =>
    intro ds vs _ _
    exact ⟨fun d h => (by cases ds <;> cases h), fun _ => rfl⟩
  | cons x ks ih =>
    intro ds vs l r
    cases r with
    | nil => simp at l
    | @cons d' ds v vs r t =>
      have ih := ih (by simpa using l) t
      show (∀ d, (if x = k then some d' else getK ks ds k) = some d → ∃ w, valV ((x, v) :: ks.zip vs) k = some w ∧ R P F H d w) ∧ ((if x = k then some d' else getK ks ds k) = none → valV ((x, v) :: ks.zip vs) k = none)
      by_cases c : x = k
      · rw [if_pos c]
        exact ⟨fun d h => by cases h; exact ⟨v, valV_pos c, r⟩, fun h => nomatch h⟩
      · rw [if_neg c, valV_neg (by exact c)]
        exact ih
theorem any_zip {k : Key} : ∀ {ks : List Key} {vs : List V}, ks.length = vs.length → ((ks.zip vs).any fun kv => decide (kv.1 = k)) = ks.any fun x => decide (x = k)
  | [], [], _ => rfl
  | x :: ks, v :: vs, l => by
    rw [List.zip_cons_cons, List.any_cons, List.any_cons, any_zip (by simpa using l)]
  | [], v :: vs, l => by simp at l
  | x :: ks, [], l => by simp at l
theorem over_zip {k : Key} {d : D} {v : V} (rv : R P F H d v) : ∀ (ks : List Key) {ds : List D} {vs : List V}, ks.length = vs.length → Rs P F H ds vs →
    ∃ vs', (ks.zip vs).map (fun kv => if kv.1 = k then (kv.1, v) else kv) = ks.zip vs' ∧ ks.length = vs'.length ∧ Rs P F H (overK ks ds k d) vs' := by
  intro ks
  induction ks with
  | nil =>
    intro ds vs _ _
    exact ⟨[], rfl, rfl, by cases ds <;> exact .nil⟩
  | cons x ks ih =>
    intro ds vs l r
    cases r with
    | nil => simp at l
    | @cons d' ds v' vs r t =>
      obtain ⟨us, h1, h2, h3⟩ := ih (by simpa using l) t
      by_cases c : x = k
      · refine ⟨v :: us, ?_, by simp [h2], ?_⟩
        · rw [List.zip_cons_cons, List.map_cons, h1, List.zip_cons_cons, if_pos c]
        · show Rs P F H ((if x = k then d else d') :: overK ks ds k d) (v :: us)
          rw [if_pos c]; exact .cons rv h3
      · refine ⟨v' :: us, ?_, by simp [h2], ?_⟩
        · rw [List.zip_cons_cons, List.map_cons, h1, List.zip_cons_cons, if_neg c]
        · show Rs P F H ((if x = k then d else d') :: overK ks ds k d) (v' :: us)
          rw [if_neg c]; exact .cons r h3
theorem put_zip {k : Key} {d : D} {v : V} (rv : R P F H d v) {ks : List Key} {ds : List D} {vs : List V} (l : ks.length = vs.length) (r : Rs P F H ds vs) :
    ∃ vs', putK (ks.zip vs) k v = (putKs ks k).zip vs' ∧ (putKs ks k).length = vs'.length ∧ Rs P F H (putDs ks ds k d) vs' := by
  unfold putK putKs putDs
  rw [any_zip l]
  by_cases c : (ks.any fun x => decide (x = k)) = true
  · rw [if_pos c, if_pos c, if_pos c]
    exact over_zip rv ks l r
  · rw [if_neg c, if_neg c, if_neg c]
    refine ⟨vs ++ [v], ?_, by simp [l], Rs.append r (.cons rv .nil)⟩
    rw [List.zip_append l]; rfl
theorem Kont.newD {ks : List Key} {ds : List D} {vs : List V} {Q : VK} (k : Kont P G F env σ H (.fresh (.dic ks ds)) Q) (r : Rel P G F env σ H) (l : ks.length = vs.length) (q : Rs P F H ds vs) {p : Addr} (h : H p = none) : Q (.ref p) (upd H p (.dK (ks.zip vs))) :=
  k F _ _ (Step.same (same_new h)) (r.same (same_new h)) (.fresh (.dic upd_same l (Rs.step (G := G) (Step.same (same_new h)) q)) (r.newF h) (r.newG h) fun i => r.notOwn h i)
theorem snd_dnew {pos : Pos} : SndE P X W cl (.Dict [] [] pos) .dnew := by
  refine ⟨_, pe_dnewK, ?_⟩
  intro G F env σ H Q rel g p hp
  unfold evalE at g
  exact Kont.newD (ks := []) (vs := []) (fun F' H' v st r ro => g F' H' st r v ro) rel rfl .nil hp
/-- a display, its keys written -/
theorem disp_run {ks : List Str} {es : Es} {trs : List (TE × TE)} (hl : lenEs es = ks.length) (h15 : ks.length ≤ 15) (nd : ks.Nodup)
    (hp : ∀ G F env σ H Q, Rel P G F env σ H → GA P W G F σ H (fun xs H' => Q ((ks.map V.str).zip xs) H') (evalEs cl es env) → tPairs trs σ H Q)
    {Q : VK} (rel : Rel P G F env σ H) (g : GE P W G F σ H Q (evalE cl (.dlit ks es) env)) : tDisp trs σ H Q := by
  unfold evalE at g
  intro p hp0
  have e1 : upd H p (.dK []) p = some (.dK []) := upd_same
  have r1 : Rel P G F env σ (upd H p (.dK [])) := rel.same (same_new hp0)
  have r2 := r1.holdG p (by rw [e1]; exact fun z => nomatch z) (rel.newF hp0) (rel.notOwn hp0)
  have g' := GR.step g (Step.same (same_new hp0) : Step G F H F (upd H p (.dK [])))
  refine hp _ F env σ _ _ r2 (GR.more (GR.bindE g' fun os e F1 H1 eq st r g1 => And.intro eq g1) (fun _ z => .inl z) fun os e F1 H1 st r ⟨eq, g1⟩ xs ro => ?_)
  have hlx : ks.length = xs.length := by rw [← ro.len, evalEs_len es eq, hl]
  obtain ⟨ds, e2, g2⟩ := GR.opt g1
  obtain ⟨d, e3, g3⟩ := GR.opt g2
  obtain ⟨F2, st2, r3, q2⟩ := ro.leaks r e2
  have kv := zip_kv ks xs
  refine ⟨st.keep p _ (.inr (.inr rfl)) e1, (ks.map Sum.inr).zip xs, kv, by rw [List.length_zip, List.length_map]; omega, ?_⟩
  rw [mergeK_new _ [] (by rw [zip_keys ks xs hlx]; exact nodup_inr nd) (fun _ _ _ z => nomatch z), List.nil_append]
  have st3 : Step G F2 H1 F2 (upd H1 p (.dK ((ks.map Sum.inr).zip xs))) := step_upd (fun z => r3.disj p z (.inr rfl)) (rel.newG hp0)
  have r4 : Rel P (fun a => G a ∨ a = p) F2 e σ (upd H1 p (.dK ((ks.map Sum.inr).zip xs))) := r3.updG (.inr rfl)
  have g4 := GR.step g3 ((st2.less fun _ z => .inl z).trans st3)
  unfold dlitV at e3
  split at e3
  · cases e3
    refine g4 F2 _ (Step.refl ..) (r4.less fun _ z => .inl z) (.ref p) (.fresh (.dic upd_same (by rw [List.length_map]; exact hlx) (Rs.step st3 q2)) (fun z => r4.disj p z (.inr rfl)) (rel.newG hp0) fun i z => ?_)
    obtain ⟨d', _, _, _, n2⟩ := r4.own_of z
    exact n2 (.inr rfl)
  · cases e3
theorem snd_dlit {ks : List Str} {keys : List (Option Expr)} {vs : List Expr} {es : Es} {dpos : Pos} (sp : SndP P X W cl dpos ks keys vs es) (hk : KeysAre ks keys) (nd : ks.Nodup) (h0 : ks ≠ []) (h15 : ks.length ≤ 15) (hl : lenEs es = ks.length) (hv : vs.length = ks.length) :
    SndE P X W cl (.Dict keys vs dpos) (.dlit ks es) := by
  obtain ⟨trs, pp, hp⟩ := sp
  refine ⟨_, pe_disp pp hk.all (by rw [hk.len, hv]) (fun z => h0 (by have := hk.len; rw [z] at this; exact List.length_eq_zero_iff.mp this.symm)) (by rw [hk.len]; exact h15), ?_⟩
  intro G F env σ H Q rel g
  exact disp_run hl h15 nd hp rel g
/-- a display of one pair -/
theorem GR.two {α β γ : Type} {C : γ → Env → (Addr → Prop) → Hp → Prop} {rA : Res α} {rB : α → Env → Res β} {K : α → β → Env → Res γ} (hg : GR P W G F σ H C (rA.bind fun x e1 => (rB x e1).bind fun y e2 => K x y e2)) :
    GR P W G F σ H (fun (p : α × β) e F1 H1 => GR P W G F1 σ H1 C (K p.1 p.2 e)) (rA.bind fun x e1 => (rB x e1).bind fun y e2 => Res.ok (x, y) e2) := by
  cases rA with
  | stk => exact hg
  | exc x e => exact hg
  | ok a e =>
    show GR P W G F σ H _ ((rB a e).bind fun y e2 => Res.ok (a, y) e2)
    have hg' : GR P W G F σ H C ((rB a e).bind fun y e2 => K a y e2) := hg
    cases z : rB a e with
    | stk => rw [z] at hg'; exact hg'
    | exc x e => rw [z] at hg'; exact hg'
    | ok b e' =>
      rw [z] at hg'
      exact fun F1 H1 st r => GR.step hg' st
theorem two_ops {x y : Opd} {vx vy : V} {e : Env} (ox : RO P G F e σ H x vx) (oy : RO P (pendG G x vx) F e σ H y vy) : ROs P F e σ H G [x, y] [vx, vy] := .cons ox (.cons oy (.nil _))
theorem snd_done {ea eb : Expr} {a b : E} {pos : Pos} (sa : SndE P X W cl ea a) (sb : SndE P X W cl eb b) : SndE P X W cl (.Dict [some ea] [eb] pos) (.done1 a b) := by
  obtain ⟨ta, tb, pa, pb, h⟩ := two sa sb
  refine ⟨_, pe_disp (pps_cons pa pb pps_nil) rfl rfl (by simp) (by simp), ?_⟩
  intro G F env σ H Q rel g
  unfold evalE at g
  intro p hp0
  have e1 : upd H p (.dK []) p = some (.dK []) := upd_same
  have r1 : Rel P G F env σ (upd H p (.dK [])) := rel.same (same_new hp0)
  have r2 := r1.holdG p (by rw [e1]; exact fun z => nomatch z) (rel.newF hp0) (rel.notOwn hp0)
  have g' := GR.step g (Step.same (same_new hp0) : Step G F H F (upd H p (.dK [])))
  have g2 := GR.more (G' := fun a => G a ∨ a = p) (GR.two g') (fun _ z => .inl z) fun o e F1 H1 st r c => And.intro st c
  refine h _ _ _ _ F env σ _ r2 g2 fun x y e2 F2 H2 vx vy st r3 r3' ox oy g3 => ?_
  obtain ⟨_, g4⟩ := g3 F2 H2 (Step.refl ..) r3
  obtain ⟨ds, e3, g5⟩ := GR.opt g4
  obtain ⟨d, e4, g6⟩ := GR.opt g5
  obtain ⟨F4, st4, r4, q4⟩ := (two_ops ox oy).leaks r3 e3
  have hd : ∃ k dx dy, ds = [dx, dy] ∧ keyD dx = some k ∧ d = .dic [k] [dy] := by
    unfold doneV at e4
    split at e4 <;> first | cases e4 | skip
    obtain ⟨k, hk, rfl⟩ := Option.map_eq_some_iff.mp e4
    exact ⟨k, _, _, rfl, hk, rfl⟩
  obtain ⟨k, dx, dy, rfl, hk, rfl⟩ := hd
  have hpp : H2 p = some (.dK []) := st.keep p _ (.inr (.inr rfl)) e1
  cases q4 with
  | cons q1 q4 =>
    cases q4 with
    | cons q2 q4 =>
      refine ⟨hpp, [(k, vy)], by rw [key_of (.sh q1) hk]; rfl, by simp, ?_⟩
      have st5 : Step G F4 H2 F4 (upd H2 p (.dK ([k].zip [vy]))) := step_upd (fun z => r4.disj p z (.inr rfl)) (rel.newG hp0)
      have r6 : Rel P (fun a => G a ∨ a = p) F4 e2 σ (upd H2 p (.dK ([k].zip [vy]))) := r4.updG (.inr rfl)
      have g7 := GR.step g6 ((st4.less fun _ z => .inl z).trans st5)
      refine g7 F4 _ (Step.refl ..) (r6.less fun _ z => .inl z) (.ref p) (.fresh (.dic upd_same rfl (.cons (R.step st5 q2) .nil)) (fun z => r6.disj p z (.inr rfl)) (rel.newG hp0) fun i z => ?_)
      obtain ⟨d', _, _, _, n2⟩ := r6.own_of z
      exact n2 (.inr rfl)
theorem snd_didx (hu : X.A.units + 1 < cLine) {ea eb : Expr} {a b : E} {pos : Pos} (sa : SndE P X W cl ea a) (sb : SndE P X W cl eb b) (hn : NoSl eb) : SndE P X W cl (.Subscript ea eb pos) (.didx a b) := by
  obtain ⟨ta, tb, pa, pb, h⟩ := two sa sb
  refine ⟨_, pe_dget hu pa pb hn, ?_⟩
  intro G F env σ H Q rel g
  unfold evalE at g
  refine h _ _ _ G F env σ H rel g fun x y e2 F2 H2 vx vy st r2 r2' ox oy g2 => ?_
  obtain ⟨dx, e3, g3⟩ := GR.opt g2
  obtain ⟨dy, e4, g4⟩ := GR.opt g3
  obtain ⟨d, e5, g5⟩ := GR.opt g4
  have rx := ox.get r2 e3
  have ry := oy.get r2 e4
  unfold didxV at e5
  split at e5 <;> first | cases e5 | skip
  rename_i ks ds
  obtain ⟨k, hk, e6⟩ := Option.bind_eq_some_iff.mp e5
  obtain ⟨a', vs, rfl, ha, l, rs⟩ := rx.dic
  obtain ⟨v, hv, rv⟩ := (val_zip (k := k) ks l rs).1 d e6
  exact ⟨a', v, rfl, .inl ⟨_, k, .inl ha, key_of ry hk, hv.symm⟩, g5 F2 H2 (Step.refl ..) r2 v (.val rv)⟩
theorem snd_din (hu : X.A.units + 1 < cLine) {ea eb : Expr} {a b : E} {neg : Bool} {pos : Pos} (sb : SndE P X W cl eb b) (sa : SndE P X W cl ea a) (hm : behindInMarks (if neg then .NotIn else .In) ea = false) :
    SndE P X W cl (.Compare eb [if neg then .NotIn else .In] [ea] pos) (.din neg b a) := by
  obtain ⟨tb, ta, pb, pa, h⟩ := two sb sa
  have key : ∀ G F env σ H Q, Rel P G F env σ H → GE P W G F σ H Q (evalE cl (.din neg b a) env) →
      tb σ H fun vy H1 => ta σ H1 fun vx H2 => ∃ c o, vx = .ref c ∧ DGet H2 c vy o ∧ Q (.bl (o.isSome != neg)) H2 := by
    intro G F env σ H Q rel g
    unfold evalE at g
    refine h _ _ _ G F env σ H rel g fun y x e2 F2 H2 vy vx st r2 r2' oy ox g2 => ?_
    obtain ⟨dy, e4, g3⟩ := GR.opt g2
    obtain ⟨dx, e3, g4⟩ := GR.opt g3
    obtain ⟨q, e5, g5⟩ := GR.opt g4
    have rx := ox.get r2 e3
    have ry := oy.get r2 e4
    unfold dinV at e5
    split at e5 <;> first | cases e5 | skip
    rename_i ks ds
    obtain ⟨k, hk, e6⟩ := Option.map_eq_some_iff.mp e5
    obtain ⟨a', vs, rfl, ha, l, rs⟩ := rx.dic
    refine ⟨a', valV (ks.zip vs) k, rfl, .inl ⟨_, k, .inl ha, key_of ry hk, rfl⟩, ?_⟩
    have hq : (valV (ks.zip vs) k).isSome = q := by
      rw [← e6]
      cases z : getK ks ds k with
      | none => rw [(val_zip (k := k) ks l rs).2 z]; rfl
      | some d => obtain ⟨v, hv, _⟩ := (val_zip (k := k) ks l rs).1 d z; rw [hv]; rfl
    rw [hq]
    exact g5 F2 H2 (Step.refl ..) r2 _ (.val (.bl _))
  cases neg with
  | true =>
    refine ⟨_, pe_cmp (pc_dnotin hu pb pa) hm, fun G F env σ H Q rel g => ?_⟩
    have := key G F env σ H Q rel g
    simp only [Bool.bne_true] at this
    exact this
  | false =>
    refine ⟨_, pe_cmp (pc_din hu pb pa) hm, fun G F env σ H Q rel g => ?_⟩
    have := key G F env σ H Q rel g
    simp only [Bool.bne_false] at this
    exact this
theorem snd_dget (hu : X.A.units + 1 < cLine) {ea eb ec : Expr} {a b c : E} {apos pos : Pos} (sa : SndE P X W cl ea a) (sb : SndE P X W cl eb b) (sc' : SndE P X W cl ec c) (m : M2 X ea "get" apos eb ec pos) :
    SndE P X W cl (.Call (.Attribute ea "get" apos) [eb, ec] [] pos) (.dget a b c) := by
  obtain ⟨ta, pa, ha⟩ := sa
  obtain ⟨tb, tc, pb, pc, h⟩ := two sb sc'
  refine ⟨_, pe_dget2 hu pa pb pc m, ?_⟩
  intro G F env σ H Q rel g
  unfold evalE at g
  refine ha G F env σ H _ rel (GR.bind g fun x e1 F1 H1 st r1 g1 vx ox => ?_)
  obtain ⟨d1, e2, g2⟩ := GR.opt g1
  obtain ⟨u, e3, g3⟩ := GR.opt g2
  have rt := ox.get r1 e2
  have hd : ∃ ks ds, d1 = .dic ks ds := by
    cases d1 <;> first | exact ⟨_, _, rfl⟩ | cases e3
  obtain ⟨ks1, ds1, rfl⟩ := hd
  obtain ⟨a', vs1, rfl, ha1, _, _⟩ := rt.dic
  refine ⟨a', rfl, .inl ⟨_, .inl ha1⟩, ?_⟩
  refine h _ _ _ (pendG G x (.ref a')) F1 e1 σ H1 (r1.pend ox) (GR.more g3 pend_sub fun o e F1 H1 st r c => c) fun y z e3 F3 H3 vy vz st3 r3 r3' oy oz g4 => ?_
  obtain ⟨ds, e4, g5⟩ := GR.opt g4
  obtain ⟨dx, e5, g6⟩ := GR.opt g5
  obtain ⟨d, e6, g7⟩ := GR.opt g6
  obtain ⟨F4, st4, r4, q4⟩ := (two_ops oy oz).leaks r3 e4
  have rx := (ox.stay (st3.trans st4) r4).get r4 e5
  unfold dgetV at e6
  split at e6 <;> first | cases e6 | skip
  rename_i ks ds kd xd
  obtain ⟨k, hk, e7⟩ := Option.map_eq_some_iff.mp e6
  obtain ⟨a2, vs, ea, ha2, l, rs⟩ := rx.dic
  cases ea
  cases q4 with
  | cons q1 q4 =>
    cases q4 with
    | cons q2 q4 =>
      refine ⟨valV (ks.zip vs) k, .inl ⟨_, k, .inl ha2, key_of (.sh q1) hk, rfl⟩, g7 F4 H3 st4 r4 _ (.val ?_)⟩
      subst e7
      cases w : getK ks ds k with
      | none => rw [(val_zip (k := k) ks l rs).2 w]; exact q2
      | some d => obtain ⟨v, hv, rv⟩ := (val_zip (k := k) ks l rs).1 d w; rw [hv]; exact rv
/-- .. as a test -/
theorem snd_dinT (hu : X.A.units + 1 < cLine) {ea eb : Expr} {a b : E} {neg : Bool} {pos : Pos} (sb : SndE P X W cl eb b) (sa : SndE P X W cl ea a) (hm : behindInMarks (if neg then .NotIn else .In) ea = false) :
    SndT P X W cl (.Compare eb [if neg then .NotIn else .In] [ea] pos) (.e (.din neg b a)) := by
  obtain ⟨tb, ta, pb, pa, h⟩ := two sb sa
  have key : ∀ G F env σ H Q, Rel P G F env σ H → GT P W G F σ H Q (evalT cl (.e (.din neg b a)) env) →
      tb σ H fun vy H1 => ta σ H1 fun vx H2 => ∃ c o, vx = .ref c ∧ DGet H2 c vy o ∧ ∃ d, V.bl (o.isSome != neg) = .bl d ∧ Q d H2 := by
    intro G F env σ H Q rel g
    unfold evalT at g
    unfold evalE at g
    have g0 : GR P W G F σ H (fun k _ _ H' => Q k H') ((evalE cl b env).bind fun y e1 => (evalE cl a e1).bind fun x e2 => ((ofO (y.get e2) e2).bind fun dy _ => (ofO (x.get e2) e2).bind fun dx _ => (ofO (dinV dx dy) e2).bind fun k e => Res.ok (Opd.val (.bl (k != neg))) e).bind fun x e => (ofO (x.get e) e).bind fun d e => ofO d.truth e) := by
      revert g
      cases evalE cl b env with
      | stk => exact id
      | exc x e => exact id
      | ok y e1 =>
        simp only [Res.bind_ok]
        cases evalE cl a e1 with
        | stk => exact id
        | exc x e => exact id
        | ok x e2 => exact id
    refine h _ _ _ G F env σ H rel g0 fun y x e2 F2 H2 vy vx st r2 r2' oy ox g2 => ?_
    cases z1 : y.get e2 with
    | none => rw [z1] at g2; exact g2.elim
    | some dy =>
      cases z2 : x.get e2 with
      | none => rw [z1, z2] at g2; exact g2.elim
      | some dx =>
        cases z3 : dinV dx dy with
        | none => rw [z1, z2] at g2; simp only [ofO_some, Res.bind_ok, z3] at g2; exact g2.elim
        | some q =>
          rw [z1, z2] at g2
          simp only [ofO_some, Res.bind_ok, z3] at g2
          have rx := ox.get r2 z2
          have ry := oy.get r2 z1
          unfold dinV at z3
          split at z3 <;> first | cases z3 | skip
          rename_i ks ds
          obtain ⟨k, hk, e6⟩ := Option.map_eq_some_iff.mp z3
          obtain ⟨a', vs, rfl, ha, l, rs⟩ := rx.dic
          refine ⟨a', valV (ks.zip vs) k, rfl, .inl ⟨_, k, .inl ha, key_of ry hk, rfl⟩, ?_⟩
          have hq : (valV (ks.zip vs) k).isSome = q := by
            rw [← e6]
            cases z : getK ks ds k with
            | none => rw [(val_zip (k := k) ks l rs).2 z]; rfl
            | some d => obtain ⟨v, hv, _⟩ := (val_zip (k := k) ks l rs).1 d z; rw [hv]; rfl
          rw [hq]
          exact ⟨_, rfl, g2 F2 H2 (Step.refl ..) r2⟩
  cases neg with
  | true =>
    refine ⟨_, pt_cmp (pc_dnotin hu pb pa) hm, fun G F env σ H Q rel g => ?_⟩
    have := key G F env σ H Q rel g
    simp only [Bool.bne_true] at this
    exact this
  | false =>
    refine ⟨_, pt_cmp (pc_din hu pb pa) hm, fun G F env σ H Q rel g => ?_⟩
    have := key G F env σ H Q rel g
    simp only [Bool.bne_false] at this
    exact this
theorem Rel.ownUpdG (r : Rel P G F env σ H) {i : Nat} {d d' : D} {a : Addr} {o : HO} (e : env[i]? = some (.own d)) (e2 : σ[i]? = some (some (.ref a))) (q : Step G F H F (upd H a o) → Own P F (upd H a o) d' a) :
    Rel P G F (env.set i (.own d')) σ (upd H a o) ∧ Step G F H F (upd H a o) := by
  obtain ⟨a', e3, o', n1, n2⟩ := r.ownAt e
  rw [e2] at e3
  cases e3
  have hx : ∀ b, P.lx i = some b → some (V.ref a) = some (V.ref b) := fun b hb => by
    have := r.fix i b hb
    rw [e2] at this
    exact Option.some.inj this
  have hσ : σ.set i (some (.ref a)) = σ := by
    apply List.ext_getElem?
    intro j
    by_cases hj : i = j
    · subst hj
      rw [List.getElem?_set_self (List.getElem?_eq_some_iff.mp e2).1, e2]
    · rw [List.getElem?_set_ne hj]
  have un : Rel P G F (env.set i .un) σ H := by
    have z := r.setUn (i := i) (some (V.ref a)) hx
    rw [hσ] at z
    exact z
  have no : ∀ j, ¬ OwnAt (env.set i .un) σ j a := fun j z => by
    have z' : OwnAt (env.set i .un) (σ.set i (some (V.ref a))) j a := by rw [hσ]; exact z
    obtain ⟨hj, z2⟩ := OwnAt.of_set (fun _ => by simp) z'
    exact r.apart j i a hj z2 ⟨⟨d, e⟩, e2⟩
  have st : Step G F H F (upd H a o) := step_upd n1 n2
  have r1 := (un.addG o'.some n1 no).updG (o := o) (.inr rfl)
  have r2 := (r1.less (G' := G) fun _ z => .inl z).setOwn (i := i) (d := d') (a := a) hx (q st) n1 n2 fun j _ => no j
  rw [hσ, List.set_set] at r2
  exact ⟨r2, st⟩
/-- d[k] = v -/
theorem snd_setD (c : Ct P S cm n X W sc) {x : Str} {ei ea : Expr} {ix a : E} {i : Nat} {p p2 pos : Pos} (h : varOk X.N sc i x = true) (si : SndE P X W cl ei ix) (sa : SndE P X W cl ea a) (hs : swapsWith ea (some (.Subscript (.Name x p) ei p2)) pos.line X.env = pure false) :
    SndS P X W cl (.Assign [.Subscript (.Name x p) ei p2] ea pos) (.setD i ix a) := by
  obtain ⟨ti, pi, hi⟩ := si
  obtain ⟨ta, pa, ha⟩ := sa
  refine ⟨_, ps_dput (by have := c.un; omega) (pe_slot c h) pi pa hs, ?_⟩
  intro G F env σ H E rel g
  unfold evalS at g
  refine ha G F env σ H _ rel (GR.more (GS.fl g) (fun _ z => z) fun o e1 F1 H1 st r1 g1 v ro => ?_)
  split at g1
  · rename_i d hd
    split at g1
    · rename_i ho
      obtain ⟨F2, _, st2, r2, q2⟩ := ro.leak r1 hd
      have g2 := GS.fl (σ := σ) (GS.step g1 st2)
      have hown : ∃ a', σ[i]? = some (some (.ref a')) := by
        unfold isOwnD at ho
        split at ho
        · rename_i e
          obtain ⟨a', e1, _⟩ := r2.ownAt e
          exact ⟨a', e1⟩
        · cases ho
      obtain ⟨a', ea'⟩ := hown
      refine slot_run ea' (hi G F2 e1 σ H1 _ r2 (GR.more g2 (fun _ z => z) fun k e F3 H3 st3 r3 g3 vk rk => ?_))
      obtain ⟨e', he, g4⟩ := GS.nxO g3
      cases z : k.leak with
      | none => rw [z] at he; cases he
      | some kd =>
        rw [z] at he
        obtain ⟨F4, _, st4, r4, q4⟩ := rk.leak r3 z
        simp only [Option.bind_some] at he
        unfold setDic at he
        split at he
        · rename_i ks ds hs
          split at he
          · rename_i hc
            obtain ⟨k', hk, rfl⟩ := Option.map_eq_some_iff.mp he
            obtain ⟨a2, ea2, o2, n1, n2⟩ := r4.ownAt hs
            rw [ea'] at ea2
            cases ea2
            cases o2 with
            | dic hH l rs =>
              obtain ⟨us, w1, w2, w3⟩ := put_zip (k := k') (R.step (st3.trans st4) q2) l rs
              obtain ⟨r5, st5⟩ := r4.ownUpdG (o := .dK ((putKs ks k').zip us)) (d' := .dic (putKs ks k') (putDs ks ds k' d)) hs ea' fun st => .dic upd_same w2 (Rs.step st w3)
              refine ⟨a', _, rfl, .inl ⟨_, k', hH, key_of (.sh q4) hk, ?_, rfl⟩, ?_⟩
              · rw [List.length_zip, ← l, Nat.min_self]
                exact cap_lt hc
              · rw [w1]
                exact g4 F4 _ _ (st4.trans st5) r5
          · cases he
        · cases he
    · exact g1.elim
  · exact g1.elim
end
end Pd
set_option autoImplicit false
set_option linter.all false
set_option maxRecDepth 100000
set_option maxHeartbeats 1000000
namespace Pd
open PySem L2
/-! dicts of the module; list.count -/
section
variable {P : Pl} {S : Stat} {cm : Bool} {n : Nat} {W : WX} {G G' F F' : Addr → Prop} {env env' : Env} {σ : L2.St} {H H' : Hp} {X : Cx} {sc : Scope} {cl : Caller}
theorem isStr_str (k z : Str) (t : Tok) : (Value.str k t).isStr z = (k == z) := rfl
theorem KdM.look {es : List DictEntry} {ks : List Str} {ds : List D} (h : KdM P es ks ds) (z : Str) :
    (∀ d, dixV ks ds (.str z) = some d → ∃ e v, es.find? (·.key.isStr z) = some e ∧ RelV v e.val ∧ ∀ F H, R P F H d v) ∧ ((es.find? (·.key.isStr z)).isSome = ks.contains z) ∧ es.any (·.refKey) = false := by
  induction h with
  | nil => exact ⟨fun d h => (by cases h), rfl, rfl⟩
  | @cons e k t es ks d ds h1 h2 h3 ih =>
    obtain ⟨i1, i2, i3⟩ := ih
    have q : e.key.isStr z = (k == z) := by rw [h1]; rfl
    refine ⟨fun d' hd => ?_, ?_, ?_⟩
    · unfold dixV at hd
      by_cases c : k = z
      · rw [if_pos c] at hd
        cases hd
        obtain ⟨v, rv, rd⟩ := h2
        refine ⟨e, v, ?_, rv, rd⟩
        rw [List.find?_cons_of_pos (by rw [q, c]; exact beq_self_eq_true z)]
      · rw [if_neg c] at hd
        obtain ⟨e', v, f, rv, rd⟩ := i1 d' hd
        exact ⟨e', v, by rw [List.find?_cons_of_neg (by rw [q]; simpa using c)]; exact f, rv, rd⟩
    · by_cases c : k = z
      · rw [List.find?_cons_of_pos (by rw [q, c]; exact beq_self_eq_true z), List.contains_cons, c]
        simp
      · rw [List.find?_cons_of_neg (by rw [q]; simpa using c), List.contains_cons, i2]
        have : (z == k) = false := by simpa using fun w => c w.symm
        rw [this, Bool.false_or]
    · rw [List.any_cons, i3]
      unfold DictEntry.refKey
      rw [h1]; rfl
theorem KdM.ns {K : PySem.W.Frag} {w : World} {a : Addr} {es : Array DictEntry} {n : Nat} {ks : List Str} {ds : List D} (h : KDict K w a es n) (m : KdM P es.toList ks ds) (z : Str) :
    (∀ d, dixV ks ds (.str z) = some d → ∃ u v, PySem.W.nsIn K a z = some (some u) ∧ RelV v u ∧ ∀ F H, R P F H d v) ∧ ∃ r, PySem.W.nsIn K a z = some r ∧ r.isSome = ks.contains z := by
  obtain ⟨i1, i2, i3⟩ := m.look z
  refine ⟨fun d hd => ?_, ?_⟩
  · obtain ⟨e, v, f, rv, rd⟩ := i1 d hd
    refine ⟨e.val, v, ?_, rv, rd⟩
    unfold PySem.W.nsIn
    rw [h.at_]
    simp only [f]
  · unfold PySem.W.nsIn
    rw [h.at_]
    simp only
    cases f : es.toList.find? (·.key.isStr z) with
    | some e => exact ⟨_, rfl, by rw [← i2, f]; rfl⟩
    | none => exact ⟨none, by simp only [i3]; rfl, by rw [← i2, f]; rfl⟩
theorem str_ofO {d : D} {s : Str} (h : strOf d = some s) : d = .str s := by
  unfold strOf at h
  split at h <;> first | (cases h; rfl) | cases h
theorem snd_kix (c : Ct P S cm n X W sc) {x : Str} {ks : List Str} {ds : List D} {a : E} {ea : Expr} {q pos : Pos} (h : isGlb sc x = true) (hd : dbg x = true) (hm : (x, ks, ds) ∈ S.kd) (sa : SndE P X W cl ea a) (hp : PlainIx ea) :
    SndE P X W cl (.Subscript (.Name x q) ea pos) (.kix x ks ds a) := by
  obtain ⟨p, es, m, h1, h2, h3⟩ := (c.kd _ hm).ex
  obtain ⟨ta, pa, ha⟩ := sa
  refine ⟨_, pe_ix ix_kdict (pe_glob (v := .ref p) (c.glb h) h1 rfl (dbg_ok hd).1) pa hp, ?_⟩
  intro G F env σ H Q r g
  unfold evalE at g
  refine ha G F env σ H _ r (GR.bind g fun y e1 F1 H1 st r1 g1 vy oy => ?_)
  obtain ⟨dy, e2, g2⟩ := GR.opt g1
  obtain ⟨d, e3, g3⟩ := GR.opt g2
  have ry := oy.get r1 e2
  obtain ⟨z, rfl⟩ : ∃ z, dy = .str z := by
    unfold dixV at e3
    split at e3 <;> first | exact ⟨_, rfl⟩ | cases e3
  cases ry.str
  obtain ⟨u, v, f1, rv, rd⟩ := (h3.ns h2 z).1 d e3
  exact ⟨p, z, v, rfl, rfl, ⟨es, m, u, h2.at_, h2.lit, f1, rv⟩, g3 F1 H1 (Step.refl ..) r1 _ (.val (rd _ _))⟩
theorem kin_run (c : Ct P S cm n X W sc) {x : Str} {ks : List Str} {ds : List D} (hm : (x, ks, ds) ∈ S.kd) (neg : Bool) : ∃ (p : Addr) (r : R2), X.mg x = some (.ref p) ∧ OpR X (compareOp (if neg then .NotIn else .In)) r ∧ ∀ z H Q, Q (V.bl (ks.contains z != neg)) H → r (.str z) (.ref p) H Q := by
  obtain ⟨p, es, m, h1, h2, h3⟩ := (c.kd _ hm).ex
  cases neg with
  | true =>
    refine ⟨p, _, h1, op_notIn_kd h2, fun z H Q q => ?_⟩
    obtain ⟨r, e1, e2⟩ := (h3.ns h2 z).2
    refine ⟨z, r, rfl, rfl, e1, ?_⟩
    rw [e2]
    simpa only [Bool.bne_true] using q
  | false =>
    refine ⟨p, _, h1, op_in_kd h2, fun z H Q q => ?_⟩
    obtain ⟨r, e1, e2⟩ := (h3.ns h2 z).2
    refine ⟨z, r, rfl, rfl, e1, ?_⟩
    rw [e2]
    simpa only [Bool.bne_false] using q
theorem snd_kin (c : Ct P S cm n X W sc) {x : Str} {ks : List Str} {ds : List D} {a : E} {ea : Expr} {neg : Bool} {q pos : Pos} (h : isGlb sc x = true) (hd : dbg x = true) (hm : (x, ks, ds) ∈ S.kd) (sa : SndE P X W cl ea a) (hb : behindInMarks (if neg then .NotIn else .In) (.Name x q) = false) :
    SndE P X W cl (.Compare ea [if neg then .NotIn else .In] [.Name x q] pos) (.kin neg x ks ds a) := by
  obtain ⟨p, r', h1, h2, h3⟩ := kin_run c hm neg
  obtain ⟨ta, pa, ha⟩ := sa
  refine ⟨_, pe_cmpR h2 pa (pe_glob (v := .ref p) (c.glb h) h1 rfl (dbg_ok hd).1) hb, ?_⟩
  intro G F env σ H Q r g
  unfold evalE at g
  refine ha G F env σ H _ r (GR.bind g fun y e1 F1 H1 st r1 g1 vy oy => ?_)
  obtain ⟨dy, e2, g2⟩ := GR.opt g1
  obtain ⟨s, e3, g3⟩ := GR.opt g2
  have ry := oy.get r1 e2
  cases str_ofO e3
  cases ry.str
  exact h3 s H1 Q (g3 F1 H1 (Step.refl ..) r1 _ (.val (.bl _)))
theorem snd_kinT (c : Ct P S cm n X W sc) {x : Str} {ks : List Str} {ds : List D} {a : E} {ea : Expr} {neg : Bool} {q pos : Pos} (h : isGlb sc x = true) (hd : dbg x = true) (hm : (x, ks, ds) ∈ S.kd) (sa : SndE P X W cl ea a) (hb : behindInMarks (if neg then .NotIn else .In) (.Name x q) = false) :
    SndT P X W cl (.Compare ea [if neg then .NotIn else .In] [.Name x q] pos) (.e (.kin neg x ks ds a)) := by
  obtain ⟨p, r', h1, h2, h3⟩ := kin_run c hm neg
  obtain ⟨ta, pa, ha⟩ := sa
  refine ⟨_, pt_cmpR h2 pa (pe_glob (v := .ref p) (c.glb h) h1 rfl (dbg_ok hd).1) hb, ?_⟩
  intro G F env σ H Q r g
  unfold evalT at g
  unfold evalE at g
  have g' : GR P W G F σ H (fun k _ _ H' => Q k H') ((evalE cl a env).bind fun y e1 => (ofO (y.get e1) e1).bind fun dy _ => (ofO (strOf dy) e1).bind fun s e => .ok (ks.contains s != neg) e) := by
    revert g
    generalize evalE cl a env = ra
    cases ra with
    | stk => exact id
    | exc x e => exact id
    | ok y e1 =>
      simp only [Res.bind_ok]
      generalize y.get e1 = o1
      cases o1 with
      | none => exact id
      | some dy =>
        simp only [ofO_some, Res.bind_ok]
        generalize strOf dy = o2
        cases o2 with
        | none => exact id
        | some s => exact id
  refine ha G F env σ H _ r (GR.bind g' fun y e1 F1 H1 st r1 g1 vy oy => ?_)
  obtain ⟨dy, e2, g2⟩ := GR.opt g1
  obtain ⟨s, e3, g3⟩ := GR.opt g2
  have ry := oy.get r1 e2
  cases str_ofO e3
  cases ry.str
  refine h3 s H1 _ ?_
  exact ⟨_, rfl, g3 F1 H1 (Step.refl ..) r1⟩
theorem snd_lcnt (c : Ct P S cm n X W sc) {ea eb : Expr} {a b : E} {apos pos : Pos} (sa : SndE P X W cl ea a) (sb : SndE P X W cl eb b) (hs : starEach [eb] X.env = [(false, eval eb X.env)]) (hb : attributeBase ea "count" X.env (eval ea X.env) = eval ea X.env) (hl : (apos.endLine == pos.line) = true) :
    SndE P X W cl (.Call (.Attribute ea "count" apos) [eb] [] pos) (.cnt a b) := by
  obtain ⟨ta, pa, ha⟩ := sa
  obtain ⟨tb, pb, hb'⟩ := sb
  refine ⟨_, pe_bm PySem.F.plainAttrs_list PySem.F.slot_list_count PySem.F.type_list_count mt_lcount pa (pa_cons pb pa_nil hs) hb (by rw [hs]; rfl) hl hs (by rfl), ?_⟩
  intro G F env σ H Q rel g
  unfold evalE at g
  refine ha G F env σ H _ rel (GR.bind g fun x e1 F1 H1 st r1 g1 vx ox => ?_)
  obtain ⟨dx, e3, g3⟩ := GR.opt g1
  obtain ⟨s, e4, g4⟩ := GR.opt g3
  have rt := ox.get r1 e3
  have hx : ∃ ds, dx = .lst ds := by
    unfold lstOf at e4
    split at e4 <;> first | exact ⟨_, rfl⟩ | cases e4
  obtain ⟨ds0, rfl⟩ := hx
  obtain ⟨a0, xs0, rfl, hq0, _⟩ := rt.lst
  refine ⟨.inl ⟨rfl, xs0, by rw [c.hK]; exact hq0⟩, ?_⟩
  refine hb' (pendG G x (.ref a0)) F1 e1 σ H1 _ (r1.pend ox) (GR.more (GR.bind g4 fun y e2 F2 H2 st2 r2 g2 => g2) pend_sub fun y e2 F2 H2 st2 r2 g5 vy oy => ?_)
  obtain ⟨dx2, e5, g6⟩ := GR.opt g5
  obtain ⟨dy, e6, g7⟩ := GR.opt g6
  obtain ⟨k, e7, g8⟩ := GR.opt g7
  have rx := (ox.stay st2 r2).get (r2.less pend_sub) e5
  have ry := oy.get r2 e6
  unfold cntV at e7
  split at e7 <;> first | cases e7 | skip
  rename_i ds k'
  obtain ⟨ns, hn, rfl⟩ := Option.map_eq_some_iff.mp e7
  obtain ⟨a2, xs, ea2, hq, rs⟩ := rx.lst
  cases ea2
  cases ry.int
  obtain ⟨rfl, _⟩ := ints_of rs hn
  exact ⟨a0, ns, k', rfl, rfl, by rw [c.hK]; exact hq, g8 F2 H2 (Step.refl ..) (r2.less pend_sub) _ (.val (.int _))⟩
end
end Pd
set_option autoImplicit false
set_option linter.all false
set_option maxRecDepth 100000
set_option maxHeartbeats 1000000
namespace Pd
open PySem PySem.Spec PyProof.Rows L2
/-! the check: an AST's text is a program's text -/

mutual
def D.same : D → D → Bool
  | .non, .non => true
  | .bl a, .bl b => a == b
  | .int a, .int b => decide (a = b)
  | .str a, .str b => decide (a = b)
  | .fn a, .fn b => decide (a = b)
  | .tup a, .tup b => D.sames a b
  | _, _ => false
def D.sames : List D → List D → Bool
  | [], [] => true
  | x :: xs, y :: ys => D.same x y && D.sames xs ys
  | _, _ => false
end
mutual
theorem D.same_eq : ∀ {a b : D}, D.same a b = true → a = b
  | .non, b, h => by cases b <;> first | rfl | (simp [D.same] at h)
  | .bl x, b, h => by cases b <;> first | (simp [D.same] at h; rw [h]) | (simp [D.same] at h)
  | .int x, b, h => by cases b <;> first | (simp [D.same] at h; rw [h]) | (simp [D.same] at h)
  | .str x, b, h => by cases b <;> first | (simp [D.same] at h; rw [h]) | (simp [D.same] at h)
  | .fn x, b, h => by cases b <;> first | (simp [D.same] at h; rw [h]) | (simp [D.same] at h)
  | .tup x, b, h => by cases b <;> first | (simp only [D.same] at h; rw [D.sames_eq h]) | (simp [D.same] at h)
  | .lst x, b, h => by cases b <;> simp [D.same] at h
  | .dic x y, b, h => by cases b <;> simp [D.same] at h
  | .scr x, b, h => by cases b <;> simp [D.same] at h
  | .rng x y, b, h => by cases b <;> simp [D.same] at h
theorem D.sames_eq : ∀ {a b : List D}, D.sames a b = true → a = b
  | [], [], _ => rfl
  | [], _ :: _, h => by simp [D.sames] at h
  | _ :: _, [], h => by simp [D.sames] at h
  | x :: xs, y :: ys, h => by
    simp only [D.sames, Bool.and_eq_true] at h
    rw [D.same_eq h.1, D.sames_eq h.2]
end

/-! ### shapes -/
def notStar : Expr → Bool
  | .Starred .. => false
  | _ => true
def notSlice : Expr → Bool
  | .Slice .. => false
  | _ => true
def notSet : Expr → Bool
  | .Set .. => false
  | _ => true
def notComp : Expr → Bool
  | .ListComp .. => false | .SetComp .. => false | .DictComp .. => false
  | _ => true
def notTup : Expr → Bool
  | .Tuple .. => false
  | _ => true
def plainTest : Expr → Bool
  | .Name .. => true | .Call .. => true | .Subscript .. => true | .Attribute .. => true | .Constant .. => true | .BinOp .. => true | .Tuple .. => true | .List .. => true | .ListComp .. => true
  | _ => false
theorem star_cons {ea : Expr} {es : List Expr} {env : PySem.Env} (h : notStar ea = true) : starEach (ea :: es) env = (false, eval ea env) :: starEach es env := by
  cases ea <;> first | rfl | cases h
theorem star_any : ∀ {es : List Expr} {env : PySem.Env}, es.all notStar = true → (starEach es env).any (·.1) = false
  | [], _, _ => rfl
  | ea :: es, env, h => by
    rw [List.all_cons, Bool.and_eq_true] at h
    rw [star_cons h.1, List.any_cons, star_any h.2]
    rfl
theorem star_all : ∀ {es : List Expr} {env : PySem.Env}, es.all notStar = true → starEach es env = es.map fun e => (false, eval e env)
  | [], _, _ => rfl
  | ea :: es, env, h => by
    rw [List.all_cons, Bool.and_eq_true] at h
    rw [star_cons h.1, star_all h.2]
    rfl
theorem plain_ix {e : Expr} (h : notSlice e = true) : PlainIx e := by
  cases e <;> first | (intro _ _; rfl) | (intro _; rfl) | cases h
theorem plain_st {e : Expr} (h : notSlice e = true) : PlainSt e := by
  intro o pos env v
  cases e <;> first | rfl | cases h
theorem plain_aug {e : Expr} (h : notSlice e = true) : PlainAug e := by
  intro o i v
  cases e <;> first | rfl | cases h
theorem plain_test {e : Expr} {env : PySem.Env} (h : plainTest e = true) : ∀ whole, isTrue e env whole = (do let v ← whole; standAt e.pos; holding [v] (truthy v)) := by
  intro whole
  cases e <;> first | rfl | cases h
theorem not_set {e : Expr} {env : PySem.Env} (h : notSet e = true) : ∀ x, foldedSetIterable e env x = pure x := by
  intro x
  cases e <;> first | rfl | cases h

/-! ### what an expression is -/
def noCall : Expr → Bool
  | .Call .. => false
  | _ => true
theorem base_ok {o : Expr} (h : noCall o = true) (m : Str) (env : PySem.Env) (w : Sem Value) : attributeBase o m env w = w := by
  cases o <;> first | rfl | cases h
theorem no_sl {e : Expr} (h : notSlice e = true) : NoSl e := by
  cases e <;> first | (intro _ _; rfl) | cases h
def vSpl : Expr → Option (Expr × Str × Bool × Expr)
  | .Call (.Attribute o m apos) [e] [] pos => some (o, m, apos.endLine == pos.line, e)
  | _ => none
theorem vSpl_some {e o a : Expr} {m : Str} {b : Bool} (h : vSpl e = some (o, m, b, a)) : ∃ p q, e = .Call (.Attribute o m p) [a] [] q ∧ (p.endLine == q.line) = b := by
  unfold vSpl at h
  split at h
  · cases h; exact ⟨_, _, rfl, rfl⟩
  · cases h
def vDix : Expr → Option (List (Option Expr) × List Expr × Expr)
  | .Subscript (.Dict keys vs _) ei _ => some (keys, vs, ei)
  | _ => none
theorem vDix_some {e ei : Expr} {keys : List (Option Expr)} {vs : List Expr} (h : vDix e = some (keys, vs, ei)) : ∃ p q, e = .Subscript (.Dict keys vs p) ei q := by
  unfold vDix at h
  split at h
  · cases h; exact ⟨_, _, rfl⟩
  · cases h
def vDct : Expr → Option (List (Option Expr) × List Expr)
  | .Dict keys vs _ => some (keys, vs)
  | _ => none
theorem vDct_some {e : Expr} {keys : List (Option Expr)} {vs : List Expr} (h : vDct e = some (keys, vs)) : ∃ p, e = .Dict keys vs p := by
  unfold vDct at h
  split at h
  · cases h; exact ⟨_, rfl⟩
  · cases h
def vGet2 : Expr → Option (Expr × Str × Bool × Expr × Expr)
  | .Call (.Attribute o m apos) [a, b] [] pos => some (o, m, apos.endLine == pos.line, a, b)
  | _ => none
theorem vGet2_some {e o a b : Expr} {m : Str} {l : Bool} (h : vGet2 e = some (o, m, l, a, b)) : ∃ p q, e = .Call (.Attribute o m p) [a, b] [] q ∧ (p.endLine == q.line) = l := by
  unfold vGet2 at h
  split at h
  · cases h; exact ⟨_, _, rfl, rfl⟩
  · cases h
theorem m2_ok {X : Cx} {o a b : Expr} {m : Str} {p q : Pos} (h : noCall o = true) (ha : notStar a = true) (hb : notStar b = true) (hl : (p.endLine == q.line) = true) : M2 X o m p a b q := by
  have s2 : starEach [b] X.env = [(false, eval b X.env)] := star_cons hb
  have s1 : starEach [a, b] X.env = [(false, eval a X.env), (false, eval b X.env)] := by rw [star_cons ha, s2]
  have t : backTo q (starEach [a, b] X.env) = [(false, eval a X.env), (false, eval b X.env)] := by rw [s1]; rfl
  refine ⟨base_ok h _ _ _, ?_, hl, t⟩
  rw [t]; rfl
def keysOk : List Str → List (Option Expr) → Bool
  | [], [] => true
  | k :: ks, some (.Constant (.str x) _ _) :: r => decide (k = x) && keysOk ks r
  | _, _ => false
theorem keysOk_are : ∀ {ks : List Str} {keys : List (Option Expr)}, keysOk ks keys = true → KeysAre ks keys
  | [], [], _ => .nil
  | [], _ :: _, h => by simp [keysOk] at h
  | k :: ks, [], h => by simp [keysOk] at h
  | k :: ks, e :: r, h => by
    unfold keysOk at h
    split at h
    · rename_i h1 h2
      cases h1
    · rename_i k' ks' x j p r' h1 h2
      cases h1; cases h2
      rw [Bool.and_eq_true, decide_eq_true_eq] at h
      obtain ⟨rfl, h3⟩ := h
      exact .cons (keysOk_are h3)
    · cases h
def vName : Expr → Option Str
  | .Name x _ => some x
  | _ => none
def vAttr : Expr → Option (Str × Str)
  | .Attribute (.Name x _) f _ => some (x, f)
  | _ => none
theorem vAttr_some {e : Expr} {x f : Str} (h : vAttr e = some (x, f)) : ∃ q p, e = .Attribute (.Name x q) f p := by
  unfold vAttr at h
  split at h
  · cases h; exact ⟨_, _, rfl⟩
  · cases h
theorem vName_some {e : Expr} {x : Str} (h : vName e = some x) : ∃ p, e = .Name x p := by
  cases e <;> first | (cases h; done) | (cases h; exact ⟨_, rfl⟩)
def conOk : D → Expr → Bool
  | .non, .Constant .none _ _ => true
  | .bl b, .Constant (.bool c) _ _ => b == c
  | .int i, .Constant (.int j) _ _ => decide (i = j)
  | .str x, .Constant (.str y) _ _ => decide (x = y)
  | _, _ => false
def vBin : Expr → Option (Expr × Operator × Expr)
  | .BinOp a o b _ => some (a, o, b)
  | _ => none
theorem vBin_some {e a b : Expr} {o : Operator} (h : vBin e = some (a, o, b)) : ∃ p, e = .BinOp a o b p := by
  cases e <;> first | (cases h; done) | (cases h; exact ⟨_, rfl⟩)
def vUn : Expr → Option (UnaryOp × Expr)
  | .UnaryOp o a _ => some (o, a)
  | _ => none
theorem vUn_some {e a : Expr} {o : UnaryOp} (h : vUn e = some (o, a)) : ∃ p, e = .UnaryOp o a p := by
  cases e <;> first | (cases h; done) | (cases h; exact ⟨_, rfl⟩)
def vCmp : Expr → Option (Expr × CmpOp × Expr)
  | .Compare a [o] [b] _ => some (a, o, b)
  | _ => none
theorem vCmp_some {e a b : Expr} {o : CmpOp} (h : vCmp e = some (a, o, b)) : ∃ p, e = .Compare a [o] [b] p := by
  unfold vCmp at h
  split at h
  · cases h; exact ⟨_, rfl⟩
  · cases h
def vChn : Expr → Option (Expr × CmpOp × Expr × CmpOp × Expr)
  | .Compare a [o, o'] [b, c] _ => some (a, o, b, o', c)
  | _ => none
theorem vChn_some {e a b c : Expr} {o o' : CmpOp} (h : vChn e = some (a, o, b, o', c)) : ∃ p, e = .Compare a [o, o'] [b, c] p := by
  unfold vChn at h
  split at h
  · cases h; exact ⟨_, rfl⟩
  · cases h
def vChn3 : Expr → Option (Expr × CmpOp × Expr × CmpOp × Expr × CmpOp × Expr)
  | .Compare a [o, o', o''] [b, c, d] _ => some (a, o, b, o', c, o'', d)
  | _ => none
theorem vChn3_some {e a b c d : Expr} {o o' o'' : CmpOp} (h : vChn3 e = some (a, o, b, o', c, o'', d)) : ∃ p, e = .Compare a [o, o', o''] [b, c, d] p := by
  unfold vChn3 at h
  split at h
  · cases h; exact ⟨_, rfl⟩
  · cases h
/-- a chain of and / or: its first part, its rest -/
def vBool : Expr → Option (BoolOp × Expr × Expr × List Expr × Pos)
  | .BoolOp o (a :: b :: r) p => some (o, a, b, r, p)
  | _ => none
theorem vBool_some {e a b : Expr} {o : BoolOp} {r : List Expr} {p : Pos} (h : vBool e = some (o, a, b, r, p)) : e = .BoolOp o (a :: b :: r) p := by
  unfold vBool at h
  split at h
  · cases h; rfl
  · cases h
def restE (o : BoolOp) (b : Expr) (r : List Expr) (p : Pos) : Expr := if r.isEmpty then b else .BoolOp o (b :: r) p
def vIte : Expr → Option (Expr × Expr × Expr)
  | .IfExp c a b _ => some (c, a, b)
  | _ => none
theorem vIte_some {e c a b : Expr} (h : vIte e = some (c, a, b)) : ∃ p, e = .IfExp c a b p := by
  cases e <;> first | (cases h; done) | (cases h; exact ⟨_, rfl⟩)
def vTup : Expr → Option (List Expr)
  | .Tuple l _ _ => some l
  | _ => none
theorem vTup_some {e : Expr} {l : List Expr} (h : vTup e = some l) : ∃ k p, e = .Tuple l k p := by
  cases e <;> first | (cases h; done) | (cases h; exact ⟨_, _, rfl⟩)
def vLst : Expr → Option (List Expr)
  | .List l _ => some l
  | _ => none
theorem vLst_some {e : Expr} {l : List Expr} (h : vLst e = some l) : ∃ p, e = .List l p := by
  cases e <;> first | (cases h; done) | (cases h; exact ⟨_, rfl⟩)
def vCall : Expr → Option (Str × List Expr)
  | .Call (.Name x _) l [] _ => some (x, l)
  | _ => none
theorem vCall_some {e : Expr} {x : Str} {l : List Expr} (h : vCall e = some (x, l)) : ∃ p q, e = .Call (.Name x p) l [] q := by
  unfold vCall at h
  split at h
  · cases h; exact ⟨_, _, rfl⟩
  · cases h
def vIsi : List Expr → Option (Expr × Str)
  | [e, .Name y _] => some (e, y)
  | _ => none
theorem vIsi_some {l : List Expr} {e : Expr} {y : Str} (h : vIsi l = some (e, y)) : ∃ p, l = [e, .Name y p] := by
  unfold vIsi at h
  split at h
  · cases h; exact ⟨_, rfl⟩
  · cases h
def vSub : Expr → Option (Expr × Expr)
  | .Subscript a b _ => some (a, b)
  | _ => none
theorem vSub_some {e a b : Expr} (h : vSub e = some (a, b)) : ∃ p, e = .Subscript a b p := by
  cases e <;> first | (cases h; done) | (cases h; exact ⟨_, rfl⟩)
def vSli : Expr → Option (Expr × Option Expr × Option Expr)
  | .Subscript a (.Slice l h none _) _ => some (a, l, h)
  | _ => none
theorem vSli_some {e a : Expr} {l u : Option Expr} (h : vSli e = some (a, l, u)) : ∃ p q, e = .Subscript a (.Slice l u none p) q := by
  unfold vSli at h
  split at h
  · cases h; exact ⟨_, _, rfl⟩
  · cases h
def vRev : Expr → Option Expr
  | .Subscript a (.Slice none none (some (.UnaryOp .USub (.Constant (.int 1) _ _) _)) _) _ => some a
  | _ => none
theorem vRev_some {e a : Expr} (h : vRev e = some a) : ∃ k p1 p2 p3 p, e = .Subscript a (.Slice none none (some (.UnaryOp .USub (.Constant (.int 1) k p1) p2)) p3) p := by
  unfold vRev at h
  split at h
  · cases h; exact ⟨_, _, _, _, _, rfl⟩
  · cases h
/-- a[::2], a[1::2] -/
def vEvy : Expr → Option (Nat × Expr)
  | .Subscript a (.Slice none none (some (.Constant (.int 2) _ _)) _) _ => some (0, a)
  | .Subscript a (.Slice (some (.Constant (.int 1) _ _)) none (some (.Constant (.int 2) _ _)) _) _ => some (1, a)
  | _ => none
theorem vEvy_some {e a : Expr} {k : Nat} (h : vEvy e = some (k, a)) : (k = 0 ∧ ∃ j p1 p3 p, e = .Subscript a (.Slice none none (some (.Constant (.int 2) j p1)) p3) p) ∨ (k = 1 ∧ ∃ i j p0 p1 p3 p, e = .Subscript a (.Slice (some (.Constant (.int 1) i p0)) none (some (.Constant (.int 2) j p1)) p3) p) := by
  unfold vEvy at h
  split at h
  · cases h; exact .inl ⟨rfl, _, _, _, _, rfl⟩
  · cases h; exact .inr ⟨rfl, _, _, _, _, _, _, rfl⟩
  · cases h
def vLc : Expr → Option (Expr × Expr × Expr × List Expr × Scope)
  | .ListComp e [⟨tg, it, ifs, 0⟩] sc _ => some (e, tg, it, ifs, sc)
  | _ => none
theorem vLc_some {e a tg it : Expr} {ifs : List Expr} {sc : Scope} (h : vLc e = some (a, tg, it, ifs, sc)) : ∃ p, e = .ListComp a [⟨tg, it, ifs, 0⟩] sc p := by
  unfold vLc at h
  split at h
  · cases h; exact ⟨_, rfl⟩
  · cases h

def vLc2 : Expr → Option (Expr × Expr × Expr × Expr × Expr × List Expr × Scope)
  | .ListComp e [⟨tg, it, [], 0⟩, ⟨tg', it', ifs, 0⟩] sc _ => some (e, tg, it, tg', it', ifs, sc)
  | _ => none
theorem vLc2_some {e a tg it tg' it' : Expr} {ifs : List Expr} {sc : Scope} (h : vLc2 e = some (a, tg, it, tg', it', ifs, sc)) : ∃ p, e = .ListComp a [⟨tg, it, [], 0⟩, ⟨tg', it', ifs, 0⟩] sc p := by
  unfold vLc2 at h
  split at h
  · cases h; exact ⟨_, rfl⟩
  · cases h
/-- a call of what is no name of a def -/
def vCallv : Expr → Option (Expr × List Expr)
  | .Call (.Attribute ..) _ _ _ => none
  | .Call f l [] _ => some (f, l)
  | _ => none
theorem vCallv_some {e f : Expr} {l : List Expr} (h : vCallv e = some (f, l)) : ∃ p, e = .Call f l [] p ∧ ∀ o m q, f ≠ .Attribute o m q := by
  unfold vCallv at h
  split at h
  · cases h
  · rename_i g l' p hn
    cases h
    exact ⟨p, rfl, fun o m q z => by subst z; first | exact hn _ _ _ rfl | exact hn _ _ _ _ rfl | exact hn _ _ _ _ _ rfl | exact hn _ _ _ _ _ _ rfl | exact hn _ _ _ _ _ _ _ rfl⟩
  · cases h

/-! ### the check -/
section
variable (S : Stat) (N : List Str) (cm : Bool)
def chkG (sc : Scope) : Tg → Expr → Bool
  | .nm i, .Name x _ => locOk N sc i x
  | .tp i j, .Tuple [.Name x _, .Name y _] _ _ => cm && locOk N sc i x && locOk N sc j y
  | .tp3 i j l, .Tuple [.Name x _, .Name y _, .Name z _] _ _ => cm && locOk N sc i x && locOk N sc j y && locOk N sc l z
  | _, _ => false
def namesOf (own : List Nat) : List (Str × Nat) := own.map fun i => ((N[i]?).getD "", i)
/-- a block's own demands -/
def chkBlk (sc scope : Scope) (t : Tg) (own : List Nat) (iter : Expr) : Bool :=
  cm && S.ln.all (fun x => !isLoc scope x) && (namesOf N own).all (fun p => isLoc scope p.1) && blkC N sc scope (namesOf N own) && tgIn t own && scope.names.all (fun p => decide (p.2 ≠ .globalExplicit)) && notSet iter
def gOk (sc : Scope) (x : Str) : Bool := isGlb sc x && decide (x ∈ S.bl)
def isYes : T → Bool
  | .yes => true
  | _ => false
def isCmpE : E → Bool
  | .cmp _ _ _ => true
  | .chn _ _ _ _ _ => true
  | .din _ _ _ => true
  | .kin _ _ _ _ _ => true
  | _ => false
mutual
def chkE : E → Scope → Expr → Bool
  | .var i, sc, e => match vName e with | some x => varOk N sc i x | none => false
  | .con d, _, e => conOk d e
  | .glob x d, sc, e => match vName e with | some y => decide (y = x) && isGlb sc x && dbg x && S.gl.any (fun p => decide (p.1 = x) && D.same p.2 d) | none => false
  | .bin op a b, sc, e => match vBin e with | some (ea, o, eb) => decide (o = bopOf op) && chkE a sc ea && chkE b sc eb | none => false
  | .un .neg a, sc, e => match vUn e with | some (o, ea) => decide (o = .USub) && chkE a sc ea | none => false
  | .cmp op a b, sc, e => match vCmp e with | some (ea, o, eb) => decide (o = copOf op) && chkE a sc ea && chkE b sc eb && !behindInMarks o eb | none => false
  | .chn op op' a b c, sc, e => match vChn e with | some (ea, o, eb, o', ec) => decide (o = copOf op) && decide (o' = copOf op') && chkE a sc ea && chkE b sc eb && chkE c sc ec && !lastMarks [o, o'] [eb, ec] | none => false
  | .and a b, sc, e => match vBool e with | some (o, ea, eb, r, p) => decide (o = .And) && chkE a sc ea && chkE b sc (restE o eb r p) | none => false
  | .or a b, sc, e => match vBool e with | some (o, ea, eb, r, p) => decide (o = .Or) && chkE a sc ea && chkE b sc (restE o eb r p) | none => false
  | .not a, sc, e => match vUn e with | some (o, ea) => decide (o = .Not) && chkE a sc ea | none => false
  | .ite c a b, sc, e => match vIte e with | some (ec, ea, eb) => chkT c sc ec && chkE a sc ea && chkE b sc eb | none => false
  | .tup es, sc, e => match vTup e with | some l => chkEs es sc l && decide (lenEs es ≤ cap) | none => false
  | .lst es, sc, e => match vLst e with | some l => chkEs es sc l && decide (lenEs es ≤ cap) | none => false
  | .call f _ es, sc, e => match vCall e, S.fs[f]? with
    | some (x, l), some Fd => cm && decide (Fd.name = x) && isGlb sc x && dbg x && chkEs es sc l
    | _, _ => false
  | .callv fl a es, sc, e => match vCallv e with
    | some (f, l) => cm && chkE a sc f && chkEs es sc l && !l.isEmpty && fl.all (fun i => decide (i < S.fs.length))
    | none => false
  | .blt b es, sc, e => match vCall e with
    | some (x, l) => match b, es with
      | .isi t, .cons a .nil => match vIsi l with
        | some (ea, y) => decide (x = "isinstance") && decide (y = Str.ofString (tyS t)) && gOk S sc x && gOk S sc y && chkE a sc ea && notStar ea
        | none => false
      | b, es => bltHas b && (!bltCalm b || cm) && decide (x = bltN b) && gOk S sc x && chkEs es sc l && !l.isEmpty
    | none => false
  | .met _ _ _, _, _ => false
  | .idx a b, sc, e => match vSub e with | some (ea, eb) => chkE a sc ea && chkE b sc eb && notSlice eb | none => false
  | .sli a lo hi, sc, e => match vSli e with | some (ea, l, h) => chkE a sc ea && chkB lo sc l && chkB hi sc h | none => false
  | .evy k a, sc, e => match vEvy e with | some (j, ea) => decide (j = k) && chkE a sc ea | none => false
  | .spl a b, sc, e => match vSpl e with | some (ea, m, l, eb) => decide (m = "split") && l && noCall ea && notStar eb && chkE a sc ea && chkE b sc eb | none => false
  | .dix ks es a, sc, e => match vDix e with | some (keys, vs, ei) => keysOk ks keys && decide ks.Nodup && decide (1 ≤ ks.length ∧ ks.length ≤ 15) && decide (lenEs es = ks.length) && chkEs es sc vs && chkE a sc ei && notSlice ei | none => false
  | .dnew, _, e => match vDct e with | some (keys, vs) => keys.isEmpty && vs.isEmpty | none => false
  | .dlit ks es, sc, e => match vDct e with | some (keys, vs) => keysOk ks keys && decide ks.Nodup && decide (1 ≤ ks.length ∧ ks.length ≤ 15) && decide (lenEs es = ks.length) && chkEs es sc vs | none => false
  | .done1 a b, sc, e => match vDct e with
    | some ([some ea], [eb]) => chkE a sc ea && chkE b sc eb
    | _ => false
  | .didx a b, sc, e => match vSub e with | some (ea, eb) => chkE a sc ea && chkE b sc eb && notSlice eb | none => false
  | .din neg b a, sc, e => match vCmp e with | some (eb, o, ea) => decide (o = if neg then .NotIn else .In) && chkE b sc eb && chkE a sc ea && !behindInMarks o ea | none => false
  | .kix x ks ds a, sc, e => match vSub e with
    | some (ed, ea) => (match vName ed with | some y => decide (y = x) && isGlb sc x && dbg x && S.kd.any (fun p => decide (p.1 = x) && decide (p.2.1 = ks) && D.sames p.2.2 ds) | none => false) && chkE a sc ea && notSlice ea
    | none => false
  | .kin neg x ks ds a, sc, e => match vCmp e with
    | some (ea, o, ed) => decide (o = if neg then .NotIn else .In) && (match vName ed with | some y => decide (y = x) && isGlb sc x && dbg x && S.kd.any (fun p => decide (p.1 = x) && decide (p.2.1 = ks) && D.sames p.2.2 ds) | none => false) && chkE a sc ea && !behindInMarks o ed
    | none => false
  | .cnt a b, sc, e => match vSpl e with | some (ea, m, l, eb) => decide (m = "count") && l && noCall ea && notStar eb && chkE a sc ea && chkE b sc eb | none => false
  | .dget a b c, sc, e => match vGet2 e with | some (ea, m, l, eb, ec) => decide (m = "get") && l && noCall ea && notStar eb && notStar ec && chkE a sc ea && chkE b sc eb && chkE c sc ec | none => false
  | .rev a, sc, e => match vRev e with | some ea => chkE a sc ea | none => false
  | .comp elt t it c own, sc, e => match vLc e with
    | some (ee, tg, iter, ifs, scope) => chkBlk S N cm sc scope t own iter && chkI it sc tg iter && chkG N cm scope t tg && (match ifs with | [] => isYes c | [ce] => chkT c scope ce | _ => false) && chkE elt scope ee
    | none => false
  | .comp2 elt t it t' it' q own own', sc, e => match vLc2 e with
    | some (ee, tg, iter, tg', iter', ifs, scope) => chkBlk S N cm sc scope t own iter && chkI it sc tg iter && chkG N cm scope t tg && (notSet iter' && (tgIn t' own' && own'.all (fun i => own.contains i))) && chkI it' scope tg' iter' && chkG N cm scope t' tg' && (match ifs with | [] => isYes q | [ce] => chkT q scope ce | _ => false) && chkE elt scope ee
    | none => false
  | .xattr i c, sc, e => match vAttr e with
    | some (x, f) => varOk N sc i x && (match S.cs[c]? with | some p => decide (p.2 = f) | none => false) && S.ini.contains c
    | none => false
  | .xisi i c b, sc, e => match vCall e with
    | some (x, l) => (match vIsi l with
      | some (e1, y) => (match vName e1 with
        | some z => decide (x = "isinstance") && varOk N sc i z && gOk S sc (Str.ofString "isinstance") && isGlb sc y && dbg y && S.xi.any (fun p => decide (p.1 = c) && decide (p.2.1 = y) && (p.2.2 == b))
        | none => false)
      | none => false)
    | none => false
  | .dead, _, _ => true
termination_by structural x => x
def chkT : T → Scope → Expr → Bool
  | .yes, _, _ => false
  | .e a, sc, e => chkE a sc e && (isCmpE a || plainTest e)
  | .and a b, sc, e => match vBool e with | some (o, ea, eb, r, p) => decide (o = .And) && chkT a sc ea && chkT b sc (restE o eb r p) | none => false
  | .or a b, sc, e => match vBool e with | some (o, ea, eb, r, p) => decide (o = .Or) && chkT a sc ea && chkT b sc (restE o eb r p) | none => false
  | .not a, sc, e => match vUn e with | some (o, ea) => decide (o = .Not) && chkT a sc ea | none => false
  | .chn3 op op' op'' a b c d, sc, e => match vChn3 e with | some (ea, o, eb, o', ec, o'', ed) => decide (o = copOf op) && decide (o' = copOf op') && decide (o'' = copOf op'') && chkE a sc ea && chkE b sc eb && chkE c sc ec && chkE d sc ed && !lastMarks [o, o', o''] [eb, ec, ed] | none => false
def chkEs : Es → Scope → List Expr → Bool
  | .nil, _, l => l.isEmpty
  | .cons a r, sc, e :: l => chkE a sc e && chkEs r sc l && notStar e
  | _, _, _ => false
def chkB : Eo → Scope → Option Expr → Bool
  | .no, _, none => true
  | .so a, sc, some e => chkE a sc e
  | _, _, _ => false
def chkI : It → Scope → Expr → Expr → Bool
  | .plain a, sc, _, e => chkE a sc e
  | .rng1 a, sc, _, e => match vCall e with | some (x, [ea]) => decide (x = "range") && gOk S sc "range" && chkE a sc ea && notStar ea | _ => false
  | .rng2 a b, sc, _, e => match vCall e with | some (x, [ea, eb]) => decide (x = "range") && gOk S sc "range" && chkE a sc ea && chkE b sc eb && notStar ea && notStar eb | _ => false
  | .rng3 a b c, sc, _, e => match vCall e with | some (x, [ea, eb, ec]) => decide (x = "range") && gOk S sc "range" && chkE a sc ea && chkE b sc eb && chkE c sc ec && notStar ea && notStar eb && notStar ec | _ => false
  | .enum a, sc, tg, e => match vCall e, vTup tg with | some (x, [ea]), some _ => decide (x = "enumerate") && gOk S sc "enumerate" && chkE a sc ea && notStar ea | _, _ => false
  | .zip a b, sc, tg, e => match vCall e, vTup tg with | some (x, [ea, eb]), some _ => decide (x = "zip") && gOk S sc "zip" && chkE a sc ea && chkE b sc eb && notStar ea && notStar eb | _, _ => false
end
end
end Pd
set_option autoImplicit false
set_option linter.all false
set_option maxRecDepth 100000
set_option maxHeartbeats 4000000
namespace Pd
open PySem PySem.Spec PyProof.Rows L2
section
variable {P : Pl} {S : Stat} {cm : Bool} {n : Nat} {N : List Str}
theorem chkG_snd {X : Cx} {W : WX} {sc : Scope} (c : Ct P S cm n X W sc) (hN : X.N = N) {t : Tg} {e : Expr} (h : chkG N cm sc t e = true) : SndG P X e t := by
  subst hN
  unfold chkG at h
  split at h
  · exact snd_gnm c h
  · rw [Bool.and_eq_true, Bool.and_eq_true] at h
    exact snd_gtp c h.1.1 h.1.2 h.2
  · rw [Bool.and_eq_true, Bool.and_eq_true, Bool.and_eq_true] at h
    exact snd_gtp3 c h.1.1.1 h.1.1.2 h.1.2 h.2
  · cases h
theorem rest_E {X : Cx} {W : WX} {cl : Caller} {o : BoolOp} {b : Expr} {r : List Expr} {p : Pos} {a : E} (h : SndE P X W cl (restE o b r p) a) : SndE P X W cl (.BoolOp o (b :: r) p) a := by
  unfold restE at h
  split at h
  · rename_i hr
    rw [List.isEmpty_iff] at hr
    subst hr
    exact snd_one h
  · exact h
theorem gOk_of {sc : Scope} {x : Str} (h : gOk S sc x = true) : isGlb sc x = true ∧ x ∈ S.bl := by
  unfold gOk at h
  rw [Bool.and_eq_true] at h
  exact ⟨h.1, of_decide_eq_true h.2⟩
theorem chkEs_len : ∀ {es : Es} {sc : Scope} {l : List Expr}, chkEs S N cm es sc l = true → l.length = lenEs es
  | .nil, sc, [], h => rfl
  | .nil, sc, _ :: _, h => by simp [chkEs] at h
  | .cons a r, sc, [], h => by simp [chkEs] at h
  | .cons a r, sc, e :: l, h => by
    simp only [chkEs, Bool.and_eq_true] at h
    rw [List.length_cons, lenEs, chkEs_len h.1.2]
theorem es_star : ∀ {es : Es} {sc : Scope} {l : List Expr}, chkEs S N cm es sc l = true → l.all notStar = true
  | .nil, sc, [], h => rfl
  | .nil, sc, _ :: _, h => by simp [chkEs] at h
  | .cons a r, sc, [], h => by simp [chkEs] at h
  | .cons a r, sc, e :: l, h => by
    simp only [chkEs, Bool.and_eq_true] at h
    rw [List.all_cons, h.2, es_star h.1.2]
    rfl
theorem blk_ok {X : Cx} {W : WX} {sc scope : Scope} (c : Ct P S cm n X W sc) (hN : X.N = N) {t : Tg} {own : List Nat} {iter : Expr} (h : chkBlk S N cm sc scope t own iter = true) :
    cm = true ∧ (∀ x ∈ S.ln, isLoc scope x = false) ∧ (∀ p ∈ namesOf N own, isLoc scope p.1 = true) ∧ blkC N sc scope (namesOf N own) = true ∧ tgIn t ((namesOf N own).map (·.2)) = true ∧ (∀ x, scope.names.lookup x ≠ some .globalExplicit) ∧ notSet iter = true := by
  unfold chkBlk at h
  simp only [Bool.and_eq_true, List.all_eq_true, decide_eq_true_eq, Bool.not_eq_true'] at h
  obtain ⟨⟨⟨⟨⟨⟨h1, h2⟩, h3⟩, h4⟩, h5⟩, h6⟩, h7⟩ := h
  refine ⟨h1, h2, h3, h4, ?_, fun x z => ?_, h7⟩
  · have : (namesOf N own).map (·.2) = own := by
      unfold namesOf
      rw [List.map_map]
      exact List.map_id' own
    rw [this]
    exact h5
  · have hm : (x, NameKind.globalExplicit) ∈ scope.names := by
      revert z
      generalize scope.names = l
      intro z
      induction l with
      | nil => simp at z
      | cons p l ih =>
        obtain ⟨a, k⟩ := p
        rw [List.lookup_cons] at z
        split at z
        · rename_i hx
          have := beq_iff_eq.mp hx
          cases z
          subst this
          exact List.mem_cons_self
        · exact List.mem_cons_of_mem _ (ih z)
    exact h6 _ hm rfl
theorem ifs_ok {X : Cx} {W : WX} {cl : Caller} (q : T) (ifs : List Expr) {f : Expr → Bool} (h : (match ifs with | [] => isYes q | [ce] => f ce | _ => false) = true) (hs : ∀ ce, f ce = true → SndT P X W cl ce q) :
    ∃ t, PTs X ifs t ∧ ∀ G F env σ H Q, Rel P G F env σ H → GT P W G F σ H Q (evalT cl q env) → t σ H Q := by
  match ifs, h with
  | [], h =>
    cases q <;> first | (cases h; done) | skip
    refine ⟨_, pts_nil, fun G F env σ H Q r g => ?_⟩
    unfold evalT at g
    exact g F H (Step.refl ..) r
  | [ce], h =>
    obtain ⟨t, p, q⟩ := hs ce h
    exact ⟨t, pts_one p, q⟩
  | _ :: _ :: _, h => cases h
mutual
theorem chkE_snd : ∀ (a : E) {X : Cx} {W : WX} {sc : Scope} {e : Expr} (c : Ct P S cm n X W sc) (hN : X.N = N), chkE S N cm a sc e = true → SndE P X W (callF S.fs n) e a
  | .var i, X, W, sc, e, c, hN, h => by
    simp only [chkE] at h
    split at h
    · rename_i x hx
      obtain ⟨p, rfl⟩ := vName_some hx
      subst hN
      exact snd_var c h
    · cases h
  | .con d, X, W, sc, e, c, hN, h => by
    simp only [chkE] at h
    unfold conOk at h
    split at h
    · exact snd_non
    · have := beq_iff_eq.mp h
      subst this
      exact snd_bl
    · have := of_decide_eq_true h
      subst this
      exact snd_int
    · have := of_decide_eq_true h
      subst this
      exact snd_str
    · cases h
  | .glob x d, X, W, sc, e, c, hN, h => by
    simp only [chkE] at h
    split at h
    · rename_i y hx
      obtain ⟨p, rfl⟩ := vName_some hx
      simp only [Bool.and_eq_true, decide_eq_true_eq, List.any_eq_true] at h
      obtain ⟨⟨⟨rfl, h2⟩, h3⟩, ⟨q, hq, h4, h5⟩⟩ := h
      have := D.same_eq h5
      refine snd_glob c h2 h3 ?_
      rw [← h4, ← this]
      exact hq
    · cases h
  | .bin op a b, X, W, sc, e, c, hN, h => by
    simp only [chkE] at h
    split at h
    · rename_i ea o eb hx
      obtain ⟨p, rfl⟩ := vBin_some hx
      simp only [Bool.and_eq_true, decide_eq_true_eq] at h
      obtain ⟨⟨rfl, h2⟩, h3⟩ := h
      exact snd_bin c (chkE_snd a c hN h2) (chkE_snd b c hN h3) op
    · cases h
  | .un .neg a, X, W, sc, e, c, hN, h => by
    simp only [chkE] at h
    split at h
    · rename_i o ea hx
      obtain ⟨p, rfl⟩ := vUn_some hx
      simp only [Bool.and_eq_true, decide_eq_true_eq] at h
      obtain ⟨rfl, h2⟩ := h
      exact snd_neg (chkE_snd a c hN h2)
    · cases h
  | .cmp op a b, X, W, sc, e, c, hN, h => by
    simp only [chkE] at h
    split at h
    · rename_i ea o eb hx
      obtain ⟨p, rfl⟩ := vCmp_some hx
      simp only [Bool.and_eq_true, decide_eq_true_eq, Bool.not_eq_true'] at h
      obtain ⟨⟨⟨rfl, h2⟩, h3⟩, h4⟩ := h
      exact snd_cmp c (chkE_snd a c hN h2) (chkE_snd b c hN h3) op h4
    · cases h
  | .chn op op' a b d, X, W, sc, e, c, hN, h => by
    simp only [chkE] at h
    split at h
    · rename_i ea o eb o' ec hx
      obtain ⟨p, rfl⟩ := vChn_some hx
      simp only [Bool.and_eq_true, decide_eq_true_eq, Bool.not_eq_true'] at h
      obtain ⟨⟨⟨⟨⟨rfl, rfl⟩, h2⟩, h3⟩, h4⟩, h5⟩ := h
      exact snd_chn c (chkE_snd a c hN h2) (chkE_snd b c hN h3) (chkE_snd d c hN h4) op op' h5
    · cases h
  | .and a b, X, W, sc, e, c, hN, h => by
    simp only [chkE] at h
    split at h
    · rename_i o ea eb r p hx
      have := vBool_some hx
      subst this
      simp only [Bool.and_eq_true, decide_eq_true_eq] at h
      obtain ⟨⟨rfl, h2⟩, h3⟩ := h
      exact snd_and c (chkE_snd a c hN h2) (rest_E (chkE_snd b c hN h3))
    · cases h
  | .or a b, X, W, sc, e, c, hN, h => by
    simp only [chkE] at h
    split at h
    · rename_i o ea eb r p hx
      have := vBool_some hx
      subst this
      simp only [Bool.and_eq_true, decide_eq_true_eq] at h
      obtain ⟨⟨rfl, h2⟩, h3⟩ := h
      exact snd_or c (chkE_snd a c hN h2) (rest_E (chkE_snd b c hN h3))
    · cases h
  | .not a, X, W, sc, e, c, hN, h => by
    simp only [chkE] at h
    split at h
    · rename_i o ea hx
      obtain ⟨p, rfl⟩ := vUn_some hx
      simp only [Bool.and_eq_true, decide_eq_true_eq] at h
      obtain ⟨rfl, h2⟩ := h
      exact snd_not c (chkE_snd a c hN h2)
    · cases h
  | .ite t a b, X, W, sc, e, c, hN, h => by
    simp only [chkE] at h
    split at h
    · rename_i ec ea eb hx
      obtain ⟨p, rfl⟩ := vIte_some hx
      simp only [Bool.and_eq_true] at h
      exact snd_ite (chkT_snd t c hN h.1.1).1 (chkE_snd a c hN h.1.2) (chkE_snd b c hN h.2)
    · cases h
  | .tup es, X, W, sc, e, c, hN, h => by
    simp only [chkE] at h
    split at h
    · rename_i l hx
      obtain ⟨k, p, rfl⟩ := vTup_some hx
      simp only [Bool.and_eq_true, decide_eq_true_eq] at h
      exact snd_tup (chkEs_snd es c hN h.1) h.2
    · cases h
  | .lst es, X, W, sc, e, c, hN, h => by
    simp only [chkE] at h
    split at h
    · rename_i l hx
      obtain ⟨p, rfl⟩ := vLst_some hx
      simp only [Bool.and_eq_true, decide_eq_true_eq] at h
      exact snd_lst (chkEs_snd es c hN h.1) h.2
    · cases h
  | .call f ms es, X, W, sc, e, c, hN, h => by
    simp only [chkE] at h
    split at h
    · rename_i x l Fd hx hf
      obtain ⟨p, q, rfl⟩ := vCall_some hx
      simp only [Bool.and_eq_true, decide_eq_true_eq] at h
      obtain ⟨⟨⟨⟨h1, h2⟩, h3⟩, h4⟩, h5⟩ := h
      have st := es_star h5
      have sa := chkEs_snd es c hN h5
      cases l with
      | nil =>
        cases es with
        | nil => exact snd_call0 c h1 hf h2 h3 h4
        | cons a r => simp [chkEs] at h5
      | cons ea l =>
        have st2 := st
        rw [List.all_cons, Bool.and_eq_true] at st2
        exact snd_call c sa h1 hf h2 h3 h4 (star_cons st2.1) (star_any st2.2)
    · cases h
  | .callv fl a es, X, W, sc, e, c, hN, h => by
    simp only [chkE] at h
    split at h
    · rename_i f l hx
      obtain ⟨p, rfl, hna⟩ := vCallv_some hx
      simp only [Bool.and_eq_true, Bool.not_eq_true', List.all_eq_true, decide_eq_true_eq] at h
      obtain ⟨⟨⟨⟨h1, h2⟩, h3⟩, h4⟩, h5⟩ := h
      have st := es_star h3
      match l, h4, h3, st with
      | [], h4, _, _ => simp at h4
      | ea :: l, _, h3, st =>
        rw [List.all_cons, Bool.and_eq_true] at st
        exact snd_callv c (chkE_snd a c hN h2) (chkEs_snd es c hN h3) h1 hna h5 (star_cons st.1) (star_any st.2)
    · cases h
  | .blt b es, X, W, sc, e, c, hN, h => by
    simp only [chkE] at h
    split at h
    · rename_i x l hx
      obtain ⟨p, q, rfl⟩ := vCall_some hx
      split at h
      · rename_i t a
        split at h
        · rename_i ea y hy
          obtain ⟨p2, rfl⟩ := vIsi_some hy
          simp only [Bool.and_eq_true, decide_eq_true_eq] at h
          obtain ⟨⟨⟨⟨⟨h1, h2⟩, h3⟩, h4⟩, h5⟩, h6⟩ := h
          exact snd_isi c t (chkE_snd a c hN h5) h1 h2 (gOk_of h3).1 (gOk_of h3).2 (gOk_of h4).1 (gOk_of h4).2 (star_cons h6)
        · cases h
      · simp only [Bool.and_eq_true, decide_eq_true_eq, Bool.or_eq_true, Bool.not_eq_true'] at h
        obtain ⟨⟨⟨⟨⟨h1, h2⟩, h3⟩, h4⟩, h5⟩, h6⟩ := h
        have st := es_star h5
        have sa := chkEs_snd es c hN h5
        cases l with
        | nil => cases h6
        | cons ea l =>
          have st2 := st
          rw [List.all_cons, Bool.and_eq_true] at st2
          exact snd_blt c b sa h1 (fun z => h2.elim (fun q => by rw [z] at q; cases q) id) h3 (gOk_of h4).1 (gOk_of h4).2 (star_cons st2.1) (star_any st2.2)
    · cases h
  | .met _ _ _, X, W, sc, e, c, hN, h => by simp [chkE] at h
  | .idx a b, X, W, sc, e, c, hN, h => by
    simp only [chkE] at h
    split at h
    · rename_i ea eb hx
      obtain ⟨p, rfl⟩ := vSub_some hx
      simp only [Bool.and_eq_true] at h
      exact snd_idx c (chkE_snd a c hN h.1.1) (chkE_snd b c hN h.1.2) (plain_ix h.2)
    · cases h
  | .sli a lo hi, X, W, sc, e, c, hN, h => by
    simp only [chkE] at h
    split at h
    · rename_i ea l u hx
      obtain ⟨p, q, rfl⟩ := vSli_some hx
      simp only [Bool.and_eq_true] at h
      exact snd_sli c (chkE_snd a c hN h.1.1) (chkB_snd lo c hN h.1.2) (chkB_snd hi c hN h.2)
    · cases h
  | .dnew, X, W, sc, e, c, hN, h => by
    simp only [chkE] at h
    split at h
    · rename_i keys vs hx
      obtain ⟨p, rfl⟩ := vDct_some hx
      rw [Bool.and_eq_true, List.isEmpty_iff, List.isEmpty_iff] at h
      obtain ⟨rfl, rfl⟩ := h
      exact snd_dnew
    · cases h
  | .dlit ks es, X, W, sc, e, c, hN, h => by
    simp only [chkE] at h
    split at h
    · rename_i keys vs hx
      simp only [Bool.and_eq_true, decide_eq_true_eq] at h
      obtain ⟨⟨⟨⟨h1, h2⟩, h3⟩, h4⟩, h5⟩ := h
      obtain ⟨p, rfl⟩ := vDct_some hx
      have hk := keysOk_are h1
      have hlv : vs.length = ks.length := by rw [chkEs_len h5, h4]
      exact snd_dlit (chkPs_snd es c hN hk h5 h4) hk h2 (fun z => by rw [z] at h3; exact absurd h3.1 (by decide)) h3.2 h4 hlv
    · cases h
  | .done1 a b, X, W, sc, e, c, hN, h => by
    simp only [chkE] at h
    split at h
    · rename_i ea eb hx
      obtain ⟨p, rfl⟩ := vDct_some hx
      rw [Bool.and_eq_true] at h
      exact snd_done (chkE_snd a c hN h.1) (chkE_snd b c hN h.2)
    · cases h
  | .didx a b, X, W, sc, e, c, hN, h => by
    simp only [chkE] at h
    split at h
    · rename_i ea eb hx
      obtain ⟨p, rfl⟩ := vSub_some hx
      simp only [Bool.and_eq_true] at h
      exact snd_didx (by have := c.un; omega) (chkE_snd a c hN h.1.1) (chkE_snd b c hN h.1.2) (no_sl h.2)
    · cases h
  | .din neg b a, X, W, sc, e, c, hN, h => by
    simp only [chkE] at h
    split at h
    · rename_i eb o ea hx
      obtain ⟨p, rfl⟩ := vCmp_some hx
      simp only [Bool.and_eq_true, decide_eq_true_eq, Bool.not_eq_true'] at h
      obtain ⟨⟨⟨rfl, h2⟩, h3⟩, h4⟩ := h
      exact snd_din (by have := c.un; omega) (chkE_snd b c hN h2) (chkE_snd a c hN h3) h4
    · cases h
  | .kix x ks ds a, X, W, sc, e, c, hN, h => by
    simp only [chkE] at h
    split at h
    · rename_i ed ea hx
      obtain ⟨p, rfl⟩ := vSub_some hx
      simp only [Bool.and_eq_true] at h
      obtain ⟨⟨h1, h2⟩, h3⟩ := h
      split at h1
      · rename_i y hy
        obtain ⟨q, rfl⟩ := vName_some hy
        simp only [Bool.and_eq_true, decide_eq_true_eq, List.any_eq_true] at h1
        obtain ⟨⟨⟨rfl, h5⟩, h6⟩, p', hp, ⟨h7, h8⟩, h9⟩ := h1
        obtain ⟨a1, a2, a3⟩ := p'
        cases h7; cases h8
        cases D.sames_eq h9
        exact snd_kix c h5 h6 hp (chkE_snd a c hN h2) (no_sl h3)
      · cases h1
    · cases h
  | .kin neg x ks ds a, X, W, sc, e, c, hN, h => by
    simp only [chkE] at h
    split at h
    · rename_i ea o ed hx
      obtain ⟨p, rfl⟩ := vCmp_some hx
      simp only [Bool.and_eq_true, decide_eq_true_eq, Bool.not_eq_true'] at h
      obtain ⟨⟨⟨rfl, h1⟩, h2⟩, h3⟩ := h
      split at h1
      · rename_i y hy
        obtain ⟨q, rfl⟩ := vName_some hy
        simp only [Bool.and_eq_true, decide_eq_true_eq, List.any_eq_true] at h1
        obtain ⟨⟨⟨rfl, h5⟩, h6⟩, p', hp, ⟨h7, h8⟩, h9⟩ := h1
        obtain ⟨a1, a2, a3⟩ := p'
        cases h7; cases h8
        cases D.sames_eq h9
        exact snd_kin c h5 h6 hp (chkE_snd a c hN h2) h3
      · cases h1
    · cases h
  | .cnt a b, X, W, sc, e, c, hN, h => by
    simp only [chkE] at h
    split at h
    · rename_i ea m l eb hx
      simp only [Bool.and_eq_true, decide_eq_true_eq] at h
      obtain ⟨⟨⟨⟨⟨rfl, h2⟩, h3⟩, h4⟩, h5⟩, h6⟩ := h
      obtain ⟨p, q, rfl, hl⟩ := vSpl_some hx
      exact snd_lcnt c (chkE_snd a c hN h5) (chkE_snd b c hN h6) (star_cons h4) (base_ok h3 _ _ _) (hl.trans h2)
    · cases h
  | .dget a b d, X, W, sc, e, c, hN, h => by
    simp only [chkE] at h
    split at h
    · rename_i ea m l eb ec hx
      simp only [Bool.and_eq_true, decide_eq_true_eq] at h
      obtain ⟨⟨⟨⟨⟨⟨⟨rfl, h2⟩, h3⟩, h4⟩, h5⟩, h6⟩, h7⟩, h8⟩ := h
      obtain ⟨p, q, rfl, hl⟩ := vGet2_some hx
      exact snd_dget (by have := c.un; omega) (chkE_snd a c hN h6) (chkE_snd b c hN h7) (chkE_snd d c hN h8) (m2_ok h3 h4 h5 (hl.trans h2))
    · cases h
  | .rev a, X, W, sc, e, c, hN, h => by
    simp only [chkE] at h
    split at h
    · rename_i ea hx
      obtain ⟨k, p1, p2, p3, p, rfl⟩ := vRev_some hx
      exact snd_rev c (chkE_snd a c hN h)
    · cases h
  | .spl a b, X, W, sc, e, c, hN, h => by
    simp only [chkE] at h
    split at h
    · rename_i ea m l eb hx
      simp only [Bool.and_eq_true, decide_eq_true_eq] at h
      obtain ⟨⟨⟨⟨⟨rfl, h2⟩, h3⟩, h4⟩, h5⟩, h6⟩ := h
      obtain ⟨p, q, rfl, hl⟩ := vSpl_some hx
      exact snd_spl (chkE_snd a c hN h5) (chkE_snd b c hN h6) (star_cons h4) (base_ok h3 _ _ _) (hl.trans h2)
    · cases h
  | .dix ks es a, X, W, sc, e, c, hN, h => by
    simp only [chkE] at h
    split at h
    · rename_i keys vs ei hx
      simp only [Bool.and_eq_true, decide_eq_true_eq] at h
      obtain ⟨⟨⟨⟨⟨⟨h1, h2⟩, h3⟩, h4⟩, h5⟩, h6⟩, h7⟩ := h
      obtain ⟨p, q, rfl⟩ := vDix_some hx
      have hk := keysOk_are h1
      have hlv : vs.length = ks.length := by rw [chkEs_len h5, h4]
      exact snd_dix (by have := c.un; omega) (chkPs_snd es c hN hk h5 h4) hk h2 (fun z => by rw [z] at h3; exact absurd h3.1 (by decide)) h3.2 h4 hlv (chkE_snd a c hN h6) (no_sl h7)
    · cases h
  | .evy k a, X, W, sc, e, c, hN, h => by
    simp only [chkE] at h
    split at h
    · rename_i j ea hx
      simp only [Bool.and_eq_true, decide_eq_true_eq] at h
      obtain ⟨rfl, h2⟩ := h
      rcases vEvy_some hx with ⟨rfl, _, _, _, _, rfl⟩ | ⟨rfl, _, _, _, _, _, _, rfl⟩
      · exact snd_evy0 c (chkE_snd a c hN h2)
      · exact snd_evy1 c (chkE_snd a c hN h2)
    · cases h
  | .comp elt t it q own, X, W, sc, e, c, hN, h => by
    simp only [chkE] at h
    split at h
    · rename_i ee tg iter ifs scope hx
      obtain ⟨p, rfl⟩ := vLc_some hx
      simp only [Bool.and_eq_true] at h
      obtain ⟨⟨⟨⟨h1, h2⟩, h3⟩, h4⟩, h5⟩ := h
      obtain ⟨b1, b2, b3, b4, b5, b6, b7⟩ := blk_ok c hN h1
      have cb : ∀ s H C cls fp, Ct P S cm n (BlkX X scope s H C cls fp) W0 scope := fun s H C cls fp => c.blk b1 scope b2 b6 s H C cls fp
      have ownE : (namesOf N own).map (·.2) = own := by
        unfold namesOf
        rw [List.map_map]
        exact List.map_id' own
      obtain ⟨te, pe, run, _⟩ := snd_comp (pos := p) (W := W) (cl := callF S.fs n) c b1 b2 b3 (by rw [hN]; exact b4) b5 (chkI_snd it c hN h2) (fun s H C cls fp => chkG_snd (cb s H C cls fp) hN h3) (fun s H C cls fp => ifs_ok q ifs h4 fun ce hce => (chkT_snd q (cb s H C cls fp) hN hce).1) (fun s H C cls fp => chkE_snd elt (cb s H C cls fp) hN h5) (not_set b7)
      rw [ownE] at run
      exact ⟨te, pe, run⟩
    · cases h
  | .comp2 elt t it t' it' q own own', X, W, sc, e, c, hN, h => by
    simp only [chkE] at h
    split at h
    · rename_i ee tg iter tg' iter' ifs scope hx
      obtain ⟨p, rfl⟩ := vLc2_some hx
      simp only [Bool.and_eq_true] at h
      obtain ⟨⟨⟨⟨⟨⟨⟨h1, h2⟩, h3⟩, hs, ho, hi⟩, h6⟩, h7⟩, h4⟩, h5⟩ := h
      obtain ⟨b1, b2, b3, b4, b5, b6, b7⟩ := blk_ok c hN h1
      have cb : ∀ s H C cls fp, Ct P S cm n (BlkX X scope s H C cls fp) W0 scope := fun s H C cls fp => c.blk b1 scope b2 b6 s H C cls fp
      have ownE : (namesOf N own).map (·.2) = own := by
        unfold namesOf
        rw [List.map_map]
        exact List.map_id' own
      have hsub : ∀ i ∈ own', i ∈ (namesOf N own).map (·.2) := fun i hm => by
        rw [ownE]
        have := List.all_eq_true.mp hi i hm
        simpa using this
      obtain ⟨te, pe, run, _⟩ := snd_comp2 (pos := p) (W := W) (cl := callF S.fs n) c b1 b2 b3 (by rw [hN]; exact b4) b5 ho hsub (chkI_snd it c hN h2) (fun s H C cls fp => chkG_snd (cb s H C cls fp) hN h3) (fun s H C cls fp => ifs_ok .yes [] (f := fun _ => false) rfl fun ce hce => nomatch hce)
        (fun s H C cls fp => chkI_snd it' (cb s H C cls fp) hN h6) (fun s H C cls fp => chkG_snd (cb s H C cls fp) hN h7) (fun s H C cls fp => ifs_ok q ifs h4 fun ce hce => (chkT_snd q (cb s H C cls fp) hN hce).1) (fun s H C cls fp => chkE_snd elt (cb s H C cls fp) hN h5) (not_set b7) (fun env => not_set hs)
      rw [ownE] at run
      exact ⟨te, pe, run⟩
    · cases h
  | .xattr i k, X, W, sc, e, c, hN, h => by
    simp only [chkE] at h
    split at h
    · rename_i x f hx
      obtain ⟨q, pos, rfl⟩ := vAttr_some hx
      simp only [Bool.and_eq_true] at h
      obtain ⟨⟨h1, h2⟩, h3⟩ := h
      split at h2
      · rename_i pr hk
        obtain ⟨y, f'⟩ := pr
        simp only [decide_eq_true_eq] at h2
        subst h2
        by_cases hp : P.hx = none
        · refine ⟨fun _ _ _ => False, ⟨fun _ _ _ _ _ _ h => h.elim⟩, fun G F env σ H Q rel g => ?_⟩
          unfold evalE at g
          split at g
          · rename_i e0; exact rel.noEx hp e0
          · exact g
        · subst hN
          exact c.xat hp _ i k x y _ _ _ h1 hk (by simpa using h3)
      · cases h2
    · cases h
  | .xisi i k b, X, W, sc, e, c, hN, h => by
    simp only [chkE] at h
    split at h
    · rename_i x l hx
      obtain ⟨p, q, rfl⟩ := vCall_some hx
      split at h
      · rename_i e1 y hy
        obtain ⟨p2, rfl⟩ := vIsi_some hy
        split at h
        · rename_i z hz
          obtain ⟨p3, rfl⟩ := vName_some hz
          simp only [Bool.and_eq_true, decide_eq_true_eq, List.any_eq_true, beq_iff_eq] at h
          obtain ⟨⟨⟨⟨⟨rfl, h2⟩, h3⟩, h4⟩, h5⟩, ⟨k2, y2, b2⟩, hm, ⟨g1, g2⟩, g3⟩ := h
          simp only at g1 g2 g3
          subst g1 g2 g3
          obtain ⟨m1, m2⟩ := gOk_of h3
          by_cases hp : P.hx = none
          · refine ⟨fun _ _ _ => False, ⟨fun _ _ _ _ _ _ h => h.elim⟩, fun G F env σ H Q rel g => ?_⟩
            unfold evalE at g
            split at g
            · rename_i e0; exact rel.noEx hp e0
            · exact g
          · subst hN
            exact c.xis hp _ i k2 b2 z y2 _ _ _ _ h2 m1 m2 h4 h5 hm
        · cases h
      · cases h
    · cases h
  | .dead, X, W, sc, e, c, hN, h => snd_deadE
theorem chkT_snd : ∀ (a : T) {X : Cx} {W : WX} {sc : Scope} {e : Expr} (c : Ct P S cm n X W sc) (hN : X.N = N), chkT S N cm a sc e = true → SndT P X W (callF S.fs n) e a ∧ ((vBool e).isSome = true → SndW P X W (callF S.fs n) e a)
  | .yes, X, W, sc, e, c, hN, h => by simp [chkT] at h
  | .chn3 op op' op'' a b d f, X, W, sc, e, c, hN, h => by
    simp only [chkT] at h
    split at h
    · rename_i ea o eb o' ec o'' ed hx
      obtain ⟨p, rfl⟩ := vChn3_some hx
      simp only [Bool.and_eq_true, decide_eq_true_eq, Bool.not_eq_true'] at h
      obtain ⟨⟨⟨⟨⟨⟨⟨rfl, rfl⟩, rfl⟩, h2⟩, h3⟩, h4⟩, h5⟩, h6⟩ := h
      exact ⟨snd_chn3 c (chkE_snd a c hN h2) (chkE_snd b c hN h3) (chkE_snd d c hN h4) (chkE_snd f c hN h5) op op' op'' h6, fun z => by cases z⟩
    · cases h
  | .e a, X, W, sc, e, c, hN, h => by
    have gen : ∀ a, chkE S N cm a sc e = true → plainTest e = true → SndE P X W (callF S.fs n) e a → SndT P X W (callF S.fs n) e (.e a) ∧ ((vBool e).isSome = true → SndW P X W (callF S.fs n) e (.e a)) := fun a h1 h2 s =>
      ⟨snd_tr c s (plain_test h2), fun z => by cases e <;> first | (cases h2; done) | (cases z; done)⟩
    simp only [chkT, Bool.and_eq_true] at h
    obtain ⟨h, hp⟩ := h
    cases a with
    | cmp op a b =>
      simp only [chkE] at h
      split at h
      · rename_i ea o eb hx
        obtain ⟨p, rfl⟩ := vCmp_some hx
        simp only [Bool.and_eq_true, decide_eq_true_eq, Bool.not_eq_true'] at h
        obtain ⟨⟨⟨rfl, h2⟩, h3⟩, h4⟩ := h
        exact ⟨snd_cmpT c (chkE_snd a c hN h2) (chkE_snd b c hN h3) op h4, fun z => by cases z⟩
      · cases h
    | chn op op' a b d =>
      simp only [chkE] at h
      split at h
      · rename_i ea o eb o' ec hx
        obtain ⟨p, rfl⟩ := vChn_some hx
        simp only [Bool.and_eq_true, decide_eq_true_eq, Bool.not_eq_true'] at h
        obtain ⟨⟨⟨⟨⟨rfl, rfl⟩, h2⟩, h3⟩, h4⟩, h5⟩ := h
        exact ⟨snd_chnT c (chkE_snd a c hN h2) (chkE_snd b c hN h3) (chkE_snd d c hN h4) op op' h5, fun z => by cases z⟩
      · cases h
    | din neg b a =>
      simp only [chkE] at h
      split at h
      · rename_i eb o ea hx
        obtain ⟨p, rfl⟩ := vCmp_some hx
        simp only [Bool.and_eq_true, decide_eq_true_eq, Bool.not_eq_true'] at h
        obtain ⟨⟨⟨rfl, h2⟩, h3⟩, h4⟩ := h
        exact ⟨snd_dinT (by have := c.un; omega) (chkE_snd b c hN h2) (chkE_snd a c hN h3) h4, fun z => by cases z⟩
      · cases h
    | kin neg x ks ds a =>
      simp only [chkE] at h
      split at h
      · rename_i ea o ed hx
        obtain ⟨p, rfl⟩ := vCmp_some hx
        simp only [Bool.and_eq_true, decide_eq_true_eq, Bool.not_eq_true'] at h
        obtain ⟨⟨⟨rfl, h1⟩, h2⟩, h3⟩ := h
        split at h1
        · rename_i y hy
          obtain ⟨q, rfl⟩ := vName_some hy
          simp only [Bool.and_eq_true, decide_eq_true_eq, List.any_eq_true] at h1
          obtain ⟨⟨⟨rfl, h5⟩, h6⟩, p', hp', ⟨h7, h8⟩, h9⟩ := h1
          obtain ⟨a1, a2, a3⟩ := p'
          cases h7; cases h8
          cases D.sames_eq h9
          exact ⟨snd_kinT c h5 h6 hp' (chkE_snd a c hN h2) h3, fun z => by cases z⟩
        · cases h1
      · cases h
    | _ => exact gen _ h hp (chkE_snd _ c hN h)
  | .and a b, X, W, sc, e, c, hN, h => by
    simp only [chkT] at h
    split at h
    · rename_i o ea eb r p hx
      have := vBool_some hx
      subst this
      simp only [Bool.and_eq_true, decide_eq_true_eq] at h
      obtain ⟨⟨rfl, h2⟩, h3⟩ := h
      have ib := chkT_snd b c hN h3
      have w : SndW P X W (callF S.fs n) (.BoolOp .And (ea :: eb :: r) p) (.and a b) := snd_tand (chkT_snd a c hN h2).1 (by
        cases r with
        | nil => exact snd_tand1 ib.1
        | cons x r => exact ib.2 rfl)
      exact ⟨w.t, fun _ => w⟩
    · cases h
  | .or a b, X, W, sc, e, c, hN, h => by
    simp only [chkT] at h
    split at h
    · rename_i o ea eb r p hx
      have := vBool_some hx
      subst this
      simp only [Bool.and_eq_true, decide_eq_true_eq] at h
      obtain ⟨⟨rfl, h2⟩, h3⟩ := h
      have ib := chkT_snd b c hN h3
      have w : SndW P X W (callF S.fs n) (.BoolOp .Or (ea :: eb :: r) p) (.or a b) := snd_tor (chkT_snd a c hN h2).1 (by
        cases r with
        | nil => exact snd_tor1 ib.1
        | cons x r => exact ib.2 rfl)
      exact ⟨w.t, fun _ => w⟩
    · cases h
  | .not a, X, W, sc, e, c, hN, h => by
    simp only [chkT] at h
    split at h
    · rename_i o ea hx
      obtain ⟨p, rfl⟩ := vUn_some hx
      simp only [Bool.and_eq_true, decide_eq_true_eq] at h
      obtain ⟨rfl, h2⟩ := h
      exact ⟨snd_tnot (chkT_snd a c hN h2).1, fun z => by cases z⟩
    · cases h
theorem chkEs_snd : ∀ (a : Es) {X : Cx} {W : WX} {sc : Scope} {l : List Expr} (c : Ct P S cm n X W sc) (hN : X.N = N), chkEs S N cm a sc l = true → SndA P X W (callF S.fs n) l a
  | .nil, X, W, sc, [], c, hN, h => snd_nil
  | .nil, X, W, sc, _ :: _, c, hN, h => by simp [chkEs] at h
  | .cons a r, X, W, sc, [], c, hN, h => by simp [chkEs] at h
  | .cons a r, X, W, sc, e :: l, c, hN, h => by
    simp only [chkEs, Bool.and_eq_true] at h
    exact snd_cons (chkE_snd a c hN h.1.1) (chkEs_snd r c hN h.1.2) (star_cons h.2)
theorem chkPs_snd : ∀ (a : Es) {X : Cx} {W : WX} {sc : Scope} {l : List Expr} {pos : Pos} {ks : List Str} {keys : List (Option Expr)} (c : Ct P S cm n X W sc) (hN : X.N = N), KeysAre ks keys → chkEs S N cm a sc l = true → lenEs a = ks.length → SndP P X W (callF S.fs n) pos ks keys l a
  | .nil, X, W, sc, [], pos, _, _, c, hN, .nil, h, _ => sndP_nil
  | .nil, X, W, sc, _ :: _, pos, _, _, c, hN, _, h, _ => by simp [chkEs] at h
  | .nil, X, W, sc, [], pos, _, _, c, hN, .cons _, h, hl => by simp [lenEs] at hl
  | .cons a r, X, W, sc, [], pos, _, _, c, hN, _, h, _ => by simp [chkEs] at h
  | .cons a r, X, W, sc, e :: l, pos, _, _, c, hN, .nil, h, hl => by simp [lenEs] at hl
  | .cons a r, X, W, sc, e :: l, pos, _, _, c, hN, .cons hk, h, hl => by
    simp only [chkEs, Bool.and_eq_true] at h
    exact sndP_cons (chkE_snd a c hN h.1.1) (chkPs_snd r c hN hk h.1.2 (by simpa [lenEs] using hl))
theorem chkB_snd : ∀ (a : Eo) {X : Cx} {W : WX} {sc : Scope} {l : Option Expr} (c : Ct P S cm n X W sc) (hN : X.N = N), chkB S N cm a sc l = true → SndB P X W (callF S.fs n) l a
  | .no, X, W, sc, none, c, hN, h => snd_bno
  | .no, X, W, sc, some _, c, hN, h => by simp [chkB] at h
  | .so a, X, W, sc, none, c, hN, h => by simp [chkB] at h
  | .so a, X, W, sc, some e, c, hN, h => by
    simp only [chkB] at h
    exact snd_bso (chkE_snd a c hN h)
theorem chkI_snd : ∀ (a : It) {X : Cx} {W : WX} {sc : Scope} {tg e : Expr} (c : Ct P S cm n X W sc) (hN : X.N = N), chkI S N cm a sc tg e = true → SndI P X W (callF S.fs n) tg e a
  | .plain a, X, W, sc, tg, e, c, hN, h => by
    simp only [chkI] at h
    exact snd_iseq c (chkE_snd a c hN h)
  | .rng1 a, X, W, sc, tg, e, c, hN, h => by
    simp only [chkI] at h
    split at h
    · rename_i x ea hx
      obtain ⟨p, q, rfl⟩ := vCall_some hx
      simp only [Bool.and_eq_true, decide_eq_true_eq] at h
      obtain ⟨⟨⟨rfl, h2⟩, h3⟩, h4⟩ := h
      exact snd_rng1 c (chkE_snd a c hN h3) (gOk_of h2).1 (gOk_of h2).2 (star_cons h4)
    · cases h
  | .rng2 a b, X, W, sc, tg, e, c, hN, h => by
    simp only [chkI] at h
    split at h
    · rename_i x ea eb hx
      obtain ⟨p, q, rfl⟩ := vCall_some hx
      simp only [Bool.and_eq_true, decide_eq_true_eq] at h
      obtain ⟨⟨⟨⟨⟨rfl, h2⟩, h3⟩, h4⟩, h5⟩, h6⟩ := h
      exact snd_rng2 c (chkE_snd a c hN h3) (chkE_snd b c hN h4) (gOk_of h2).1 (gOk_of h2).2 (by rw [star_cons h5, star_cons h6]; rfl) (star_cons h6)
    · cases h
  | .rng3 a b d, X, W, sc, tg, e, c, hN, h => by
    simp only [chkI] at h
    split at h
    · rename_i x ea eb ec hx
      obtain ⟨p, q, rfl⟩ := vCall_some hx
      simp only [Bool.and_eq_true, decide_eq_true_eq] at h
      obtain ⟨⟨⟨⟨⟨⟨⟨rfl, h2⟩, h3⟩, h4⟩, h5⟩, h6⟩, h7⟩, h8⟩ := h
      exact snd_rng3 c (chkE_snd a c hN h3) (chkE_snd b c hN h4) (chkE_snd d c hN h5) (gOk_of h2).1 (gOk_of h2).2 (by rw [star_cons h6, star_cons h7, star_cons h8]; rfl) (by rw [star_cons h7, star_cons h8]; rfl) (star_cons h8)
    · cases h
  | .enum a, X, W, sc, tg, e, c, hN, h => by
    simp only [chkI] at h
    split at h
    · rename_i x ea l hx ht
      obtain ⟨p, q, rfl⟩ := vCall_some hx
      obtain ⟨k, p', rfl⟩ := vTup_some ht
      simp only [Bool.and_eq_true, decide_eq_true_eq] at h
      obtain ⟨⟨⟨rfl, h2⟩, h3⟩, h4⟩ := h
      exact snd_enum c (chkE_snd a c hN h3) (gOk_of h2).1 (gOk_of h2).2 (star_cons h4)
    · cases h
  | .zip a b, X, W, sc, tg, e, c, hN, h => by
    simp only [chkI] at h
    split at h
    · rename_i x ea eb l hx ht
      obtain ⟨p, q, rfl⟩ := vCall_some hx
      obtain ⟨k, p', rfl⟩ := vTup_some ht
      simp only [Bool.and_eq_true, decide_eq_true_eq] at h
      obtain ⟨⟨⟨⟨⟨rfl, h2⟩, h3⟩, h4⟩, h5⟩, h6⟩ := h
      exact snd_zip c (chkE_snd a c hN h3) (chkE_snd b c hN h4) (gOk_of h2).1 (gOk_of h2).2 (by rw [star_cons h5, star_cons h6]; rfl) (star_cons h6)
    · cases h
end
end
end Pd
set_option autoImplicit false
set_option linter.all false
set_option maxRecDepth 100000
set_option maxHeartbeats 4000000
namespace Pd
open PySem PySem.Spec PyProof.Rows L2
/-! statements -/
def vAsg : Stmt → Option (Expr × Expr × Pos)
  | .Assign [t] e p => some (t, e, p)
  | _ => none
theorem vAsg_some {s : Stmt} {t e : Expr} {p : Pos} (h : vAsg s = some (t, e, p)) : s = .Assign [t] e p := by
  unfold vAsg at h
  split at h
  · cases h; rfl
  · cases h
def vName' : Expr → Option (Str × Pos)
  | .Name x p => some (x, p)
  | _ => none
theorem vName'_some {e : Expr} {x : Str} {p : Pos} (h : vName' e = some (x, p)) : e = .Name x p := by
  cases e <;> first | (cases h; done) | (cases h; rfl)
/-- x[i] with a name x -/
def vAt : Expr → Option (Str × Expr)
  | .Subscript (.Name x _) i _ => some (x, i)
  | _ => none
theorem vAt_some {e i : Expr} {x : Str} (h : vAt e = some (x, i)) : ∃ p q, e = .Subscript (.Name x p) i q := by
  unfold vAt at h
  split at h
  · cases h; exact ⟨_, _, rfl⟩
  · cases h
def vAug : Stmt → Option (Expr × Operator × Expr)
  | .AugAssign t o e _ => some (t, o, e)
  | _ => none
theorem vAug_some {s : Stmt} {t e : Expr} {o : Operator} (h : vAug s = some (t, o, e)) : ∃ p, s = .AugAssign t o e p := by
  cases s <;> first | (cases h; done) | (cases h; exact ⟨_, rfl⟩)
/-- x.m(..) with a name x -/
def vMet : Expr → Option (Str × Str × List Expr × Pos × Pos)
  | .Call (.Attribute (.Name x _) m ap) l [] cp => some (x, m, l, ap, cp)
  | _ => none
theorem vMet_some {e : Expr} {x m : Str} {l : List Expr} {ap cp : Pos} (h : vMet e = some (x, m, l, ap, cp)) : ∃ p, e = .Call (.Attribute (.Name x p) m ap) l [] cp := by
  unfold vMet at h
  split at h
  · cases h; exact ⟨_, rfl⟩
  · cases h
def vExp : Stmt → Option (Expr × Pos)
  | .Expr e p => some (e, p)
  | _ => none
theorem vExp_some {s : Stmt} {e : Expr} {p : Pos} (h : vExp s = some (e, p)) : s = .Expr e p := by
  cases s <;> first | (cases h; done) | (cases h; rfl)
def vRet : Stmt → Option Expr
  | .Return (some e) _ => some e
  | _ => none
theorem vRet_some {s : Stmt} {e : Expr} (h : vRet s = some e) : ∃ p, s = .Return (some e) p := by
  unfold vRet at h
  split at h
  · cases h; exact ⟨_, rfl⟩
  · cases h
def vIf : Stmt → Option (Expr × List Stmt × List Stmt)
  | .If c a b _ => some (c, a, b)
  | _ => none
theorem vIf_some {s : Stmt} {c : Expr} {a b : List Stmt} (h : vIf s = some (c, a, b)) : ∃ p, s = .If c a b p := by
  cases s <;> first | (cases h; done) | (cases h; exact ⟨_, rfl⟩)
def vWhl : Stmt → Option (Expr × List Stmt)
  | .While c a [] _ => some (c, a)
  | _ => none
theorem vWhl_some {s : Stmt} {c : Expr} {a : List Stmt} (h : vWhl s = some (c, a)) : ∃ p, s = .While c a [] p := by
  unfold vWhl at h
  split at h
  · cases h; exact ⟨_, rfl⟩
  · cases h
def vFor : Stmt → Option (Expr × Expr × List Stmt)
  | .For t i a [] _ => some (t, i, a)
  | _ => none
theorem vFor_some {s : Stmt} {t i : Expr} {a : List Stmt} (h : vFor s = some (t, i, a)) : ∃ p, s = .For t i a [] p := by
  unfold vFor at h
  split at h
  · cases h; exact ⟨_, rfl⟩
  · cases h
def vTupP : Expr → Option (List Expr × Nat × Pos)
  | .Tuple l k p => some (l, k, p)
  | _ => none
theorem vTupP_some {e : Expr} {l : List Expr} {k : Nat} {p : Pos} (h : vTupP e = some (l, k, p)) : e = .Tuple l k p := by
  cases e <;> first | (cases h; done) | (cases h; rfl)
/-- two, three names -/
def vN2 : List Expr → Option (Str × Pos × Str × Pos)
  | [.Name x p, .Name y q] => some (x, p, y, q)
  | _ => none
theorem vN2_some {l : List Expr} {x y : Str} {p q : Pos} (h : vN2 l = some (x, p, y, q)) : l = [.Name x p, .Name y q] := by
  unfold vN2 at h
  split at h
  · cases h; rfl
  · cases h
def vN3 : List Expr → Option (Str × Pos × Str × Pos × Str × Pos)
  | [.Name x p, .Name y q, .Name z r] => some (x, p, y, q, z, r)
  | _ => none
theorem vN3_some {l : List Expr} {x y z : Str} {p q r : Pos} (h : vN3 l = some (x, p, y, q, z, r)) : l = [.Name x p, .Name y q, .Name z r] := by
  unfold vN3 at h
  split at h
  · cases h; rfl
  · cases h
def v2 : List Expr → Option (Expr × Expr)
  | [a, b] => some (a, b)
  | _ => none
theorem v2_some {l : List Expr} {a b : Expr} (h : v2 l = some (a, b)) : l = [a, b] := by
  unfold v2 at h
  split at h
  · cases h; rfl
  · cases h
def v3 : List Expr → Option (Expr × Expr × Expr)
  | [a, b, c] => some (a, b, c)
  | _ => none
theorem v3_some {l : List Expr} {a b c : Expr} (h : v3 l = some (a, b, c)) : l = [a, b, c] := by
  unfold v3 at h
  split at h
  · cases h; rfl
  · cases h
/-- raise C(e) -/
def vRaiseF : Stmt → Option (Str × Expr)
  | .Raise (some (.Call (.Name x _) [e] [] _)) none _ => some (x, e)
  | _ => none
theorem vRaiseF_some {s : Stmt} {x : Str} {e : Expr} (h : vRaiseF s = some (x, e)) : ∃ p q q2, s = .Raise (some (.Call (.Name x p) [e] [] q)) none q2 := by
  unfold vRaiseF at h
  split at h
  · cases h; exact ⟨_, _, _, rfl⟩
  · cases h
/-- raise C('..') -/
def vRaise : Stmt → Option Str
  | .Raise (some (.Call (.Name x _) [.Constant (.str _) _ _] [] _)) none _ => some x
  | _ => none
theorem vRaise_some {s : Stmt} {x : Str} (h : vRaise s = some x) : ∃ p m j p2 q q2, s = .Raise (some (.Call (.Name x p) [.Constant (.str m) j p2] [] q)) none q2 := by
  unfold vRaise at h
  split at h
  · cases h; exact ⟨_, _, _, _, _, _, rfl⟩
  · cases h
def vTry : Stmt → Option (List Stmt × ExceptHandler × List ExceptHandler)
  | .Try b (h :: hs) [] [] _ => some (b, h, hs)
  | _ => none
theorem vTry_some {s : Stmt} {b : List Stmt} {h : ExceptHandler} {hs : List ExceptHandler} (e : vTry s = some (b, h, hs)) : ∃ p, s = .Try b (h :: hs) [] [] p := by
  unfold vTry at e
  split at e
  · cases e; exact ⟨_, rfl⟩
  · cases e
def vHd : ExceptHandler → Option (Str × Option Str × Expr)
  | .ExceptHandler (some (.Name x _)) n [.Return (some e) _] _ => some (x, n, e)
  | _ => none
theorem vHd_some {h : ExceptHandler} {x : Str} {n : Option Str} {e : Expr} (z : vHd h = some (x, n, e)) : ∃ p q r, h = .ExceptHandler (some (.Name x p)) n [.Return (some e) q] r := by
  unfold vHd at z
  split at z
  · cases z; exact ⟨_, _, _, rfl⟩
  · cases z
section
variable (S : Stat) (N : List Str) (cm : Bool)
/-- this slot is not lent -/
def ownSlot (i : Nat) : Bool := match N[i]? with
  | some x => decide (x ∉ S.ln)
  | none => false
/-- except clauses -/
def chkHs (sc : Scope) : Hs → List ExceptHandler → Bool
  | .nil, l => l.isEmpty
  | .cons k i a r, h :: hs => (match vHd h with
    | some (x, n, e) => (match S.cs[k]? with | some p => decide (p.1 = x) | none => false) && isGlb sc x && dbg x && chkE S N false a sc e &&
      (match i, n with
      | none, none => true
      | some i, some n => decide (N[i]? = some n) && isLcl sc n && ownSlot S N i
      | _, _ => false)
    | none => false) && chkHs sc r hs
  | _, [] => false
def cellName (sc : Scope) : Expr → Bool
  | .Name x _ => (match sc.names.lookup x with | some .cell => true | _ => false)
  | _ => false
/-- a, b = x, y -/
def chkPar (sc : Scope) (is : List Nat) (es : Es) (ts vs : List Expr) : Bool :=
  cm && chkEs S N cm es sc vs && decide (lenEs es ≤ cap) &&
  (if ts.length = 2 ∨ ts.length = 3 then
    if ts.any (cellName sc) then namesOk N sc is ts
    else if vs.all (foldedForSure 8) && decide (vs.length = ts.length) then namesOk N sc is ts
    else !vs.all (constantsAlone 8) && vs.all notStar && (match is, vN2 ts, v2 vs with
      | [i, j], some (x, p, y, q), some _ => decide (p.line = q.line) && decide (x ≠ y) && decide (i ≠ j) && decide (N[i]? = some x) && decide (N[j]? = some y) && isLcl sc x && isLcl sc y && ownSlot S N i && ownSlot S N j
      | is, _, _ => match is, vN3 ts, v3 vs with
        | [i, j, k], some (x, p, y, q, z, r), some _ => decide (p.line = q.line) && decide (p.line = r.line) && decide (x ≠ y) && decide (x ≠ z) && decide (y ≠ z) && decide (i ≠ j) && decide (i ≠ k) && decide (j ≠ k) &&
            decide (N[i]? = some x) && decide (N[j]? = some y) && decide (N[k]? = some z) && isLcl sc x && isLcl sc y && isLcl sc z && ownSlot S N i && ownSlot S N j && ownSlot S N k
        | _, _, _ => false)
  else namesOk N sc is ts)
def chkSub (sc : Scope) (i : Nat) (ix : E) (t : Expr) : Bool := match vAt t with
  | some (x, ei) => varOk N sc i x && chkE S N cm ix sc ei && notSlice ei
  | none => false
def chkM (sc : Scope) (i : Nat) (m : Str) (ix : Option E) (e : Expr) : Bool := match vMet e with
  | some (x, m', l, ap, cp) => decide (m' = m) && varOk N sc i x && (ap.endLine == cp.line) && (match ix with
    | none => l.isEmpty
    | some ix => match l with
      | [ei] => chkE S N cm ix sc ei && notStar ei
      | _ => false)
  | none => false
mutual
def chkS (sc : Scope) : Pd.S → Stmt → Bool
  | .pass, .Pass _ => true
  | .brk, .Break _ => true
  | .cnt, .Continue _ => true
  | .exp e, s => match vExp s with | some (ea, _) => chkE S N cm e sc ea && notComp ea | none => false
  | .set i e, s => match vAsg s with | some (t, ea, _) => (match vName' t with | some (x, _) => locOk N sc i x && chkE S N cm e sc ea | none => false) | none => false
  | .unp is e, s => match vAsg s with | some (t, ea, _) => (match vTupP t with | some (ts, _, _) => cm && namesOk N sc is ts && chkE S N cm e sc ea && notTup ea | none => false) | none => false
  | .par is es, s => match vAsg s with | some (t, ea, _) => (match vTupP t, vTupP ea with | some (ts, _, _), some (vs, _, _) => chkPar S N cm sc is es ts vs | _, _ => false) | none => false
  | .setI i ix e, s => match vAsg s with | some (t, ea, _) => chkSub S N cm sc i ix t && chkE S N cm e sc ea | none => false
  | .setI2 i ix j jx es, s => match vAsg s with
    | some (t, ea, _) => (match vTupP t, vTupP ea with
      | some (ts, _, _), some (vs, _, _) => (match v2 ts, v2 vs with
        | some (t1, t2), some _ => cm && chkSub S N cm sc i ix t1 && chkSub S N cm sc j jx t2 && chkEs S N cm es sc vs && decide (lenEs es ≤ cap)
        | _, _ => false)
      | _, _ => false)
    | none => false
  | .setD i ix e, s => match vAsg s with | some (t, ea, _) => chkSub S N cm sc i ix t && chkE S N cm e sc ea && notComp ea | none => false
  | .aug i op e, s => match vAug s with | some (t, o, ea) => (match vName t with | some x => decide (o = bopA op) && locOk N sc i x && chkE S N cm e sc ea | none => false) | none => false
  | .augI i ix op e, s => match vAug s with | some (t, o, ea) => decide (o = bopA op) && chkSub S N cm sc i ix t && chkE S N cm e sc ea | none => false
  | .app i e, s => match vExp s with | some (ea, _) => chkM S N cm sc i "append" (some e) ea | none => false
  | .ext i e, s => match vExp s with | some (ea, _) => chkM S N cm sc i "extend" (some e) ea | none => false
  | .pop none i, s => match vExp s with | some (ea, _) => chkM S N cm sc i "pop" none ea | none => false
  | .pop (some j) i, s => match vAsg s with | some (t, ea, _) => (match vName' t with | some (y, _) => locOk N sc j y && chkM S N cm sc i "pop" none ea | none => false) | none => false
  | .popI none i e, s => match vExp s with | some (ea, _) => chkM S N cm sc i "pop" (some e) ea | none => false
  | .popI (some j) i e, s => match vAsg s with | some (t, ea, _) => (match vName' t with | some (y, _) => locOk N sc j y && chkM S N cm sc i "pop" (some e) ea | none => false) | none => false
  | .ret e, s => match vRet s with | some ea => chkE S N cm e sc ea | none => false
  | .retN, .Return none _ => true
  | .cond c a b, s => match vIf s with | some (ec, sa, sb) => chkT S N cm c sc ec && chkSs sc a sa && chkSs sc b sb | none => false
  | .whl c a, s => match vWhl s with | some (ec, sa) => cm && chkT S N cm c sc ec && chkSs sc a sa | none => false
  | .for_ t it a, s => match vFor s with | some (tg, iter, sa) => cm && chkI S N cm it sc tg iter && chkG N cm sc t tg && chkSs sc a sa && notSet iter | none => false
  | .raise k .no, s => match vRaise s with | some x => cm && (match S.cs[k]? with | some p => decide (p.1 = x) && decide (p.2 = Str.ofString "") | none => false) && isGlb sc x && dbg x | none => false
  | .raise k (.so a), s => match vRaiseF s with
    | some (x, e) => cm && (match S.cs[k]? with | some p => decide (p.1 = x) | none => false) && S.ini.contains k && isGlb sc x && dbg x && notStar e && chkE S N cm a sc e
    | none => false
  | .tryX b r, s => match vTry s with | some (body, h, hs) => cm && chkSs sc b body && chkHs S N sc r (h :: hs) | none => false
  | .dead, _ => true
  | _, _ => false
def chkSs (sc : Scope) : Ss → List Stmt → Bool
  | .nil, l => l.isEmpty
  | .cons (.frz i) r, l => ownSlot S N i && chkSs sc r l
  | .cons s r, st :: l => chkS sc s st && chkSs sc r l
  | .cons _ _, [] => false
end
end

section
variable {P : Pl} {S : Stat} {cm : Bool} {n : Nat} {N : List Str}
theorem own_slot {X : Cx} {W : WX} {sc : Scope} (c : Ct P S cm n X W sc) (hN : X.N = N) {i : Nat} (h : ownSlot S N i = true) : P.lx i = none := by
  unfold ownSlot at h
  split at h
  · rename_i x hx
    exact c.lx i x (by rw [hN]; exact hx) (of_decide_eq_true h)
  · cases h
theorem swst_not {es : List Expr} {k : Nat} {p : Pos} {e : Expr} {env : PySem.Env} (h : notTup e = true) : swappedStores [.Tuple es k p] e env = pure none := by
  cases e <;> first | rfl | cases h
theorem noStars {vs : List Expr} (h : vs.all notStar = true) : (vs.any fun | .Starred .. => true | _ => false) = false := by
  rw [List.any_eq_false]
  intro x hx
  have := List.all_eq_true.mp h x hx
  cases x <;> first | exact (Bool.false_ne_true this).elim | (intro z; cases z; done)
theorem swst_fold {ts vs : List Expr} {k k2 : Nat} {p q : Pos} {env : PySem.Env} (h : vs.all (foldedForSure 8) = true) : swappedStores [.Tuple ts k p] (.Tuple vs k2 q) env = pure none := by
  unfold swappedStores
  simp only [h]
  simp
theorem swst_far {ts vs : List Expr} {k k2 : Nat} {p q : Pos} {env : PySem.Env} (h : ¬ (ts.length = 2 ∨ ts.length = 3)) : swappedStores [.Tuple ts k p] (.Tuple vs k2 q) env = pure none := by
  unfold swappedStores
  have h1 : (ts.length == 2) = false := by rw [beq_eq_false_iff_ne]; exact fun z => h (.inl z)
  have h2 : (ts.length == 3) = false := by rw [beq_eq_false_iff_ne]; exact fun z => h (.inr z)
  simp [h1, h2]
theorem swst_cell {ts vs : List Expr} {k k2 : Nat} {p q : Pos} {env : PySem.Env} {x : Str} {px : Pos} (hm : Expr.Name x px ∈ ts) (hx : env.kindOf x = some .cell) : swappedStores [.Tuple ts k p] (.Tuple vs k2 q) env = pure none := by
  unfold swappedStores
  have hne : ∀ line : Nat, (ts.filterMap fun t => match t with | .Name id pos => if env.kindOf id == some .local && pos.line == line then some id else none | _ => none).length ≠ ts.length := by
    intro line e
    have := (List.filterMap_length_eq_length.mp e) _ hm
    simp [hx] at this
  simp only [bind_pure_comp, Option.getD]
  repeat' split
  all_goals first | rfl | skip
  all_goals simp_all
  all_goals (rename_i h2 h1 h0; exact absurd (by simp [hx]) (h2.1 _ hm))
theorem swst_2 {x y : Str} {px py p q : Pos} {a b : Expr} {k k2 : Nat} {env : PySem.Env} (hk : env.blockKind = .function) (hx : env.kindOf x = some .local) (hy : env.kindOf y = some .local) (hl : px.line = py.line) (hxy : x ≠ y) (hs : [a, b].all notStar = true)
    (hf : [a, b].all (foldedForSure 8) = false) (hc : [a, b].all (constantsAlone 8) = false) : swappedStores [.Tuple [.Name x px, .Name y py] k p] (.Tuple [a, b] k2 q) env = pure (some [x, y]) := by
  unfold swappedStores
  have e1 : (env.blockKind != .function) = false := by rw [hk]; rfl
  have hn := noStars hs
  have hd : ([x, y] : List Str).eraseDups.length = 2 := by
    have : (y == x) = false := by rw [beq_eq_false_iff_ne]; exact fun z => hxy z.symm
    simp [List.eraseDups_cons, this]
  simp only [hn, hf, hc]
  simp [e1, hx, hy, hl, Expr.pos, hd, hk]
  intro h
  rcases h with h | h <;> (split at h <;> first | (simp [notStar] at hs; done) | cases h)
theorem swst_3 {x y z : Str} {px py pz p q : Pos} {a b c : Expr} {k k2 : Nat} {env : PySem.Env} (hk : env.blockKind = .function) (hx : env.kindOf x = some .local) (hy : env.kindOf y = some .local) (hz : env.kindOf z = some .local) (hl : px.line = py.line) (hl2 : px.line = pz.line) (hxy : x ≠ y) (hxz : x ≠ z) (hyz : y ≠ z) (hs : [a, b, c].all notStar = true)
    (hf : [a, b, c].all (foldedForSure 8) = false) (hc : [a, b, c].all (constantsAlone 8) = false) : swappedStores [.Tuple [.Name x px, .Name y py, .Name z pz] k p] (.Tuple [a, b, c] k2 q) env = pure (some [x, y, z]) := by
  unfold swappedStores
  have e1 : (env.blockKind != .function) = false := by rw [hk]; rfl
  have hn := noStars hs
  have hd : ([x, y, z] : List Str).eraseDups.length = 3 := by
    have h1 : (y == x) = false := by rw [beq_eq_false_iff_ne]; exact fun z => hxy z.symm
    have h2 : (z == x) = false := by rw [beq_eq_false_iff_ne]; exact fun q => hxz q.symm
    have h3 : (z == y) = false := by rw [beq_eq_false_iff_ne]; exact fun q => hyz q.symm
    simp [List.eraseDups_cons, h1, h2, h3]
  simp only [hn, hf, hc]
  simp [e1, hx, hy, hz, ← hl, ← hl2, Expr.pos, hd, hk]
  intro h
  rcases h with h | h | h <;> (split at h <;> first | (simp [notStar] at hs; done) | cases h)
end
end Pd
set_option autoImplicit false
set_option linter.all false
set_option maxRecDepth 100000
set_option maxHeartbeats 4000000
namespace Pd
open PySem PySem.Spec PyProof.Rows L2
section
variable {P : Pl} {S : Stat} {cm : Bool} {n : Nat} {N : List Str}
theorem snd_setStk {X : Cx} {W : WX} {cl : Caller} {st : Stmt} {s : Pd.S} (h : ∀ env, evalS cl s env = .stk) : SndS P X W cl st s :=
  ⟨fun _ _ _ => False, ⟨fun _ _ _ _ _ _ h => h.elim⟩, fun G F env σ H E r g => by rw [h] at g; exact g⟩
/-- x = [.. for ..] -/
theorem snd_setC {X : Cx} {W : WX} {sc : Scope} (c : Ct P S cm n X W sc) (tp : Top X) (hN : X.N = N) {elt : E} {t : Tg} {it : It} {q : T} {own : List Nat} {i : Nat} {y : Str} {py spos : Pos} {e : Expr} (hy : locOk N sc i y = true) (h : chkE S N cm (.comp elt t it q own) sc e = true) :
    SndS P X W (callF S.fs n) (.Assign [.Name y py] e spos) (.set i (.comp elt t it q own)) := by
  have hE := chkE_snd _ c hN h
  simp only [chkE] at h
  split at h
  · rename_i ee tg iter ifs scope hx
    obtain ⟨p, rfl⟩ := vLc_some hx
    simp only [Bool.and_eq_true] at h
    obtain ⟨⟨⟨⟨h1, h2⟩, h3⟩, h4⟩, h5⟩ := h
    obtain ⟨b1, b2, b3, b4, b5, b6, b7⟩ := blk_ok c hN h1
    have cb : ∀ s H C cls fp, Ct P S cm n (BlkX X scope s H C cls fp) W0 scope := fun s H C cls fp => c.blk b1 scope b2 b6 s H C cls fp
    have ownE : (namesOf N own).map (·.2) = own := by
      unfold namesOf
      rw [List.map_map]
      exact List.map_id' own
    obtain ⟨te, pe, run, ps⟩ := snd_comp (pos := p) (W := W) (cl := callF S.fs n) c b1 b2 b3 (by rw [hN]; exact b4) b5 (chkI_snd it c hN h2) (fun s H C cls fp => chkG_snd (cb s H C cls fp) hN h3) (fun s H C cls fp => ifs_ok q ifs h4 fun ce hce => (chkT_snd q (cb s H C cls fp) hN hce).1) (fun s H C cls fp => chkE_snd elt (cb s H C cls fp) hN h5) (not_set b7)
    rw [ownE] at run
    subst hN
    have hx := c.nlx hy
    have hy' := hy
    unfold locOk at hy'
    rw [Bool.and_eq_true, Bool.and_eq_true] at hy'
    cases hb : (decide (py.line = p.line) && !(scope.names.any fun m => m.1 == y && (m.2 == .local || m.2 == .cell))) && isLcl sc y with
    | false =>
      refine snd_set c hy hE ?_
      show (do return X.env.blockKind == .function && X.env.kindOf y == some .local && py.line == p.line && !(scope.names.any fun (n, k) => n == y && (k == .local || k == .cell)) : Sem Bool) = pure false
      congr 1
      by_cases hl : isLcl sc y = true
      · rw [hl, Bool.and_true] at hb
        have : (py.line == p.line && !(scope.names.any fun (n, k) => n == y && (k == .local || k == .cell))) = false := by
          rw [← hb]; rfl
        rw [Bool.and_assoc, this, Bool.and_false]
      · have hk : (X.env.kindOf y == some .local) = false := by
          rw [beq_eq_false_iff_ne]
          intro z
          have hc : sc.names.lookup y = some .cell := by
            have q := hy'.1.2
            unfold isLoc at q
            split at q
            · rename_i e; exact absurd (by unfold isLcl; rw [e]) hl
            · assumption
            · cases q
          have := (c.cel y hc).1
          have z' : X.env.scope.names.lookup y = some .local := z
          rw [this] at z'
          cases z'
        rw [hk]
        simp
    | true =>
      rw [Bool.and_eq_true, Bool.and_eq_true] at hb
      have hl := c.lcl y (isLcl_eq hb.2)
      have hw : swapsWith (.ListComp ee [⟨tg, iter, ifs, 0⟩] scope p) (some (.Name y py)) spos.line X.env = pure true := by
        show (do return X.env.blockKind == .function && X.env.kindOf y == some .local && py.line == p.line && !(scope.names.any fun (n, k) => n == y && (k == .local || k == .cell)) : Sem Bool) = pure true
        congr 1
        have e1 : (X.env.blockKind == .function) = true := by
          have : X.env.blockKind = .function := by unfold Env.blockKind; rw [tp.knd]; rfl
          rw [this]; rfl
        have e2 : (X.env.kindOf y == some .local) = true := beq_iff_eq.mpr hl
        have e3 : (py.line == p.line) = true := beq_iff_eq.mpr (of_decide_eq_true hb.1.1)
        have e4 : (!(scope.names.any fun (n, k) => n == y && (k == .local || k == .cell))) = true := hb.1.2
        rw [e1, e2, e3, e4]
        rfl
      refine ⟨_, ps (of_decide_eq_true hy'.1.1) hl hw, fun G F env σ H E rel g => set_run hx run rel g⟩
  · cases h
/-- .. of two clauses -/
theorem snd_setC2 {X : Cx} {W : WX} {sc : Scope} (c : Ct P S cm n X W sc) (tp : Top X) (hN : X.N = N) {elt : E} {t t' : Tg} {it it' : It} {q : T} {own own' : List Nat} {i : Nat} {y : Str} {py spos : Pos} {e : Expr} (hy : locOk N sc i y = true) (h : chkE S N cm (.comp2 elt t it t' it' q own own') sc e = true) :
    SndS P X W (callF S.fs n) (.Assign [.Name y py] e spos) (.set i (.comp2 elt t it t' it' q own own')) := by
  have hE := chkE_snd _ c hN h
  simp only [chkE] at h
  split at h
  · rename_i ee tg iter tg' iter' ifs scope hx
    obtain ⟨p, rfl⟩ := vLc2_some hx
    simp only [Bool.and_eq_true] at h
    obtain ⟨⟨⟨⟨⟨⟨⟨h1, h2⟩, h3⟩, hs, ho, hi⟩, h6⟩, h7⟩, h4⟩, h5⟩ := h
    obtain ⟨b1, b2, b3, b4, b5, b6, b7⟩ := blk_ok c hN h1
    have cb : ∀ s H C cls fp, Ct P S cm n (BlkX X scope s H C cls fp) W0 scope := fun s H C cls fp => c.blk b1 scope b2 b6 s H C cls fp
    have ownE : (namesOf N own).map (·.2) = own := by
      unfold namesOf
      rw [List.map_map]
      exact List.map_id' own
    have hsub : ∀ i ∈ own', i ∈ (namesOf N own).map (·.2) := fun i hm => by
      rw [ownE]
      have := List.all_eq_true.mp hi i hm
      simpa using this
    obtain ⟨te, pe, run, ps⟩ := snd_comp2 (pos := p) (W := W) (cl := callF S.fs n) c b1 b2 b3 (by rw [hN]; exact b4) b5 ho hsub (chkI_snd it c hN h2) (fun s H C cls fp => chkG_snd (cb s H C cls fp) hN h3) (fun s H C cls fp => ifs_ok .yes [] (f := fun _ => false) rfl fun ce hce => nomatch hce)
      (fun s H C cls fp => chkI_snd it' (cb s H C cls fp) hN h6) (fun s H C cls fp => chkG_snd (cb s H C cls fp) hN h7) (fun s H C cls fp => ifs_ok q ifs h4 fun ce hce => (chkT_snd q (cb s H C cls fp) hN hce).1) (fun s H C cls fp => chkE_snd elt (cb s H C cls fp) hN h5) (not_set b7) (fun env => not_set hs)
    rw [ownE] at run
    subst hN
    have hx := c.nlx hy
    have hy' := hy
    unfold locOk at hy'
    rw [Bool.and_eq_true, Bool.and_eq_true] at hy'
    cases hb : (decide (py.line = p.line) && !(scope.names.any fun m => m.1 == y && (m.2 == .local || m.2 == .cell))) && isLcl sc y with
    | false =>
      refine snd_set c hy hE ?_
      show (do return X.env.blockKind == .function && X.env.kindOf y == some .local && py.line == p.line && !(scope.names.any fun (n, k) => n == y && (k == .local || k == .cell)) : Sem Bool) = pure false
      congr 1
      by_cases hl : isLcl sc y = true
      · rw [hl, Bool.and_true] at hb
        have : (py.line == p.line && !(scope.names.any fun (n, k) => n == y && (k == .local || k == .cell))) = false := by
          rw [← hb]; rfl
        rw [Bool.and_assoc, this, Bool.and_false]
      · have hk : (X.env.kindOf y == some .local) = false := by
          rw [beq_eq_false_iff_ne]
          intro z
          have hc : sc.names.lookup y = some .cell := by
            have q := hy'.1.2
            unfold isLoc at q
            split at q
            · rename_i e; exact absurd (by unfold isLcl; rw [e]) hl
            · assumption
            · cases q
          have := (c.cel y hc).1
          have z' : X.env.scope.names.lookup y = some .local := z
          rw [this] at z'
          cases z'
        rw [hk]
        simp
    | true =>
      rw [Bool.and_eq_true, Bool.and_eq_true] at hb
      have hl := c.lcl y (isLcl_eq hb.2)
      have hw : swapsWith (.ListComp ee [⟨tg, iter, [], 0⟩, ⟨tg', iter', ifs, 0⟩] scope p) (some (.Name y py)) spos.line X.env = pure true := by
        show (do return X.env.blockKind == .function && X.env.kindOf y == some .local && py.line == p.line && !(scope.names.any fun (n, k) => n == y && (k == .local || k == .cell)) : Sem Bool) = pure true
        congr 1
        have e1 : (X.env.blockKind == .function) = true := by
          have : X.env.blockKind = .function := by unfold Env.blockKind; rw [tp.knd]; rfl
          rw [this]; rfl
        have e2 : (X.env.kindOf y == some .local) = true := beq_iff_eq.mpr hl
        have e3 : (py.line == p.line) = true := beq_iff_eq.mpr (of_decide_eq_true hb.1.1)
        have e4 : (!(scope.names.any fun (n, k) => n == y && (k == .local || k == .cell))) = true := hb.1.2
        rw [e1, e2, e3, e4]
        rfl
      refine ⟨_, ps (of_decide_eq_true hy'.1.1) hl hw, fun G F env σ H E rel g => set_run hx run rel g⟩
  · cases h
theorem chkSub_snd {X : Cx} {W : WX} {sc : Scope} (c : Ct P S cm n X W sc) (hN : X.N = N) {i : Nat} {ix : E} {t : Expr} (h : chkSub S N cm sc i ix t = true) : ∃ x ei p q, t = .Subscript (.Name x p) ei q ∧ varOk X.N sc i x = true ∧ SndE P X W (callF S.fs n) ei ix ∧ notSlice ei = true := by
  unfold chkSub at h
  split at h
  · rename_i x ei hx
    obtain ⟨p, q, rfl⟩ := vAt_some hx
    simp only [Bool.and_eq_true] at h
    exact ⟨x, ei, p, q, rfl, by rw [hN]; exact h.1.1, chkE_snd ix c hN h.1.2, h.2⟩
  · cases h
theorem chkM_snd1 {X : Cx} {W : WX} {sc : Scope} (c : Ct P S cm n X W sc) (hN : X.N = N) {i : Nat} {m : Str} {ix : E} {t : Expr} (h : chkM S N cm sc i m (some ix) t = true) :
    ∃ x ei p ap cp, t = .Call (.Attribute (.Name x p) m ap) [ei] [] cp ∧ varOk X.N sc i x = true ∧ SndE P X W (callF S.fs n) ei ix ∧ (ap.endLine == cp.line) = true ∧ starEach [ei] X.env = [(false, eval ei X.env)] := by
  unfold chkM at h
  split at h
  · rename_i x m' l ap cp hx
    obtain ⟨p, rfl⟩ := vMet_some hx
    simp only [Bool.and_eq_true, decide_eq_true_eq] at h
    obtain ⟨⟨⟨rfl, h2⟩, h3⟩, h4⟩ := h
    split at h4
    · rename_i ei
      rw [Bool.and_eq_true] at h4
      exact ⟨x, ei, p, ap, cp, rfl, by rw [hN]; exact h2, chkE_snd ix c hN h4.1, h3, star_cons h4.2⟩
    · cases h4
  · cases h
theorem chkM_snd0 {X : Cx} {W : WX} {sc : Scope} (c : Ct P S cm n X W sc) (hN : X.N = N) {i : Nat} {m : Str} {t : Expr} (h : chkM S N cm sc i m none t = true) :
    ∃ x p ap cp, t = .Call (.Attribute (.Name x p) m ap) [] [] cp ∧ varOk X.N sc i x = true ∧ (ap.endLine == cp.line) = true := by
  unfold chkM at h
  split at h
  · rename_i x m' l ap cp hx
    obtain ⟨p, rfl⟩ := vMet_some hx
    simp only [Bool.and_eq_true, decide_eq_true_eq] at h
    obtain ⟨⟨⟨rfl, h2⟩, h3⟩, h4⟩ := h
    have h4 : l.isEmpty = true := h4
    rw [List.isEmpty_iff] at h4
    subst h4
    exact ⟨x, p, ap, cp, rfl, by rw [hN]; exact h2, h3⟩
  · cases h
theorem chkPar_snd {X : Cx} {W : WX} {sc : Scope} (c : Ct P S cm n X W sc) (tp : Top X) (hN : X.N = N) {is : List Nat} {es : Es} {ts vs : List Expr} {k k2 : Nat} {p p2 pos : Pos} (h : chkPar S N cm sc is es ts vs = true) : SndS P X W (callF S.fs n) (.Assign [.Tuple ts k p] (.Tuple vs k2 p2) pos) (.par is es) := by
  unfold chkPar at h
  simp only [Bool.and_eq_true, decide_eq_true_eq] at h
  obtain ⟨⟨⟨h1, h2⟩, h3⟩, h4⟩ := h
  have sa := chkEs_snd es c hN h2
  have bk : X.env.blockKind = .function := by unfold Env.blockKind; rw [tp.knd]; rfl
  split at h4
  · split at h4
    · rename_i hcell
      obtain ⟨t, ht, hc⟩ := List.any_eq_true.mp hcell
      unfold cellName at hc
      split at hc
      · rename_i x px
        split at hc
        · rename_i e
          exact snd_par c h1 (by rw [hN]; exact h4) sa h3 (swst_cell ht (c.cel x e).1)
        · cases hc
      · cases hc
    rename_i hnocell
    split at h4
    · rename_i hf
      exact snd_par c h1 (by rw [hN]; exact h4) sa h3 (swst_fold hf.1)
    · rename_i hf
      simp only [Bool.and_eq_true, Bool.not_eq_true'] at h4
      obtain ⟨⟨hc, hs⟩, h4⟩ := h4
      split at h4
      · rename_i i j x p' y q' ab ht hv
        obtain ⟨a, b⟩ := ab
        have := vN2_some ht
        subst this
        have := v2_some hv
        subst this
        simp only [Bool.and_eq_true, decide_eq_true_eq] at h4
        obtain ⟨⟨⟨⟨⟨⟨⟨⟨g1, g2⟩, g3⟩, g4⟩, g5⟩, g6⟩, g7⟩, g8⟩, g9⟩ := h4
        have hf' : [a, b].all (foldedForSure 8) = false := by
          cases z : [a, b].all (foldedForSure 8) with
          | false => rfl
          | true => exact absurd ⟨z, by simp⟩ hf
        subst hN
        refine snd_par2 c h1 (fun k hk => ?_) g4 g5 g3 g6 g7 sa (swst_2 bk (c.lcl _ (isLcl_eq g6)) (c.lcl _ (isLcl_eq g7)) g1 g2 hs hf' hc)
        rcases List.mem_cons.mp hk with rfl | hk
        · exact own_slot c rfl g8
        · rw [List.mem_singleton] at hk
          subst hk
          exact own_slot c rfl g9
      · split at h4
        · rename_i i j l x p' y q' z r' abc ht hv _
          obtain ⟨a, b, d⟩ := abc
          have := vN3_some ht
          subst this
          have := v3_some hv
          subst this
          simp only [Bool.and_eq_true, decide_eq_true_eq] at h4
          obtain ⟨⟨⟨⟨⟨⟨⟨⟨⟨⟨⟨⟨⟨⟨⟨⟨g1, g2⟩, g3⟩, g4⟩, g5⟩, g6⟩, g7⟩, g8⟩, g9⟩, g10⟩, g11⟩, g12⟩, g13⟩, g14⟩, g15⟩, g16⟩, g17⟩ := h4
          have hf' : [a, b, d].all (foldedForSure 8) = false := by
            cases z : [a, b, d].all (foldedForSure 8) with
            | false => rfl
            | true => exact absurd ⟨z, by simp⟩ hf
          subst hN
          refine snd_par3 c h1 (fun k hk => ?_) g9 g10 g11 g6 g7 g8 g12 g13 g14 sa (swst_3 bk (c.lcl _ (isLcl_eq g12)) (c.lcl _ (isLcl_eq g13)) (c.lcl _ (isLcl_eq g14)) g1 g2 g3 g4 g5 hs hf' hc)
          rcases List.mem_cons.mp hk with rfl | hk
          · exact own_slot c rfl g15
          · rcases List.mem_cons.mp hk with rfl | hk
            · exact own_slot c rfl g16
            · rw [List.mem_singleton] at hk
              subst hk
              exact own_slot c rfl g17
        · cases h4
  · rename_i hlen
    exact snd_par c h1 (by rw [hN]; exact h4) sa h3 (swst_far hlen)
/-- the context of an except suite -/
theorem KdM.wh {P : Pl} {z : Addr × Value × Option Addr} {es : List DictEntry} {ks : List Str} {ds : List D} (h : KdM P es ks ds) : KdM (P.wh z) es ks ds := by
  induction h with
  | nil => exact .nil
  | cons e r h ih => obtain ⟨v, rv, q⟩ := r; exact .cons e ⟨v, rv, fun F H => (q F H).wh _⟩ ih
theorem KdF.wh {K : PySem.W.Frag} {w : World} {mg : Str → Option Value} {P : Pl} {x : Str} {ks : List Str} {ds : List D} (h : KdF K w mg P x ks ds) (z : Addr × Value × Option Addr) : KdF K w mg (P.wh z) x ks ds := by
  obtain ⟨a, es, n, h1, h2, h3⟩ := h.ex
  exact ⟨⟨a, es, n, h1, h2, h3.wh⟩⟩
theorem Ct.sui {X : Cx} {W : WX} {sc : Scope} (c : Ct P S cm n X W sc) {a : Addr} {oe : Obj} {k : Value} {d : Option Addr} {pn : List (Addr × Obj)} (z : Zc k d oe) (fs : ∃ w, oe.data = .fields w) : Ct (P.wh (a, k, d)) S false n (X.suite a ((a, oe) :: pn)) W0 sc where
  hK := c.hK
  calm := fun h => nomatch h
  nd := c.nd
  lcl := c.lcl
  cel := c.cel
  fre := c.fre
  gls := c.gls
  lnt := c.lnt
  lln := c.lln
  lx := c.lx
  un := c.un
  rm := fun h => nomatch h
  tk := fun _ _ x => by
    obtain ⟨_, _, _, _, _, _, _, _, _, _, _, _, _, _, _, _, w⟩ := x
    exact w.elim
  po := fun h => nomatch h
  gl := fun p hp => by
    obtain ⟨u, v, h1, h2, h3⟩ := c.gl p hp
    exact ⟨u, v, h1, h2, fun F H => (h3 F H).wh _⟩
  kd := fun p hp => (c.kd p hp).wh _
  bl := c.bl
  cls := c.cls.wh _
  hxn := fun h => nomatch h
  xis := fun _ cl i k b x y p q r pos h1 h2 h3 h4 h5 h6 => snd_xis c.bl c.cls z fs (fun _ h => c.vis h) (fun _ h => c.glb h) cl i k b x y p q r pos h1 h2 h3 h4 h5 h6
  xat := fun _ cl i k x y f q pos h1 h2 h3 => snd_xat c.cls z fs (fun _ h => c.vis h) cl i k x y f q pos h1 h2 h3
  ini := c.ini
  fo := fun h => nomatch h
  fr := fun h => nomatch h
theorem Ct.sui0 {X : Cx} {W : WX} {sc : Scope} (c : Ct P S cm n X W sc) (hn : P.hx = none) {a : Addr} {oe : Obj} {pn : List (Addr × Obj)} : Ct P S false n (X.suite a ((a, oe) :: pn)) W0 sc where
  hK := c.hK
  calm := fun h => nomatch h
  nd := c.nd
  lcl := c.lcl
  cel := c.cel
  fre := c.fre
  gls := c.gls
  lnt := c.lnt
  lln := c.lln
  lx := c.lx
  un := c.un
  rm := fun h => nomatch h
  tk := fun _ _ x => by
    obtain ⟨_, _, _, _, _, _, _, _, _, _, _, _, _, _, _, _, w⟩ := x
    exact w.elim
  po := fun h => nomatch h
  gl := c.gl
  kd := c.kd
  bl := c.bl
  cls := c.cls
  hxn := fun h => nomatch h
  xis := fun z => absurd hn z
  xat := fun z => absurd hn z
  ini := c.ini
  fo := fun h => nomatch h
  fr := fun h => nomatch h
theorem chkHs_ok {X : Cx} {W : WX} {sc : Scope} (c : Ct P S cm n X W sc) (hN : X.N = N) (hn : P.hx = none) : ∀ (r : Hs) (hs : List ExceptHandler), chkHs S N sc r hs = true → HsR P S X sc (callF S.fs n) hs r
  | .nil, [], h => .nil
  | .nil, _ :: _, h => by simp [chkHs] at h
  | .cons _ _ _ _, [], h => by simp [chkHs] at h
  | .cons k i a r, hd :: hs, h => by
    simp only [chkHs, Bool.and_eq_true] at h
    obtain ⟨h, hr⟩ := h
    have ih := chkHs_ok c hN hn r hs hr
    split at h
    case h_2 => cases h
    rename_i x nm e hx
    obtain ⟨p, q, t, rfl⟩ := vHd_some hx
    simp only [Bool.and_eq_true] at h
    obtain ⟨⟨⟨⟨h1, h2⟩, h3⟩, h4⟩, h5⟩ := h
    split at h1
    case h_2 => cases h1
    rename_i pr hk
    obtain ⟨y, f⟩ := pr
    have := of_decide_eq_true h1
    simp only at this
    subst this
    match i, nm, h5 with
    | none, none, _ => exact .bare hk h2 h3 (suite_bare fun b oe k d pn z fs => chkE_snd (P := P) (cm := false) a (c.sui0 hn) hN h4) ih
    | some i, some nm, h5 =>
      simp only [Bool.and_eq_true, decide_eq_true_eq] at h5
      exact .named hk h2 h3 (by rw [hN]; exact h5.1.1) (c.lcl _ (isLcl_eq h5.1.2)) (own_slot c hN h5.2) (suite_named fun b oe k d pn z fs => chkE_snd (P := P.wh (b, k, d)) (cm := false) a (c.sui z fs) hN h4) ih
mutual
theorem chkS_snd : ∀ (a : Pd.S) {X : Cx} {W : WX} {sc : Scope} {s : Stmt} (c : Ct P S cm n X W sc) (tp : Top X) (hN : X.N = N), chkS S N cm sc a s = true → SndS P X W (callF S.fs n) s a
  | .pass, X, W, sc, s, c, tp, hN, h => by
    cases s <;> first | exact snd_pass | (simp [chkS] at h)
  | .brk, X, W, sc, s, c, tp, hN, h => by
    cases s <;> first | exact snd_brk | (simp [chkS] at h)
  | .cnt, X, W, sc, s, c, tp, hN, h => by
    cases s <;> first | exact snd_cnt | (simp [chkS] at h)
  | .exp e, X, W, sc, s, c, tp, hN, h => by
    simp only [chkS] at h
    split at h
    · rename_i ea p hx
      have := vExp_some hx
      subst this
      rw [Bool.and_eq_true] at h
      exact snd_exp (chkE_snd e c hN h.1) (sw_off (by revert h; intro h; cases ea <;> first | rfl | exact (Bool.false_ne_true h.2).elim) none _ _)
    · cases h
  | .set i e, X, W, sc, s, c, tp, hN, h => by
    simp only [chkS] at h
    split at h
    · rename_i t ea pos hx
      have := vAsg_some hx
      subst this
      split at h
      · rename_i x p hx2
        have := vName'_some hx2
        subst this
        rw [Bool.and_eq_true] at h
        have gen : notComp ea = true → SndS P X W (callF S.fs n) (.Assign [.Name x p] ea pos) (.set i e) := fun hc =>
          snd_set c (by rw [hN]; exact h.1) (chkE_snd e c hN h.2) (sw_off (by cases ea <;> first | rfl | exact (Bool.false_ne_true hc).elim) _ _ _)
        by_cases hc : notComp ea = true
        · exact gen hc
        · cases e with
          | dead => exact snd_setStk fun env => by unfold evalS; unfold evalE; rfl
          | comp elt t it q own => exact snd_setC c tp hN h.1 h.2
          | comp2 elt t it t' it' q own own' => exact snd_setC2 c tp hN h.1 h.2
          | un op a => cases op; refine absurd ?_ hc; simp only [chkE] at h; cases ea <;> first | rfl | (simp [vUn] at h)
          | con d => refine absurd ?_ hc; simp only [chkE] at h; cases ea <;> first | rfl | (cases d <;> simp [conOk] at h)
          | _ =>
            refine absurd ?_ hc
            simp only [chkE] at h
            cases ea <;> first | rfl | (simp [vName, vAttr, vBin, vCmp, vChn, vBool, vIte, vTup, vLst, vCall, vCallv, vSub, vSli, vRev, vEvy, vUn, vSpl, vDix, vDct, vGet2] at h)
      · cases h
    · cases h
  | .unp is e, X, W, sc, s, c, tp, hN, h => by
    simp only [chkS] at h
    split at h
    · rename_i t ea pos hx
      have := vAsg_some hx
      subst this
      split at h
      · rename_i ts k p hx2
        have := vTupP_some hx2
        subst this
        simp only [Bool.and_eq_true] at h
        exact snd_unp c h.1.1.1 (by rw [hN]; exact h.1.1.2) (chkE_snd e c hN h.1.2) (swst_not h.2)
      · cases h
    · cases h
  | .par is es, X, W, sc, s, c, tp, hN, h => by
    simp only [chkS] at h
    split at h
    · rename_i t ea pos hx
      have := vAsg_some hx
      subst this
      split at h
      · rename_i ts k p vs k2 p2 hx2 hx3
        have := vTupP_some hx2
        subst this
        have := vTupP_some hx3
        subst this
        exact chkPar_snd c tp hN h
      · cases h
    · cases h
  | .setI i ix e, X, W, sc, s, c, tp, hN, h => by
    simp only [chkS] at h
    split at h
    · rename_i t ea pos hx
      have := vAsg_some hx
      subst this
      rw [Bool.and_eq_true] at h
      obtain ⟨x, ei, p, q, rfl, h2, h3, h4⟩ := chkSub_snd c hN h.1
      exact snd_setI c h2 h3 (chkE_snd e c hN h.2) (plain_st h4)
    · cases h
  | .setD i ix e, X, W, sc, s, c, tp, hN, h => by
    simp only [chkS] at h
    split at h
    · rename_i t ea pos hx
      have := vAsg_some hx
      subst this
      rw [Bool.and_eq_true, Bool.and_eq_true] at h
      obtain ⟨x, ei, p, q, rfl, h2, h3, h4⟩ := chkSub_snd c hN h.1.1
      exact snd_setD c h2 h3 (chkE_snd e c hN h.1.2) (sw_off (by revert h; intro h; cases ea <;> first | rfl | exact (Bool.false_ne_true h.2).elim) _ _ _)
    · cases h
  | .setI2 i ix j jx es, X, W, sc, s, c, tp, hN, h => by
    simp only [chkS] at h
    split at h
    · rename_i t ea pos hx
      have := vAsg_some hx
      subst this
      split at h
      · rename_i ts k p vs k2 p2 hx2 hx3
        have := vTupP_some hx2
        subst this
        have := vTupP_some hx3
        subst this
        split at h
        · rename_i t1 t2 ab hx4 hx5
          obtain ⟨a, b⟩ := ab
          have := v2_some hx4
          subst this
          have := v2_some hx5
          subst this
          simp only [Bool.and_eq_true, decide_eq_true_eq] at h
          obtain ⟨⟨⟨⟨h1, h2⟩, h3⟩, h4⟩, h5⟩ := h
          obtain ⟨x, ei, p1, q1, rfl, g2, g3, g4⟩ := chkSub_snd c hN h2
          obtain ⟨y, ej, p3, q3, rfl, r2, r3, r4⟩ := chkSub_snd c hN h3
          exact snd_setI2 c h1 g2 r2 g3 r3 (chkEs_snd es c hN h4) h5 (plain_st g4) (plain_st r4)
        · cases h
      · cases h
    · cases h
  | .aug i op e, X, W, sc, s, c, tp, hN, h => by
    simp only [chkS] at h
    split at h
    · rename_i t o ea hx
      obtain ⟨p, rfl⟩ := vAug_some hx
      split at h
      · rename_i x hx2
        obtain ⟨p2, rfl⟩ := vName_some hx2
        simp only [Bool.and_eq_true, decide_eq_true_eq] at h
        obtain ⟨⟨rfl, h2⟩, h3⟩ := h
        exact snd_aug c op (by rw [hN]; exact h2) (chkE_snd e c hN h3)
      · cases h
    · cases h
  | .augI i ix op e, X, W, sc, s, c, tp, hN, h => by
    simp only [chkS] at h
    split at h
    · rename_i t o ea hx
      obtain ⟨p, rfl⟩ := vAug_some hx
      simp only [Bool.and_eq_true, decide_eq_true_eq] at h
      obtain ⟨⟨rfl, h2⟩, h3⟩ := h
      obtain ⟨x, ei, p1, q1, rfl, g2, g3, g4⟩ := chkSub_snd c hN h2
      exact snd_augI c op g2 g3 (chkE_snd e c hN h3) (plain_aug g4)
    · cases h
  | .app i e, X, W, sc, s, c, tp, hN, h => by
    simp only [chkS] at h
    split at h
    · rename_i ea p hx
      have := vExp_some hx
      subst this
      obtain ⟨x, ei, p, ap, cp, rfl, h2, h3, h4, h5⟩ := chkM_snd1 c hN h
      exact snd_app c h2 h3 h4 h5
    · cases h
  | .ext i e, X, W, sc, s, c, tp, hN, h => by
    simp only [chkS] at h
    split at h
    · rename_i ea p hx
      have := vExp_some hx
      subst this
      obtain ⟨x, ei, p, ap, cp, rfl, h2, h3, h4, h5⟩ := chkM_snd1 c hN h
      exact snd_ext c h2 h3 h4 h5
    · cases h
  | .pop none i, X, W, sc, s, c, tp, hN, h => by
    simp only [chkS] at h
    split at h
    · rename_i ea p hx
      have := vExp_some hx
      subst this
      obtain ⟨x, p, ap, cp, rfl, h2, h3⟩ := chkM_snd0 c hN h
      exact snd_pop c h2 h3
    · cases h
  | .pop (some j) i, X, W, sc, s, c, tp, hN, h => by
    simp only [chkS] at h
    split at h
    · rename_i t ea pos hx
      have := vAsg_some hx
      subst this
      split at h
      · rename_i y py hx2
        have := vName'_some hx2
        subst this
        rw [Bool.and_eq_true] at h
        obtain ⟨x, p, ap, cp, rfl, h2, h3⟩ := chkM_snd0 c hN h.2
        exact snd_popS c h2 (by rw [hN]; exact h.1) h3
      · cases h
    · cases h
  | .popI none i e, X, W, sc, s, c, tp, hN, h => by
    simp only [chkS] at h
    split at h
    · rename_i ea p hx
      have := vExp_some hx
      subst this
      obtain ⟨x, ei, p, ap, cp, rfl, h2, h3, h4, h5⟩ := chkM_snd1 c hN h
      exact snd_popI c h2 h3 h4 h5
    · cases h
  | .popI (some j) i e, X, W, sc, s, c, tp, hN, h => by
    simp only [chkS] at h
    split at h
    · rename_i t ea pos hx
      have := vAsg_some hx
      subst this
      split at h
      · rename_i y py hx2
        have := vName'_some hx2
        subst this
        rw [Bool.and_eq_true] at h
        obtain ⟨x, ei, p, ap, cp, rfl, h2, h3, h4, h5⟩ := chkM_snd1 c hN h.2
        exact snd_popIS c h2 (by rw [hN]; exact h.1) h3 h4 h5
      · cases h
    · cases h
  | .ret e, X, W, sc, s, c, tp, hN, h => by
    simp only [chkS] at h
    split at h
    · rename_i ea hx
      obtain ⟨p, rfl⟩ := vRet_some hx
      exact snd_ret (chkE_snd e c hN h)
    · cases h
  | .retN, X, W, sc, s, c, tp, hN, h => by
    cases s with
    | Return v p => cases v with
      | none => exact snd_retN
      | some e => simp [chkS] at h
    | _ => simp [chkS] at h
  | .cond t a b, X, W, sc, s, c, tp, hN, h => by
    simp only [chkS] at h
    split at h
    · rename_i ec sa sb hx
      obtain ⟨p, rfl⟩ := vIf_some hx
      simp only [Bool.and_eq_true] at h
      exact snd_if (chkT_snd t c hN h.1.1).1 (chkSs_snd a c tp hN h.1.2) (chkSs_snd b c tp hN h.2)
    · cases h
  | .whl t a, X, W, sc, s, c, tp, hN, h => by
    simp only [chkS] at h
    split at h
    · rename_i ec sa hx
      obtain ⟨p, rfl⟩ := vWhl_some hx
      simp only [Bool.and_eq_true] at h
      exact snd_whl c h.1.1 (chkT_snd t c hN h.1.2).1 (chkSs_snd a c tp hN h.2)
    · cases h
  | .for_ t it a, X, W, sc, s, c, tp, hN, h => by
    simp only [chkS] at h
    split at h
    · rename_i tg iter sa hx
      obtain ⟨p, rfl⟩ := vFor_some hx
      simp only [Bool.and_eq_true] at h
      exact snd_for c h.1.1.1.1 (chkI_snd it c hN h.1.1.1.2) (chkG_snd c hN h.1.1.2) (chkSs_snd a c tp hN h.1.2) (not_set h.2)
    · cases h
  | .raise k .no, X, W, sc, s, c, tp, hN, h => by
    simp only [chkS] at h
    split at h
    · rename_i x hx
      obtain ⟨p, m, j, p2, q, q2, rfl⟩ := vRaise_some hx
      simp only [Bool.and_eq_true] at h
      obtain ⟨⟨⟨h1, h2⟩, h3⟩, h4⟩ := h
      split at h2
      · rename_i pr hk
        obtain ⟨y, f⟩ := pr
        simp only [Bool.and_eq_true, decide_eq_true_eq] at h2
        obtain ⟨rfl, rfl⟩ := h2
        exact snd_raise c h1 hk h3 h4
      · cases h2
    · cases h
  | .raise k (.so a), X, W, sc, s, c, tp, hN, h => by
    simp only [chkS] at h
    split at h
    · rename_i x e hx
      obtain ⟨p, q, q2, rfl⟩ := vRaiseF_some hx
      simp only [Bool.and_eq_true] at h
      obtain ⟨⟨⟨⟨⟨⟨h1, h2⟩, h3⟩, h4⟩, h5⟩, h6⟩, h7⟩ := h
      split at h2
      · rename_i pr hk
        obtain ⟨y, f⟩ := pr
        simp only [decide_eq_true_eq] at h2
        subst h2
        exact snd_raiseF c h1 hk (by simpa using h3) h4 h5 (star_cons h6) (chkE_snd a c hN h7)
      · cases h2
    · cases h
  | .tryX b r, X, W, sc, s, c, tp, hN, h => by
    simp only [chkS] at h
    split at h
    · rename_i body h0 hs hx
      obtain ⟨p, rfl⟩ := vTry_some hx
      simp only [Bool.and_eq_true] at h
      exact snd_try c tp h.1.1 (fun c' tp' => chkSs_snd b c' tp' hN h.1.2) (chkHs_ok c hN (c.hxn h.1.1) r _ h.2)
    · cases h
  | .frz _, X, W, sc, s, c, tp, hN, h => by simp [chkS] at h
  | .dead, X, W, sc, s, c, tp, hN, h => snd_deadS
theorem chkSs_snd : ∀ (a : Ss) {X : Cx} {W : WX} {sc : Scope} {l : List Stmt} (c : Ct P S cm n X W sc) (tp : Top X) (hN : X.N = N), chkSs S N cm sc a l = true → SndSs P X W (callF S.fs n) l a
  | .nil, X, W, sc, l, c, tp, hN, h => by
    simp only [chkSs] at h
    rw [List.isEmpty_iff] at h
    subst h
    exact snd_snil
  | .cons s r, X, W, sc, l, c, tp, hN, h => by
    by_cases hf : ∃ i, s = .frz i
    · obtain ⟨i, rfl⟩ := hf
      simp only [chkSs, Bool.and_eq_true] at h
      exact snd_frz (own_slot c hN h.1) (chkSs_snd r c tp hN h.2)
    · cases l with
      | nil => cases s <;> first | (simp [chkSs] at h; done) | exact absurd ⟨_, rfl⟩ hf
      | cons st l =>
        have h2 : (chkS S N cm sc s st && chkSs S N cm sc r l) = true := by
          cases s <;> first | (simp only [chkSs] at h; exact h) | exact absurd ⟨_, rfl⟩ hf
        rw [Bool.and_eq_true] at h2
        exact snd_scons (chkS_snd s c tp hN h2.1) (chkSs_snd r c tp hN h2.2)
end
end
end Pd
set_option autoImplicit false
set_option linter.all false
set_option maxRecDepth 100000
set_option maxHeartbeats 4000000
namespace Pd
open PySem PySem.Spec PyProof.Rows L2
def lnOf : List Str → List Bool → List Str
  | x :: xs, true :: ms => x :: lnOf xs ms
  | _ :: xs, false :: ms => lnOf xs ms
  | _, _ => []
def scStat (sc : Scope) (ln : List Str) : Scope := { sc with names := sc.names.map fun p => (p.1, if ln.contains p.1 then (match p.2 with | .local => .globalExplicit | .cell => .free | k => k) else p.2) }
def scOk (sc sc' : Scope) : Bool := sc'.names.all fun p => match p.2 with
  | .local => decide (sc.names.lookup p.1 = some .local)
  | .cell => decide (sc.names.lookup p.1 = some .cell)
  | .free => decide (sc.names.lookup p.1 = some .cell) || decide (sc.names.lookup p.1 = some .free)
  | .globalExplicit => decide (sc.names.lookup p.1 = some .local)
  | .globalImplicit => decide (sc.names.lookup p.1 = some .globalImplicit)
def chkFn (S : Stat) (F : Fn) (st : Stmt) : Bool :=
  scOk (defScope st) (scStat (defScope st) (lnOf F.slots F.lent)) && (lnOf F.slots F.lent).all (fun x => !isLoc (scStat (defScope st) (lnOf F.slots F.lent)) x) &&
  chkSs { S with ln := lnOf F.slots F.lent } F.slots true (scStat (defScope st) (lnOf F.slots F.lent)) F.body (defBody st)
def fnScB (N P : List Str) (sc : Scope) : Bool :=
  decide (sc.kind = .function) && !sc.isCoroutine && !sc.isGenerator && decide N.Nodup && decide (N.take P.length = P) && P.all (fun x => decide (sc.names.lookup x = some .local) || decide (sc.names.lookup x = some .cell)) && sc.names.all (fun y => decide (y.2 ≠ .free))
theorem fnScB_ok {N P : List Str} {sc : Scope} (h : fnScB N P sc = true) : FnScope N P sc := by
  unfold fnScB at h
  simp only [Bool.and_eq_true, decide_eq_true_eq, Bool.not_eq_true', List.all_eq_true, Bool.or_eq_true] at h
  obtain ⟨⟨⟨⟨⟨⟨h1, h2⟩, h3⟩, h4⟩, h5⟩, h6⟩, h7⟩ := h
  exact ⟨h1, h2, h3, h4, h5, h6, h7⟩
theorem lookup_mem {α β : Type} [BEq α] [LawfulBEq α] : ∀ {l : List (α × β)} {x : α} {k : β}, l.lookup x = some k → (x, k) ∈ l
  | [], x, k, h => by simp at h
  | (a, b) :: l, x, k, h => by
    rw [List.lookup_cons] at h
    split at h
    · rename_i hx
      have := beq_iff_eq.mp hx
      cases h
      subst this
      exact List.mem_cons_self
    · exact List.mem_cons_of_mem _ (lookup_mem h)
theorem scOk_at {sc sc' : Scope} (h : scOk sc sc' = true) {x : Str} {k : NameKind} (e : sc'.names.lookup x = some k) : (match k with
  | .local => sc.names.lookup x = some .local
  | .cell => sc.names.lookup x = some .cell
  | .free => sc.names.lookup x = some .cell ∨ sc.names.lookup x = some .free
  | .globalExplicit => sc.names.lookup x = some .local
  | .globalImplicit => sc.names.lookup x = some .globalImplicit) := by
  have := List.all_eq_true.mp h _ (lookup_mem e)
  cases k <;> simp only [decide_eq_true_eq, Bool.or_eq_true] at this <;> exact this
section
variable {P : Pl} {G F F' : Addr → Prop} {env env' : Env} {σ σ' : L2.St} {H H' : Hp}
/-- more slots, empty ones -/
theorem Rel.ext (r : Rel P G F env σ H) (m : Nat) : Rel P G F (env ++ List.replicate m .un) (σ ++ List.replicate m none) H := by
  have old : ∀ {i a}, OwnAt (env ++ List.replicate m .un) (σ ++ List.replicate m none) i a → OwnAt env σ i a := fun {i a} z => by
    obtain ⟨⟨d, e1⟩, e2⟩ := z
    by_cases hi : i < env.length
    · rw [List.getElem?_append_left hi] at e1
      rw [List.getElem?_append_left (by rw [← r.len]; exact hi)] at e2
      exact ⟨⟨d, e1⟩, e2⟩
    · rw [List.getElem?_append_right (by omega)] at e1
      rw [List.getElem?_replicate] at e1
      split at e1 <;> cases e1
  refine ⟨by simp [r.len], fun i s o e1 e2 => ?_, fun i j a hn z1 z2 => r.apart i j a hn (old z1) (old z2), r.domF, r.domG, r.disj, fun i a h => ?_⟩
  · by_cases hi : i < env.length
    · rw [List.getElem?_append_left hi] at e1
      rw [List.getElem?_append_left (by rw [← r.len]; exact hi)] at e2
      exact r.sl i s o e1 e2
    · rw [List.getElem?_append_right (by omega)] at e1
      rw [List.getElem?_replicate] at e1
      split at e1 <;> cases e1
      exact .un _
  · have q := r.fix i a h
    rw [List.getElem?_append_left (List.getElem?_eq_some_iff.mp q).1]
    exact q
/-- whose lists are lent -/
def lxOf (sl : List Slot) (vs : List V) (i : Nat) : Option Addr := match sl[i]?, vs[i]? with
  | some (.own _), some (.ref a) => some a
  | _, _ => none
theorem lxOf_some {sl : List Slot} {vs : List V} {i : Nat} {a : Addr} (h : lxOf sl vs i = some a) : (∃ d, sl[i]? = some (.own d)) ∧ vs[i]? = some (.ref a) := by
  unfold lxOf at h
  split at h
  · rename_i d b e1 e2
    cases h
    exact ⟨⟨d, e1⟩, e2⟩
  · cases h
theorem outs_ok {lx : Nat → Option Addr} (r : Rel (P.wl lx) G F' env' σ' H') : ∀ (sl : List Slot) (vs : List V) (k : Nat) (ds : List D), (∀ j d, sl[j]? = some (.own d) → ∃ a, vs[j]? = some (.ref a) ∧ lx (k + j) = some a) → sl.length = vs.length →
    outsOf env' k (modes sl) = some ds → Outs P.base F' H' sl vs ds
  | [], [], k, ds, _, _, h => by
    unfold modes outsOf at h
    cases h
    exact .nil
  | [], _ :: _, k, ds, _, hl, h => by cases hl
  | _ :: _, [], k, ds, _, hl, h => by cases hl
  | s :: sl, v :: vs, k, ds, ha, hl, h => by
    have rest : ∀ ds, outsOf env' (k + 1) (modes sl) = some ds → Outs P.base F' H' sl vs ds := fun ds h => outs_ok r sl vs (k + 1) ds (fun j d e => by
      obtain ⟨a, h1, h2⟩ := ha (j + 1) d (by simpa using e)
      exact ⟨a, by simpa using h1, by rw [show k + 1 + j = k + (j + 1) by omega]; exact h2⟩) (by simpa using hl) h
    have skip : (∀ d, s ≠ .own d) → outsOf env' k (false :: modes sl) = some ds → Outs P.base F' H' (s :: sl) (v :: vs) ds := fun hn h => by
      unfold outsOf at h
      exact .skip hn (rest _ h)
    cases s with
    | un => exact skip (fun _ => by simp) h
    | val d => exact skip (fun _ => by simp) h
    | ex x => exact skip (fun _ => by simp) h
    | own d =>
      have h : outsOf env' k (true :: modes sl) = some ds := h
      unfold outsOf at h
      split at h
      · rename_i d' e
        cases z : outsOf env' (k + 1) (modes sl) with
        | none => rw [z] at h; cases h
        | some ds' =>
          rw [z] at h
          cases h
          obtain ⟨a, h1, h2⟩ := ha 0 d rfl
          have hv : v = .ref a := by simpa using h1
          subst hv
          obtain ⟨a', e1, q, n1, n2⟩ := r.ownAt e
          have e2 := r.fix k a h2
          rw [e1] at e2
          cases e2
          exact .own (q.wl _) n1 (rest _ z)
      · cases h
/-- a lent slot is own at the end -/
theorem outs_own {env' : Env} : ∀ (ms : List Bool) (k : Nat) (ds : List D), outsOf env' k ms = some ds → ∀ j, ms[j]? = some true → ∃ d, env'[k + j]? = some (.own d)
  | [], k, ds, _, j, h => by simp at h
  | false :: ms, k, ds, h, j, hj => by
    unfold outsOf at h
    cases j with
    | zero => simp at hj
    | succ j =>
      obtain ⟨d, e⟩ := outs_own ms (k + 1) ds h j (by simpa using hj)
      exact ⟨d, by rw [show k + (j + 1) = k + 1 + j by omega]; exact e⟩
  | true :: ms, k, ds, h, j, hj => by
    unfold outsOf at h
    split at h
    · rename_i d e
      cases z : outsOf env' (k + 1) ms with
      | none => rw [z] at h; cases h
      | some ds' =>
        cases j with
        | zero => exact ⟨d, e⟩
        | succ j =>
          obtain ⟨d, e⟩ := outs_own ms (k + 1) ds' z j (by simpa using hj)
          exact ⟨d, by rw [show k + (j + 1) = k + 1 + j by omega]; exact e⟩
    · cases h
theorem modes_get : ∀ (sl : List Slot) (j : Nat), (∃ d, sl[j]? = some (.own d)) → (modes sl)[j]? = some true
  | [], j, ⟨d, h⟩ => by simp at h
  | s :: sl, 0, ⟨d, h⟩ => by
    have : s = .own d := by simpa using h
    subst this
    rfl
  | s :: sl, j + 1, ⟨d, h⟩ => by
    have ih := modes_get sl j ⟨d, by simpa using h⟩
    cases s <;> simpa [modes] using ih
theorem modes_len : ∀ (sl : List Slot), (modes sl).length = sl.length
  | [] => rfl
  | s :: sl => by cases s <;> simp [modes, modes_len sl]
theorem end_ok {sl : List Slot} {vs : List V} {Q : VK} {E : XK} {r : Fl} (rel : Rel P.base G F sl (argSt vs) H) (g : GC P.base G F H sl vs Q E (endOf (modes sl) r)) :
    GS (P.wl (lxOf sl vs)) (fun cls d _ H => E cls d H) G F H { nx := fun _ H' => Q .non H', rt := Q } r := by
  have hl : sl.length = vs.length := by rw [rel.len]; simp [argSt]
  have own : ∀ j d, sl[j]? = some (.own d) → ∃ a, vs[j]? = some (.ref a) ∧ lxOf sl vs (0 + j) = some a := fun j d e => by
    obtain ⟨a, e1, _⟩ := rel.ownAt e
    have e2 : vs[j]? = some (.ref a) := by simpa [argSt] using e1
    refine ⟨a, e2, ?_⟩
    unfold lxOf
    rw [Nat.zero_add, e, e2]
  have outs : ∀ {env' : Env} {ds : List D} {F' : Addr → Prop} {σ' : L2.St} {H' : Hp}, outsOf env' 0 (modes sl) = some ds → Rel (P.wl (lxOf sl vs)) G F' env' σ' H' → Outs P.base F' H' sl vs ds := fun h r => outs_ok r sl vs 0 _ own hl h
  have lent : ∀ {env' : Env} {ds : List D} {F' : Addr → Prop} {σ' : L2.St} {H' : Hp} {i : Nat} {a : Addr}, outsOf env' 0 (modes sl) = some ds → Rel (P.wl (lxOf sl vs)) G F' env' σ' H' → OwnAt sl (argSt vs) i a → (modes sl)[i]? = some true ∧ OwnAt env' σ' i a := fun {env' ds F' σ' H' i a} h r z => by
    obtain ⟨⟨d, e⟩, e2⟩ := z
    have hm := modes_get sl i ⟨d, e⟩
    obtain ⟨d', e3⟩ := outs_own _ 0 ds h i hm
    obtain ⟨b, h1, h2⟩ := own i d e
    have e4 : vs[i]? = some (.ref a) := by simpa [argSt] using e2
    rw [h1] at e4
    cases e4
    rw [Nat.zero_add] at e3 h2
    exact ⟨hm, ⟨d', e3⟩, r.fix i _ h2⟩
  cases r with
  | stk => exact g
  | bk e => exact (show False from g).elim
  | ct e => exact (show False from g).elim
  | nx e =>
    unfold endOf at g
    simp only at g
    split at g
    · rename_i ds hd
      intro F' σ' H' st r'
      exact g F' H' .non st r'.domF r'.disj (outs hd r') .non
    · exact g.elim
  | exc x e =>
    unfold endOf at g
    simp only at g
    split at g
    · rename_i ds hd
      intro F' σ' H' cls d st r' rx
      exact g F' H' cls d st r'.domF r'.disj (outs hd r') (rx.wl _)
    · exact g.elim
  | rt o e =>
    cases o with
    | val d =>
      unfold endOf at g
      simp only at g
      split at g
      · rename_i ds hd
        intro F' σ' H' v st r' ro
        cases ro with
        | val q => exact g F' H' v st r'.domF r'.disj (outs hd r') (q.wl _)
      · exact g.elim
    | fresh d =>
      unfold endOf at g
      simp only at g
      split at g
      · rename_i ds hd
        intro F' σ' H' v st r' ro
        cases ro with
        | fresh q n1 n2 n3 => exact g F' H' _ st r'.domF r'.disj (outs hd r') ⟨_, rfl, q.wl _, n1, n2, fun i z => n3 i (lent hd r' z).2⟩
      · exact g.elim
    | slot i =>
      unfold endOf at g
      simp only at g
      split at g
      · exact g.elim
      · rename_i hi
        split at g
        · rename_i d ds he hd
          intro F' σ' H' v st r' ro
          cases ro with
          | slot e1 =>
            obtain ⟨a, e2, q, n1, n2⟩ := r'.ownAt he
            rw [e1] at e2
            cases e2
            refine g F' H' _ st r'.domF r'.disj (outs hd r') ⟨a, rfl, q.wl _, n1, n2, fun j z => ?_⟩
            obtain ⟨hm, z2⟩ := lent hd r' z
            refine r'.apart i j a (fun hij => ?_) ⟨⟨d, he⟩, e1⟩ z2
            subst hij
            exact hi ⟨(List.getElem?_eq_some_iff.mp hm).1, hm⟩
        · exact g.elim
end
theorem lnOf_get : ∀ (N : List Str) (ms : List Bool) (i : Nat) (x : Str), N[i]? = some x → ms[i]? = some true → x ∈ lnOf N ms
  | [], ms, i, x, h, _ => by simp at h
  | _ :: _, [], i, x, _, h => by simp at h
  | y :: N, true :: ms, 0, x, h, _ => by
    have : y = x := by simpa using h
    subst this
    unfold lnOf
    exact List.mem_cons_self
  | y :: N, false :: ms, 0, x, _, h => by simp at h
  | y :: N, true :: ms, i + 1, x, h, h2 => by
    unfold lnOf
    exact List.mem_cons_of_mem _ (lnOf_get N ms i x (by simpa using h) (by simpa using h2))
  | y :: N, false :: ms, i + 1, x, h, h2 => by
    unfold lnOf
    exact lnOf_get N ms i x (by simpa using h) (by simpa using h2)
/-- what is known of the text's top -/
structure Facts (Pg : Program) (w : World) (K : PySem.W.Frag) (mg : Str → Option Value) (P : Pl) (S : Stat) : Prop where
  hK : P.K = K
  gl : ∀ p ∈ S.gl, ∃ u v, mg p.1 = some u ∧ RelV v u ∧ ∀ (lx : Nat → Option Addr) F H, R (P.wl lx) F H p.2 v
  kd : ∀ p ∈ S.kd, KdF K w mg P p.1 p.2.1 p.2.2
  bl : ∀ x ∈ S.bl, mg x = none
  cls : ClsS K mg P S
  ini : ∀ c x f, S.cs[c]? = some (x, f) → c ∈ S.ini → IniF Pg K mg (P.ca c) x f
  hx : P.hx = none
  fn : ∀ f Fd, S.fs[f]? = some Fd → ∃ st fd, Fun K Fd.name Fd.name st (P.fa f) fd ∧ Binds K fd Fd.pars [] ∧ mg Fd.name = some (.ref (P.fa f)) ∧ chkFn S Fd st = true ∧ fnScB Fd.slots Fd.pars (defScope st) = true
theorem sp_len {P : Pl} {S : Stat} {n f : Nat} {Fd : Fn} (hf : S.fs[f]? = some Fd) {vs : List V} {H : Hp} {Q : VK} {E : XK} (h : spF P S n f vs H Q E) : vs.length = Fd.pars.length := by
  obtain ⟨G, F, sl, rel, g⟩ := h
  cases n with
  | zero => exact absurd g id
  | succ n =>
    unfold callF at g
    rw [hf] at g
    simp only at g
    split at g
    · rename_i hc
      rw [← hc.2.1, rel.len]
      simp [argSt]
    · exact g.elim
theorem fn_one {Pg : Program} {w : World} {K : PySem.W.Frag} {mg : Str → Option Value} {base : Heap} {P : Pl} {S : Stat} (T : Facts Pg w K mg P S) {n f : Nat} {Fd : Fn} {st : Stmt} {fd : FuncData} (hf : S.fs[f]? = some Fd)
    (h1 : Fun K Fd.name Fd.name st (P.fa f) fd) (h4 : chkFn S Fd st = true) (h5 : fnScB Fd.slots Fd.pars (defScope st) = true)
    (IH : ∀ (f : Nat) (Fd : Fn), S.fs[f]? = some Fd → ∃ fd, mg Fd.name = some (.ref (P.fa f)) ∧ PySem.W.keepIn K (.ref (P.fa f)) = true ∧ Binds K fd Fd.pars [] ∧ FnG Pg w K mg base (L2.CX Pg w) (n + 1) (P.fa f) fd Fd.pars (spF P S n f)) :
    FnG Pg w K mg base (L2.CX Pg w) (n + 2) (P.fa f) fd Fd.pars (spF P S (n + 1) f) := by
    have sco := fnScB_ok h5
    refine Fun.okG h1 sco (fun vs H Q E h => sp_len hf h) fun cdv A outer s H vs Q E hfr hr hsp => ?_
    have hl := sp_len hf hsp
    obtain ⟨G, F, sl, rel, g⟩ := hsp
    unfold callF at g
    rw [hf] at g
    simp only at g
    split at g
    case isFalse => exact g.elim
    rename_i hc
    obtain ⟨c1, c2, c3⟩ := hc
    rw [← c1] at g
    have gs := end_ok rel g
    unfold chkFn at h4
    simp only [Bool.and_eq_true] at h4
    obtain ⟨⟨k1, k2⟩, k3⟩ := h4
    have ct : Ct (P.wl (lxOf sl vs)) { S with ln := lnOf Fd.slots Fd.lent } true n (cxOf (L2.CX Pg w) Pg w K mg base Fd.slots Fd.name (defScope st) (P.fa f) cdv A outer s H E) (fun cls d _ H => E cls d H) (scStat (defScope st) (lnOf Fd.slots Fd.lent)) := by
      refine ⟨T.hK.symm, fun _ => rfl, sco.nd, fun x h => scOk_at k1 h, fun x h => ⟨scOk_at k1 h, rfl⟩, fun x h => scOk_at k1 h, fun x h => scOk_at k1 h, fun x h => scOk_at k1 h, fun x hx => ?_, fun i x hx hn => ?_, ?_, fun _ => hr, ?_, fun _ => passes_of rfl, ?_, fun p hp => (T.kd p hp).wl _, T.bl, ⟨T.cls.many, T.cls.raise, T.cls.name, T.cls.ex, T.cls.isx, T.cls.fld⟩, fun _ => T.hx, fun z => absurd T.hx z, fun z => absurd T.hx z, T.ini, ?_, ?_⟩
      · have := List.all_eq_true.mp k2 x hx
        simpa using this
      · show lxOf sl vs i = none
        cases z : lxOf sl vs i with
        | none => rfl
        | some a =>
          obtain ⟨z1, _⟩ := lxOf_some z
          have := modes_get sl i z1
          rw [c1] at this
          exact absurd (lnOf_get _ _ i x hx this) hn
      · have := hr.un
        show (A.deeper _).units + 100 < _
        omega
      · exact takes_of rfl rfl rfl rfl
      · intro p hp
        obtain ⟨u, v, e1, e2, e3⟩ := T.gl p hp
        exact ⟨u, v, e1, e2, fun F H => e3 _ F H⟩
      · intro _ f' Fd' hf'
        exact IH f' Fd' hf'
      · exact fun _ => hfr
    have tp : Top (cxOf (L2.CX Pg w) Pg w K mg base Fd.slots Fd.name (defScope st) (P.fa f) cdv A outer s H E) := ⟨rfl, rfl, sco.kind⟩
    obtain ⟨t, ht, run⟩ := chkSs_snd (S := { S with ln := lnOf Fd.slots Fd.lent }) Fd.body ct tp rfl k3
    refine ⟨t, ht, run G F _ _ H _ ?_ gs⟩
    have r1 : Rel (P.wl (lxOf sl vs)) G F sl (argSt vs) H := Rel.wl (P := P.base) rel fun i a h => by
      have := (lxOf_some h).2
      simp [argSt, this]
    have hlen : sl.length = vs.length := by rw [rel.len]; simp [argSt]
    have r2 := r1.ext (Fd.slots.length - sl.length)
    show Rel _ G F _ (L2.start Fd.slots vs) H
    unfold L2.start
    rw [hlen] at r2 ⊢
    exact r2
theorem fns_ok {Pg : Program} {w : World} {K : PySem.W.Frag} {mg : Str → Option Value} {base : Heap} {P : Pl} {S : Stat} (T : Facts Pg w K mg P S) : ∀ (n f : Nat) (Fd : Fn), S.fs[f]? = some Fd →
    ∃ fd, mg Fd.name = some (.ref (P.fa f)) ∧ PySem.W.keepIn K (.ref (P.fa f)) = true ∧ Binds K fd Fd.pars [] ∧ FnG Pg w K mg base (L2.CX Pg w) (n + 1) (P.fa f) fd Fd.pars (spF P S n f)
  | 0, f, Fd, hf => by
    obtain ⟨st, fd, h1, h2, h3, _⟩ := T.fn f Fd hf
    refine ⟨fd, h3, h1.kp, h2, ⟨fun vs H Q E h => sp_len hf h, fun A outer s H args us vs Q E hfr hr he hb hv hs => ?_⟩⟩
    obtain ⟨_, _, _, _, g⟩ := hs
    exact absurd g id
  | n + 1, f, Fd, hf => by
    obtain ⟨st, fd, h1, h2, h3, h4, h5⟩ := T.fn f Fd hf
    exact ⟨fd, h3, h1.kp, h2, fn_one T hf h1 h4 h5 (fns_ok T n)⟩
end Pd
set_option autoImplicit false
set_option linter.all false
set_option maxRecDepth 100000
set_option maxHeartbeats 1000000
namespace Pd
open PySem PySem.Spec PyProof.Rows L2
def spLaw (K : PySem.W.Frag) : Sp := fun vs H Q _ => ∃ (a : Addr) (ns : List Int), vs = [.ref a] ∧ SqL K H a (ns.map V.int) ∧ ns.length ≤ 63 ∧ Only H ∧ ∀ H', Q (.bl true) H'
theorem law_end {Pg : Program} {w : World} {K : PySem.W.Frag} {mg : Str → Option Value} {base : Heap} {P : Pl} {S : Stat} (T : Facts Pg w K mg P S) {n f : Nat} {Fd : Fn} (hf : S.fs[f]? = some Fd) (hp : Fd.pars = [Str.ofString "script"])
    (hrun : ∀ ns : List Int, ns.length ≤ 63 → callF S.fs n f [.val (.scr (ns.map .int))] = .ok (.bl true) false []) {fd : FuncData} (F : FnG Pg w K mg base (L2.CX Pg w) (n + 1) (P.fa f) fd Fd.pars (spF P S n f)) :
    FnG Pg w K mg base (L2.CX Pg w) (n + 1) (P.fa f) fd ["script"] (spLaw K) := by
  rw [hp] at F
  refine F.imp fun vs H Q E h => ?_
  obtain ⟨a, ns, rfl, hS, hl, hO, q⟩ := h
  refine ⟨fun _ => False, fun b => b = a ∧ H b ≠ none, [.val (.scr (ns.map .int))], ?_, ?_⟩
  · have rs : Rs P.base (fun b => b = a ∧ H b ≠ none) H (ns.map .int) (ns.map V.int) := by
      clear hS hl
      induction ns with
      | nil => exact .nil
      | cons x r ih => exact .cons (.int x) ih
    have sh : Shs P.base (fun b => b = a ∧ H b ≠ none) H a (ns.map V.int) := by
      rcases hS with (h | ⟨o, h⟩) | h
      · rcases hO a with z | ⟨o, xs, z⟩
        · rw [z] at h; cases h
        · rw [z] at h; cases h
      · exact .inl ⟨⟨rfl, by rw [h]; exact fun z => nomatch z⟩, o, h⟩
      · right
        show ∃ (o : Obj) (its : Array Value) (n : Nat), P.K.lookup a = some o ∧ _
        rw [T.hK]
        exact h
    refine ⟨rfl, fun i s o e1 e2 => ?_, fun i j b hn z => ?_, fun b z => z.2, fun b z => z.elim, fun b _ z => z, fun i b z => nomatch z⟩
    · cases i with
      | zero =>
        have x1 : Slot.val _ = s := Option.some.inj e1
        have x2 : some (V.ref a) = o := Option.some.inj e2
        subst x1 x2
        exact .val (.scr sh rs)
      | succ i => simp at e1
    · obtain ⟨⟨d, e⟩, _⟩ := z
      cases i with
      | zero => simp at e
      | succ i => simp at e
  · rw [hrun ns hl]
    intro F' H' v st _ _ _ r
    cases r
    exact q H'
/-! ### a class's own __init__ -/
def initOf (m : Nat) : Stmt → Stmt
  | .ClassDef (body := b) .. => b.getD m (.Pass ⟨0, 0, 0, 0⟩)
  | s => s
def siBody (self x fld : Str) : List Stmt → Bool
  | [.Expr (.Call (.Attribute (.Call (.Name s _) [] [] _) i p2) [.Name x1 _] [] p4) _, .Assign [.Attribute (.Name s2 _) f2 _] (.Name x2 _) _] =>
    decide (s = "super") && decide (i = "__init__") && decide (x1 = x) && decide (s2 = self) && decide (f2 = fld) && decide (x2 = x) && (p2.endLine == p4.line)
  | _ => false
theorem siBody_ok {self x fld : Str} {b : List Stmt} (h : siBody self x fld b = true) : ∃ p0 p1 p2 p3 p4 p5 p6 p7 p8 p9 : Pos, b = [.Expr (.Call (.Attribute (.Call (.Name "super" p0) [] [] p1) "__init__" p2) [.Name x p3] [] p4) p5, .Assign [.Attribute (.Name self p6) fld p7] (.Name x p8) p9] ∧ (p2.endLine == p4.line) = true := by
  unfold siBody at h
  split at h
  · simp only [Bool.and_eq_true, decide_eq_true_eq] at h
    obtain ⟨⟨⟨⟨⟨⟨rfl, rfl⟩, rfl⟩, rfl⟩, rfl⟩, rfl⟩, hl⟩ := h
    exact ⟨_, _, _, _, _, _, _, _, _, _, rfl, hl⟩
  · cases h
def siScp (self x : Str) (ps : Arguments) (sc : Scope) : Bool :=
  decide ((ps.posonlyargs ++ ps.args).head?.map (·.arg) = some self) && decide (sc.kind = .function) && !sc.isCoroutine && !sc.isGenerator && decide (sc.names.lookup x = some .local) && decide (sc.names.lookup self = some .local) &&
    decide (sc.names.lookup ("super" : Str) = some .globalImplicit) && decide (sc.names.lookup ("__class__" : Str) = some .free) && sc.names.all (fun y => !decide (y.2 = .cell)) && !decide (x = self) && dbg x && dbg self
theorem ini_mk {Pg : Program} {K : PySem.W.Frag} {mg : Str → Option Value} {st : Stmt} {m : Nat} {x0 qual fld x self : Str} {C f cc cda : Addr} {kV doc pm ct oc ccl cl : Value} {an od cdd cld : Option Addr} {osl ccs csl : Array (Option Value)} {vs : Array Value} {file : Str} {tf : Tok}
    {nm q : Str} {N : Addr} {bs bm : List Value} {sn : List Str} {sub : List Value} {ab : Bool} {col : Option Bool} {dd : Option Addr} {k0 k1 k2 k3 k5 : Option Value}
    (h1 : siBody self x fld (defBody (initOf m st)) = true) (h2 : siScp self x (defArgs (initOf m st)) (defScope (initOf m st)) = true)
    (hg : mg x0 = some (.ref C)) (hi : PySem.W.findIn K (.ref C) "__init__" = some (some (.ref f))) (ht : PySem.W.typeIn K (.ref f) = some (.type "function"))
    (lk : K.lookup f = some ⟨oc, od, .func (PySem.W.fnX "__init__" qual (defArgs (initOf m st)) (defBody (initOf m st)) (defScope (initOf m st)) [("__class__", cc)] .none kV doc pm an (.ref cda) ct), osl⟩) (hcd : PySem.W.codeIn K (.ref cda) qual = true)
    (hb : ∀ us : List Value, us.length = 2 → bindArgs (PySem.W.fnX "__init__" qual (defArgs (initOf m st)) (defBody (initOf m st)) (defScope (initOf m st)) [("__class__", cc)] .none kV doc pm an (.ref cda) ct) ⟨us, []⟩ = pure ([self, x].zip us))
    (code : K.lookup cda = some ⟨ccl, cdd, .fields vs, ccs⟩) (hvs : vs[2]? = some (.str file tf)) (hfile : ((Pg.main.file : Str) == file) = true) (cell : K.lookup cc = some ⟨cl, cld, .cell (some (.ref C)), csl⟩)
    (hsuper : mg "super" = none) (htop : (Pg.main.scope.names.lookup ("super" : Str)).isSome = false)
    (hC : K.lookup C = some (excClassObj nm q C N bs bm true sn sub ab col dd k0 k1 k2 k3 k5 "ValueError.__new__")) (hbm : PySem.HandSPX.refsVE bm = true) (sa : PySem.W.findIn K (.ref C) "__setattr__" = some (some (.builtin "object.__setattr__")))
    (exC : PySem.W.subIn K (.ref C) (.type "BaseException") = some true) (tyC : PySem.W.typeIn K (.ref C) = some (.type "type")) (kC : PySem.W.keepIn K (.ref C) = true)
    (hsub : PySem.W.mroIn K C (.ref C) = some true) (hm : PySem.W.ks_superIn K C C "__init__" = some (some (.builtin "ValueError.__init__"))) (hB : PySem.W.subIn K (.ref C) (.type "ValueError") = some true) (ho : PySem.W.nsIn K cStatics "thirdparty.any" = some none)
    (hno : PySem.W.findIn K (.ref C) fld = some none) : IniF Pg K mg C x0 fld := by
  have T : OexC K C := ⟨⟨_, _, _, _, _, _, _, _, _, _, _, _, _, _, _, hC, hbm⟩, sa, exC, tyC, kC⟩
  refine ⟨hg, T, f, _, self, x, hi, ht, .all fun us hl => hb us hl, fun w base CX k => ?_⟩
  obtain ⟨p0, p1, p2, p3, p4, p5, p6, p7, p8, p9, eb, hl⟩ := siBody_ok h1
  unfold siScp at h2
  simp only [Bool.and_eq_true, Bool.not_eq_true', decide_eq_true_eq, decide_eq_false_iff_not, List.all_eq_true] at h2
  obtain ⟨⟨⟨⟨⟨⟨⟨⟨⟨⟨⟨g1, g2⟩, g3⟩, g4⟩, g5⟩, g6⟩, g7⟩, g8⟩, g9⟩, g10⟩, g11⟩, g12⟩ := h2
  obtain ⟨ar, ga, gb⟩ := Option.map_eq_some_iff.mp g1
  have hcl : PySem.W.clsIn K C = some { name := nm, bases := bs, mro := .ref C :: bm, ns := N, qualname := q, hasDict := true, slotNames := sn, subclasses := sub, abstract := ab, collection := col, hasDel := false } := by unfold PySem.W.clsIn; rw [hC]
  exact fn_si lk hcd eb ga gb g2 g3 g4 g5 g6 g7 g8 (fun y hy => g9 y hy) code hvs hfile cell hsuper htop T hcl hsub hm hB ho hno g10 (dbg_ok g11).1 hl (dbg_ok g12).1
end Pd
set_option autoImplicit false
set_option linter.all false
namespace Pd
open PySem (Str)
/-! equations for the evaluator, with named continuations, for simp -/
section
variable {cl : Caller} {env e : Env} {a b c : E} {x y : Opd} {op op' : BOp} {o : COp}
def b2 {α : Type} (f : D → D → Option α) : Option D → Option D → Option α
  | some a, some b => f a b
  | _, _ => none
@[simp] theorem b2_some {α : Type} (f : D → D → Option α) (a b : D) : b2 f (some a) (some b) = f a b := rfl
def okO (o : Option D) (e : Env) : Res Opd := match o with | some d => .ok (mkO d) e | none => .stk
@[simp] theorem okO_some (d : D) (e : Env) : okO (some d) e = .ok (mkO d) e := rfl
@[simp] theorem okO_none (e : Env) : okO none e = .stk := rfl
def okV (o : Option D) (e : Env) : Res Opd := match o with | some d => .ok (.val d) e | none => .stk
@[simp] theorem okV_some (d : D) (e : Env) : okV (some d) e = .ok (.val d) e := rfl
@[simp] theorem okV_none (e : Env) : okV none e = .stk := rfl
def okB (o : Option Bool) (e : Env) : Res Opd := match o with | some d => .ok (.val (.bl d)) e | none => .stk
@[simp] theorem okB_some (d : Bool) (e : Env) : okB (some d) e = .ok (.val (.bl d)) e := rfl
@[simp] theorem okB_none (e : Env) : okB none e = .stk := rfl
@[simp] theorem mkO_int (i : Int) : mkO (.int i) = .val (.int i) := rfl
@[simp] theorem mkO_bl (i : Bool) : mkO (.bl i) = .val (.bl i) := rfl
@[simp] theorem mkO_str (i : Str) : mkO (.str i) = .val (.str i) := rfl
@[simp] theorem mkO_non : mkO .non = .val .non := rfl
@[simp] theorem mkO_tup (i : List D) : mkO (.tup i) = .val (.tup i) := rfl
@[simp] theorem mkO_lst (i : List D) : mkO (.lst i) = .fresh (.lst i) := rfl
@[simp] theorem mkO_rng (i j : Int) : mkO (.rng i j) = .val (.rng i j) := rfl
def slotD : Option Slot → Option D
  | some (.own d) => some d
  | _ => none
@[simp] theorem slotD_own (d : D) : slotD (some (.own d)) = some d := rfl
@[simp] theorem get_val (d : D) : (Opd.val d).get env = some d := rfl
@[simp] theorem get_fresh (d : D) : (Opd.fresh d).get env = some d := rfl
@[simp] theorem get_slot (i : Nat) : (Opd.slot i).get env = slotD env[i]? := by
  unfold Opd.get slotD; rfl
@[simp] theorem leak_val (d : D) : (Opd.val d).leak = some d := rfl
@[simp] theorem leak_fresh (d : D) : (Opd.fresh d).leak = some d := rfl
@[simp] theorem leak_slot (i : Nat) : (Opd.slot i).leak = none := rfl
def varR (i : Nat) (o : Option Slot) (e : Env) : Res Opd := match o with
  | some (.val d) => .ok (.val d) e
  | some (.own _) => .ok (.slot i) e
  | _ => .stk
@[simp] theorem varR_val (i : Nat) (d : D) (e : Env) : varR i (some (.val d)) e = .ok (.val d) e := rfl
@[simp] theorem varR_own (i : Nat) (d : D) (e : Env) : varR i (some (.own d)) e = .ok (.slot i) e := rfl
@[simp] theorem evalE_var (i : Nat) : evalE cl (.var i) env = varR i env[i]? env := by rw [evalE]; rfl
@[simp] theorem evalE_con (d : D) : evalE cl (.con d) env = .ok (.val d) env := by rw [evalE]
@[simp] theorem evalE_glob (n : Str) (d : D) : evalE cl (.glob n d) env = .ok (.val d) env := by rw [evalE]
/-! two operands -/
def bin2 (op : BOp) (x y : Opd) (e : Env) : Res Opd := okO (b2 (binV op) (x.get e) (y.get e)) e
@[simp] theorem bin2_at (op : BOp) (x y : Opd) (e : Env) : bin2 op x y e = okO (b2 (binV op) (x.get e) (y.get e)) e := rfl
def binK (cl : Caller) (op : BOp) (b : E) (x : Opd) (e : Env) : Res Opd := (evalE cl b e).bind (bin2 op x)
@[simp] theorem binK_at (op : BOp) (b : E) (x : Opd) (e : Env) : binK cl op b x e = (evalE cl b e).bind (bin2 op x) := rfl
@[simp] theorem evalE_bin (op : BOp) (a b : E) : evalE cl (.bin op a b) env = (evalE cl a env).bind (binK cl op b) := by
  rw [evalE]
  congr 1
  funext x e1
  unfold binK
  congr 1
  funext y e2
  unfold bin2
  cases x.get e2 <;> cases y.get e2 <;> first | rfl | (rename_i p q; show (ofO (binV op p q) e2).bind _ = okO (binV op p q) e2; cases binV op p q <;> rfl)
def cmp2 (op : COp) (x y : Opd) (e : Env) : Res Opd := okB (b2 (cmpV op) (x.get e) (y.get e)) e
@[simp] theorem cmp2_at (op : COp) (x y : Opd) (e : Env) : cmp2 op x y e = okB (b2 (cmpV op) (x.get e) (y.get e)) e := rfl
def cmpK (cl : Caller) (op : COp) (b : E) (x : Opd) (e : Env) : Res Opd := (evalE cl b e).bind (cmp2 op x)
@[simp] theorem cmpK_at (op : COp) (b : E) (x : Opd) (e : Env) : cmpK cl op b x e = (evalE cl b e).bind (cmp2 op x) := rfl
@[simp] theorem evalE_cmp (op : COp) (a b : E) : evalE cl (.cmp op a b) env = (evalE cl a env).bind (cmpK cl op b) := by
  rw [evalE]
  congr 1
  funext x e1
  unfold cmpK
  congr 1
  funext y e2
  unfold cmp2
  cases x.get e2 <;> cases y.get e2 <;> first | rfl | (rename_i p q; show (ofO (cmpV op p q) e2).bind _ = okB (cmpV op p q) e2; cases cmpV op p q <;> rfl)
def idx2 (x y : Opd) (e : Env) : Res Opd := okV (b2 idxV (x.get e) (y.get e)) e
@[simp] theorem idx2_at (x y : Opd) (e : Env) : idx2 x y e = okV (b2 idxV (x.get e) (y.get e)) e := rfl
def idxK (cl : Caller) (b : E) (x : Opd) (e : Env) : Res Opd := (evalE cl b e).bind (idx2 x)
@[simp] theorem idxK_at (b : E) (x : Opd) (e : Env) : idxK cl b x e = (evalE cl b e).bind (idx2 x) := rfl
@[simp] theorem evalE_idx (a b : E) : evalE cl (.idx a b) env = (evalE cl a env).bind (idxK cl b) := by
  rw [evalE]
  congr 1
  funext x e1
  unfold idxK
  congr 1
  funext y e2
  unfold idx2
  cases x.get e2 <;> cases y.get e2 <;> first | rfl | (rename_i p q; show (ofO (idxV p q) e2).bind _ = okV (idxV p q) e2; cases idxV p q <;> rfl)
/-! one operand -/
def neg1 (x : Opd) (e : Env) : Res Opd := okV ((x.get e).bind (unV .neg)) e
@[simp] theorem neg1_at (x : Opd) (e : Env) : neg1 x e = okV ((x.get e).bind (unV .neg)) e := rfl
@[simp] theorem evalE_neg (a : E) : evalE cl (.un .neg a) env = (evalE cl a env).bind neg1 := by
  rw [evalE]
  congr 1
  funext x e
  unfold neg1
  cases x.get e <;> first | rfl | (rename_i p; show (ofO (unV .neg p) e).bind _ = okV (unV .neg p) e; cases unV .neg p <;> rfl)
def rev1 (x : Opd) (e : Env) : Res Opd := okO ((x.get e).bind revV) e
@[simp] theorem rev1_at (x : Opd) (e : Env) : rev1 x e = okO ((x.get e).bind revV) e := rfl
@[simp] theorem evalE_rev (a : E) : evalE cl (.rev a) env = (evalE cl a env).bind rev1 := by
  rw [evalE]
  congr 1
  funext x e
  unfold rev1
  cases x.get e <;> first | rfl | (rename_i p; show (ofO (revV p) e).bind _ = okO (revV p) e; cases revV p <;> rfl)
def not1 (x : Opd) (e : Env) : Res Opd := okB (((x.get e).bind D.truth).map (!·)) e
@[simp] theorem not1_at (x : Opd) (e : Env) : not1 x e = okB (((x.get e).bind D.truth).map (!·)) e := rfl
@[simp] theorem evalE_not (a : E) : evalE cl (.not a) env = (evalE cl a env).bind not1 := by
  rw [evalE]
  congr 1
  funext x e
  unfold not1
  cases x.get e <;> first | rfl | (rename_i p; show (ofO (D.truth p) e).bind _ = okB ((D.truth p).map (!·)) e; cases D.truth p <;> rfl)
/-! and, or -/
def andR (cl : Caller) (b : E) (d : D) (e : Env) : Option Bool → Res Opd
  | some true => evalE cl b e
  | some false => .ok (.val d) e
  | none => .stk
@[simp] theorem andR_t (b : E) (d : D) (e : Env) : andR cl b d e (some true) = evalE cl b e := rfl
@[simp] theorem andR_f (b : E) (d : D) (e : Env) : andR cl b d e (some false) = .ok (.val d) e := rfl
def andL (cl : Caller) (b : E) (e : Env) : Option D → Res Opd
  | some d => andR cl b d e d.truth
  | none => .stk
@[simp] theorem andL_some (b : E) (d : D) (e : Env) : andL cl b e (some d) = andR cl b d e d.truth := rfl
def andK (cl : Caller) (b : E) (x : Opd) (e : Env) : Res Opd := andL cl b e x.leak
@[simp] theorem andK_at (b : E) (x : Opd) (e : Env) : andK cl b x e = andL cl b e x.leak := rfl
@[simp] theorem evalE_and (a b : E) : evalE cl (.and a b) env = (evalE cl a env).bind (andK cl b) := by
  rw [evalE]
  congr 1
  funext x e
  unfold andK
  cases x.leak <;> first | rfl | (rename_i p; show (ofO (D.truth p) e).bind _ = andR cl b p e (D.truth p); cases D.truth p <;> first | rfl | (rename_i k; cases k <;> rfl))
def orR (cl : Caller) (b : E) (d : D) (e : Env) : Option Bool → Res Opd
  | some true => .ok (.val d) e
  | some false => evalE cl b e
  | none => .stk
@[simp] theorem orR_f (b : E) (d : D) (e : Env) : orR cl b d e (some false) = evalE cl b e := rfl
@[simp] theorem orR_t (b : E) (d : D) (e : Env) : orR cl b d e (some true) = .ok (.val d) e := rfl
def orL (cl : Caller) (b : E) (e : Env) : Option D → Res Opd
  | some d => orR cl b d e d.truth
  | none => .stk
@[simp] theorem orL_some (b : E) (d : D) (e : Env) : orL cl b e (some d) = orR cl b d e d.truth := rfl
def orK (cl : Caller) (b : E) (x : Opd) (e : Env) : Res Opd := orL cl b e x.leak
@[simp] theorem orK_at (b : E) (x : Opd) (e : Env) : orK cl b x e = orL cl b e x.leak := rfl
@[simp] theorem evalE_or (a b : E) : evalE cl (.or a b) env = (evalE cl a env).bind (orK cl b) := by
  rw [evalE]
  congr 1
  funext x e
  unfold orK
  cases x.leak <;> first | rfl | (rename_i p; show (ofO (D.truth p) e).bind _ = orR cl b p e (D.truth p); cases D.truth p <;> first | rfl | (rename_i k; cases k <;> rfl))
/-! if-else -/
def iteK (cl : Caller) (a b : E) : Bool → Env → Res Opd
  | true, e => evalE cl a e
  | false, e => evalE cl b e
@[simp] theorem iteK_t (a b : E) (e : Env) : iteK cl a b true e = evalE cl a e := rfl
@[simp] theorem iteK_f (a b : E) (e : Env) : iteK cl a b false e = evalE cl b e := rfl
@[simp] theorem evalE_ite (t : T) (a b : E) : evalE cl (.ite t a b) env = (evalT cl t env).bind (iteK cl a b) := by
  rw [evalE]
  congr 1
  funext k e
  cases k <;> rfl
/-! chains -/
def chn3 (op' : COp) (dy : D) (z : Opd) (e : Env) : Res Opd := okB (z.leak.bind (cmpV op' dy)) e
@[simp] theorem chn3_at (op' : COp) (dy : D) (z : Opd) (e : Env) : chn3 op' dy z e = okB (z.leak.bind (cmpV op' dy)) e := rfl
def chnR (cl : Caller) (op' : COp) (c : E) (dy : D) (e : Env) : Option Bool → Res Opd
  | some true => (evalE cl c e).bind (chn3 op' dy)
  | some false => .ok (.val (.bl false)) e
  | none => .stk
@[simp] theorem chnR_t (op' : COp) (c : E) (dy : D) (e : Env) : chnR cl op' c dy e (some true) = (evalE cl c e).bind (chn3 op' dy) := rfl
@[simp] theorem chnR_f (op' : COp) (c : E) (dy : D) (e : Env) : chnR cl op' c dy e (some false) = .ok (.val (.bl false)) e := rfl
def chnL (cl : Caller) (op op' : COp) (c : E) (e : Env) : Option D → Option D → Res Opd
  | some dx, some dy => chnR cl op' c dy e (cmpV op dx dy)
  | _, _ => .stk
@[simp] theorem chnL_some (op op' : COp) (c : E) (e : Env) (dx dy : D) : chnL cl op op' c e (some dx) (some dy) = chnR cl op' c dy e (cmpV op dx dy) := rfl
def chn2 (cl : Caller) (op op' : COp) (c : E) (x y : Opd) (e : Env) : Res Opd := chnL cl op op' c e x.leak y.leak
@[simp] theorem chn2_at (op op' : COp) (c : E) (x y : Opd) (e : Env) : chn2 cl op op' c x y e = chnL cl op op' c e x.leak y.leak := rfl
def chnK (cl : Caller) (op op' : COp) (b c : E) (x : Opd) (e : Env) : Res Opd := (evalE cl b e).bind (chn2 cl op op' c x)
@[simp] theorem chnK_at (op op' : COp) (b c : E) (x : Opd) (e : Env) : chnK cl op op' b c x e = (evalE cl b e).bind (chn2 cl op op' c x) := rfl
@[simp] theorem evalE_chn (op op' : COp) (a b c : E) : evalE cl (.chn op op' a b c) env = (evalE cl a env).bind (chnK cl op op' b c) := by
  rw [evalE]
  congr 1
  funext x e1
  unfold chnK
  congr 1
  funext y e2
  unfold chn2
  cases x.leak <;> cases y.leak <;> first | rfl | skip
  rename_i p q
  show (ofO (cmpV op p q) e2).bind _ = chnR cl op' c q e2 (cmpV op p q)
  cases cmpV op p q with
  | none => rfl
  | some k =>
    cases k with
    | false => rfl
    | true =>
      show (evalE cl c e2).bind _ = (evalE cl c e2).bind _
      congr 1
      funext z e4
      unfold chn3
      cases z.leak <;> first | rfl | (rename_i r; show (ofO (cmpV op' q r) e4).bind _ = okB (cmpV op' q r) e4; cases cmpV op' q r <;> rfl)
/-! lists of operands -/
def esT (x : Opd) (xs : List Opd) (e : Env) : Res (List Opd) := .ok (x :: xs) e
@[simp] theorem esT_at (x : Opd) (xs : List Opd) (e : Env) : esT x xs e = .ok (x :: xs) e := rfl
def esK (cl : Caller) (r : Es) (x : Opd) (e : Env) : Res (List Opd) := (evalEs cl r e).bind (esT x)
@[simp] theorem esK_at (r : Es) (x : Opd) (e : Env) : esK cl r x e = (evalEs cl r e).bind (esT x) := rfl
@[simp] theorem evalEs_nil : evalEs cl .nil env = .ok [] env := by rw [evalEs]
@[simp] theorem evalEs_cons (a : E) (r : Es) : evalEs cl (.cons a r) env = (evalE cl a env).bind (esK cl r) := by rw [evalEs]; rfl
@[simp] theorem leaks_nil : leaks [] = some [] := rfl
def consO : Option D → Option (List D) → Option (List D)
  | some d, some r => some (d :: r)
  | _, _ => none
@[simp] theorem consO_some (d : D) (r : List D) : consO (some d) (some r) = some (d :: r) := rfl
@[simp] theorem leaks_cons (o : Opd) (r : List Opd) : leaks (o :: r) = consO o.leak (leaks r) := by
  show (o.leak).bind _ = _; cases o.leak <;> first | rfl | (cases leaks r <;> rfl)
@[simp] theorem gets_nil : gets env [] = some [] := rfl
@[simp] theorem gets_cons (o : Opd) (r : List Opd) : gets env (o :: r) = consO (o.get env) (gets env r) := by
  show (o.get env).bind _ = _; cases o.get env <;> first | rfl | (cases gets env r <;> rfl)
def tupK (os : List Opd) (e : Env) : Res Opd := okV ((leaks os).map .tup) e
@[simp] theorem tupK_at (os : List Opd) (e : Env) : tupK os e = okV ((leaks os).map .tup) e := rfl
@[simp] theorem evalE_tup (es : Es) : evalE cl (.tup es) env = (evalEs cl es env).bind tupK := by
  rw [evalE]
  congr 1
  funext os e
  unfold tupK
  cases leaks os <;> rfl
def okF (o : Option (List D)) (e : Env) : Res Opd := match o with | some d => .ok (.fresh (.lst d)) e | none => .stk
@[simp] theorem okF_some (d : List D) (e : Env) : okF (some d) e = .ok (.fresh (.lst d)) e := rfl
def lstK (os : List Opd) (e : Env) : Res Opd := okF (leaks os) e
@[simp] theorem lstK_at (os : List Opd) (e : Env) : lstK os e = okF (leaks os) e := rfl
@[simp] theorem evalE_lst (es : Es) : evalE cl (.lst es) env = (evalEs cl es env).bind lstK := by
  rw [evalE]
  congr 1
  funext os e
  unfold lstK
  cases leaks os <;> rfl
def bltK (b : Blt) (os : List Opd) (e : Env) : Res Opd := okO ((gets e os).bind (bltV b)) e
@[simp] theorem bltK_at (b : Blt) (os : List Opd) (e : Env) : bltK b os e = okO ((gets e os).bind (bltV b)) e := rfl
@[simp] theorem evalE_blt (b : Blt) (es : Es) : evalE cl (.blt b es) env = (evalEs cl es env).bind (bltK b) := by
  rw [evalE]
  congr 1
  funext os e
  unfold bltK
  cases gets e os <;> first | rfl | (rename_i p; show (ofO (bltV b p) e).bind _ = okO (bltV b p) e; cases bltV b p <;> rfl)
def callK (cl : Caller) (f : Nat) (ms : List Bool) (os : List Opd) (e : Env) : Res Opd := callR cl f ms os e
@[simp] theorem callK_at (f : Nat) (ms : List Bool) (os : List Opd) (e : Env) : callK cl f ms os e = callR cl f ms os e := rfl
@[simp] theorem evalE_call (f : Nat) (ms : List Bool) (es : Es) : evalE cl (.call f ms es) env = (evalEs cl es env).bind (callK cl f ms) := by rw [evalE]; rfl
/-! slices -/
def sli3 (x : Opd) (l h : Option Int) (e : Env) : Res Opd := okO ((x.get e).bind fun d => sliV d l h) e
def sli2 (x : Opd) (l h : Option Int) (e : Env) : Res Opd := sli3 x l h e
@[simp] theorem sli2_at (x : Opd) (l h : Option Int) (e : Env) : sli2 x l h e = okO ((x.get e).bind fun d => sliV d l h) e := rfl
def sliH (cl : Caller) (hi : Eo) (x : Opd) (l : Option Int) (e : Env) : Res Opd := (evalB cl hi e).bind (sli2 x l)
@[simp] theorem sliH_at (hi : Eo) (x : Opd) (l : Option Int) (e : Env) : sliH cl hi x l e = (evalB cl hi e).bind (sli2 x l) := rfl
def sliK (cl : Caller) (lo hi : Eo) (x : Opd) (e : Env) : Res Opd := (evalB cl lo e).bind (sliH cl hi x)
@[simp] theorem sliK_at (lo hi : Eo) (x : Opd) (e : Env) : sliK cl lo hi x e = (evalB cl lo e).bind (sliH cl hi x) := rfl
@[simp] theorem evalE_sli (a : E) (lo hi : Eo) : evalE cl (.sli a lo hi) env = (evalE cl a env).bind (sliK cl lo hi) := by
  rw [evalE]
  congr 1
  funext x e1
  unfold sliK
  congr 1
  funext l e2
  unfold sliH
  congr 1
  funext h e3
  unfold sli2 sli3
  cases x.get e3 <;> first | rfl | (rename_i p; show (ofO (sliV p l h) e3).bind _ = okO (sliV p l h) e3; cases sliV p l h <;> rfl)
def bndK (x : Opd) (e : Env) : Res (Option Int) := match x with | .val (.int i) => .ok (some i) e | _ => .stk
@[simp] theorem bndK_int (i : Int) (e : Env) : bndK (.val (.int i)) e = .ok (some i) e := rfl
@[simp] theorem evalB_no : evalB cl .no env = .ok none env := by rw [evalB]
@[simp] theorem evalB_so (a : E) : evalB cl (.so a) env = (evalE cl a env).bind bndK := by rw [evalB]; rfl
/-! tests -/
def tstK (x : Opd) (e : Env) : Res Bool := ofO ((x.get e).bind D.truth) e
@[simp] theorem tstK_at (x : Opd) (e : Env) : tstK x e = ofO ((x.get e).bind D.truth) e := rfl
@[simp] theorem evalT_yes : evalT cl .yes env = .ok true env := by rw [evalT]
@[simp] theorem evalT_e (a : E) : evalT cl (.e a) env = (evalE cl a env).bind tstK := by
  rw [evalT]
  congr 1
  funext x e
  unfold tstK
  cases x.get e <;> rfl
def tandK (cl : Caller) (b : T) : Bool → Env → Res Bool
  | true, e => evalT cl b e
  | false, e => .ok false e
@[simp] theorem tandK_t (b : T) (e : Env) : tandK cl b true e = evalT cl b e := rfl
@[simp] theorem tandK_f (b : T) (e : Env) : tandK cl b false e = .ok false e := rfl
@[simp] theorem evalT_and (a b : T) : evalT cl (.and a b) env = (evalT cl a env).bind (tandK cl b) := by
  rw [evalT]
  congr 1
  funext k e
  cases k <;> rfl
def torK (cl : Caller) (b : T) : Bool → Env → Res Bool
  | true, e => .ok true e
  | false, e => evalT cl b e
@[simp] theorem torK_t (b : T) (e : Env) : torK cl b true e = .ok true e := rfl
@[simp] theorem torK_f (b : T) (e : Env) : torK cl b false e = evalT cl b e := rfl
@[simp] theorem evalT_or (a b : T) : evalT cl (.or a b) env = (evalT cl a env).bind (torK cl b) := by
  rw [evalT]
  congr 1
  funext k e
  cases k <;> rfl
def tnotK (k : Bool) (e : Env) : Res Bool := .ok (!k) e
@[simp] theorem tnotK_at (k : Bool) (e : Env) : tnotK k e = .ok (!k) e := rfl
@[simp] theorem evalT_not (a : T) : evalT cl (.not a) env = (evalT cl a env).bind tnotK := by rw [evalT]; rfl
/-! what loops walk -/
def plainK (x : Opd) (e : Env) : Res (List D) := ofO (itemsOf x) e
@[simp] theorem plainK_at (x : Opd) (e : Env) : plainK x e = ofO (itemsOf x) e := rfl
@[simp] theorem evalI_plain (a : E) : evalI cl (.plain a) env = (evalE cl a env).bind plainK := by rw [evalI]; rfl
def rng1K (x : Opd) (e : Env) : Res (List D) := match x with | .val (.int j) => ofO ((rngN 0 j).map (upto 0)) e | _ => .stk
@[simp] theorem rng1K_int (j : Int) (e : Env) : rng1K (.val (.int j)) e = ofO ((rngN 0 j).map (upto 0)) e := rfl
@[simp] theorem evalI_rng1 (a : E) : evalI cl (.rng1 a) env = (evalE cl a env).bind rng1K := by
  rw [evalI]
  congr 1
  funext x e
  cases x with
  | val d => cases d <;> first | rfl | (rename_i j; show (ofO (rngN 0 j) e).bind _ = ofO ((rngN 0 j).map (upto 0)) e; cases rngN 0 j <;> rfl)
  | _ => rfl
def rng2L (x y : Opd) (e : Env) : Res (List D) := match x, y with
  | .val (.int i), .val (.int j) => ofO ((rngN i j).map (upto i)) e
  | _, _ => .stk
@[simp] theorem rng2L_int (i j : Int) (e : Env) : rng2L (.val (.int i)) (.val (.int j)) e = ofO ((rngN i j).map (upto i)) e := rfl
def rng2K (cl : Caller) (b : E) (x : Opd) (e : Env) : Res (List D) := (evalE cl b e).bind (rng2L x)
@[simp] theorem rng2K_at (b : E) (x : Opd) (e : Env) : rng2K cl b x e = (evalE cl b e).bind (rng2L x) := rfl
@[simp] theorem evalI_rng2 (a b : E) : evalI cl (.rng2 a b) env = (evalE cl a env).bind (rng2K cl b) := by
  rw [evalI]
  congr 1
  funext x e
  unfold rng2K
  congr 1
  funext y e2
  cases x with
  | val d =>
    cases y with
    | val d' => cases d <;> cases d' <;> first | rfl | (rename_i i j; show (ofO (rngN i j) e2).bind _ = ofO ((rngN i j).map (upto i)) e2; cases rngN i j <;> rfl)
    | _ => cases d <;> rfl
  | _ => rfl
/-! comprehensions -/
def compEnd (old : Env) (own : List Nat) (ys : List D) (e : Env) : Res Opd := .ok (.fresh (.lst ys)) (backE old e own)
@[simp] theorem compEnd_at (old : Env) (own : List Nat) (ys : List D) (e : Env) : compEnd old own ys e = .ok (.fresh (.lst ys)) (backE old e own) := rfl
/-- the turns of a comprehension -/
def compT (cl : Caller) (elt : E) (t : Tg) (c : T) (own : List Nat) (ds acc : List D) (e : Env) : Res (List D) := compL t own (fun e => evalT cl c e) (fun e => evalE cl elt e) ds acc e
def compK (cl : Caller) (elt : E) (t : Tg) (c : T) (own : List Nat) (ds : List D) (e : Env) : Res Opd := if ds.length ≤ cap then (compT cl elt t c own ds [] e).bind (compEnd e own) else .stk
theorem compK_at (elt : E) (t : Tg) (c : T) (own : List Nat) (ds : List D) (e : Env) (h : ds.length ≤ cap) : compK cl elt t c own ds e = (compT cl elt t c own ds [] e).bind (compEnd e own) := if_pos h
theorem evalE_comp (elt : E) (t : Tg) (it : It) (c : T) (own : List Nat) : evalE cl (.comp elt t it c own) env = (evalI cl it env).bind (compK cl elt t c own) := by rw [evalE]; rfl

/-! ### statements -/
variable {r rr : Ss}
@[simp] theorem evalSs_nil : evalSs cl .nil env = .nx env := by rw [evalSs]
def ssK (cl : Caller) (r : Ss) : Fl → Fl
  | .nx e => evalSs cl r e
  | z => z
@[simp] theorem ssK_nx (e : Env) : ssK cl r (.nx e) = evalSs cl r e := rfl
@[simp] theorem ssK_rt (o : Opd) (e : Env) : ssK cl r (.rt o e) = .rt o e := rfl
@[simp] theorem ssK_bk (e : Env) : ssK cl r (.bk e) = .bk e := rfl
@[simp] theorem ssK_ct (e : Env) : ssK cl r (.ct e) = .ct e := rfl
@[simp] theorem ssK_exc (x : Xn) (e : Env) : ssK cl r (.exc x e) = .exc x e := rfl
@[simp] theorem evalSs_cons (s : S) : evalSs cl (.cons s r) env = ssK cl r (evalS cl s env) := by
  rw [evalSs]
  cases evalS cl s env <;> rfl
@[simp] theorem evalS_pass : evalS cl .pass env = .nx env := by rw [evalS]
@[simp] theorem evalS_brk : evalS cl .brk env = .bk env := by rw [evalS]
@[simp] theorem evalS_cnt : evalS cl .cnt env = .ct env := by rw [evalS]
def expK (_ : Opd) (e : Env) : Fl := .nx e
@[simp] theorem expK_at (o : Opd) (e : Env) : expK o e = .nx e := rfl
@[simp] theorem evalS_exp (a : E) : evalS cl (.exp a) env = (evalE cl a env).fl expK := by rw [evalS]; rfl
def setK (i : Nat) (o : Opd) (e : Env) : Fl := nxO (bindO i o e)
@[simp] theorem setK_at (i : Nat) (o : Opd) (e : Env) : setK i o e = nxO (bindO i o e) := rfl
@[simp] theorem evalS_set (i : Nat) (a : E) : evalS cl (.set i a) env = (evalE cl a env).fl (setK i) := by rw [evalS]; rfl
def putO (i : Nat) (o : Opd) (e : Env) : Option Env := match o with
  | .val d => some (e.set i (.val d))
  | .fresh d => some (e.set i (.own d))
  | .slot _ => none
@[simp] theorem putO_val (i : Nat) (d : D) (e : Env) : putO i (.val d) e = some (e.set i (.val d)) := rfl
@[simp] theorem putO_fresh (i : Nat) (d : D) (e : Env) : putO i (.fresh d) e = some (e.set i (.own d)) := rfl
@[simp] theorem bindO_at (i : Nat) (o : Opd) (e : Env) : bindO i o e = if i < e.length then putO i o e else none := rfl
def unpK (is : List Nat) (o : Opd) (e : Env) : Fl := match o with
  | .val (.tup ds) => nxO (bindDs is ds e)
  | .val (.lst ds) => nxO (bindDs is ds e)
  | .fresh (.lst ds) => nxO (bindDs is ds e)
  | _ => .stk
@[simp] theorem unpK_tup (is : List Nat) (ds : List D) (e : Env) : unpK is (.val (.tup ds)) e = nxO (bindDs is ds e) := rfl
@[simp] theorem evalS_unp (is : List Nat) (a : E) : evalS cl (.unp is a) env = (evalE cl a env).fl (unpK is) := by
  rw [evalS]
  congr 1
@[simp] theorem bindDs_nil : bindDs [] [] env = some env := rfl
@[simp] theorem bindDs_cons (i : Nat) (is : List Nat) (d : D) (ds : List D) : bindDs (i :: is) (d :: ds) env = (bindO i (.val d) env).bind fun e => bindDs is ds e := rfl
@[simp] theorem binds_nil : binds [] [] env = some env := rfl
@[simp] theorem binds_cons (i : Nat) (is : List Nat) (d : Opd) (ds : List Opd) : binds (i :: is) (d :: ds) env = (bindO i d env).bind fun e => binds is ds e := rfl
def parK (is : List Nat) (os : List Opd) (e : Env) : Fl := nxO (binds is os e)
@[simp] theorem parK_at (is : List Nat) (os : List Opd) (e : Env) : parK is os e = nxO (binds is os e) := rfl
@[simp] theorem evalS_par (is : List Nat) (es : Es) : evalS cl (.par is es) env = (evalEs cl es env).fl (parK is) := by rw [evalS]; rfl
def setI3 (i : Nat) (d : D) (k : Opd) (e : Env) : Fl := nxO (k.leak.bind fun k => setOwn i k d e)
@[simp] theorem setI3_at (i : Nat) (d : D) (k : Opd) (e : Env) : setI3 i d k e = nxO (k.leak.bind fun k => setOwn i k d e) := rfl
def setI2' (cl : Caller) (i : Nat) (ix : E) (d : D) (e : Env) : Bool → Fl
  | true => (evalE cl ix e).fl (setI3 i d)
  | false => .stk
@[simp] theorem setI2'_t (i : Nat) (ix : E) (d : D) (e : Env) : setI2' cl i ix d e true = (evalE cl ix e).fl (setI3 i d) := rfl
def setIL (cl : Caller) (i : Nat) (ix : E) (e : Env) : Option D → Fl
  | some d => setI2' cl i ix d e (isOwn i e)
  | none => .stk
@[simp] theorem setIL_some (i : Nat) (ix : E) (d : D) (e : Env) : setIL cl i ix e (some d) = setI2' cl i ix d e (isOwn i e) := rfl
def setIK (cl : Caller) (i : Nat) (ix : E) (o : Opd) (e : Env) : Fl := setIL cl i ix e o.leak
@[simp] theorem setIK_at (i : Nat) (ix : E) (o : Opd) (e : Env) : setIK cl i ix o e = setIL cl i ix e o.leak := rfl
@[simp] theorem evalS_setI (i : Nat) (ix a : E) : evalS cl (.setI i ix a) env = (evalE cl a env).fl (setIK cl i ix) := by
  rw [evalS]
  congr 1
  funext o e
  unfold setIK
  cases o.leak with
  | none => rfl
  | some d =>
    show _ = setI2' cl i ix d e (isOwn i e)
    cases h : isOwn i e <;> simp [h] <;> rfl
def slotOwn : Option Slot → Bool
  | some (.own (.lst _)) => true
  | _ => false
@[simp] theorem slotOwn_own (ds : List D) : slotOwn (some (.own (.lst ds))) = true := rfl
@[simp] theorem isOwn_at' (i : Nat) : isOwn i env = slotOwn env[i]? := rfl
def putI (i : Nat) (d : D) (e : Env) (k : D) : Option Slot → Option Env
  | some (.own (.lst xs)) => match k with
    | .int j => (place xs.length j).map fun p => e.set i (.own (.lst (xs.set p d)))
    | _ => none
  | _ => none
@[simp] theorem putI_own (i : Nat) (d : D) (e : Env) (j : Int) (xs : List D) : putI i d e (.int j) (some (.own (.lst xs))) = (place xs.length j).map fun p => e.set i (.own (.lst (xs.set p d))) := rfl
@[simp] theorem setOwn_at (i : Nat) (k d : D) : setOwn i k d env = putI i d env k env[i]? := by
  unfold setOwn putI
  cases h : env[i]? with
  | none => rfl
  | some s =>
    cases s <;> first | rfl | skip
    rename_i dd
    cases dd <;> first | rfl | skip
    cases k <;> first | rfl | skip
    rename_i xs j
    show (place xs.length j).bind _ = (place xs.length j).map _
    cases place xs.length j <;> rfl
def retK (o : Opd) (e : Env) : Fl := .rt o e
@[simp] theorem retK_at (o : Opd) (e : Env) : retK o e = .rt o e := rfl
@[simp] theorem evalS_ret (a : E) : evalS cl (.ret a) env = (evalE cl a env).fl retK := by rw [evalS]; rfl
@[simp] theorem evalS_retN : evalS cl .retN env = .rt (.val .non) env := by rw [evalS]
def condK (cl : Caller) (a b : Ss) : Bool → Env → Fl
  | true, e => evalSs cl a e
  | false, e => evalSs cl b e
@[simp] theorem condK_t (a b : Ss) (e : Env) : condK cl a b true e = evalSs cl a e := rfl
@[simp] theorem condK_f (a b : Ss) (e : Env) : condK cl a b false e = evalSs cl b e := rfl
@[simp] theorem evalS_cond (t : T) (a b : Ss) : evalS cl (.cond t a b) env = (evalT cl t env).fl (condK cl a b) := by
  rw [evalS]
  congr 1
  funext k e
  cases k <;> rfl
def forT (cl : Caller) (t : Tg) (b : Ss) (ds : List D) (e : Env) : Fl := forL t (fun e => evalSs cl b e) ds e
theorem evalS_for (t : Tg) (it : It) (b : Ss) : evalS cl (.for_ t it b) env = (evalI cl it env).fl (forT cl t b) := by rw [evalS]; rfl
def whlT (cl : Caller) (c : T) (b : Ss) (n : Nat) (e : Env) : Fl := whlL (fun e => evalT cl c e) (fun e => evalSs cl b e) n e
theorem evalS_whl (c : T) (b : Ss) : evalS cl (.whl c b) env = whlT cl c b fuel env := by rw [evalS]; rfl
def frzL (i : Nat) (e : Env) : Option Slot → Fl
  | some (.own d) => .nx (e.set i (.val d))
  | some (.val _) => .nx e
  | _ => .stk
@[simp] theorem frzL_own (i : Nat) (e : Env) (d : D) : frzL i e (some (.own d)) = .nx (e.set i (.val d)) := rfl
@[simp] theorem frzL_val (i : Nat) (e : Env) (d : D) : frzL i e (some (.val d)) = .nx e := rfl
@[simp] theorem evalS_frz (i : Nat) : evalS cl (.frz i) env = frzL i env env[i]? := by
  rw [evalS]
  unfold frzL
  cases env[i]? with
  | none => rfl
  | some s => cases s <;> rfl
/-! ### loops by an invariant -/
theorem forT_inv {t : Tg} {b : Ss} (I : Nat → Env → Prop) : ∀ (ds : List D) (k : Nat) (env : Env), I k env → (∀ i d env, ds[i]? = some d → I (k + i) env → ∃ e1, bindD t d env = some e1 ∧ ∃ e2, (evalSs cl b e1 = .nx e2 ∨ evalSs cl b e1 = .ct e2) ∧ I (k + i + 1) e2) → ∃ e, forT cl t b ds env = .nx e ∧ I (k + ds.length) e
  | [], k, env, h, _ => ⟨env, rfl, h⟩
  | d :: ds, k, env, h, step => by
    obtain ⟨e1, h1, e2, h2, h3⟩ := step 0 d env rfl h
    obtain ⟨e, h4, h5⟩ := forT_inv I ds (k + 1) e2 h3 fun i d' env' hd hi => by
      have := step (i + 1) d' env' (by simpa using hd) (by rw [show k + (i + 1) = k + 1 + i by omega]; exact hi)
      rw [show k + (i + 1) + 1 = k + 1 + i + 1 by omega] at this
      exact this
    refine ⟨e, ?_, by rw [show k + (d :: ds).length = k + 1 + ds.length by simp; omega]; exact h5⟩
    unfold forT forL
    rw [h1]
    rcases h2 with h2 | h2 <;> (simp only [h2]; exact h4)
/-- a comprehension's turns: what is gathered, by an invariant -/
theorem compT_inv {t : Tg} {c : T} {elt : E} {own : List Nat} (I : Nat → List D → Env → Prop) : ∀ (ds : List D) (k : Nat) (acc : List D) (env : Env), I k acc env →
    (∀ i d acc env, ds[i]? = some d → I (k + i) acc env → ∃ e1, bindD t d (wipeE env own) = some e1 ∧ ((∃ e2, evalT cl c e1 = .ok false e2 ∧ I (k + i + 1) acc e2) ∨ ∃ e2 o e3 y, evalT cl c e1 = .ok true e2 ∧ evalE cl elt e2 = .ok o e3 ∧ o.leak = some y ∧ I (k + i + 1) (acc ++ [y]) e3)) →
    ∃ ys e, compT cl elt t c own ds acc env = .ok ys e ∧ I (k + ds.length) ys e
  | [], k, acc, env, h, _ => ⟨acc, env, rfl, h⟩
  | d :: ds, k, acc, env, h, step => by
    obtain ⟨e1, h1, h2⟩ := step 0 d acc env rfl h
    have nxt : ∀ acc' e', I (k + 1) acc' e' → ∃ ys e, compT cl elt t c own ds acc' e' = .ok ys e ∧ I (k + (d :: ds).length) ys e := fun acc' e' h' => by
      obtain ⟨ys, e, h4, h5⟩ := compT_inv I ds (k + 1) acc' e' h' fun i d' acc' env' hd hi => by
        have := step (i + 1) d' acc' env' (by simpa using hd) (by rw [show k + (i + 1) = k + 1 + i by omega]; exact hi)
        rw [show k + (i + 1) + 1 = k + 1 + i + 1 by omega] at this
        exact this
      exact ⟨ys, e, h4, by rw [show k + (d :: ds).length = k + 1 + ds.length by simp; omega]; exact h5⟩
    rcases h2 with ⟨e2, g1, g2⟩ | ⟨e2, o, e3, y, g1, g2, g3, g4⟩
    · obtain ⟨ys, e, h4, h5⟩ := nxt acc e2 g2
      refine ⟨ys, e, ?_, h5⟩
      unfold compT compL
      rw [h1]
      simp only [g1]
      exact h4
    · obtain ⟨ys, e, h4, h5⟩ := nxt (acc ++ [y]) e3 g4
      refine ⟨ys, e, ?_, h5⟩
      unfold compT compL
      rw [h1]
      simp only [g1, g2, g3]
      exact h4
end
/-! ### operations on ints -/
@[simp] theorem add_int (i j : Int) : binV .add (.int i) (.int j) = some (.int (i + j)) := rfl
@[simp] theorem sub_int (i j : Int) : binV .sub (.int i) (.int j) = some (.int (i - j)) := rfl
theorem mul_int {i j : Int} (h : mulOk i j = true) : binV .mul (.int i) (.int j) = some (.int (i * j)) := if_pos h
theorem fdiv_int {i j : Int} (h : 0 < j) (h2 : j.natAbs.log2 < 9000) : binV .fdiv (.int i) (.int j) = some (.int (i / j)) := by
  show (if divOk j then some (D.int (i.fdiv j)) else none) = _
  have : divOk j = true := by unfold divOk; rw [if_pos h]; exact decide_eq_true h2
  rw [this, if_pos rfl, Int.fdiv_eq_ediv_of_nonneg i (by omega)]
theorem mod_int {i j : Int} (h : 0 < j) : binV .mod (.int i) (.int j) = some (.int (i % j)) := by
  show (if j = 0 then none else some (D.int (i.fmod j))) = _
  rw [if_neg (by omega), Int.fmod_eq_emod_of_nonneg i (by omega)]
@[simp] theorem eq_int (i j : Int) : cmpV .eq (.int i) (.int j) = some (decide (i = j)) := by
  show (if eqOk (.int i) (.int j) then some (D.eqv (.int i) (.int j)) else none) = _
  rw [if_pos (show eqOk (.int i) (.int j) = true from rfl)]
  show some (i == j) = some (decide (i = j))
  rfl
@[simp] theorem ne_int (i j : Int) : cmpV .ne (.int i) (.int j) = some (!decide (i = j)) := by
  show (cmpV .eq (.int i) (.int j)).map not = _
  rw [eq_int]; rfl
@[simp] theorem lt_int (i j : Int) : cmpV .lt (.int i) (.int j) = some (decide (i < j)) := rfl
@[simp] theorem le_int (i j : Int) : cmpV .le (.int i) (.int j) = some (decide (i ≤ j)) := rfl
@[simp] theorem gt_int (i j : Int) : cmpV .gt (.int i) (.int j) = some (decide (j < i)) := rfl
@[simp] theorem ge_int (i j : Int) : cmpV .ge (.int i) (.int j) = some (decide (j ≤ i)) := rfl
@[simp] theorem truth_bl (b : Bool) : D.truth (.bl b) = some b := rfl
@[simp] theorem truth_int (b : Int) : D.truth (.int b) = some (b != 0) := rfl
@[simp] theorem neg_int (i : Int) : unV .neg (.int i) = some (.int (-i)) := rfl
@[simp] theorem len_lst (xs : List D) : bltV .len [.lst xs] = some (.int xs.length) := rfl
@[simp] theorem len_tup (xs : List D) : bltV .len [.tup xs] = some (.int xs.length) := rfl
@[simp] theorem int_int (i : Int) : bltV .int [.int i] = some (.int i) := rfl
@[simp] theorem int_bl (i : Bool) : bltV .int [.bl i] = some (.int (if i then 1 else 0)) := rfl
@[simp] theorem abs_int (i : Int) : bltV .abs [.int i] = some (.int (if i < 0 then -i else i)) := rfl
theorem idx_lst {xs : List D} {i : Int} {d : D} (h0 : 0 ≤ i) (h : xs[i.toNat]? = some d) : idxV (.lst xs) (.int i) = some d := by
  show (place xs.length i).bind (fun k => xs[k]?) = some d
  have hl := (List.getElem?_eq_some_iff.mp h).1
  unfold place
  rw [if_pos h0, if_pos (by omega)]
  exact h
theorem idx_tup {xs : List D} {i : Int} {d : D} (h0 : 0 ≤ i) (h : xs[i.toNat]? = some d) : idxV (.tup xs) (.int i) = some d := idx_lst h0 h
theorem place_nat {n : Nat} {i : Int} (h0 : 0 ≤ i) (h : i < n) : place n i = some i.toNat := by
  unfold place
  rw [if_pos h0, if_pos h]
theorem callF_at {fs : List Fn} {n f : Nat} {F : Fn} {args : List Slot} (h : fs[f]? = some F) (hm : modes args = F.lent) (h1 : args.length = F.pars.length) (h2 : F.pars.length ≤ F.slots.length) :
    callF fs (n + 1) f args = endOf F.lent (evalSs (callF fs n) F.body (args ++ List.replicate (F.slots.length - args.length) .un)) := by
  unfold callF
  rw [h]
  simp only
  rw [if_pos ⟨hm, h1, h2⟩]
end Pd
set_option autoImplicit false
set_option linter.all false
namespace Pd
open PySem (Str)
def std_law_draw_b1 : Ss := (.cons (.set 1 (.bin .mod (.blt .int (.cons (.bin .add (.bin .add (.bin .mul (.var 1) (.con (.int 48271))) (.bin .mod (.blt .abs (.cons (.blt .int (.cons (.var 2) .nil)) .nil)) (.con (.int 65521)))) (.con (.int 1))) .nil)) (.con (.int 2147483647)))) .nil)
def std_law_draw_c2e : E := (.blt .abs (.cons (.blt .int (.cons (.var 2) .nil)) .nil))
def std_law_draw_c2 : E := .comp std_law_draw_c2e (.nm 2) (.plain (.var 0)) .yes [2]
def std_law_draw : Fn := ⟨"_law_draw", ["script"], ["script", "seed", "cell"], [false],
  (.cons (.set 1 (.con (.int 7))) (.cons (.for_ (.nm 2) (.plain (.var 0)) std_law_draw_b1) (.cons (.ret (.lst (.cons std_law_draw_c2 (.cons (.un .neg (.con (.int 1))) (.cons (.con (.int 0)) (.cons (.var 1) .nil)))))) .nil)))⟩
def std_law_take : Fn := ⟨"_law_take", ["draw", "many"], ["draw", "many", "found"], [true, false],
  (.cons (.cond (.e (.cmp .eq (.idx (.var 0) (.con (.int 2))) (.con (.int 0)))) (.cons (.setI 0 (.con (.int 1)) (.bin .add (.idx (.var 0) (.con (.int 1))) (.con (.int 1)))) (.cons (.cond (.e (.cmp .lt (.idx (.var 0) (.con (.int 1))) (.blt .len (.cons (.idx (.var 0) (.con (.int 0))) .nil)))) (.cons (.setI 0 (.con (.int 2)) (.idx (.idx (.var 0) (.con (.int 0))) (.idx (.var 0) (.con (.int 1))))) .nil) .nil) (.cons (.cond (.e (.cmp .eq (.idx (.var 0) (.con (.int 2))) (.con (.int 0)))) (.cons (.setI 0 (.con (.int 3)) (.bin .mod (.blt .int (.cons (.bin .add (.bin .mul (.idx (.var 0) (.con (.int 3))) (.con (.int 48271))) (.con (.int 11))) .nil)) (.con (.int 2147483647)))) (.cons (.setI 0 (.con (.int 2)) (.idx (.var 0) (.con (.int 3)))) .nil)) .nil) .nil))) .nil) (.cons (.set 2 (.bin .mod (.blt .int (.cons (.idx (.var 0) (.con (.int 2))) .nil)) (.var 1))) (.cons (.setI 0 (.con (.int 2)) (.bin .fdiv (.idx (.var 0) (.con (.int 2))) (.var 1))) (.cons (.ret (.var 2)) .nil))))⟩
/-- the drawing machine -/
structure DrS where
  ms : List Int
  i : Int
  c : Int
  s : Int
def DrS.d (x : DrS) : D := .lst [.lst (x.ms.map .int), .int x.i, .int x.c, .int x.s]
structure DrS.Ok (x : DrS) : Prop where
  ms : ∀ m ∈ x.ms, 0 ≤ m
  i : -1 ≤ x.i
  c : 0 ≤ x.c
  s : 0 ≤ x.s
@[simp] theorem idx4_0 (a b c d : D) : idxV (.lst [a, b, c, d]) (.int 0) = some a := rfl
@[simp] theorem idx4_1 (a b c d : D) : idxV (.lst [a, b, c, d]) (.int 1) = some b := rfl
@[simp] theorem idx4_2 (a b c d : D) : idxV (.lst [a, b, c, d]) (.int 2) = some c := rfl
@[simp] theorem idx4_3 (a b c d : D) : idxV (.lst [a, b, c, d]) (.int 3) = some d := rfl
@[simp] theorem place4 (i : Int) (h0 : 0 ≤ i) (h : i < 4) : place 4 i = some i.toNat := place_nat h0 h
theorem mulOk_small {i j : Int} (h1 : i.natAbs.log2 < 500000) (h2 : j.natAbs.log2 < 500000) : mulOk i j = true := by
  unfold mulOk; exact decide_eq_true (by omega)
theorem log2_lt {i : Int} {k : Nat} (h : i.natAbs < 2 ^ k) (hk : 0 < k) : i.natAbs.log2 < k := by
  by_cases z : i.natAbs = 0
  · rw [z]; simpa using hk
  · exact (Nat.log2_lt z).mpr h
set_option maxHeartbeats 1000000 in
theorem take_run {fs : List Fn} {f : Nat} (hf : fs[f]? = some std_law_take) (n : Nat) (x : DrS) (h : x.Ok) (hs : x.s < 2147483648) (m : Int) (h1 : 0 < m) (h2 : m.natAbs.log2 < 9000) : ∃ y : DrS, y.Ok ∧ y.s < 2147483648 ∧ ∃ r : Int, 0 ≤ r ∧ r < m ∧
    callF fs (n + 1) f [.own x.d, .val (.int m)] = .ok (.int r) false [y.d] := by
  obtain ⟨ms, i, c, s⟩ := x
  obtain ⟨hm, hi, hc, hs0⟩ := h
  simp only at hm hi hc hs0 hs
  rw [callF_at (F := std_law_take) hf rfl rfl (by decide)]
  simp only [std_law_take, DrS.d]
  have fin : ∀ (i' c' s' : Int), -1 ≤ i' → 0 < c' → 0 ≤ s' → s' < 2147483648 → ∃ y : DrS, y.Ok ∧ y.s < 2147483648 ∧ ∃ r : Int, 0 ≤ r ∧ r < m ∧ y = ⟨ms, i', c' / m, s'⟩ ∧ r = c' % m := fun i' c' s' a1 a2 a3 a4 =>
    ⟨⟨ms, i', c' / m, s'⟩, ⟨hm, a1, Int.ediv_nonneg (by omega) (by omega), a3⟩, a4, c' % m, Int.emod_nonneg _ (by omega), Int.emod_lt_of_pos _ h1, rfl, rfl⟩
  have seed : mulOk s 48271 = true := mulOk_small (by have := log2_lt (i := s) (k := 32) (by omega) (by omega); omega) (by decide +kernel)
  have s2 : 0 ≤ (s * 48271 + 11) % 2147483647 := Int.emod_nonneg _ (by omega)
  have s3 : (s * 48271 + 11) % 2147483647 < 2147483647 := Int.emod_lt_of_pos _ (by omega)
  have md : ∀ x : Int, binV .mod (.int x) (.int 2147483647) = some (.int (x % 2147483647)) := fun x => mod_int (by omega)
  have seedpos : (s * 48271 + 11) % 2147483647 = 0 → False ∨ True := fun _ => .inr trivial
  by_cases c0 : c = 0
  · subst c0
    by_cases hl : i + 1 < (ms.length : Int)
    · obtain ⟨v, hv⟩ : ∃ v, ms[(i + 1).toNat]? = some v := ⟨_, List.getElem?_eq_getElem (by omega)⟩
      have hv0 : 0 ≤ v := hm v (List.mem_of_getElem? hv)
      have ix : idxV (.lst (ms.map .int)) (.int (i + 1)) = some (.int v) := idx_lst (by omega) (by rw [List.getElem?_map, hv]; rfl)
      by_cases v0 : v = 0
      · subst v0
        refine ⟨⟨ms, i + 1, (s * 48271 + 11) % 2147483647 / m, (s * 48271 + 11) % 2147483647⟩, ⟨hm, (show -1 ≤ i + 1 by omega), Int.ediv_nonneg s2 (by omega), s2⟩, by show (s * 48271 + 11) % 2147483647 < _; omega, (s * 48271 + 11) % 2147483647 % m, Int.emod_nonneg _ (by omega), Int.emod_lt_of_pos _ h1, ?_⟩
        simp [mod_int h1, fdiv_int h1 h2, hl, ix, mul_int seed, md]
        rfl
      · refine ⟨⟨ms, i + 1, v / m, s⟩, ⟨hm, (show -1 ≤ i + 1 by omega), Int.ediv_nonneg hv0 (by omega), hs0⟩, hs, v % m, Int.emod_nonneg _ (by omega), Int.emod_lt_of_pos _ h1, ?_⟩
        simp [mod_int h1, fdiv_int h1 h2, hl, ix, v0]
        rfl
    · refine ⟨⟨ms, i + 1, (s * 48271 + 11) % 2147483647 / m, (s * 48271 + 11) % 2147483647⟩, ⟨hm, (show -1 ≤ i + 1 by omega), Int.ediv_nonneg s2 (by omega), s2⟩, by show (s * 48271 + 11) % 2147483647 < _; omega, (s * 48271 + 11) % 2147483647 % m, Int.emod_nonneg _ (by omega), Int.emod_lt_of_pos _ h1, ?_⟩
      simp [mod_int h1, fdiv_int h1 h2, hl, mul_int seed, md]
      rfl
  · refine ⟨⟨ms, i, c / m, s⟩, ⟨hm, hi, Int.ediv_nonneg hc (by omega), hs0⟩, hs, c % m, Int.emod_nonneg _ (by omega), Int.emod_lt_of_pos _ h1, ?_⟩
    simp [c0, mod_int h1, fdiv_int h1 h2]
    rfl

/-! ### more equations -/
@[simp] theorem bindD_nm (i : Nat) (d : D) (env : Env) : bindD (.nm i) d env = if i < env.length then some (env.set i (.val d)) else none := rfl
@[simp] theorem items_scr (xs : List D) : itemsOf (.val (.scr xs)) = some xs := rfl
@[simp] theorem items_tup (xs : List D) : itemsOf (.val (.tup xs)) = some xs := rfl
@[simp] theorem items_lst (xs : List D) : itemsOf (.val (.lst xs)) = some xs := rfl
@[simp] theorem items_frs (xs : List D) : itemsOf (.fresh (.lst xs)) = some xs := rfl
theorem items_rng {lo hi : Int} {m : Nat} (h : rngN lo hi = some m) : itemsOf (.val (.rng lo hi)) = some (upto lo m) := by
  show (rngN lo hi).map (upto lo) = _
  rw [h]; rfl
theorem rngN_of {lo hi : Int} (h1 : -1000000 ≤ lo) (h2 : lo ≤ 1000000) (h3 : hi ≤ 1000000) (h4 : -1000000 ≤ hi) (h5 : (hi - lo).toNat ≤ 1000000) : rngN lo hi = some (hi - lo).toNat := by
  unfold rngN
  rw [if_pos ⟨by omega, by omega, by omega, by omega, h5⟩]
theorem callR_of {cl : Caller} {f : Nat} {ms : List Bool} {os : List Opd} {env e : Env} {sl : List Slot} {d : D} {new : Bool} {outs : List D} (h1 : nodupB (lentOf ms os) = true) (h2 : lendS env ms os = some sl) (h3 : cl f sl = .ok d new outs) (h4 : back env ms os outs = some e) :
    callR cl f ms os env = .ok (if new then .fresh d else .val d) e := by
  unfold callR
  rw [if_pos h1, h2]
  simp only [h3, h4]
  rfl
theorem set_back {env : Env} {j : Nat} {s : Slot} {e : Env} (he : ∃ t, e = env.set j t) (h : env[j]? = some s) : backE env e [j] = env := by
  obtain ⟨t, rfl⟩ := he
  unfold backE
  rw [h]
  show (env.set j t).set j s = env
  rw [List.set_set]
  apply List.ext_getElem?
  intro k
  by_cases hk : j = k
  · subst hk
    rw [List.getElem?_set_self (List.getElem?_eq_some_iff.mp h).1, h]
  · rw [List.getElem?_set_ne hk]
/-- a comprehension over a name whose parts change nothing -/
theorem comp_pure {cl : Caller} {elt : E} {it : It} {c : T} {j : Nat} {env : Env} {ds : List D} (p : D → Bool) (g : D → D) (hI : evalI cl it env = .ok ds env) (hc : ds.length ≤ cap) (hj : j < env.length)
    (h : ∀ d ∈ ds, evalT cl c (env.set j (.val d)) = .ok (p d) (env.set j (.val d)) ∧ (p d = true → ∃ o, evalE cl elt (env.set j (.val d)) = .ok o (env.set j (.val d)) ∧ o.leak = some (g d))) :
    evalE cl (.comp elt (.nm j) it c [j]) env = .ok (.fresh (.lst ((ds.filter p).map g))) env := by
  rw [evalE_comp, hI, Res.bind_ok, compK_at _ _ _ _ _ _ hc]
  obtain ⟨ys, e, h1, h2, t, h3⟩ := compT_inv (cl := cl) (t := .nm j) (c := c) (elt := elt) (own := [j]) (fun k acc e => acc = ((ds.take k).filter p).map g ∧ ∃ t, e = env.set j t) ds 0 [] env
    ⟨by simp, env[j], by rw [List.set_getElem_self]⟩ fun i d acc e hd hi => by
      obtain ⟨rfl, t, rfl⟩ := hi
      have hm : d ∈ ds := List.mem_of_getElem? hd
      obtain ⟨h1, h2⟩ := h d hm
      have tk : ds.take (0 + i + 1) = ds.take (0 + i) ++ [d] := by
        rw [Nat.zero_add, List.take_add_one, hd]; rfl
      refine ⟨env.set j (.val d), ?_, ?_⟩
      · simp [wipeE, hj]
      · cases hp : p d with
        | false =>
          refine .inl ⟨_, by rw [h1, hp], ?_, _, rfl⟩
          rw [tk, List.filter_append, List.map_append]
          simp [hp]
        | true =>
          obtain ⟨o, g1, g2⟩ := h2 hp
          refine .inr ⟨_, o, _, g d, by rw [h1, hp], g1, g2, ?_, _, rfl⟩
          rw [tk, List.filter_append, List.map_append]
          simp [hp]
  rw [h1]
  simp only [Res.bind_ok, compEnd_at, Nat.zero_add, List.take_length] at h2 ⊢
  rw [h2, set_back ⟨t, h3⟩ (List.getElem?_eq_getElem hj)]
theorem comp_map {cl : Caller} {elt : E} {it : It} {j : Nat} {env : Env} {ds : List D} (g : D → D) (hI : evalI cl it env = .ok ds env) (hc : ds.length ≤ cap) (hj : j < env.length)
    (h : ∀ d ∈ ds, ∃ o, evalE cl elt (env.set j (.val d)) = .ok o (env.set j (.val d)) ∧ o.leak = some (g d)) :
    evalE cl (.comp elt (.nm j) it .yes [j]) env = .ok (.fresh (.lst (ds.map g))) env := by
  have := comp_pure (c := .yes) (fun _ => true) g hI hc hj fun d hd => ⟨by simp, fun _ => h d hd⟩
  rw [this]
  congr 4
  exact List.filter_eq_self.mpr fun _ _ => rfl
/-- taking a number -/
theorem take_call {fs : List Fn} {f : Nat} (hf : fs[f]? = some std_law_take) (n : Nat) {env : Env} {i : Nat} {x : DrS} (he : env[i]? = some (.own x.d)) (h : x.Ok) (hs : x.s < 2147483648) {m : Int} (h1 : 0 < m) (h2 : m.natAbs.log2 < 9000) : ∃ y : DrS, y.Ok ∧ y.s < 2147483648 ∧ ∃ r : Int, 0 ≤ r ∧ r < m ∧
    callR (callF fs (n + 1)) f [true, false] [.slot i, .val (.int m)] env = .ok (.val (.int r)) (env.set i (.own y.d)) := by
  obtain ⟨y, hy, hys, r, r1, r2, hr⟩ := take_run hf n x h hs m h1 h2
  refine ⟨y, hy, hys, r, r1, r2, ?_⟩
  have hl : lendS env [true, false] [.slot i, .val (.int m)] = some [.own x.d, .val (.int m)] := by
    show (match env[i]? with | some (.own d) => _ | _ => none) = _
    rw [he]
    rfl
  exact callR_of (new := false) (by simp [lentOf, nodupB]) hl hr rfl
theorem draw_run {fs : List Fn} {f : Nat} (hf : fs[f]? = some std_law_draw) (n : Nat) (ns : List Int) (hl : ns.length ≤ 63) : ∃ x : DrS, x.Ok ∧ x.s < 2147483648 ∧ callF fs (n + 1) f [.val (.scr (ns.map .int))] = .ok x.d true [] := by
  rw [callF_at (F := std_law_draw) hf rfl rfl (by decide)]
  simp only [std_law_draw]
  have md : ∀ x : Int, binV .mod (.int x) (.int 2147483647) = some (.int (x % 2147483647)) := fun x => mod_int (by omega)
  have md2 : ∀ x : Int, binV .mod (.int x) (.int 65521) = some (.int (x % 65521)) := fun x => mod_int (by omega)
  obtain ⟨e, h1, seed, t, h2, h3, h4⟩ := forT_inv (cl := callF fs n) (t := .nm 2) (b := std_law_draw_b1) (fun _ e => ∃ seed : Int, ∃ t, e = [.val (.scr (ns.map .int)), .val (.int seed), t] ∧ 0 ≤ seed ∧ seed < 2147483648) (ns.map .int) 0 [.val (.scr (ns.map .int)), .val (.int 7), .un]
    ⟨7, _, rfl, by omega, by omega⟩ fun i d env hd hi => by
      obtain ⟨seed, t, rfl, h3, h4⟩ := hi
      rw [List.getElem?_map] at hd
      obtain ⟨v, _, rfl⟩ := Option.map_eq_some_iff.mp hd
      have sm : mulOk seed 48271 = true := mulOk_small (by have := log2_lt (i := seed) (k := 32) (by omega) (by omega); omega) (by decide +kernel)
      refine ⟨_, by simp; rfl, ?_⟩
      refine ⟨_, .inl (by simp [std_law_draw_b1, mul_int sm, md, md2]; rfl), ?_⟩
      exact ⟨_, _, rfl, Int.emod_nonneg _ (by omega), by have := Int.emod_lt_of_pos (seed * 48271 + (if v < 0 then -v else v) % 65521 + 1) (b := 2147483647) (by omega); omega⟩
  subst h2
  have hc : evalE (callF fs n) std_law_draw_c2 [.val (.scr (ns.map .int)), .val (.int seed), t] = .ok (.fresh (.lst ((ns.map fun v => if v < 0 then -v else v).map .int))) [.val (.scr (ns.map .int)), .val (.int seed), t] := by
    have := comp_map (cl := callF fs n) (elt := std_law_draw_c2e) (it := .plain (.var 0)) (j := 2) (env := [.val (.scr (ns.map .int)), .val (.int seed), t]) (ds := ns.map .int) (fun d => match d with | .int v => .int (if v < 0 then -v else v) | d => d) (by simp) (by
      have : cap = 1000000 := rfl
      rw [List.length_map]; omega) (by simp) fun d hd => by
        obtain ⟨v, _, rfl⟩ := List.mem_map.mp hd
        exact ⟨.val (.int (if v < 0 then -v else v)), by simp [std_law_draw_c2e], rfl⟩
    unfold std_law_draw_c2
    rw [this]
    simp [List.map_map, Function.comp_def]
  refine ⟨⟨ns.map fun v => if v < 0 then -v else v, -1, 0, seed⟩, ⟨fun m hm => ?_, by show (-1 : Int) ≤ -1; omega, by show (0 : Int) ≤ 0; omega, h3⟩, h4, ?_⟩
  · obtain ⟨v, _, rfl⟩ := List.mem_map.mp hm
    split <;> omega
  · simp [evalS_for, h1, hc, DrS.d, endOf, outsOf]

/-! ### raise, try, calls of values -/
section
variable {cl : Caller} {env e : Env}
@[simp] theorem evalS_raise (c : Nat) : evalS cl (.raise c .no) env = .exc ⟨c, none⟩ env := by rw [evalS]
def tryK (cl : Caller) (hs : Hs) : Fl → Fl
  | .exc x e => evalHs cl hs x e
  | r => r
@[simp] theorem tryK_exc (hs : Hs) (x : Xn) (e : Env) : tryK cl hs (.exc x e) = evalHs cl hs x e := rfl
@[simp] theorem tryK_rt (hs : Hs) (o : Opd) (e : Env) : tryK cl hs (.rt o e) = .rt o e := rfl
@[simp] theorem tryK_nx (hs : Hs) (e : Env) : tryK cl hs (.nx e) = .nx e := rfl
@[simp] theorem evalS_try (b : Ss) (hs : Hs) : evalS cl (.tryX b hs) env = tryK cl hs (evalSs cl b env) := by
  rw [evalS]
  cases evalSs cl b env <;> rfl
@[simp] theorem hRet_ok (o : Opd) (e : Env) : hRet (.ok o e) = .rt o (clrEx e) := rfl
theorem hs_nil (x : Xn) : evalHs cl .nil x env = .exc x env := rfl
@[simp] theorem hs_hit (c : Nat) (a : E) (r : Hs) (d : Option D) : evalHs cl (.cons c none a r) ⟨c, d⟩ env = hRet (evalE cl a env) := if_pos rfl
@[simp] theorem hs_hitAs (c i : Nat) (a : E) (r : Hs) (d : Option D) : evalHs cl (.cons c (some i) a r) ⟨c, d⟩ env = if i < env.length then hRet (evalE cl a (env.set i (.ex ⟨c, d⟩))) else .stk := if_pos rfl
theorem hs_miss (c c' : Nat) (i : Option Nat) (a : E) (r : Hs) (d : Option D) (h : c' ≠ c) : evalHs cl (.cons c i a r) ⟨c', d⟩ env = evalHs cl r ⟨c', d⟩ env := if_neg h
@[simp] theorem clr_nil : clrEx [] = [] := rfl
@[simp] theorem clr_val (d : D) (e : Env) : clrEx (.val d :: e) = .val d :: clrEx e := rfl
@[simp] theorem clr_own (d : D) (e : Env) : clrEx (.own d :: e) = .own d :: clrEx e := rfl
@[simp] theorem clr_un (e : Env) : clrEx (.un :: e) = .un :: clrEx e := rfl
@[simp] theorem clr_ex (x : Xn) (e : Env) : clrEx (.ex x :: e) = .un :: clrEx e := rfl
def xisR (c : Nat) (b : Bool) (e : Env) : Option Slot → Res Opd
  | some (.ex ⟨c', _⟩) => if c' = c then .ok (.val (.bl b)) e else .stk
  | _ => .stk
@[simp] theorem xisR_ex (c c' : Nat) (b : Bool) (e : Env) (d : Option D) : xisR c b e (some (.ex ⟨c', d⟩)) = if c' = c then .ok (.val (.bl b)) e else .stk := rfl
@[simp] theorem evalE_xis (i c : Nat) (b : Bool) : evalE cl (.xisi i c b) env = xisR c b env env[i]? := by rw [evalE]; rfl
def cvL (cl : Caller) (f : Nat) (os : List Opd) (e : Env) : Res Opd := callR cl f (os.map fun _ => false) os e
@[simp] theorem cvL_at (f : Nat) (os : List Opd) (e : Env) : cvL cl f os e = callR cl f (os.map fun _ => false) os e := rfl
def cvK (cl : Caller) (fl : List Nat) (es : Es) (x : Opd) (e : Env) : Res Opd := match x with
  | .val (.fn f) => if fl.contains f then (evalEs cl es e).bind (cvL cl f) else .stk
  | _ => .stk
@[simp] theorem cvK_fn (fl : List Nat) (es : Es) (f : Nat) (e : Env) : cvK cl fl es (.val (.fn f)) e = if fl.contains f then (evalEs cl es e).bind (cvL cl f) else .stk := rfl
@[simp] theorem evalE_callv (fl : List Nat) (a : E) (es : Es) : evalE cl (.callv fl a es) env = (evalE cl a env).bind (cvK cl fl es) := by
  rw [evalE]
  congr 1
theorem callR_exc {f : Nat} {ms : List Bool} {os : List Opd} {sl : List Slot} {x : Xn} {outs : List D} (h1 : nodupB (lentOf ms os) = true) (h2 : lendS env ms os = some sl) (h3 : cl f sl = .exc x outs) (h4 : back env ms os outs = some e) : callR cl f ms os env = .exc x e := by
  unfold callR
  rw [if_pos h1, h2]
  simp only [h3, h4]
  rfl
end
/-! ### more of what loops walk -/
section
variable {cl : Caller} {env e : Env}
def zip2 (x y : Opd) (e : Env) : Res (List D) := ofO (zipO x y) e
@[simp] theorem zip2_at (x y : Opd) (e : Env) : zip2 x y e = ofO (zipO x y) e := rfl
def zipK (cl : Caller) (b : E) (x : Opd) (e : Env) : Res (List D) := (evalE cl b e).bind (zip2 x)
@[simp] theorem zipK_at (b : E) (x : Opd) (e : Env) : zipK cl b x e = (evalE cl b e).bind (zip2 x) := rfl
@[simp] theorem evalI_zip (a b : E) : evalI cl (.zip a b) env = (evalE cl a env).bind (zipK cl b) := by rw [evalI]; rfl
def enumK (x : Opd) (e : Env) : Res (List D) := ofO (enumO x) e
@[simp] theorem enumK_at (x : Opd) (e : Env) : enumK x e = ofO (enumO x) e := rfl
@[simp] theorem evalI_enum (a : E) : evalI cl (.enum a) env = (evalE cl a env).bind enumK := by rw [evalI]; rfl
@[simp] theorem zipO_ff (xs ys : List D) : zipO (.fresh (.lst xs)) (.fresh (.lst ys)) = some (zipL xs ys) := rfl
@[simp] theorem zipO_vf (xs ys : List D) : zipO (.val (.lst xs)) (.fresh (.lst ys)) = some (zipL xs ys) := rfl
@[simp] theorem zipO_fv (xs ys : List D) : zipO (.fresh (.lst xs)) (.val (.lst ys)) = some (zipL xs ys) := rfl
@[simp] theorem zipO_vv (xs ys : List D) : zipO (.val (.lst xs)) (.val (.lst ys)) = some (zipL xs ys) := rfl
@[simp] theorem zipO_tt (xs ys : List D) : zipO (.val (.tup xs)) (.val (.tup ys)) = some (zipL xs ys) := rfl
@[simp] theorem enumO_v (xs : List D) : enumO (.val (.lst xs)) = some (enumL 0 xs) := rfl
@[simp] theorem enumO_f (xs : List D) : enumO (.fresh (.lst xs)) = some (enumL 0 xs) := rfl
@[simp] theorem enumO_t (xs : List D) : enumO (.val (.tup xs)) = some (enumL 0 xs) := rfl
end
theorem zipL_ints : ∀ (as bs : List Int), zipL (as.map .int) (bs.map .int) = (as.zip bs).map fun p => D.tup [.int p.1, .int p.2]
  | [], bs => by cases bs <;> rfl
  | a :: as, [] => rfl
  | a :: as, b :: bs => by
    show D.tup [.int a, .int b] :: zipL (as.map .int) (bs.map .int) = _
    rw [zipL_ints as bs]; rfl
theorem add_lst {xs ys : List D} (h : xs.length + ys.length ≤ cap) : binV .add (.lst xs) (.lst ys) = some (.lst (xs ++ ys)) := if_pos h
theorem add_tup {xs ys : List D} (h : xs.length + ys.length ≤ cap) : binV .add (.tup xs) (.tup ys) = some (.tup (xs ++ ys)) := if_pos h
/-! ### calls with shared arguments -/
theorem lend_vals (env : Env) : ∀ ds : List D, lendS env (ds.map fun _ => false) (ds.map .val) = some (ds.map .val)
  | [] => rfl
  | d :: ds => by
    show ((lendS env (ds.map fun _ => false) (ds.map .val)).map (Slot.val d :: ·)) = _
    rw [lend_vals env ds]
    rfl
theorem back_vals (env : Env) : ∀ ds : List D, back env (ds.map fun _ => false) (ds.map .val) [] = some env
  | [] => rfl
  | d :: ds => back_vals env ds
theorem lent_vals : ∀ ds : List D, lentOf (ds.map fun _ => false) (ds.map .val) = []
  | [] => rfl
  | d :: ds => lent_vals ds
/-- one, two, three shared arguments -/
theorem call_v1 {cl : Caller} {f : Nat} {a d : D} {new : Bool} {env : Env} (h : cl f [.val a] = .ok d new []) : callR cl f [false] [.val a] env = .ok (if new then .fresh d else .val d) env := callR_of rfl rfl h rfl
theorem call_v2 {cl : Caller} {f : Nat} {a b d : D} {new : Bool} {env : Env} (h : cl f [.val a, .val b] = .ok d new []) : callR cl f [false, false] [.val a, .val b] env = .ok (if new then .fresh d else .val d) env := callR_of rfl rfl h rfl
theorem call_v3 {cl : Caller} {f : Nat} {a b c d : D} {new : Bool} {env : Env} (h : cl f [.val a, .val b, .val c] = .ok d new []) : callR cl f [false, false, false] [.val a, .val b, .val c] env = .ok (if new then .fresh d else .val d) env := callR_of rfl rfl h rfl
theorem call_f1 {cl : Caller} {f : Nat} {a d : D} {new : Bool} {env : Env} (h : cl f [.val a] = .ok d new []) : callR cl f [false] [.fresh a] env = .ok (if new then .fresh d else .val d) env := callR_of rfl rfl h rfl
theorem call_x1 {cl : Caller} {f : Nat} {a : D} {x : Xn} {env : Env} (h : cl f [.val a] = .exc x []) : callR cl f [false] [.val a] env = .exc x env := callR_exc rfl rfl h rfl
theorem call_x2 {cl : Caller} {f : Nat} {a b : D} {x : Xn} {env : Env} (h : cl f [.val a, .val b] = .exc x []) : callR cl f [false, false] [.val a, .val b] env = .exc x env := callR_exc rfl rfl h rfl
end Pd
set_option autoImplicit false
set_option linter.all false
namespace Pd
open PySem (Str)
/-! fractions: the program's, the law's -/
def std_common_b1 : Ss := (.cons (.par [0, 1] (.cons (.var 1) (.cons (.bin .mod (.var 0) (.var 1)) .nil))) .nil)
def std_common_t2 : T := (.e (.cmp .ne (.var 1) (.con (.int 0))))
def std_common : Fn := ⟨"common", ["a", "b"], ["a", "b"], [false, false],
  (.cons (.par [0, 1] (.cons (.blt .abs (.cons (.var 0) .nil)) (.cons (.blt .abs (.cons (.var 1) .nil)) .nil))) (.cons (.whl std_common_t2 std_common_b1) (.cons (.ret (.var 0)) .nil)))⟩
def std_lowest (c : Nat) : Fn := ⟨"lowest", ["n", "d"], ["n", "d", "g"], [false, false],
  (.cons (.set 2 (.call c [false, false] (.cons (.var 0) (.cons (.var 1) .nil)))) (.cons (.frz 2) (.cons (.cond (.e (.cmp .lt (.var 1) (.con (.int 0)))) (.cons (.set 2 (.un .neg (.var 2))) .nil) .nil) (.cons (.ret (.tup (.cons (.bin .fdiv (.var 0) (.var 2)) (.cons (.bin .fdiv (.var 1) (.var 2)) .nil)))) .nil))))⟩
def std_is_whole : Fn := ⟨"is_whole", ["value"], ["value"], [false],
  (.cons (.ret (.and (.blt (.isi .int) (.cons (.var 0) .nil)) (.not (.blt (.isi .bool) (.cons (.var 0) .nil))))) .nil)⟩
def std_is_ratio (w c : Nat) : Fn := ⟨"is_ratio", ["value"], ["value"], [false],
  (.cons (.cond (.or (.not (.e (.blt (.isi .tuple) (.cons (.var 0) .nil)))) (.or (.e (.cmp .ne (.blt .len (.cons (.var 0) .nil)) (.con (.int 2)))) (.or (.not (.e (.call w [false] (.cons (.idx (.var 0) (.con (.int 0))) .nil)))) (.not (.e (.call w [false] (.cons (.idx (.var 0) (.con (.int 1))) .nil))))))) (.cons (.ret (.con (.bl false))) .nil) .nil) (.cons (.ret (.and (.cmp .gt (.idx (.var 0) (.con (.int 1))) (.con (.int 0))) (.cmp .eq (.call c [false, false] (.cons (.idx (.var 0) (.con (.int 0))) (.cons (.idx (.var 0) (.con (.int 1))) .nil))) (.con (.int 1))))) .nil))⟩
def std_plus (l : Nat) (nm : Str) : Fn := ⟨nm, ["a", "b"], ["a", "b"], [false, false],
  (.cons (.ret (.call l [false, false] (.cons (.bin .add (.bin .mul (.idx (.var 0) (.con (.int 0))) (.idx (.var 1) (.con (.int 1)))) (.bin .mul (.idx (.var 1) (.con (.int 0))) (.idx (.var 0) (.con (.int 1))))) (.cons (.bin .mul (.idx (.var 0) (.con (.int 1))) (.idx (.var 1) (.con (.int 1)))) .nil)))) .nil)⟩
def std_times (l : Nat) (nm : Str) : Fn := ⟨nm, ["a", "b"], ["a", "b"], [false, false],
  (.cons (.ret (.call l [false, false] (.cons (.bin .mul (.idx (.var 0) (.con (.int 0))) (.idx (.var 1) (.con (.int 0)))) (.cons (.bin .mul (.idx (.var 0) (.con (.int 1))) (.idx (.var 1) (.con (.int 1)))) .nil)))) .nil)⟩
def std_gcd2_b1 : Ss := (.cons (.par [0, 1] (.cons (.var 1) (.cons (.bin .mod (.blt .int (.cons (.var 0) .nil)) (.var 1)) .nil))) .nil)
def std_gcd2_t2 : T := (.e (.cmp .gt (.var 1) (.con (.int 0))))
def std_gcd2 : Fn := ⟨"_law_gcd2", ["a", "b"], ["a", "b"], [false, false],
  (.cons (.whl std_gcd2_t2 std_gcd2_b1) (.cons (.ret (.var 0)) .nil))⟩
def std_low (g : Nat) : Fn := ⟨"_law_low", ["n", "d"], ["n", "d", "k"], [false, false],
  (.cons (.set 2 (.call g [false, false] (.cons (.blt .abs (.cons (.var 0) .nil)) (.cons (.var 1) .nil)))) (.cons (.frz 2) (.cons (.ret (.tup (.cons (.bin .fdiv (.var 0) (.var 2)) (.cons (.bin .fdiv (.var 1) (.var 2)) .nil)))) .nil)))⟩

theorem half_mod {b c : Nat} {m : Nat} (hc : c < b) (hb : b < 2 ^ (m + 1)) (h0 : 0 < c) : b % c < 2 ^ m := by
  rw [Nat.pow_succ] at hb
  by_cases h : 2 * c ≤ b
  · exact Nat.lt_of_lt_of_le (Nat.mod_lt _ h0) (by omega)
  · have : b % c = b - c := by rw [Nat.mod_eq_sub_mod (by omega), Nat.mod_eq_of_lt (by omega)]
    omega
/-- Euclid's loop, for any test and body that do so -/
theorem euclid {cl : Caller} {t : T} {b : Ss} (ht : ∀ x y : Nat, evalT cl t [.val (.int x), .val (.int y)] = .ok (decide (y ≠ 0)) [.val (.int x), .val (.int y)])
    (hb : ∀ x y : Nat, y ≠ 0 → evalSs cl b [.val (.int x), .val (.int y)] = .nx [.val (.int y), .val (.int (x % y : Nat))]) :
    ∀ (m x y n : Nat), y < 2 ^ m → 2 * m + 1 ≤ n → whlT cl t b n [.val (.int x), .val (.int y)] = .nx [.val (.int (Nat.gcd x y)), .val (.int 0)] := by
  have zero : ∀ (x n : Nat), 1 ≤ n → whlT cl t b n [.val (.int x), .val (.int (0 : Nat))] = .nx [.val (.int x), .val (.int 0)] := by
    intro x n hn
    obtain ⟨n, rfl⟩ : ∃ k, n = k + 1 := ⟨n - 1, by omega⟩
    unfold whlT whlL
    rw [ht x 0]
    rfl
  have step : ∀ (x y n : Nat), y ≠ 0 → whlT cl t b (n + 1) [.val (.int x), .val (.int y)] = whlT cl t b n [.val (.int y), .val (.int (x % y : Nat))] := by
    intro x y n hy
    show whlL _ _ (n + 1) _ = _
    unfold whlL
    simp only [ht x y, hb x y hy, decide_eq_true hy]
    rfl
  intro m
  induction m with
  | zero =>
    intro x y n hy hn
    have : y = 0 := by simpa using hy
    subst this
    rw [zero x n (by omega), Nat.gcd_zero_right]
  | succ m ih =>
    intro x y n hy hn
    by_cases h0 : y = 0
    · subst h0
      rw [zero x n (by omega), Nat.gcd_zero_right]
    · obtain ⟨n, rfl⟩ : ∃ k, n = k + 2 := ⟨n - 2, by omega⟩
      rw [show n + 2 = (n + 1) + 1 from rfl, step x y _ h0]
      have e1 : Nat.gcd x y = Nat.gcd y (x % y) := by rw [Nat.gcd_comm x y, Nat.gcd_rec, Nat.gcd_comm]
      by_cases h1 : x % y = 0
      · rw [h1, zero y _ (by omega), e1, h1, Nat.gcd_zero_right]
      · rw [step y (x % y) n h1, ih _ _ n (half_mod (Nat.mod_lt _ (by omega)) hy (by omega)) (by omega), e1]
        rw [Nat.gcd_comm y, Nat.gcd_rec (x % y) y, Nat.gcd_comm]
theorem fuel_big : 2 * 9000 + 1 ≤ fuel := by decide
theorem mod_nat {x y : Nat} (hy : y ≠ 0) : binV .mod (.int x) (.int y) = some (.int (x % y : Nat)) := by
  rw [mod_int (by omega)]; rfl
section
variable {fs : List Fn} {f c l w : Nat}
theorem abs_eq (i : Int) : (if i < 0 then -i else i) = (i.natAbs : Int) := by
  split <;> omega
theorem common_run (hf : fs[f]? = some std_common) (n : Nat) (a b : Int) (hb : b.natAbs < 2 ^ 9000) : callF fs (n + 1) f [.val (.int a), .val (.int b)] = .ok (.int (Int.gcd a b : Nat)) false [] := by
  rw [callF_at hf rfl rfl (by decide)]
  have e := euclid (cl := callF fs n) (t := std_common_t2) (b := std_common_b1) (fun x y => by
    by_cases h : y = 0 <;> simp [std_common_t2, h]) (fun x y hy => by
    have := mod_nat (x := x) hy
    simp [std_common_b1, this]) 9000 a.natAbs b.natAbs fuel hb fuel_big
  simp only [std_common, evalSs_cons, evalS_par, evalEs_cons, evalEs_nil, evalE_blt, evalE_var]
  simp [abs_eq, evalS_whl, e, endOf, outsOf]
  rfl
theorem gcd2_run (hf : fs[f]? = some std_gcd2) (n : Nat) (a b : Nat) (hb : b < 2 ^ 9000) : callF fs (n + 1) f [.val (.int a), .val (.int b)] = .ok (.int (Nat.gcd a b : Nat)) false [] := by
  rw [callF_at hf rfl rfl (by decide)]
  have e := euclid (cl := callF fs n) (t := std_gcd2_t2) (b := std_gcd2_b1) (fun x y => by
    by_cases h : y = 0
    · simp [std_gcd2_t2, h]
    · have : 0 < y := by omega
      simp [std_gcd2_t2, h, this]) (fun x y hy => by
    have := mod_nat (x := x) hy
    simp [std_gcd2_b1, this]) 9000 a b fuel hb fuel_big
  simp [std_gcd2, evalS_whl, e, endOf, outsOf]
/-- a fraction as data -/
def qD (r : Rat) : D := .tup [.int r.num, .int r.den]
/-- of at most so many bits -/
structure Sm (B : Nat) (r : Rat) : Prop where
  n : r.num.natAbs < 2 ^ B
  d : r.den < 2 ^ B
theorem Sm.le {A B : Nat} {r : Rat} (h : Sm A r) (hl : A ≤ B) : Sm B r :=
  ⟨Nat.lt_of_lt_of_le h.n (Nat.pow_le_pow_right (by omega) hl), Nat.lt_of_lt_of_le h.d (Nat.pow_le_pow_right (by omega) hl)⟩
theorem sm_mk {n : Int} {d A : Nat} (hn : n.natAbs < 2 ^ A) (hd : d < 2 ^ A) (hA : 1 ≤ A) : Sm A (mkRat n d) := by
  have two : 2 ≤ 2 ^ A := by
    have := Nat.pow_le_pow_right (n := 2) (by omega) hA
    simpa using this
  refine ⟨?_, ?_⟩
  · rw [Rat.num_mkRat]
    split
    · simp; omega
    · exact Nat.lt_of_le_of_lt (by
        rw [Int.natAbs_ediv_of_dvd (by exact Int.ofNat_dvd_left.mpr (Nat.gcd_dvd_right _ _))]
        exact Nat.div_le_self _ _) hn
  · rw [Rat.den_mkRat]
    split
    · omega
    · exact Nat.lt_of_le_of_lt (Nat.div_le_self _ _) hd
theorem mul_lt_pow {a b A B : Nat} (ha : a < 2 ^ A) (hb : b < 2 ^ B) : a * b < 2 ^ (A + B) := by
  rw [Nat.pow_add]; exact Nat.mul_lt_mul'' ha hb
theorem Sm.mul {A B : Nat} {a b : Rat} (ha : Sm A a) (hb : Sm B b) (h : 1 ≤ A) : Sm (A + B) (a * b) := by
  rw [Rat.mul_def']
  exact sm_mk (by rw [Int.natAbs_mul]; exact mul_lt_pow ha.n hb.n) (mul_lt_pow ha.d hb.d) (by omega)
theorem Sm.add {A B : Nat} {a b : Rat} (ha : Sm A a) (hb : Sm B b) : Sm (A + B + 1) (a + b) := by
  rw [Rat.add_def']
  refine sm_mk ?_ (Nat.lt_of_lt_of_le (mul_lt_pow ha.d hb.d) (Nat.pow_le_pow_right (by omega) (by omega))) (by omega)
  have h1 := mul_lt_pow ha.n hb.d
  have h2 := mul_lt_pow hb.n ha.d
  have e1 : (a.num * (b.den : Int)).natAbs = a.num.natAbs * b.den := by rw [Int.natAbs_mul]; rfl
  have e2 : (b.num * (a.den : Int)).natAbs = b.num.natAbs * a.den := by rw [Int.natAbs_mul]; rfl
  have h3 := Int.natAbs_add_le (a.num * (b.den : Int)) (b.num * (a.den : Int))
  rw [Nat.add_comm B A] at h2
  rw [Nat.pow_succ]
  omega
theorem Sm.int {i : Int} {B : Nat} (h : i.natAbs < 2 ^ B) (hB : 1 ≤ B) : Sm B (i : Rat) := ⟨h, by
  show 1 < 2 ^ B
  have := Nat.pow_le_pow_right (n := 2) (by omega) hB
  omega⟩
theorem gcd_pos {n : Int} {d : Nat} (hd : 0 < d) : 0 < Int.gcd n d := Int.gcd_pos_of_ne_zero_right _ (by omega)
theorem mk_eq {n : Int} {d : Nat} (hd : 0 < d) : (mkRat n d).num = n / (Int.gcd n d : Nat) ∧ (mkRat n d).den = d / Int.gcd n d := by
  have e : Int.gcd n d = d.gcd n.natAbs := by rw [Nat.gcd_comm]; rfl
  rw [Rat.num_mkRat, Rat.den_mkRat, if_neg (by omega), if_neg (by omega), e]
  exact ⟨rfl, rfl⟩
theorem log2_of_lt {x : Nat} {B : Nat} (h : x < 2 ^ B) (hB : 0 < B) : x.log2 < B := by
  by_cases z : x = 0
  · subst z; simpa using hB
  · exact (Nat.log2_lt z).mpr h
theorem gcd_lt {n : Int} {d B : Nat} (hd : 0 < d) (hb : d < 2 ^ B) : Int.gcd n d < 2 ^ B :=
  Nat.lt_of_le_of_lt (Nat.le_of_dvd hd (Nat.gcd_dvd_right _ _)) hb
theorem lowest_run (hf : fs[f]? = some (std_lowest c)) (hc : fs[c]? = some std_common) (n : Nat) (a : Int) (d : Nat) (hd : 0 < d) (hb : d < 2 ^ 9000) : callF fs (n + 2) f [.val (.int a), .val (.int d)] = .ok (qD (mkRat a d)) false [] := by
  rw [callF_at hf rfl rfl (by decide : (2 : Nat) ≤ 3)]
  have e := common_run hc n a d (by simpa using hb)
  have hg := gcd_pos (n := a) hd
  have h1 := fdiv_int (i := a) (j := (Int.gcd a d : Nat)) (by omega) (log2_of_lt (gcd_lt hd hb) (by omega))
  have h2 := fdiv_int (i := (d : Int)) (j := (Int.gcd a d : Nat)) (by omega) (log2_of_lt (gcd_lt hd hb) (by omega))
  obtain ⟨m1, m2⟩ := mk_eq (n := a) hd
  have nn : ¬ ((d : Int) < 0) := by omega
  have cr := call_v2 (cl := callF fs (n + 1)) (env := [.val (.int a), .val (.int d), .un]) e
  simp [std_lowest, cr, h1, h2, nn, endOf, outsOf, qD, m1, m2]
theorem low_run (hf : fs[f]? = some (std_low c)) (hc : fs[c]? = some std_gcd2) (n : Nat) (a : Int) (d : Nat) (hd : 0 < d) (hb : d < 2 ^ 9000) : callF fs (n + 2) f [.val (.int a), .val (.int d)] = .ok (qD (mkRat a d)) false [] := by
  rw [callF_at hf rfl rfl (by decide : (2 : Nat) ≤ 3)]
  have e := gcd2_run hc n a.natAbs d hb
  have eg : Nat.gcd a.natAbs d = Int.gcd a d := rfl
  have hg := gcd_pos (n := a) hd
  have h1 := fdiv_int (i := a) (j := (Int.gcd a d : Nat)) (by omega) (log2_of_lt (gcd_lt hd hb) (by omega))
  have h2 := fdiv_int (i := (d : Int)) (j := (Int.gcd a d : Nat)) (by omega) (log2_of_lt (gcd_lt hd hb) (by omega))
  obtain ⟨m1, m2⟩ := mk_eq (n := a) hd
  have cr := call_v2 (cl := callF fs (n + 1)) (env := [.val (.int a), .val (.int d), .un]) e
  rw [eg] at cr
  simp [std_low, abs_eq, cr, h1, h2, endOf, outsOf, qD, m1, m2]
@[simp] theorem idx2_0 (a b : D) : idxV (.tup [a, b]) (.int 0) = some a := rfl
@[simp] theorem idx2_1 (a b : D) : idxV (.tup [a, b]) (.int 1) = some b := rfl
theorem mulOk_bits {i j : Int} {A : Nat} (h1 : i.natAbs < 2 ^ A) (h2 : j.natAbs < 2 ^ A) (hA : A ≤ 400000) (h0 : 0 < A) : mulOk i j = true := by
  have := log2_lt h1 h0
  have := log2_lt h2 h0
  exact mulOk_small (by omega) (by omega)
/-- what a reducing function promises -/
def Lows (fs : List Fn) (l : Nat) : Prop := ∀ (n : Nat) (a : Int) (d : Nat), 0 < d → d < 2 ^ 9000 → callF fs (n + 2) l [.val (.int a), .val (.int d)] = .ok (qD (mkRat a d)) false []
theorem plus_run {nm : Str} (hf : fs[f]? = some (std_plus l nm)) (hl : Lows fs l) (n : Nat) {a b : Rat} {A : Nat} (ha : Sm A a) (hb : Sm A b) (hA : A ≤ 4000) : callF fs (n + 3) f [.val (qD a), .val (qD b)] = .ok (qD (a + b)) false [] := by
  rw [callF_at hf rfl rfl (by decide : (2 : Nat) ≤ 2)]
  have h0 : 0 < A := by
    rcases Nat.eq_zero_or_pos A with h | h
    · subst h
      have := ha.d
      have := a.den_pos
      simp at *; omega
    · exact h
  have m1 : mulOk a.num b.den = true := mulOk_bits ha.n (by simpa using hb.d) (by omega) h0
  have m2 : mulOk b.num a.den = true := mulOk_bits hb.n (by simpa using ha.d) (by omega) h0
  have m3 : mulOk a.den b.den = true := mulOk_bits (by simpa using ha.d) (by simpa using hb.d) (by omega) h0
  have e := hl n (a.num * b.den + b.num * a.den) (a.den * b.den) (Nat.mul_pos a.den_pos b.den_pos) (Nat.lt_of_lt_of_le (mul_lt_pow ha.d hb.d) (Nat.pow_le_pow_right (by omega) (by omega)))
  rw [← Rat.add_def'] at e
  have cr := call_v2 (cl := callF fs (n + 2)) (env := [.val (qD a), .val (qD b)]) e
  simp only [Int.natCast_mul] at cr
  simp only [qD] at cr ⊢
  simp [std_plus, mul_int m1, mul_int m2, mul_int m3, cr, endOf, outsOf]
theorem times_run {nm : Str} (hf : fs[f]? = some (std_times l nm)) (hl : Lows fs l) (n : Nat) {a b : Rat} {A : Nat} (ha : Sm A a) (hb : Sm A b) (hA : A ≤ 4000) : callF fs (n + 3) f [.val (qD a), .val (qD b)] = .ok (qD (a * b)) false [] := by
  rw [callF_at hf rfl rfl (by decide : (2 : Nat) ≤ 2)]
  have h0 : 0 < A := by
    rcases Nat.eq_zero_or_pos A with h | h
    · subst h
      have := ha.d
      have := a.den_pos
      simp at *; omega
    · exact h
  have m1 : mulOk a.num b.num = true := mulOk_bits ha.n hb.n (by omega) h0
  have m3 : mulOk a.den b.den = true := mulOk_bits (by simpa using ha.d) (by simpa using hb.d) (by omega) h0
  have e := hl n (a.num * b.num) (a.den * b.den) (Nat.mul_pos a.den_pos b.den_pos) (Nat.lt_of_lt_of_le (mul_lt_pow ha.d hb.d) (Nat.pow_le_pow_right (by omega) (by omega)))
  rw [← Rat.mul_def'] at e
  have cr := call_v2 (cl := callF fs (n + 2)) (env := [.val (qD a), .val (qD b)]) e
  simp only [Int.natCast_mul] at cr
  simp only [qD] at cr ⊢
  simp [std_times, mul_int m1, mul_int m3, cr, endOf, outsOf]
end
end Pd
set_option autoImplicit false
set_option linter.all false
namespace Pd
open PySem (Str)
/-! loops, once more -/
section
variable {cl : Caller} {env e : Env}
theorem forT_nil {t : Tg} {b : Ss} (env : Env) : forT cl t b [] env = .nx env := rfl
theorem forT_nx {t : Tg} {b : Ss} {d : D} {ds : List D} {e1 e2 : Env} (h1 : bindD t d env = some e1) (h2 : evalSs cl b e1 = .nx e2) : forT cl t b (d :: ds) env = forT cl t b ds e2 := by
  unfold forT
  rw [forL]
  simp only [h1, h2]
theorem forT_ct {t : Tg} {b : Ss} {d : D} {ds : List D} {e1 e2 : Env} (h1 : bindD t d env = some e1) (h2 : evalSs cl b e1 = .ct e2) : forT cl t b (d :: ds) env = forT cl t b ds e2 := by
  unfold forT
  rw [forL]
  simp only [h1, h2]
theorem forT_rt {t : Tg} {b : Ss} {d : D} {ds : List D} {e1 e2 : Env} {o : Opd} (h1 : bindD t d env = some e1) (h2 : evalSs cl b e1 = .rt o e2) : forT cl t b (d :: ds) env = .rt o e2 := by
  unfold forT
  rw [forL]
  simp only [h1, h2]
/-- the first item of which the body returns -/
theorem forT_find {i : Nat} {b : Ss} (p : D → Bool) (g : D → D) (hi : i < env.length) : ∀ (ds : List D) (s : Slot), (∀ d ∈ ds, evalSs cl b (env.set i (.val d)) = if p d then .rt (.val (g d)) (env.set i (.val d)) else .nx (env.set i (.val d))) →
    (∃ d, ds.find? p = some d ∧ forT cl (.nm i) b ds (env.set i s) = .rt (.val (g d)) (env.set i (.val d))) ∨ (ds.find? p = none ∧ ∃ s', forT cl (.nm i) b ds (env.set i s) = .nx (env.set i s'))
  | [], s, _ => .inr ⟨rfl, s, rfl⟩
  | d :: ds, s, h => by
    have hb : bindD (.nm i) d (env.set i s) = some (env.set i (.val d)) := by simp [hi]
    have h1 := h d List.mem_cons_self
    cases hp : p d with
    | true =>
      rw [hp] at h1
      exact .inl ⟨d, by rw [List.find?_cons, hp], forT_rt hb h1⟩
    | false =>
      rw [hp] at h1
      rcases forT_find p g hi ds (.val d) fun d' hd' => h d' (List.mem_cons_of_mem _ hd') with ⟨d', e1, e2⟩ | ⟨e1, s', e2⟩
      · exact .inl ⟨d', by rw [List.find?_cons, hp]; exact e1, by rw [forT_nx hb h1]; exact e2⟩
      · exact .inr ⟨by rw [List.find?_cons, hp]; exact e1, s', by rw [forT_nx hb h1]; exact e2⟩
theorem set_id {env : Env} {i : Nat} {s : Slot} (h : env[i]? = some s) : env.set i s = env := by
  apply List.ext_getElem?
  intro k
  by_cases hk : i = k
  · subst hk
    rw [List.getElem?_set_self (List.getElem?_eq_some_iff.mp h).1, h]
  · rw [List.getElem?_set_ne hk]
/-- two slots stand as they stood -/
theorem set_back2 {env : Env} {i j : Nat} {s t a b : Slot} (hij : i ≠ j) (h1 : env[i]? = some s) (h2 : env[j]? = some t) : backE env ((env.set i a).set j b) [i, j] = env := by
  unfold backE
  unfold backE
  unfold backE
  rw [h1, h2]
  show ((((env.set i a).set j b).set j t).set i s) = env
  rw [List.set_set, List.set_comm _ _ (by omega : j ≠ i), List.set_set, set_id h1, set_id h2]
/-- a comprehension over pairs -/
theorem comp_map2 {elt : E} {it : It} {i j : Nat} {ds : List D} (g : D → D) (hI : evalI cl it env = .ok ds env) (hc : ds.length ≤ cap) (hij : i ≠ j) (hi : i < env.length) (hj : j < env.length)
    (h : ∀ d ∈ ds, ∃ x y o, d = .tup [x, y] ∧ evalE cl elt ((env.set i (.val x)).set j (.val y)) = .ok o ((env.set i (.val x)).set j (.val y)) ∧ o.leak = some (g d)) :
    evalE cl (.comp elt (.tp i j) it .yes [i, j]) env = .ok (.fresh (.lst (ds.map g))) env := by
  rw [evalE_comp, hI, Res.bind_ok, compK_at _ _ _ _ _ _ hc]
  obtain ⟨ys, e, h1, h2, a, b, h3⟩ := compT_inv (cl := cl) (t := .tp i j) (c := .yes) (elt := elt) (own := [i, j]) (fun k acc e => acc = (ds.take k).map g ∧ ∃ a b, e = (env.set i a).set j b) ds 0 [] env
    ⟨by simp, env[i], env[j], by rw [List.set_getElem_self, List.set_getElem_self]⟩ fun k d acc e hd hi' => by
      obtain ⟨rfl, a, b, rfl⟩ := hi'
      have hm : d ∈ ds := List.mem_of_getElem? hd
      obtain ⟨x, y, o, rfl, h1, h2⟩ := h d hm
      have tk : ds.take (0 + k + 1) = ds.take (0 + k) ++ [.tup [x, y]] := by
        rw [Nat.zero_add, List.take_add_one, hd]; rfl
      refine ⟨(env.set i (.val x)).set j (.val y), ?_, .inr ⟨_, o, _, g (.tup [x, y]), by simp, h1, h2, by rw [tk, List.map_append]; rfl, _, _, rfl⟩⟩
      have e1 : wipeE ((env.set i a).set j b) [i, j] = (env.set i .un).set j .un := by
        show ((((env.set i a).set j b).set j .un).set i .un) = _
        rw [List.set_set, List.set_comm _ _ (by omega : j ≠ i), List.set_set]
      show bind2 i j (.tup [x, y]) _ = _
      rw [e1]
      show (if i < ((env.set i .un).set j .un).length ∧ j < ((env.set i .un).set j .un).length then some ((((env.set i .un).set j .un).set i (.val x)).set j (.val y)) else none) = _
      rw [if_pos ⟨by simpa using hi, by simpa using hj⟩, List.set_comm _ _ (by omega : j ≠ i), List.set_set, List.set_set]
  rw [h1]
  simp only [Res.bind_ok, compEnd_at, Nat.zero_add, List.take_length] at h2 ⊢
  rw [h2, h3, set_back2 hij (List.getElem?_eq_getElem hi) (List.getElem?_eq_getElem hj)]
end
theorem upM {d : D} : ∀ {n : Nat} {lo : Int}, d ∈ upto lo n → ∃ i : Nat, i < n ∧ d = .int (lo + i)
  | 0, lo, h => by simp [upto] at h
  | n + 1, lo, h => by
    rcases List.mem_cons.mp h with rfl | h
    · exact ⟨0, by omega, by simp⟩
    · obtain ⟨i, hi, rfl⟩ := upM h
      exact ⟨i + 1, by omega, by congr 1; push_cast; omega⟩
theorem upL : ∀ (n : Nat) (lo : Int), (upto lo n).length = n
  | 0, lo => rfl
  | n + 1, lo => by rw [upto, List.length_cons, upL]
theorem upG : ∀ (n i : Nat) (lo : Int), i < n → (upto lo n)[i]? = some (.int (lo + i))
  | 0, i, lo, h => by omega
  | n + 1, 0, lo, h => by simp [upto]
  | n + 1, i + 1, lo, h => by
    rw [upto, List.getElem?_cons_succ, upG n i _ (by omega)]
    congr 2
    push_cast
    omega
theorem upR (n : Nat) : upto 0 n = (List.range n).map fun (i : Nat) => D.int i := by
  apply List.ext_getElem?
  intro i
  by_cases h : i < n
  · rw [upG n i 0 h, List.getElem?_map, List.getElem?_range h]; simp
  · rw [List.getElem?_eq_none (by rw [upL]; omega), List.getElem?_eq_none (by simp; omega)]
theorem ints_plain (k : Nat) : ∀ l : List Int, D.plains k (l.map .int) = true
  | [] => by cases k <;> rfl
  | x :: l => by
    have := ints_plain k l
    cases k <;> (simp only [List.map_cons, D.plains, D.plain, Bool.true_and]; exact this)
/-- xs != [] -/
theorem ne_nil (l : List Int) : cmpV .ne (.lst (l.map .int)) (.lst []) = some (!l.isEmpty) := by
  show (if eqOk (.lst (l.map .int)) (.lst []) then some (D.eqv (.lst (l.map .int)) (.lst [])) else none).map not = _
  have : eqOk (.lst (l.map .int)) (.lst []) = true := by
    unfold eqOk
    have := ints_plain 59 l
    simp only [D.plain, D.plains, this, Bool.and_true]
  rw [if_pos this]
  cases l <;> simp [D.eqv, D.eqvs]
/-- a comprehension that draws -/
theorem draws_gen {cl : Caller} (Q : D → Prop) {env0 base : Env} {i j : Nat} {elt : E} {it : It} {ds : List D} (x : DrS) (hx : x.Ok) (hxs : x.s < 2147483648) (hij : i ≠ j) (hi : i < base.length) (hj : j < base.length)
    (hI : evalI cl it env0 = .ok ds (base.set i (.own x.d))) (hc : ds.length ≤ cap)
    (hE : ∀ (y : DrS) (d : D), y.Ok → y.s < 2147483648 → d ∈ ds → ∃ z : DrS, z.Ok ∧ z.s < 2147483648 ∧ ∃ o r, Q r ∧ evalE cl elt ((base.set i (.own y.d)).set j (.val d)) = .ok o ((base.set i (.own z.d)).set j (.val d)) ∧ o.leak = some r) :
    ∃ (z : DrS) (vs : List D), z.Ok ∧ z.s < 2147483648 ∧ vs.length = ds.length ∧ (∀ v ∈ vs, Q v) ∧
      evalE cl (.comp elt (.nm j) it .yes [j]) env0 = .ok (.fresh (.lst vs)) (base.set i (.own z.d)) := by
  obtain ⟨ys, e, h1, y, t, hy, hys, rfl, h3, h4⟩ := compT_inv (cl := cl) (t := .nm j) (c := .yes) (elt := elt) (own := [j])
    (fun k acc e => ∃ (y : DrS) (t : Slot), y.Ok ∧ y.s < 2147483648 ∧ e = (base.set i (.own y.d)).set j t ∧ acc.length = k ∧ ∀ v ∈ acc, Q v)
    ds 0 [] (base.set i (.own x.d)) ⟨x, base[j], hx, hxs, (set_id (by rw [List.getElem?_set_ne hij, List.getElem?_eq_getElem hj])).symm, rfl, fun v hv => by simp at hv⟩ fun k d acc e hd hi' => by
      obtain ⟨y, t, hy, hys, rfl, h3, h4⟩ := hi'
      obtain ⟨z, hz, hzs, o, r, hr, h, hl⟩ := hE y d hy hys (List.mem_of_getElem? hd)
      refine ⟨(base.set i (.own y.d)).set j (.val d), by simp [wipeE, hj], .inr ⟨_, o, _, r, by simp, h, hl, z, .val d, hz, hzs, rfl, by rw [List.length_append, h3, List.length_singleton, Nat.add_assoc], fun v hv => ?_⟩⟩
      rcases List.mem_append.mp hv with hv | hv
      · exact h4 v hv
      · rw [List.mem_singleton] at hv
        subst hv
        exact hr
  refine ⟨y, ys, hy, hys, by rw [h3, Nat.zero_add], h4, ?_⟩
  rw [evalE_comp, hI, Res.bind_ok, compK_at _ _ _ _ _ _ hc, h1]
  have b : backE (base.set i (.own x.d)) ((base.set i (.own y.d)).set j t) [j] = base.set i (.own y.d) := by
    unfold backE
    unfold backE
    rw [List.getElem?_set_ne hij, List.getElem?_eq_getElem hj]
    show ((base.set i (.own y.d)).set j t).set j base[j] = _
    rw [List.set_set]
    exact set_id (by rw [List.getElem?_set_ne hij, List.getElem?_eq_getElem hj])
  simp only [Res.bind_ok, compEnd_at]
  rw [b]
/-- drawn ints -/
theorem draws_ints {cl : Caller} {env0 base : Env} {i j : Nat} {elt : E} {it : It} {ds : List D} (lo hi : Int) (x : DrS) (hx : x.Ok) (hxs : x.s < 2147483648) (hij : i ≠ j) (hi' : i < base.length) (hj : j < base.length)
    (hI : evalI cl it env0 = .ok ds (base.set i (.own x.d))) (hc : ds.length ≤ cap)
    (hE : ∀ (y : DrS) (d : D), y.Ok → y.s < 2147483648 → d ∈ ds → ∃ z : DrS, z.Ok ∧ z.s < 2147483648 ∧ ∃ r : Int, lo ≤ r ∧ r ≤ hi ∧ evalE cl elt ((base.set i (.own y.d)).set j (.val d)) = .ok (.val (.int r)) ((base.set i (.own z.d)).set j (.val d))) :
    ∃ (z : DrS) (vs : List Int), z.Ok ∧ z.s < 2147483648 ∧ vs.length = ds.length ∧ (∀ v ∈ vs, lo ≤ v ∧ v ≤ hi) ∧
      evalE cl (.comp elt (.nm j) it .yes [j]) env0 = .ok (.fresh (.lst (vs.map .int))) (base.set i (.own z.d)) := by
  obtain ⟨z, vs, hz, hzs, h1, h2, h3⟩ := draws_gen (cl := cl) (fun d => ∃ r : Int, d = .int r ∧ lo ≤ r ∧ r ≤ hi) x hx hxs hij hi' hj hI hc fun y d hy hys hd => by
    obtain ⟨z, hz, hzs, r, r1, r2, h⟩ := hE y d hy hys hd
    exact ⟨z, hz, hzs, _, .int r, ⟨r, rfl, r1, r2⟩, h, rfl⟩
  obtain ⟨ns, rfl⟩ : ∃ ns : List Int, vs = ns.map .int := by
    clear h1 h3
    induction vs with
    | nil => exact ⟨[], rfl⟩
    | cons v vs ih =>
      obtain ⟨r, rfl, _⟩ := h2 v List.mem_cons_self
      obtain ⟨ns, rfl⟩ := ih fun w hw => h2 w (List.mem_cons_of_mem _ hw)
      exact ⟨r :: ns, rfl⟩
  refine ⟨z, ns, hz, hzs, by simpa using h1, fun v hv => ?_, h3⟩
  obtain ⟨r, hr, r1, r2⟩ := h2 (.int v) (List.mem_map.mpr ⟨v, hv, rfl⟩)
  cases hr
  exact ⟨r1, r2⟩
/-- calling with the drawing machine -/
theorem lent_call {cl : Caller} {f : Nat} {x y : DrS} {d r : D} {env : Env} {i : Nat} (he : env[i]? = some (.own x.d)) (h : cl f [.own x.d, .val d] = .ok r false [y.d]) : callR cl f [true, false] [.slot i, .val d] env = .ok (.val r) (env.set i (.own y.d)) := by
  have hl : lendS env [true, false] [.slot i, .val d] = some [.own x.d, .val d] := by
    show (match env[i]? with | some (.own d) => _ | _ => none) = _
    rw [he]
    rfl
  exact callR_of (new := false) (by simp [lentOf, nodupB]) hl h rfl
/-! append, and op= -/
section
variable {cl : Caller} {env : Env}
def appP (i : Nat) (d : D) (e : Env) : Option Slot → Option Env
  | some (.own (.lst xs)) => if xs.length < cap then some (e.set i (.own (.lst (xs ++ [d])))) else none
  | _ => none
@[simp] theorem appP_own (i : Nat) (d : D) (e : Env) (xs : List D) : appP i d e (some (.own (.lst xs))) = if xs.length < cap then some (e.set i (.own (.lst (xs ++ [d])))) else none := rfl
@[simp] theorem appOwn_at (i : Nat) (d : D) (e : Env) : appOwn i d e = appP i d e e[i]? := by
  unfold appOwn appP
  cases e[i]? with
  | none => rfl
  | some s => cases s <;> first | rfl | (rename_i dd; cases dd <;> rfl)
def appK (i : Nat) (o : Opd) (e : Env) : Fl := nxO (o.leak.bind fun d => appOwn i d e)
@[simp] theorem appK_at (i : Nat) (o : Opd) (e : Env) : appK i o e = nxO (o.leak.bind fun d => appOwn i d e) := rfl
@[simp] theorem evalS_app (i : Nat) (a : E) : evalS cl (.app i a) env = if isOwn i env then (evalE cl a env).fl (appK i) else .stk := by rw [evalS]; rfl
def valO : Option Slot → Option D
  | some (.val d) => some d
  | _ => none
@[simp] theorem valO_val (d : D) : valO (some (.val d)) = some d := rfl
@[simp] theorem getVal_at (i : Nat) : getVal i env = valO env[i]? := by
  unfold getVal valO
  cases env[i]? with
  | none => rfl
  | some s => cases s <;> rfl
def augF (i : Nat) (op : BOp) (d : D) (o : Opd) (e : Env) : Fl := nxO (o.leak.bind fun y => (augV op d y).bind fun z => bindO i (.val z) e)
@[simp] theorem augF_at (i : Nat) (op : BOp) (d : D) (o : Opd) (e : Env) : augF i op d o e = nxO (o.leak.bind fun y => (augV op d y).bind fun z => bindO i (.val z) e) := rfl
def augL (cl : Caller) (i : Nat) (op : BOp) (a : E) (e : Env) : Option D → Fl
  | some d => (evalE cl a e).fl (augF i op d)
  | none => .stk
@[simp] theorem augL_some (i : Nat) (op : BOp) (a : E) (e : Env) (d : D) : augL cl i op a e (some d) = (evalE cl a e).fl (augF i op d) := rfl
@[simp] theorem evalS_aug (i : Nat) (op : BOp) (a : E) : evalS cl (.aug i op a) env = augL cl i op a env (getVal i env) := by
  rw [evalS]
  cases getVal i env <;> rfl
/-- a comprehension over pairs of which some are left out -/
theorem comp_pure2 {elt : E} {it : It} {c : T} {i j : Nat} {ds : List D} (p : D → Bool) (g : D → D) (hI : evalI cl it env = .ok ds env) (hc : ds.length ≤ cap) (hij : i ≠ j) (hi : i < env.length) (hj : j < env.length)
    (h : ∀ d ∈ ds, ∃ x y, d = .tup [x, y] ∧ evalT cl c ((env.set i (.val x)).set j (.val y)) = .ok (p d) ((env.set i (.val x)).set j (.val y)) ∧ (p d = true → ∃ o, evalE cl elt ((env.set i (.val x)).set j (.val y)) = .ok o ((env.set i (.val x)).set j (.val y)) ∧ o.leak = some (g d))) :
    evalE cl (.comp elt (.tp i j) it c [i, j]) env = .ok (.fresh (.lst ((ds.filter p).map g))) env := by
  rw [evalE_comp, hI, Res.bind_ok, compK_at _ _ _ _ _ _ hc]
  obtain ⟨ys, e, h1, h2, a, b, h3⟩ := compT_inv (cl := cl) (t := .tp i j) (c := c) (elt := elt) (own := [i, j]) (fun k acc e => acc = ((ds.take k).filter p).map g ∧ ∃ a b, e = (env.set i a).set j b) ds 0 [] env
    ⟨by simp, env[i], env[j], by rw [List.set_getElem_self, List.set_getElem_self]⟩ fun k d acc e hd hi' => by
      obtain ⟨rfl, a, b, rfl⟩ := hi'
      have hm : d ∈ ds := List.mem_of_getElem? hd
      obtain ⟨x, y, rfl, h1, h2⟩ := h d hm
      have tk : ds.take (0 + k + 1) = ds.take (0 + k) ++ [.tup [x, y]] := by
        rw [Nat.zero_add, List.take_add_one, hd]; rfl
      refine ⟨(env.set i (.val x)).set j (.val y), ?_, ?_⟩
      · have e1 : wipeE ((env.set i a).set j b) [i, j] = (env.set i .un).set j .un := by
          show ((((env.set i a).set j b).set j .un).set i .un) = _
          rw [List.set_set, List.set_comm _ _ (by omega : j ≠ i), List.set_set]
        show bind2 i j (.tup [x, y]) _ = _
        rw [e1]
        show (if i < ((env.set i .un).set j .un).length ∧ j < ((env.set i .un).set j .un).length then some ((((env.set i .un).set j .un).set i (.val x)).set j (.val y)) else none) = _
        rw [if_pos ⟨by simpa using hi, by simpa using hj⟩, List.set_comm _ _ (by omega : j ≠ i), List.set_set, List.set_set]
      · cases hp : p (.tup [x, y]) with
        | false =>
          rw [hp] at h1
          refine .inl ⟨_, h1, ?_, _, _, rfl⟩
          rw [tk, List.filter_append, List.map_append]
          simp [hp]
        | true =>
          rw [hp] at h1
          obtain ⟨o, g1, g2⟩ := h2 hp
          refine .inr ⟨_, o, _, g (.tup [x, y]), h1, g1, g2, ?_, _, _, rfl⟩
          rw [tk, List.filter_append, List.map_append]
          simp [hp]
  rw [h1]
  simp only [Res.bind_ok, compEnd_at, Nat.zero_add, List.take_length] at h2 ⊢
  rw [h2, h3, set_back2 hij (List.getElem?_eq_getElem hi) (List.getElem?_eq_getElem hj)]
theorem enumL_ints : ∀ (k : Int) (xs : List Int), enumL k (xs.map .int) = (List.range xs.length).map fun (i : Nat) => D.tup [.int (k + i), .int (xs.getD i 0)]
  | k, [] => rfl
  | k, x :: xs => by
    show D.tup [.int k, .int x] :: enumL (k + 1) (xs.map .int) = _
    rw [enumL_ints (k + 1) xs, List.length_cons, List.range_succ_eq_map, List.map_cons, List.map_map]
    congr 1
    · simp
    · apply List.map_congr_left
      intro i _
      show D.tup [.int (k + 1 + i), .int (xs.getD i 0)] = D.tup [.int (k + ((i + 1 : Nat) : Int)), .int ((x :: xs).getD (i + 1) 0)]
      rw [show k + 1 + (i : Int) = k + ((i + 1 : Nat) : Int) by omega]
      rfl
end
end Pd
set_option autoImplicit false
set_option linter.all false
namespace Pd
open PySem
/-! repr of tuples: that it may be told -/
mutual
/-- tuples, texts, ints of at most 1920 bits -/
def D.shT : D → Bool
  | .non => true
  | .bl _ => true
  | .int i => decide (i.natAbs.log2 < 1920)
  | .str x => x.cps.all fun c => decide (c < 1114112)
  | .tup ds => D.shTs ds
  | _ => false
def D.shTs : List D → Bool
  | [] => true
  | d :: ds => D.shT d && D.shTs ds
end
mutual
def D.shB : D → Nat
  | .non => 4
  | .bl _ => 5
  | .int _ => 1921
  | .str x => 10 * x.length + 2
  | .tup ds => D.shBs ds + 3
  | _ => 0
def D.shBs : List D → Nat
  | [] => 0
  | d :: ds => D.shB d + 2 + D.shBs ds
end
theorem tup_len (ts : List Str) : (tupleText ts).length ≤ piled ts + 3 := by
  unfold tupleText
  rw [strLen_append, strLen_append]
  have e1 : ((("(" : String) : Str)).length = 1 := rfl
  have e3 : (((if ts.length == 1 then ",)" else ")" : String) : Str)).length ≤ 2 := by split <;> decide
  have e2 : (Str.join ", " ts).length ≤ piled ts := by
    by_cases h : ts = []
    · subst h; exact Nat.le_of_eq rfl
    · have := join_length_add ts h; omega
  rw [e1]
  omega
mutual
theorem sh_ok : ∀ d : D, D.shT d = true → (toPy d).showable = true ∧ (toPy d).shown.length ≤ D.shB d
  | .non, _ => ⟨rfl, Nat.le_of_eq rfl⟩
  | .bl b, _ => ⟨rfl, by cases b <;> decide⟩
  | .int i, h => ⟨h, PyProof.Rows.int_text_len_1921 (of_decide_eq_true h)⟩
  | .str x, h => ⟨rfl, PySem.StrLaws.reprText_len x fun c hc => by
      have h : (x.cps.all fun c => decide (c < 1114112)) = true := h
      rw [Array.all_eq_true] at h
      obtain ⟨i, hi, rfl⟩ := List.getElem_of_mem hc
      have := of_decide_eq_true (h i (by simpa using hi))
      have e : x.cps.toList[i] = x.cps[i]'(by simpa using hi) := by simp
      rw [e]
      omega⟩
  | .tup ds, h => by
    obtain ⟨h1, h2⟩ := sh_oks ds h
    exact ⟨h1, Nat.le_trans (tup_len _) (Nat.add_le_add_right h2 3)⟩
  | .lst _, h => by cases h
  | .fn _, h => by cases h
  | .dic _ _, h => by cases h
  | .scr _, h => by cases h
  | .rng _ _, h => by cases h
theorem sh_oks : ∀ ds : List D, D.shTs ds = true → PyData.showableAll (toPys ds) = true ∧ piled (PyData.shownAll (toPys ds)) ≤ D.shBs ds
  | [], _ => ⟨rfl, Nat.le_of_eq rfl⟩
  | d :: ds, h => by
    have h : (D.shT d && D.shTs ds) = true := h
    rw [Bool.and_eq_true] at h
    obtain ⟨h1, h2⟩ := sh_ok d h.1
    obtain ⟨h3, h4⟩ := sh_oks ds h.2
    refine ⟨by show (_ && _) = true; rw [h1, h3]; rfl, ?_⟩
    show piled ((toPy d).shown :: PyData.shownAll (toPys ds)) ≤ D.shB d + 2 + D.shBs ds
    rw [piled_cons]
    omega
end
/-- repr gives a text, the same for the same data -/
def shown (d : D) : D := .str (toPy d).shown
theorem repr_at {d : D} (h1 : D.plain 60 d = true) (h2 : D.shT d = true) (h3 : D.shB d ≤ 1000000) : bltV .repr [d] = some (shown d) := by
  obtain ⟨a, b⟩ := sh_ok d h2
  show (if D.plain 60 d && (toPy d).showable && decide ((toPy d).shown.length ≤ cap) then some (D.str (toPy d).shown) else none) = _
  rw [h1, a, decide_eq_true (Nat.le_trans b (show D.shB d ≤ cap from h3))]
  rfl
@[simp] theorem mkO_shown (d : D) : mkO (shown d) = .val (shown d) := rfl
theorem ne_shown (d : D) : cmpV .ne (shown d) (shown d) = some false := by
  show (some (decide ((toPy d).shown = (toPy d).shown))).map not = _
  rw [decide_eq_true rfl]; rfl
theorem shTs_ints : ∀ xs : List Int, (∀ x ∈ xs, x.natAbs.log2 < 1920) → D.shTs (xs.map .int) = true
  | [], _ => rfl
  | x :: xs, h => by
    show (decide _ && D.shTs (xs.map .int)) = true
    rw [shTs_ints xs fun y hy => h y (List.mem_cons_of_mem _ hy), decide_eq_true (h x List.mem_cons_self)]; rfl
theorem shBs_ints : ∀ xs : List Int, D.shBs (xs.map .int) = 1923 * xs.length
  | [] => rfl
  | x :: xs => by
    show 1921 + 2 + D.shBs (xs.map .int) = _
    rw [shBs_ints xs, List.length_cons]; omega
end Pd
set_option autoImplicit false
set_option linter.all false
namespace Pd
open PySem (Str)
/-! rows: the program's check, the law's drawing of them, products of polynomials -/
def std_is_row_c1e (w : Nat) : E := (.call w [false] (.cons (.var 1) .nil))
def std_is_row_c1 (w : Nat) : E := .comp (std_is_row_c1e w) (.nm 1) (.plain (.var 0)) .yes [1]
def std_k_MOST_ITEM : D := .int 1000000000000000
def std_is_row_c2e : E := (.chn .le .le (.con (.int 0)) (.var 1) (.glob "MOST_ITEM" std_k_MOST_ITEM))
def std_is_row_c2 : E := .comp std_is_row_c2e (.nm 1) (.plain (.var 0)) .yes [1]
def std_k_MOST_ITEMS : D := .int 13
def std_is_row (w : Nat) : Fn := ⟨"is_row", ["value"], ["value", "item"], [false],
  (.cons (.cond (.or (.not (.e (.blt (.isi .tuple) (.cons (.var 0) .nil)))) (.or (.not (.e (.chn .le .le (.con (.int 1)) (.blt .len (.cons (.var 0) .nil)) (.glob "MOST_ITEMS" std_k_MOST_ITEMS)))) (.not (.e (.blt .all (.cons (std_is_row_c1 w) .nil)))))) (.cons (.ret (.con (.bl false))) .nil) .nil) (.cons (.ret (.and (.blt .all (.cons std_is_row_c2 .nil)) (.and (.cmp .gt (.idx (.var 0) (.con (.int 0))) (.con (.int 0))) (.cmp .gt (.idx (.var 0) (.un .neg (.con (.int 1)))) (.con (.int 0)))))) .nil))⟩
def std_check_row (r : Nat) : Fn := ⟨"check_row", ["value"], ["value"], [false],
  (.cons (.cond (.not (.e (.call r [false] (.cons (.var 0) .nil)))) (.cons .dead .nil) .nil) .nil)⟩
def std_law_row_c1e (t : Nat) : E := (.call t [true, false] (.cons (.var 0) (.cons (.bin .add (.var 3) (.con (.int 1))) .nil)))
def std_law_row_c1 (t : Nat) : E := .comp (std_law_row_c1e t) (.nm 6) (.rng1 (.var 4)) .yes [6]
def std_law_row_c2e (t : Nat) : E := (.bin .add (.con (.int 1)) (.call t [true, false] (.cons (.var 0) (.cons (.var 3) .nil))))
def std_law_row_c2 (t : Nat) : E := .comp (std_law_row_c2e t) (.nm 6) (.rng1 (.var 4)) .yes [6]
def std_law_row_c3e (t : Nat) : E := (.bin .add (.con (.int 1)) (.call t [true, false] (.cons (.var 0) (.cons (.var 3) .nil))))
def std_law_row_c3 (t : Nat) : E := .comp (std_law_row_c3e t) (.nm 6) (.rng1 (.bin .fdiv (.bin .add (.var 4) (.con (.int 1))) (.con (.int 2)))) .yes [6]
def std_law_row_b4 (t : Nat) (m : Nat) : Ss := (.cons (.set 9 (.ite (.e (.cmp .eq (.var 2) (.con (.int 3)))) (.lst (.cons (.bin .add (.con (.int 1)) (.call t [true, false] (.cons (.var 0) (.cons (.con (.int 5)) .nil)))) (.cons (.bin .add (.con (.int 1)) (.call t [true, false] (.cons (.var 0) (.cons (.con (.int 3)) .nil)))) .nil))) (.lst (.cons (.con (.int 1)) (.cons (.bin .add (.con (.int 1)) (.call t [true, false] (.cons (.var 0) (.cons (.con (.int 6)) .nil)))) (.cons (.con (.int 1)) .nil)))))) (.cons (.frz 9) (.cons (.frz 5) (.cons (.set 5 (.call m [false, false] (.cons (.var 5) (.cons (.var 9) .nil)))) .nil))))
def std_law_row_t5 : T := (.e (.cmp .lt (.blt .len (.cons (.var 5) .nil)) (.var 4)))
def std_law_row (t : Nat) (m : Nat) : Fn := ⟨"_law_row", ["draw", "most"], ["draw", "most", "kind", "high", "size", "row", "k", "cut", "half", "factor"], [true, false],
  (.cons (.set 2 (.call t [true, false] (.cons (.var 0) (.cons (.con (.int 5)) .nil)))) (.cons (.set 3 (.idx (.lst (.cons (.con (.int 2)) (.cons (.con (.int 6)) (.cons (.con (.int 40)) (.cons (.bin .pow (.con (.int 10)) (.con (.int 6))) .nil))))) (.call t [true, false] (.cons (.var 0) (.cons (.con (.int 4)) .nil))))) (.cons (.set 4 (.bin .add (.con (.int 1)) (.call t [true, false] (.cons (.var 0) (.cons (.var 1) .nil))))) (.cons (.cond (.e (.cmp .eq (.var 2) (.con (.int 0)))) (.cons (.set 5 (std_law_row_c1 t)) (.cons (.setI2 5 (.con (.int 0)) 5 (.un .neg (.con (.int 1))) (.cons (.bin .add (.idx (.var 5) (.con (.int 0))) (.con (.int 1))) (.cons (.bin .add (.idx (.var 5) (.un .neg (.con (.int 1)))) (.con (.int 1))) .nil))) (.cons (.ret (.blt .tuple (.cons (.var 5) .nil))) .nil))) .nil) (.cons (.cond (.e (.cmp .eq (.var 2) (.con (.int 1)))) (.cons (.set 5 (.blt .sorted (.cons (std_law_row_c2 t) .nil))) (.cons (.set 7 (.call t [true, false] (.cons (.var 0) (.cons (.var 4) .nil)))) (.cons (.ret (.blt .tuple (.cons (.bin .add (.sli (.var 5) .no (.so (.var 7))) (.rev (.sli (.var 5) (.so (.var 7)) .no))) .nil))) .nil))) .nil) (.cons (.cond (.e (.cmp .eq (.var 2) (.con (.int 2)))) (.cons (.set 8 (std_law_row_c3 t)) (.cons (.frz 8) (.cons (.ret (.blt .tuple (.cons (.bin .add (.var 8) (.sli (.rev (.var 8)) (.so (.blt .int (.cons (.cmp .ne (.var 4) (.bin .mul (.con (.int 2)) (.blt .len (.cons (.var 8) .nil)))) .nil))) .no)) .nil))) .nil))) .nil) (.cons (.set 5 (.lst (.cons (.bin .add (.con (.int 1)) (.call t [true, false] (.cons (.var 0) (.cons (.con (.int 3)) .nil)))) .nil))) (.cons (.whl std_law_row_t5 (std_law_row_b4 t m)) (.cons (.ret (.blt .tuple (.cons (.var 5) .nil))) .nil)))))))))⟩
def std_law_times_of_b1 : Ss := (.cons (.setI 2 (.bin .add (.var 3) (.var 4)) (.bin .add (.idx (.var 2) (.bin .add (.var 3) (.var 4))) (.bin .mul (.idx (.var 0) (.var 3)) (.idx (.var 1) (.var 4))))) .nil)
def std_law_times_of_b2 : Ss := (.cons (.for_ (.nm 4) (.rng1 (.blt .len (.cons (.var 1) .nil))) std_law_times_of_b1) .nil)
def std_law_times_of : Fn := ⟨"_law_times_of", ["one", "two"], ["one", "two", "found", "i", "j"], [false, false],
  (.cons (.set 2 (.bin .mul (.lst (.cons (.con (.int 0)) .nil)) (.bin .sub (.bin .add (.blt .len (.cons (.var 0) .nil)) (.blt .len (.cons (.var 1) .nil))) (.con (.int 1))))) (.cons (.for_ (.nm 3) (.rng1 (.blt .len (.cons (.var 0) .nil))) std_law_times_of_b2) (.cons (.ret (.var 2)) .nil)))⟩
@[simp] theorem isi_tuple (xs : List D) : bltV (.isi .tuple) [.tup xs] = some (.bl true) := rfl
@[simp] theorem isi_int (i : Int) : bltV (.isi .int) [.int i] = some (.bl true) := rfl
@[simp] theorem isi_bool (i : Int) : bltV (.isi .bool) [.int i] = some (.bl false) := rfl
@[simp] theorem isi_str (i : Str) : bltV (.isi .str) [.str i] = some (.bl true) := rfl
theorem bools_map {α : Type} (p : α → Bool) : ∀ xs : List α, bools? (xs.map fun x => .bl (p x)) = some (xs.map p)
  | [] => rfl
  | x :: xs => by simp [bools?, bools_map p xs]
theorem ints_map : ∀ xs : List Int, ints? (xs.map .int) = some xs
  | [] => rfl
  | x :: xs => by simp [ints?, ints_map xs]
theorem all_lst {α : Type} (p : α → Bool) (xs : List α) : bltV .all [.lst (xs.map fun x => .bl (p x))] = some (.bl ((xs.map p).all id)) := by
  show (bools? _).map _ = _
  rw [bools_map]; rfl
theorem any_lst {α : Type} (p : α → Bool) (xs : List α) : bltV .any [.lst (xs.map fun x => .bl (p x))] = some (.bl ((xs.map p).any id)) := by
  show (bools? _).map _ = _
  rw [bools_map]; rfl
theorem sum_tup (xs : List Int) : bltV .sum [.tup (xs.map .int)] = some (.int xs.sum) := by
  show (ints? _).map _ = _
  rw [ints_map]; rfl
def tupI (row : List Int) : D := .tup (row.map .int)
/-- a row as the program has it -/
structure Good (row : List Int) : Prop where
  ne : 1 ≤ row.length
  le : row.length ≤ 13
  nn : ∀ x ∈ row, 0 ≤ x ∧ x ≤ 1000000000000000
  hd : ∀ x, row[0]? = some x → 0 < x
  tl : ∀ x, row[row.length - 1]? = some x → 0 < x
theorem whole_run {fs : List Fn} {w : Nat} (hW : fs[w]? = some std_is_whole) (n : Nat) (v : Int) : callF fs (n + 1) w [.val (.int v)] = .ok (.bl true) false [] := by
  rw [callF_at hW rfl rfl (by decide)]
  simp [std_is_whole, endOf, outsOf]
theorem callR_val {cl : Caller} {f : Nat} {d r : D} {new : Bool} {env : Env} (h : cl f [.val d] = .ok r new []) : callR cl f [false] [.val d] env = .ok (if new then .fresh r else .val r) env :=
  callR_of (sl := [.val d]) (outs := []) (by simp [lentOf, nodupB]) (by simp [lendS]) h rfl
theorem callR_val2 {cl : Caller} {f : Nat} {d d' r : D} {new : Bool} {env : Env} (h : cl f [.val d, .val d'] = .ok r new []) : callR cl f [false, false] [.val d, .val d'] env = .ok (if new then .fresh r else .val r) env :=
  callR_of (sl := [.val d, .val d']) (outs := []) (by simp [lentOf, nodupB]) (by simp [lendS]) h rfl
theorem callR_val3 {cl : Caller} {f : Nat} {d d' d'' r : D} {new : Bool} {env : Env} (h : cl f [.val d, .val d', .val d''] = .ok r new []) : callR cl f [false, false, false] [.val d, .val d', .val d''] env = .ok (if new then .fresh r else .val r) env :=
  callR_of (sl := [.val d, .val d', .val d'']) (outs := []) (by simp [lentOf, nodupB]) (by simp [lendS]) h rfl
theorem cap_is : cap = 1000000 := rfl
theorem isrow_run {fs : List Fn} {w r : Nat} (hW : fs[w]? = some std_is_whole) (hR : fs[r]? = some (std_is_row w)) (n : Nat) (row : List Int) (g : Good row) : callF fs (n + 2) r [.val (tupI row)] = .ok (.bl true) false [] := by
  rw [callF_at hR rfl rfl (by decide : (1 : Nat) ≤ 2)]
  have hcap : (row.map D.int).length ≤ cap := by rw [List.length_map, cap_is]; have := g.le; omega
  have c1 : evalE (callF fs (n + 1)) (std_is_row_c1 w) [.val (tupI row), .un] = .ok (.fresh (.lst (row.map fun x => .bl true))) [.val (tupI row), .un] := by
    have := comp_map (cl := callF fs (n + 1)) (elt := (std_is_row_c1e w)) (it := .plain (.var 0)) (j := 1) (env := [.val (tupI row), .un]) (ds := row.map .int) (fun d => .bl true) (by simp [tupI]) hcap (by simp) fun d hd => by
      obtain ⟨v, _, rfl⟩ := List.mem_map.mp hd
      exact ⟨.val (.bl true), by simp [std_is_row_c1e, callR_val (whole_run hW n v)], rfl⟩
    unfold std_is_row_c1
    rw [this, List.map_map]
    rfl
  have c2 : evalE (callF fs (n + 1)) std_is_row_c2 [.val (tupI row), .un] = .ok (.fresh (.lst (row.map fun x => .bl true))) [.val (tupI row), .un] := by
    have := comp_map (cl := callF fs (n + 1)) (elt := std_is_row_c2e) (it := .plain (.var 0)) (j := 1) (env := [.val (tupI row), .un]) (ds := row.map .int) (fun d => .bl true) (by simp [tupI]) hcap (by simp) fun d hd => by
      obtain ⟨v, hv, rfl⟩ := List.mem_map.mp hd
      obtain ⟨h1, h2⟩ := g.nn v hv
      exact ⟨.val (.bl true), by simp [std_is_row_c2e, h1, h2, std_k_MOST_ITEM], rfl⟩
    unfold std_is_row_c2
    rw [this, List.map_map]
    rfl
  have l1 := g.ne
  have l2 := g.le
  obtain ⟨x, hx⟩ : ∃ x, row[0]? = some x := ⟨_, List.getElem?_eq_getElem (by omega)⟩
  obtain ⟨y, hy⟩ : ∃ y, row[row.length - 1]? = some y := ⟨_, List.getElem?_eq_getElem (by omega)⟩
  have i1 : idxV (tupI row) (.int 0) = some (.int x) := idx_tup (by omega) (by show (row.map D.int)[0]? = _; rw [List.getElem?_map, hx]; rfl)
  have i2 : idxV (tupI row) (.int (-1)) = some (.int y) := by
    show (place (row.map D.int).length (-1)).bind _ = _
    rw [List.length_map]
    unfold place
    rw [if_neg (by omega), if_pos (by omega)]
    show (row.map D.int)[((-1 : Int) + row.length).toNat]? = _
    rw [List.getElem?_map, show ((-1 : Int) + row.length).toNat = row.length - 1 by omega, hy]
    rfl
  have a1 : bltV .all [.lst (row.map fun x => .bl true)] = some (.bl true) := by
    rw [all_lst (fun _ => true)]
    congr 2
    simp
  have hlen : bltV .len [tupI row] = some (.int row.length) := by show some (D.int ((row.map D.int).length : Nat)) = _; rw [List.length_map]
  have ity : bltV (.isi .tuple) [tupI row] = some (.bl true) := rfl
  have x0 := g.hd x hx
  have y0 := g.tl y hy
  have e1 : (1 : Int) ≤ row.length := by omega
  have e2 : (row.length : Int) ≤ 13 := by omega
  simp [std_is_row, ity, hlen, std_k_MOST_ITEMS, c1, c2, a1, i1, i2, x0, y0, e1, e2, endOf, outsOf]
theorem checkrow_run {fs : List Fn} {w r f : Nat} (hW : fs[w]? = some std_is_whole) (hR : fs[r]? = some (std_is_row w)) (hf : fs[f]? = some (std_check_row r)) (n : Nat) (row : List Int) (g : Good row) : callF fs (n + 3) f [.val (tupI row)] = .ok .non false [] := by
  rw [callF_at hf rfl rfl (by decide : (1 : Nat) ≤ 1)]
  simp [std_check_row, callR_val (isrow_run hW hR n row g), endOf, outsOf]

theorem upto_map : ∀ (n : Nat) (lo : Int), upto lo n = (List.range n).map fun (i : Nat) => D.int (lo + (i : Int))
  | 0, lo => rfl
  | n + 1, lo => by
    rw [List.range_succ_eq_map, List.map_cons, List.map_map]
    show D.int lo :: upto (lo + 1) n = _
    rw [upto_map n (lo + 1)]
    congr 1
    · simp
    · apply List.map_congr_left
      intro i _
      show D.int (lo + 1 + (i : Int)) = D.int (lo + ((i + 1 : Nat) : Int))
      congr 1
      omega
theorem upto0 (n : Nat) : upto 0 n = (List.range n).map fun (i : Nat) => D.int (i : Int) := by
  rw [upto_map]
  apply List.map_congr_left
  intro i _
  rw [Int.zero_add]
theorem rng1_run {cl : Caller} {a : E} {env env' : Env} {m : Nat} (h : evalE cl a env = .ok (.val (.int m)) env') (hm : m ≤ 1000000) : evalI cl (.rng1 a) env = .ok ((List.range m).map fun (i : Nat) => D.int (i : Int)) env' := by
  rw [evalI_rng1, h, Res.bind_ok, rng1K_int, rngN_of (by omega) (by omega) (by omega) (by omega) (by omega)]
  show Res.ok (upto 0 ((m : Int) - 0).toNat) env' = _
  rw [show ((m : Int) - 0).toNat = m by omega, upto0]
theorem range_cap {m : Nat} (hm : m ≤ 1000000) {f : Nat → D} : ((List.range m).map f).length ≤ cap := by
  rw [List.length_map, List.length_range, cap_is]; exact hm
theorem range_mem {m : Nat} {f : Nat → D} {d : D} (h : d ∈ (List.range m).map f) : ∃ k, k < m ∧ d = f k := by
  obtain ⟨k, hk, rfl⟩ := List.mem_map.mp h
  exact ⟨k, List.mem_range.mp hk, rfl⟩

theorem idx_row {row : List Int} {k : Nat} (h : k < row.length) : idxV (tupI row) (.int k) = some (.int (row.getD k 0)) :=
  idx_tup (by omega) (by
    show (row.map D.int)[((k : Nat) : Int).toNat]? = _
    rw [List.getElem?_map, show ((k : Nat) : Int).toNat = k by omega, List.getD_eq_getElem?_getD, List.getElem?_eq_getElem h]
    rfl)
theorem len_row (row : List Int) : bltV .len [tupI row] = some (.int row.length) := by show some (D.int ((row.map D.int).length : Nat)) = _; rw [List.length_map]
/-- the row falls behind its k-th place in turns -/

theorem sli_take (row : List Int) (j : Nat) : sliV (tupI row) none (some (j : Int)) = some (tupI (row.take j)) := by
  show some (D.tup (cut (row.map D.int) none (some (j : Int)))) = _
  unfold cut bound
  simp only [if_neg (show ¬ ((j : Int) < 0) by omega), List.drop_zero, Nat.sub_zero, List.length_map]
  congr 2
  rw [show ((j : Int)).toNat = j by omega, List.map_take]
  rcases Nat.le_total j row.length with h | h
  · rw [Nat.min_eq_left h]
  · rw [Nat.min_eq_right h, List.take_of_length_le (by simp), List.take_of_length_le (by simpa using h)]
theorem sli_drop (row : List Int) (j : Nat) (hj : j ≤ row.length) : sliV (tupI row) (some (j : Int)) none = some (tupI (row.drop j)) := by
  show some (D.tup (cut (row.map D.int) (some (j : Int)) none)) = _
  unfold cut bound
  simp only [if_neg (show ¬ ((j : Int) < 0) by omega), List.length_map]
  congr 2
  rw [show ((j : Int)).toNat = j by omega, Nat.min_eq_left hj, List.map_drop]
  exact List.take_of_length_le (by simp)

theorem sum_row (xs : List Int) : bltV .sum [tupI xs] = some (.int xs.sum) := sum_tup xs
@[simp] theorem mkO_tupI (xs : List Int) : mkO (tupI xs) = .val (tupI xs) := rfl
theorem tuple_ints (xs : List Int) : bltV .tuple [.lst (xs.map .int)] = some (tupI xs) := rfl

section
variable {row : List Int}
def rr (row : List Int) (i : Nat) : Int := row.getD i 0
theorem take_succ (k : Nat) (h : k < row.length) : (row.take (k + 1)).sum = (row.take k).sum + rr row k := by
  rw [List.take_add_one, List.getElem?_eq_getElem h, List.sum_append]
  unfold rr
  rw [List.getD_eq_getElem?_getD, List.getElem?_eq_getElem h]
  simp
theorem drop_succ (k : Nat) (h : k < row.length) : (row.drop k).sum = rr row k + (row.drop (k + 1)).sum := by
  rw [List.drop_eq_getElem_cons h, List.sum_cons]
  unfold rr
  rw [List.getD_eq_getElem?_getD, List.getElem?_eq_getElem h]
  rfl
theorem total (k : Nat) : (row.take k).sum + (row.drop k).sum = row.sum := by
  rw [← List.sum_append, List.take_append_drop]
end

/-! ### == of tuples of ints -/
theorem plains_ints (n : Nat) : ∀ xs : List Int, D.plains n (xs.map .int) = true
  | [] => by simp [D.plains]
  | x :: xs => by simp [D.plains, D.plain, plains_ints n xs]
theorem plain_ints (xs : List Int) : D.plain 60 (tupI xs) = true := by
  show D.plains 59 (xs.map .int) = true
  exact plains_ints 59 xs
theorem eqvs_ints : ∀ xs ys : List Int, D.eqvs (xs.map .int) (ys.map .int) = decide (xs = ys)
  | [], [] => rfl
  | [], _ :: _ => rfl
  | _ :: _, [] => rfl
  | x :: xs, y :: ys => by
    show (x == y && D.eqvs (xs.map .int) (ys.map .int)) = _
    rw [eqvs_ints xs ys]
    by_cases h : x = y <;> by_cases h2 : xs = ys <;> simp [h, h2]
theorem eq_tup (xs ys : List Int) : cmpV .eq (tupI xs) (tupI ys) = some (decide (xs = ys)) := by
  show (if eqOk (tupI xs) (tupI ys) then some (D.eqv (tupI xs) (tupI ys)) else none) = _
  unfold eqOk
  rw [plain_ints, plain_ints]
  show some (D.eqvs (xs.map .int) (ys.map .int)) = _
  rw [eqvs_ints]
theorem eq_bl (x y : Bool) : cmpV .ne (.bl x) (.bl y) = some (!(x == y)) := by cases x <;> cases y <;> rfl
theorem reps_zero : ∀ n : Nat, reps [.int 0] n = (List.replicate n (0 : Int)).map D.int
  | 0 => rfl
  | n + 1 => by
    show [D.int 0] ++ reps [.int 0] n = _
    rw [reps_zero n]; rfl
theorem zero_tup (n : Nat) (hn : n ≤ 1000) : binV .mul (.tup [.int 0]) (.int n) = some (tupI (List.replicate n 0)) := by
  show (if -(2 ^ 62) ≤ (n : Int) ∧ (n : Int) ≤ 1000 ∧ [D.int 0].length ≤ 1000 then some (D.tup (reps [.int 0] ((n : Int)).toNat)) else none) = _
  rw [if_pos ⟨by omega, by omega, by simp⟩, show ((n : Int)).toNat = n by omega, reps_zero]
  rfl

section
variable {cl : Caller} {env : Env}
def si2D (cl : Caller) (j : Nat) (jx : E) (d' : D) (e : Env) : Bool → Fl
  | true => (evalE cl jx e).fl (setI3 j d')
  | false => .stk
@[simp] theorem si2D_t (j : Nat) (jx : E) (d' : D) (e : Env) : si2D cl j jx d' e true = (evalE cl jx e).fl (setI3 j d') := rfl
def si2C (cl : Caller) (j : Nat) (jx : E) (d' : D) : Option Env → Fl
  | some e => si2D cl j jx d' e (isOwn j e)
  | none => .stk
@[simp] theorem si2C_some (j : Nat) (jx : E) (d' : D) (e : Env) : si2C cl j jx d' (some e) = si2D cl j jx d' e (isOwn j e) := rfl
def si2B (cl : Caller) (i j : Nat) (jx : E) (d d' : D) (k : Opd) (e : Env) : Fl := si2C cl j jx d' (k.leak.bind fun k => setOwn i k d e)
@[simp] theorem si2B_at (i j : Nat) (jx : E) (d d' : D) (k : Opd) (e : Env) : si2B cl i j jx d d' k e = si2C cl j jx d' (k.leak.bind fun k => setOwn i k d e) := rfl
def si2A (cl : Caller) (i : Nat) (ix : E) (j : Nat) (jx : E) (d d' : D) (e : Env) : Bool → Fl
  | true => (evalE cl ix e).fl (si2B cl i j jx d d')
  | false => .stk
@[simp] theorem si2A_t (i : Nat) (ix : E) (j : Nat) (jx : E) (d d' : D) (e : Env) : si2A cl i ix j jx d d' e true = (evalE cl ix e).fl (si2B cl i j jx d d') := rfl
def si2L (cl : Caller) (i : Nat) (ix : E) (j : Nat) (jx : E) (e : Env) : Option (List D) → Fl
  | some [d, d'] => si2A cl i ix j jx d d' e (isOwn i e)
  | _ => .stk
@[simp] theorem si2L_some (i : Nat) (ix : E) (j : Nat) (jx : E) (d d' : D) (e : Env) : si2L cl i ix j jx e (some [d, d']) = si2A cl i ix j jx d d' e (isOwn i e) := rfl
def si2K (cl : Caller) (i : Nat) (ix : E) (j : Nat) (jx : E) (os : List Opd) (e : Env) : Fl := si2L cl i ix j jx e (leaks os)
@[simp] theorem si2K_at (i : Nat) (ix : E) (j : Nat) (jx : E) (os : List Opd) (e : Env) : si2K cl i ix j jx os e = si2L cl i ix j jx e (leaks os) := rfl
@[simp] theorem evalS_setI2 (i : Nat) (ix : E) (j : Nat) (jx : E) (es : Es) : evalS cl (.setI2 i ix j jx es) env = (evalEs cl es env).fl (si2K cl i ix j jx) := by
  rw [evalS]
  congr 1
  funext os e
  unfold si2K si2L
  cases leaks os with
  | none => rfl
  | some l =>
    match l with
    | [] => rfl
    | [_] => rfl
    | _ :: _ :: _ :: _ => rfl
    | [d, d'] =>
      show (if isOwn i e = true then _ else _) = si2A cl i ix j jx d d' e (isOwn i e)
      cases isOwn i e with
      | false => rfl
      | true =>
        show (evalE cl ix e).fl _ = (evalE cl ix e).fl _
        congr 1
        funext k e2
        unfold si2B
        cases (k.leak.bind fun k => setOwn i k d e2) with
        | none => rfl
        | some e3 =>
          show (if isOwn j e3 = true then _ else _) = si2D cl j jx d' e3 (isOwn j e3)
          cases isOwn j e3 <;> rfl
end
theorem good_pos {row : List Int} (h1 : 1 ≤ row.length) (h2 : row.length ≤ 13) (h : ∀ x ∈ row, 1 ≤ x ∧ x ≤ 1000000000000000) : Good row :=
  ⟨h1, h2, fun x hx => by have := h x hx; omega, fun x hx => by have := h x (List.mem_of_getElem? hx); omega, fun x hx => by have := h x (List.mem_of_getElem? hx); omega⟩
theorem sortI_mem : ∀ (l : List Int) (x : Int), x ∈ sortI l → x ∈ l := by
  have ins : ∀ (l : List Int) (y x : Int), x ∈ insI y l → x = y ∨ x ∈ l := by
    intro l
    induction l with
    | nil => intro y x h; simp [insI] at h; exact .inl h
    | cons a r ih =>
      intro y x h
      unfold insI at h
      split at h
      · rcases List.mem_cons.mp h with h | h
        · exact .inl h
        · exact .inr h
      · rcases List.mem_cons.mp h with h | h
        · exact .inr (by rw [h]; exact List.mem_cons_self)
        · exact (ih y x h).imp id fun z => List.mem_cons_of_mem _ z
  intro l
  induction l with
  | nil => intro x h; simp [sortI] at h
  | cons a r ih =>
    intro x h
    unfold sortI at h
    rcases ins _ a x h with h | h
    · rw [h]; exact List.mem_cons_self
    · exact List.mem_cons_of_mem _ (ih x h)
theorem sortI_len : ∀ l : List Int, (sortI l).length = l.length := by
  have ins : ∀ (l : List Int) (y : Int), (insI y l).length = l.length + 1 := by
    intro l
    induction l with
    | nil => intro y; rfl
    | cons a r ih =>
      intro y
      unfold insI
      split
      · rfl
      · show (insI y r).length + 1 = _
        rw [ih]; rfl
  intro l
  induction l with
  | nil => rfl
  | cons a r ih => unfold sortI; rw [ins, ih]; rfl
theorem sorted_ints (xs : List Int) : bltV .sorted [.lst (xs.map .int)] = some (.lst ((sortI xs).map .int)) := by
  show (match ints? (xs.map D.int) with | some ns => some (D.lst ((sortI ns).map .int)) | none => if sortOk (xs.map D.int) then some (.lst ((xs.map D.int).mergeSort leP)) else none) = _
  rw [ints_map]
theorem idx_ints {xs : List Int} {k : Nat} (h : k < xs.length) : idxV (.lst (xs.map .int)) (.int k) = some (.int (xs.getD k 0)) := idx_row h
theorem zero_lst (n : Nat) (hn : n ≤ 1000) : binV .mul (.lst [.int 0]) (.int n) = some (.lst ((List.replicate n (0 : Int)).map .int)) := by
  show (if -(2 ^ 62) ≤ (n : Int) ∧ (n : Int) ≤ cap ∧ [D.int 0].length * ((n : Int)).toNat ≤ cap then some (D.lst (reps [.int 0] ((n : Int)).toNat)) else none) = _
  rw [if_pos ⟨by omega, by rw [cap_is]; omega, by rw [cap_is]; simp; omega⟩, show ((n : Int)).toNat = n by omega, reps_zero]

theorem getD_mem {xs : List Int} {k : Nat} (h : k < xs.length) : xs.getD k 0 ∈ xs := by
  rw [List.getD_eq_getElem?_getD, List.getElem?_eq_getElem h]
  exact List.getElem_mem h
theorem map_set (xs : List Int) (k : Nat) (v : Int) : (xs.map D.int).set k (.int v) = (xs.set k v).map D.int := by rw [List.map_set]

theorem tuple_lst (xs : List D) : bltV .tuple [.lst xs] = some (.tup xs) := rfl

theorem sum_set_add : ∀ (f : List Int) (k : Nat) (v : Int), k < f.length → (f.set k (f.getD k 0 + v)).sum = f.sum + v
  | [], k, v, h => by simp at h
  | x :: f, 0, v, h => by simp; omega
  | x :: f, k + 1, v, h => by
    have := sum_set_add f k v (by simpa using h)
    simp only [List.set_cons_succ, List.sum_cons, List.getD_cons_succ]
    omega
theorem gset_self {f : List Int} {k : Nat} {v : Int} (h : k < f.length) : (f.set k v).getD k 0 = v := by
  rw [List.getD_eq_getElem?_getD, List.getElem?_set_self h]; rfl
theorem gset_ne {f : List Int} {k m : Nat} {v : Int} (h : k ≠ m) : (f.set k v).getD m 0 = f.getD m 0 := by
  rw [List.getD_eq_getElem?_getD, List.getElem?_set_ne h, ← List.getD_eq_getElem?_getD]
theorem le_sum : ∀ (f : List Int), (∀ x ∈ f, 0 ≤ x) → ∀ x ∈ f, x ≤ f.sum
  | [], _, x, h => by simp at h
  | y :: f, hn, x, h => by
    have ih := le_sum f fun z hz => hn z (List.mem_cons_of_mem _ hz)
    have s0 : ∀ g : List Int, (∀ z ∈ g, 0 ≤ z) → 0 ≤ g.sum := by
      intro g
      induction g with
      | nil => intro _; simp
      | cons a g ih => intro hg; rw [List.sum_cons]; have := hg a List.mem_cons_self; have := ih fun z hz => hg z (List.mem_cons_of_mem _ hz); omega
    have := s0 f fun z hz => hn z (List.mem_cons_of_mem _ hz)
    rw [List.sum_cons]
    rcases List.mem_cons.mp h with rfl | h
    · omega
    · have := ih x h; have := hn y List.mem_cons_self; omega
structure Pr (one two f : List Int) (i j : Nat) : Prop where
  len : f.length = one.length + two.length - 1
  nn : ∀ x ∈ f, 0 ≤ x
  sum : f.sum = (one.take i).sum * two.sum + one.getD i 0 * (two.take j).sum
  ge : ∀ a b, a < one.length → b < two.length → (a < i ∨ (a = i ∧ b < j)) → one.getD a 0 * two.getD b 0 ≤ f.getD (a + b) 0
structure Fac (one : List Int) (B : Int) : Prop where
  ne : 1 ≤ one.length
  le : one.length ≤ 20
  nn : ∀ x ∈ one, 0 ≤ x ∧ x ≤ B
theorem Pr.step {one two f : List Int} {i j : Nat} {B C : Int} (p : Pr one two f i j) (h1 : Fac one B) (h2 : Fac two C) (hi : i < one.length) (hj : j < two.length) : Pr one two (f.set (i + j) (f.getD (i + j) 0 + one.getD i 0 * two.getD j 0)) i (j + 1) := by
  have l := p.len
  have hk : i + j < f.length := by omega
  have a0 := (h1.nn _ (getD_mem hi)).1
  have b0 := (h2.nn _ (getD_mem hj)).1
  have v0 : 0 ≤ one.getD i 0 * two.getD j 0 := Int.mul_nonneg a0 b0
  have f0 := p.nn _ (getD_mem hk)
  refine ⟨by simp [l], fun x hx => ?_, ?_, fun a b ha hb hc => ?_⟩
  · rcases List.mem_or_eq_of_mem_set hx with hx | rfl
    · exact p.nn x hx
    · omega
  · rw [sum_set_add f _ _ hk, p.sum, take_succ j hj, Int.mul_add]
    unfold rr
    omega
  · by_cases hab : a + b = i + j
    · rw [hab, gset_self hk]
      by_cases hai : a = i
      · subst hai
        have : b = j := by omega
        subst this
        omega
      · have := p.ge a b ha hb (by omega)
        rw [hab] at this
        omega
    · rw [gset_ne (Ne.symm hab)]
      exact p.ge a b ha hb (by omega)
theorem times_inner {fs : List Fn} (n : Nat) (one two : List Int) {B C : Int} (h1 : Fac one B) (h2 : Fac two C) (hB : B < 2 ^ 60) (hC : C < 2 ^ 60) (i : Nat) (hi : i < one.length) (f : List Int) (p : Pr one two f i 0) (t : Slot) :
    ∃ f' t', Pr one two f' i two.length ∧ forT (callF fs n) (.nm 4) std_law_times_of_b1 ((List.range two.length).map fun (j : Nat) => D.int (j : Int)) [.val (.lst (one.map .int)), .val (.lst (two.map .int)), .own (.lst (f.map .int)), .val (.int (i : Int)), t]
      = .nx [.val (.lst (one.map .int)), .val (.lst (two.map .int)), .own (.lst (f'.map .int)), .val (.int (i : Int)), t'] := by
  obtain ⟨e, he, f', t', h3, p'⟩ := forT_inv (cl := callF fs n) (t := .nm 4) (b := std_law_times_of_b1)
    (fun j e => ∃ (f : List Int) (t : Slot), e = [.val (.lst (one.map .int)), .val (.lst (two.map .int)), .own (.lst (f.map .int)), .val (.int (i : Int)), t] ∧ Pr one two f i j)
    ((List.range two.length).map fun (j : Nat) => D.int (j : Int)) 0 [.val (.lst (one.map .int)), .val (.lst (two.map .int)), .own (.lst (f.map .int)), .val (.int (i : Int)), t] ⟨f, t, rfl, p⟩ fun j d env hd hI => by
      obtain ⟨f, t, rfl, p⟩ := hI
      rw [Nat.zero_add] at p ⊢
      have hj : j < two.length := by
        have := (List.getElem?_eq_some_iff.mp hd).1
        simpa using this
      have hd' : d = .int (j : Int) := by
        rw [List.getElem?_map, List.getElem?_range hj] at hd
        exact (Option.some.inj hd).symm
      subst hd'
      have l := p.len
      have io := idx_ints (xs := one) hi
      have it := idx_ints (xs := two) hj
      have iff' := idx_ints (xs := f) (k := i + j) (by omega)
      rw [show ((i + j : Nat) : Int) = (i : Int) + j by omega] at iff'
      have o0 := h1.nn _ (getD_mem hi)
      have t0 := h2.nn _ (getD_mem hj)
      have mo : mulOk (one.getD i 0) (two.getD j 0) = true := mulOk_small (by have := log2_lt (i := one.getD i 0) (k := 60) (by omega) (by omega); omega) (by have := log2_lt (i := two.getD j 0) (k := 60) (by omega) (by omega); omega)
      have pl : place f.length ((i : Int) + j) = some (i + j) := by
        rw [place_nat (by omega) (by omega)]
        congr 1
      have mm := mul_int mo
      refine ⟨_, by simp; rfl, ?_⟩
      refine ⟨[.val (.lst (one.map .int)), .val (.lst (two.map .int)), .own (.lst ((f.set (i + j) (f.getD (i + j) 0 + one.getD i 0 * two.getD j 0)).map .int)), .val (.int (i : Int)), .val (.int j)], .inl ?_, f.set (i + j) (f.getD (i + j) 0 + one.getD i 0 * two.getD j 0), .val (.int j), rfl, p.step h1 h2 hi hj⟩
      simp only [List.getD_eq_getElem?_getD] at io it iff' mm
      simp [std_law_times_of_b1, io, it, iff', mm, pl]
  subst h3
  simp only [Nat.zero_add, List.length_map, List.length_range] at p'
  exact ⟨f', t', p', he⟩
theorem Pr.next {one two f : List Int} {i : Nat} (p : Pr one two f i two.length) (hi : i < one.length) : Pr one two f (i + 1) 0 := by
  refine ⟨p.len, p.nn, ?_, fun a b ha hb hc => p.ge a b ha hb (by omega)⟩
  rw [p.sum, take_succ i hi, Int.add_mul, List.take_length]
  simp [rr]
theorem timesL_run {fs : List Fn} {m : Nat} (hM : fs[m]? = some std_law_times_of) (n : Nat) (one two : List Int) {B C : Int} (h1 : Fac one B) (h2 : Fac two C) (hB : B < 2 ^ 60) (hC : C < 2 ^ 60) : ∃ f, Pr one two f one.length 0 ∧ callF fs (n + 1) m [.val (.lst (one.map .int)), .val (.lst (two.map .int))] = .ok (.lst (f.map .int)) true [] := by
  rw [callF_at hM rfl rfl (by decide : (2 : Nat) ≤ 5)]
  have a1 := h1.ne
  have a2 := h1.le
  have b1 := h2.ne
  have b2 := h2.le
  have p0 : Pr one two (List.replicate (one.length + two.length - 1) 0) 0 0 := by
    refine ⟨by simp, fun x hx => ?_, ?_, fun a b ha hb hc => by omega⟩
    · rw [(List.mem_replicate.mp hx).2]; exact Int.le_refl 0
    · have : ∀ m : Nat, (List.replicate m (0 : Int)).sum = 0 := fun m => by induction m with
        | zero => rfl
        | succ m ih => rw [List.replicate_succ, List.sum_cons, ih]; rfl
      rw [this]
      simp
  obtain ⟨e, he, f', t3, t4, h3, p'⟩ := forT_inv (cl := callF fs n) (t := .nm 3) (b := std_law_times_of_b2)
    (fun i e => ∃ (f : List Int) (t3 t4 : Slot), e = [.val (.lst (one.map .int)), .val (.lst (two.map .int)), .own (.lst (f.map .int)), t3, t4] ∧ Pr one two f i 0)
    ((List.range one.length).map fun (j : Nat) => D.int (j : Int)) 0 [.val (.lst (one.map .int)), .val (.lst (two.map .int)), .own (.lst ((List.replicate (one.length + two.length - 1) (0 : Int)).map .int)), .un, .un] ⟨_, .un, .un, rfl, p0⟩ fun i d env hd hI => by
      obtain ⟨f, t3, t4, rfl, p⟩ := hI
      rw [Nat.zero_add] at p ⊢
      have hi : i < one.length := by
        have := (List.getElem?_eq_some_iff.mp hd).1
        simpa using this
      have hd' : d = .int (i : Int) := by
        rw [List.getElem?_map, List.getElem?_range hi] at hd
        exact (Option.some.inj hd).symm
      subst hd'
      obtain ⟨f', t', p', hin⟩ := times_inner (fs := fs) n one two h1 h2 hB hC i hi f p t4
      have hrg : evalI (callF fs n) (.rng1 (.blt .len (.cons (.var 1) .nil))) [.val (.lst (one.map .int)), .val (.lst (two.map .int)), .own (.lst (f.map .int)), .val (.int (i : Int)), t4] = .ok ((List.range two.length).map fun (j : Nat) => D.int (j : Int)) [.val (.lst (one.map .int)), .val (.lst (two.map .int)), .own (.lst (f.map .int)), .val (.int (i : Int)), t4] :=
        rng1_run (m := two.length) (by simp) (by omega)
      refine ⟨_, by simp; rfl, ?_⟩
      exact ⟨_, .inl (by simp [std_law_times_of_b2, evalS_for, hrg, hin]; rfl), f', _, t', rfl, p'.next hi⟩
  subst h3
  simp only [Nat.zero_add, List.length_map, List.length_range] at p'
  have hz := zero_lst (one.length + two.length - 1) (by omega)
  rw [show ((one.length + two.length - 1 : Nat) : Int) = (one.length : Int) + two.length - 1 by omega] at hz
  have hrg : evalI (callF fs n) (.rng1 (.blt .len (.cons (.var 0) .nil))) [.val (.lst (one.map .int)), .val (.lst (two.map .int)), .own (.lst ((List.replicate (one.length + two.length - 1) (0 : Int)).map .int)), .un, .un] = .ok ((List.range one.length).map fun (j : Nat) => D.int (j : Int)) [.val (.lst (one.map .int)), .val (.lst (two.map .int)), .own (.lst ((List.replicate (one.length + two.length - 1) (0 : Int)).map .int)), .un, .un] :=
    rng1_run (m := one.length) (by simp) (by omega)
  simp only [List.map_replicate] at hz hrg he
  refine ⟨f', p', ?_⟩
  simp [std_law_times_of, hz, evalS_for, hrg, he]
  simp [endOf, outsOf]

theorem ss_step {cl : Caller} {P : Fl → Prop} {s : S} {r : Ss} {env e : Env} (h : evalS cl s env = .nx e) (k : P (evalSs cl r e)) : P (evalSs cl (.cons s r) env) := by
  rw [evalSs_cons, h, ssK_nx]; exact k
theorem whl_done {cl : Caller} {c : T} {b : Ss} {m : Nat} {env e : Env} (h : evalT cl c env = .ok false e) : whlT cl c b (m + 1) env = .nx e := by
  unfold whlT whlL
  rw [h]
theorem whl_go {cl : Caller} {c : T} {b : Ss} {m : Nat} {env e e2 : Env} (h : evalT cl c env = .ok true e) (h2 : evalSs cl b e = .nx e2) : whlT cl c b (m + 1) env = whlT cl c b m e2 := by
  unfold whlT
  rw [whlL]
  rw [h]
  simp only [h2]
theorem draws_comp {fs : List Fn} (n : Nat) (s1 s2 s3 s4 s5 s6 s7 s8 s9 : Slot) (x : DrS) (hx : x.Ok) (hxs : x.s < 2147483648) (elt : E) (it : It) (size : Nat) (lo hi : Int) (hs : size ≤ 1000)
    (hI : evalI (callF fs n) it [.own x.d, s1, s2, s3, s4, s5, s6, s7, s8, s9] = .ok ((List.range size).map fun (i : Nat) => D.int (i : Int)) [.own x.d, s1, s2, s3, s4, s5, s6, s7, s8, s9])
    (hE : ∀ (y : DrS) (d : D), y.Ok → y.s < 2147483648 → ∃ z : DrS, z.Ok ∧ z.s < 2147483648 ∧ ∃ r : Int, lo ≤ r ∧ r ≤ hi ∧ evalE (callF fs n) elt [.own y.d, s1, s2, s3, s4, s5, .val d, s7, s8, s9] = .ok (.val (.int r)) [.own z.d, s1, s2, s3, s4, s5, .val d, s7, s8, s9]) :
    ∃ (z : DrS) (vs : List Int), z.Ok ∧ z.s < 2147483648 ∧ vs.length = size ∧ (∀ v ∈ vs, lo ≤ v ∧ v ≤ hi) ∧
      evalE (callF fs n) (.comp elt (.nm 6) it .yes [6]) [.own x.d, s1, s2, s3, s4, s5, s6, s7, s8, s9] = .ok (.fresh (.lst (vs.map .int))) [.own z.d, s1, s2, s3, s4, s5, s6, s7, s8, s9] := by
  obtain ⟨ys, e, h1, y, t, vs, hy, hys, rfl, rfl, h3, h4⟩ := compT_inv (cl := callF fs n) (t := .nm 6) (c := .yes) (elt := elt) (own := [6])
    (fun k acc e => ∃ (y : DrS) (t : Slot) (vs : List Int), y.Ok ∧ y.s < 2147483648 ∧ e = [.own y.d, s1, s2, s3, s4, s5, t, s7, s8, s9] ∧ acc = vs.map .int ∧ vs.length = k ∧ ∀ v ∈ vs, lo ≤ v ∧ v ≤ hi)
    ((List.range size).map fun (i : Nat) => D.int (i : Int)) 0 [] [.own x.d, s1, s2, s3, s4, s5, s6, s7, s8, s9] ⟨x, s6, [], hx, hxs, rfl, rfl, rfl, fun v hv => by simp at hv⟩ fun i d acc e hd hi' => by
      obtain ⟨y, t, vs, hy, hys, rfl, rfl, h3, h4⟩ := hi'
      obtain ⟨z, hz, hzs, r, r1, r2, hr⟩ := hE y d hy hys
      refine ⟨[.own y.d, s1, s2, s3, s4, s5, .val d, s7, s8, s9], by simp [wipeE], .inr ⟨_, _, _, .int r, by simp, hr, rfl, z, .val d, vs ++ [r], hz, hzs, rfl, by simp, by simp [h3], fun v hv => ?_⟩⟩
      rcases List.mem_append.mp hv with hv | hv
      · exact h4 v hv
      · rw [List.mem_singleton] at hv
        subst hv
        exact ⟨r1, r2⟩
  simp only [Nat.zero_add, List.length_map, List.length_range] at h3
  refine ⟨y, vs, hy, hys, h3, h4, ?_⟩
  rw [evalE_comp, hI, Res.bind_ok, compK_at _ _ _ _ _ _ (range_cap (by omega)), h1]
  rfl
def PQ (fl : Fl) : Prop := ∃ y : DrS, y.Ok ∧ y.s < 2147483648 ∧ ∃ row, Good row ∧ endOf [true, false] fl = .ok (tupI row) false [y.d]
theorem PQ.ret {y : DrS} (hy : y.Ok) (hys : y.s < 2147483648) {row : List Int} (g : Good row) {r : List Slot} : PQ (.rt (.val (tupI row)) (.own y.d :: r)) := ⟨y, hy, hys, row, g, rfl⟩
/-- the loop that multiplies -/
structure Lp (row : List Int) : Prop where
  ne : 1 ≤ row.length
  le : row.length ≤ 12
  nn : ∀ x ∈ row, 0 ≤ x
  sum : row.sum ≤ 3 * 8 ^ (row.length - 1)
  hd : 0 < row.getD 0 0
  tl : 0 < row.getD (row.length - 1) 0
theorem pow_le {a b : Nat} (h : a ≤ b) : (8 : Int) ^ a ≤ 8 ^ b := by
  have := Nat.pow_le_pow_right (n := 8) (by omega) h
  have h1 : ((8 ^ a : Nat) : Int) ≤ ((8 ^ b : Nat) : Int) := by omega
  rw [Int.natCast_pow, Int.natCast_pow] at h1
  exact h1
theorem Lp.big {row : List Int} (l : Lp row) : ∀ x ∈ row, x ≤ 3 * 8 ^ 11 := fun x hx => by
  have h1 := le_sum row l.nn x hx
  have h2 := pow_le (a := row.length - 1) (b := 11) (by have := l.le; omega)
  have h3 := l.sum
  omega
theorem Lp.good {row : List Int} (l : Lp row) : Good row := by
  have n1 := l.ne
  refine ⟨l.ne, by have := l.le; omega, fun x hx => ⟨l.nn x hx, ?_⟩, fun x hx => ?_, fun x hx => ?_⟩
  · have := l.big x hx
    have e : (3 * 8 ^ 11 : Int) = 25769803776 := by decide +kernel
    omega
  · have := l.hd
    rw [List.getD_eq_getElem?_getD, hx] at this
    exact this
  · have := l.tl
    rw [List.getD_eq_getElem?_getD, hx] at this
    exact this
theorem Lp.times {row fac f : List Int} (l : Lp row) (h10 : row.length ≤ 10) (h2 : 2 ≤ fac.length) (h3 : fac.length ≤ 3) (hf : ∀ x ∈ fac, 1 ≤ x) (h8 : fac.sum ≤ 8) (p : Pr row fac f row.length 0) : Lp f := by
  have ln := p.len
  have n1 := l.ne
  have fp : ∀ i, i < fac.length → 0 < fac.getD i 0 := fun i hi => by have := hf _ (getD_mem hi); omega
  have s0 : ∀ g : List Int, (∀ z ∈ g, 0 ≤ z) → 0 ≤ g.sum := by
    intro g
    induction g with
    | nil => intro _; simp
    | cons a g ih => intro hg; rw [List.sum_cons]; have := hg a List.mem_cons_self; have := ih fun z hz => hg z (List.mem_cons_of_mem _ hz); omega
  have rs := s0 row l.nn
  refine ⟨by omega, by omega, p.nn, ?_, ?_, ?_⟩
  · have e := p.sum
    rw [List.take_length] at e
    simp only [List.take_zero, List.sum_nil, Int.mul_zero, Int.add_zero] at e
    have a1 : row.sum * fac.sum ≤ row.sum * 8 := Int.mul_le_mul_of_nonneg_left h8 rs
    have a2 := l.sum
    have a3 := pow_le (a := row.length) (b := f.length - 1) (by omega)
    have a4 : (8 : Int) ^ row.length = 8 ^ (row.length - 1) * 8 := by rw [← Int.pow_succ]; congr 1; omega
    omega
  · have t : row.getD 0 0 * fac.getD 0 0 ≤ f.getD 0 0 := p.ge 0 0 (by omega) (by omega) (.inl (by omega))
    have := Int.mul_pos l.hd (fp 0 (by omega))
    omega
  · have := p.ge (row.length - 1) (fac.length - 1) (by omega) (by omega) (.inl (by omega))
    have := Int.mul_pos l.tl (fp (fac.length - 1) (by omega))
    rw [show row.length - 1 + (fac.length - 1) = f.length - 1 by omega] at *
    omega
theorem sum2 (a b : Int) : [a, b].sum = a + b := by simp
theorem sum3 (a b c : Int) : [a, b, c].sum = a + b + c := by simp; omega
theorem loop_run {fs : List Fn} {t m : Nat} (hT : fs[t]? = some std_law_take) (hM : fs[m]? = some std_law_times_of) (n : Nat) (s1 s3 s6 s7 s8 : Slot) (kind size : Int) (hsz : size ≤ 11) : ∀ (k : Nat) (row : List Int) (y : DrS) (t9 : Slot) (q : Nat), y.Ok → y.s < 2147483648 → Lp row → 12 - row.length ≤ k → k < q →
    ∃ (z : DrS) (row' : List Int) (t9' : Slot), z.Ok ∧ z.s < 2147483648 ∧ Lp row' ∧ whlT (callF fs (n + 1)) std_law_row_t5 (std_law_row_b4 t m) q [.own y.d, s1, .val (.int kind), s3, .val (.int size), .own (.lst (row.map .int)), s6, s7, s8, t9] =
      .nx [.own z.d, s1, .val (.int kind), s3, .val (.int size), .own (.lst (row'.map .int)), s6, s7, s8, t9'] := by
  intro k
  induction k with
  | zero =>
    intro row y t9 q hy hys l hk hm
    obtain ⟨q, rfl⟩ : ∃ q', q = q' + 1 := ⟨q - 1, by omega⟩
    refine ⟨y, row, t9, hy, hys, l, whl_done ?_⟩
    have : ¬ (row.length : Int) < size := by omega
    simp [std_law_row_t5, this]
  | succ k ih =>
    intro row y t9 q hy hys l hk hm
    obtain ⟨q, rfl⟩ : ∃ q', q = q' + 1 := ⟨q - 1, by omega⟩
    by_cases hlt : (row.length : Int) < size
    · have ht : evalT (callF fs (n + 1)) std_law_row_t5 [.own y.d, s1, .val (.int kind), s3, .val (.int size), .own (.lst (row.map .int)), s6, s7, s8, t9] = .ok true [.own y.d, s1, .val (.int kind), s3, .val (.int size), .own (.lst (row.map .int)), s6, s7, s8, t9] := by
        simp [std_law_row_t5, hlt]
      have fr : Fac row (3 * 8 ^ 11) := ⟨l.ne, by have := l.le; omega, fun x hx => ⟨l.nn x hx, l.big x hx⟩⟩
      -- one turn with this factor
      have go : ∀ (z : DrS) (fac : List Int), z.Ok → z.s < 2147483648 → 2 ≤ fac.length → fac.length ≤ 3 → (∀ x ∈ fac, 1 ≤ x ∧ x ≤ 8) → fac.sum ≤ 8 →
          evalE (callF fs (n + 1)) (.ite (.e (.cmp .eq (.var 2) (.con (.int 3)))) (.lst (.cons (.bin .add (.con (.int 1)) (.call t [true, false] (.cons (.var 0) (.cons (.con (.int 5)) .nil)))) (.cons (.bin .add (.con (.int 1)) (.call t [true, false] (.cons (.var 0) (.cons (.con (.int 3)) .nil)))) .nil))) (.lst (.cons (.con (.int 1)) (.cons (.bin .add (.con (.int 1)) (.call t [true, false] (.cons (.var 0) (.cons (.con (.int 6)) .nil)))) (.cons (.con (.int 1)) .nil))))) [.own y.d, s1, .val (.int kind), s3, .val (.int size), .own (.lst (row.map .int)), s6, s7, s8, t9]
            = .ok (.fresh (.lst (fac.map .int))) [.own z.d, s1, .val (.int kind), s3, .val (.int size), .own (.lst (row.map .int)), s6, s7, s8, t9] →
          ∃ (z : DrS) (row' : List Int) (t9' : Slot), z.Ok ∧ z.s < 2147483648 ∧ Lp row' ∧ whlT (callF fs (n + 1)) std_law_row_t5 (std_law_row_b4 t m) (q + 1) [.own y.d, s1, .val (.int kind), s3, .val (.int size), .own (.lst (row.map .int)), s6, s7, s8, t9] =
            .nx [.own z.d, s1, .val (.int kind), s3, .val (.int size), .own (.lst (row'.map .int)), s6, s7, s8, t9'] := by
        intro z fac hz hzs f1 f2 f3 f4 hfac
        have ff : Fac fac 8 := ⟨by omega, by omega, fun x hx => by have := f3 x hx; omega⟩
        obtain ⟨f, pf, hc⟩ := timesL_run hM n row fac fr ff (by decide +kernel) (by decide +kernel)
        have l' := l.times (by omega) f1 f2 (fun x hx => (f3 x hx).1) f4 pf
        have hcr : callR (callF fs (n + 1)) m [false, false] [.val (.lst (row.map .int)), .val (.lst (fac.map .int))] [.own z.d, s1, .val (.int kind), s3, .val (.int size), .val (.lst (row.map .int)), s6, s7, s8, .val (.lst (fac.map .int))] = .ok (.fresh (.lst (f.map .int))) [.own z.d, s1, .val (.int kind), s3, .val (.int size), .val (.lst (row.map .int)), s6, s7, s8, .val (.lst (fac.map .int))] := callR_val2 hc
        obtain ⟨z', row', t', a1, a2, a3, a4⟩ := ih f z (.val (.lst (fac.map .int))) q hz hzs l' (by have := pf.len; omega) (by omega)
        refine ⟨z', row', t', a1, a2, a3, ?_⟩
        rw [whl_go ht (e2 := [.own z.d, s1, .val (.int kind), s3, .val (.int size), .own (.lst (f.map .int)), s6, s7, s8, .val (.lst (fac.map .int))]) ?_]
        · exact a4
        · unfold std_law_row_b4
          rw [evalSs_cons, evalS_set, hfac]
          simp [hcr]
      by_cases h3 : kind = 3
      · subst h3
        obtain ⟨z1, hz1, hzs1, r1, p1, p2, hr1⟩ := take_call hT n (env := [.own y.d, s1, .val (.int 3), s3, .val (.int size), .own (.lst (row.map .int)), s6, s7, s8, t9]) (i := 0) (x := y) rfl hy hys (m := 5) (by omega) (by decide +kernel)
        have hr1' : callR (callF fs (n + 1)) t [true, false] [.slot 0, .val (.int 5)] [.own y.d, s1, .val (.int 3), s3, .val (.int size), .own (.lst (row.map .int)), s6, s7, s8, t9] = .ok (.val (.int r1)) [.own z1.d, s1, .val (.int 3), s3, .val (.int size), .own (.lst (row.map .int)), s6, s7, s8, t9] := hr1
        obtain ⟨z2, hz2, hzs2, r2, q1, q2, hr2⟩ := take_call hT n (env := [.own z1.d, s1, .val (.int 3), s3, .val (.int size), .own (.lst (row.map .int)), s6, s7, s8, t9]) (i := 0) (x := z1) rfl hz1 hzs1 (m := 3) (by omega) (by decide +kernel)
        have hr2' : callR (callF fs (n + 1)) t [true, false] [.slot 0, .val (.int 3)] [.own z1.d, s1, .val (.int 3), s3, .val (.int size), .own (.lst (row.map .int)), s6, s7, s8, t9] = .ok (.val (.int r2)) [.own z2.d, s1, .val (.int 3), s3, .val (.int size), .own (.lst (row.map .int)), s6, s7, s8, t9] := hr2
        refine go z2 [1 + r1, 1 + r2] hz2 hzs2 (by simp) (by simp) (fun x hx => ?_) (by rw [sum2]; omega) (by simp [hr1', hr2'])
        simp only [List.mem_cons, List.not_mem_nil, or_false] at hx
        omega
      · obtain ⟨z1, hz1, hzs1, r1, p1, p2, hr1⟩ := take_call hT n (env := [.own y.d, s1, .val (.int kind), s3, .val (.int size), .own (.lst (row.map .int)), s6, s7, s8, t9]) (i := 0) (x := y) rfl hy hys (m := 6) (by omega) (by decide +kernel)
        have hr1' : callR (callF fs (n + 1)) t [true, false] [.slot 0, .val (.int 6)] [.own y.d, s1, .val (.int kind), s3, .val (.int size), .own (.lst (row.map .int)), s6, s7, s8, t9] = .ok (.val (.int r1)) [.own z1.d, s1, .val (.int kind), s3, .val (.int size), .own (.lst (row.map .int)), s6, s7, s8, t9] := hr1
        refine go z1 [1, 1 + r1, 1] hz1 hzs1 (by simp) (by simp) (fun x hx => ?_) (by rw [sum3]; omega) (by simp [hr1', h3])
        simp only [List.mem_cons, List.not_mem_nil, or_false] at hx
        omega
    · refine ⟨y, row, t9, hy, hys, l, whl_done ?_⟩
      simp [std_law_row_t5, hlt]

theorem sl_take (xs : List Int) (j : Nat) : sliV (.lst (xs.map .int)) none (some (j : Int)) = some (.lst ((xs.take j).map .int)) := by
  have := sli_take xs j
  show some (D.lst (cut (xs.map D.int) none (some (j : Int)))) = _
  have h : some (D.tup (cut (xs.map D.int) none (some (j : Int)))) = some (D.tup ((xs.take j).map .int)) := this
  rw [D.tup.inj (Option.some.inj h)]
theorem sl_drop (xs : List Int) (j : Nat) (hj : j ≤ xs.length) : sliV (.lst (xs.map .int)) (some (j : Int)) none = some (.lst ((xs.drop j).map .int)) := by
  have := sli_drop xs j hj
  show some (D.lst (cut (xs.map D.int) (some (j : Int)) none)) = _
  have h : some (D.tup (cut (xs.map D.int) (some (j : Int)) none)) = some (D.tup ((xs.drop j).map .int)) := this
  rw [D.tup.inj (Option.some.inj h)]
theorem rev_lst (xs : List Int) : revV (.lst (xs.map .int)) = some (.lst (xs.reverse.map .int)) := by
  show some (D.lst (xs.map D.int).reverse) = _
  rw [List.map_reverse]
theorem add_lstI (xs ys : List Int) (h : xs.length + ys.length ≤ 1000) : binV .add (.lst (xs.map .int)) (.lst (ys.map .int)) = some (.lst ((xs ++ ys).map .int)) := by
  show (if (xs.map D.int).length + (ys.map D.int).length ≤ cap then some (D.lst (xs.map D.int ++ ys.map D.int)) else none) = _
  rw [List.length_map, List.length_map, if_pos (by rw [cap_is]; omega), ← List.map_append]
theorem tuple_lstI (xs : List Int) : bltV .tuple [.lst (xs.map .int)] = some (tupI xs) := rfl
theorem high_at (r : Int) (h0 : 0 ≤ r) (h1 : r < 4) : ∃ h : Int, 2 ≤ h ∧ h ≤ 1000000 ∧ idxV (.lst [.int 2, .int 6, .int 40, .int 1000000]) (.int r) = some (.int h) := by
  have : r = 0 ∨ r = 1 ∨ r = 2 ∨ r = 3 := by omega
  rcases this with rfl | rfl | rfl | rfl
  · exact ⟨2, by omega, by omega, rfl⟩
  · exact ⟨6, by omega, by omega, rfl⟩
  · exact ⟨40, by omega, by omega, rfl⟩
  · exact ⟨1000000, by omega, by omega, rfl⟩
theorem pow_at : binV .pow (.int 10) (.int 6) = some (.int 1000000) := by
  show (if powOk 10 6 then some (D.int (10 ^ (6 : Int).toNat)) else none) = _
  rw [if_pos (by decide +kernel)]
  rfl
theorem row_run {fs : List Fn} {t m f : Nat} (hT : fs[t]? = some std_law_take) (hM : fs[m]? = some std_law_times_of) (hf : fs[f]? = some (std_law_row t m)) (most : Int) (hm1 : 1 ≤ most) (hm2 : most ≤ 11) (n : Nat) (x : DrS) (hx : x.Ok) (hxs : x.s < 2147483648) : ∃ y : DrS, y.Ok ∧ y.s < 2147483648 ∧ ∃ row, Good row ∧ callF fs (n + 2) f [.own x.d, .val (.int most)] = .ok (tupI row) false [y.d] := by
  rw [callF_at hf rfl rfl (by decide : (2 : Nat) ≤ 10)]
  show PQ (evalSs (callF fs (n + 1)) (std_law_row t m).body [.own x.d, .val (.int most), .un, .un, .un, .un, .un, .un, .un, .un])
  simp only [std_law_row]
  obtain ⟨x1, hx1, hxs1, kind, k0, k1, h1⟩ := take_call hT n (env := [.own x.d, .val (.int most), .un, .un, .un, .un, .un, .un, .un, .un]) (i := 0) (x := x) rfl hx hxs (m := 5) (by omega) (by decide +kernel)
  have h1' : callR (callF fs (n + 1)) t [true, false] [.slot 0, .val (.int 5)] [.own x.d, .val (.int most), .un, .un, .un, .un, .un, .un, .un, .un] = .ok (.val (.int kind)) [.own x1.d, .val (.int most), .un, .un, .un, .un, .un, .un, .un, .un] := h1
  refine ss_step (P := PQ) (e := [.own x1.d, .val (.int most), .val (.int kind), .un, .un, .un, .un, .un, .un, .un]) (by simp [h1']) ?_
  obtain ⟨x2, hx2, hxs2, hr, r0, r1, h2⟩ := take_call hT n (env := [.own x1.d, .val (.int most), .val (.int kind), .un, .un, .un, .un, .un, .un, .un]) (i := 0) (x := x1) rfl hx1 hxs1 (m := 4) (by omega) (by decide +kernel)
  have h2' : callR (callF fs (n + 1)) t [true, false] [.slot 0, .val (.int 4)] [.own x1.d, .val (.int most), .val (.int kind), .un, .un, .un, .un, .un, .un, .un] = .ok (.val (.int hr)) [.own x2.d, .val (.int most), .val (.int kind), .un, .un, .un, .un, .un, .un, .un] := h2
  obtain ⟨high, hh1, hh2, hhi⟩ := high_at hr r0 r1
  refine ss_step (P := PQ) (e := [.own x2.d, .val (.int most), .val (.int kind), .val (.int high), .un, .un, .un, .un, .un, .un]) (by simp [h2', pow_at, hhi]) ?_
  obtain ⟨x3, hx3, hxs3, sz, z0, z1, h3⟩ := take_call hT n (env := [.own x2.d, .val (.int most), .val (.int kind), .val (.int high), .un, .un, .un, .un, .un, .un]) (i := 0) (x := x2) rfl hx2 hxs2 (m := most) (by omega) (by have := log2_lt (i := most) (k := 10) (by omega) (by omega); omega)
  have h3' : callR (callF fs (n + 1)) t [true, false] [.slot 0, .val (.int most)] [.own x2.d, .val (.int most), .val (.int kind), .val (.int high), .un, .un, .un, .un, .un, .un] = .ok (.val (.int sz)) [.own x3.d, .val (.int most), .val (.int kind), .val (.int high), .un, .un, .un, .un, .un, .un] := h3
  refine ss_step (P := PQ) (e := [.own x3.d, .val (.int most), .val (.int kind), .val (.int high), .val (.int (1 + sz)), .un, .un, .un, .un, .un]) (by simp [h3']) ?_
  obtain ⟨size, hsize⟩ : ∃ size : Nat, 1 + sz = (size : Int) := ⟨(1 + sz).toNat, by omega⟩
  rw [hsize]
  have hs1 : 1 ≤ size := by omega
  have hs2 : size ≤ 11 := by omega
  have lh : high.natAbs.log2 < 9000 := by have := log2_lt (i := high) (k := 40) (by omega) (by omega); omega
  have lh1 : (high + 1).natAbs.log2 < 9000 := by have := log2_lt (i := high + 1) (k := 40) (by omega) (by omega); omega
  by_cases c0 : kind = 0
  · subst c0
    -- drawn items, the ends raised
    obtain ⟨y, vs, hy, hys, vl, vb, hc⟩ := draws_comp (fs := fs) (n + 1) (.val (.int most)) (.val (.int 0)) (.val (.int high)) (.val (.int size)) .un .un .un .un .un x3 hx3 hxs3 (std_law_row_c1e t) (.rng1 (.var 4)) size 0 1000000 (by omega) (rng1_run (m := size) (by simp) (by omega)) fun y d hy hys => by
      obtain ⟨z, hz, hzs, r, a0, a1, h⟩ := take_call hT n (env := [.own y.d, .val (.int most), .val (.int 0), .val (.int high), .val (.int size), .un, .val d, .un, .un, .un]) (i := 0) (x := y) rfl hy hys (m := high + 1) (by omega) lh1
      have h' : callR (callF fs (n + 1)) t [true, false] [.slot 0, .val (.int (high + 1))] [.own y.d, .val (.int most), .val (.int 0), .val (.int high), .val (.int size), .un, .val d, .un, .un, .un] = .ok (.val (.int r)) [.own z.d, .val (.int most), .val (.int 0), .val (.int high), .val (.int size), .un, .val d, .un, .un, .un] := h
      exact ⟨z, hz, hzs, r, a0, by omega, by simp [std_law_row_c1e, h']⟩
    change evalE (callF fs (n + 1)) (std_law_row_c1 t) _ = _ at hc
    have i0 := idx_ints (xs := vs) (k := 0) (by omega)
    have pl0 : place vs.length (0 : Int) = some 0 := by rw [place_nat (by omega) (by omega)]; rfl
    have plm : place vs.length (-1 : Int) = some (vs.length - 1) := by
      unfold place
      rw [if_neg (by omega), if_pos (by omega)]
      congr 1
      omega
    have im : idxV (.lst (vs.map .int)) (.int (-1)) = some (.int (vs.getD (vs.length - 1) 0)) := by
      show (place (vs.map D.int).length (-1)).bind _ = _
      rw [List.length_map, plm]
      show (vs.map D.int)[vs.length - 1]? = _
      rw [List.getElem?_map, List.getD_eq_getElem?_getD, List.getElem?_eq_getElem (by omega)]
      rfl
    have i0 : idxV (.lst (vs.map .int)) (.int 0) = some (.int (vs.getD 0 0)) := i0
    have v0 := vb _ (getD_mem (xs := vs) (k := 0) (by omega))
    have vm := vb _ (getD_mem (xs := vs) (k := vs.length - 1) (by omega))
    obtain ⟨row, hrow⟩ : ∃ row, row = (vs.set 0 (vs.getD 0 0 + 1)).set (vs.length - 1) (vs.getD (vs.length - 1) 0 + 1) := ⟨_, rfl⟩
    have g : Good row := by
      have lr : row.length = vs.length := by rw [hrow]; simp
      refine ⟨by omega, by omega, fun v hv => ?_, fun v hv => ?_, fun v hv => ?_⟩
      · rw [hrow] at hv
        rcases List.mem_or_eq_of_mem_set hv with hv | rfl
        · rcases List.mem_or_eq_of_mem_set hv with hv | rfl
          · have := vb v hv; omega
          · omega
        · omega
      · rw [hrow] at hv
        by_cases h1 : vs.length - 1 = 0
        · rw [h1, List.getElem?_set_self (by simp; omega)] at hv
          cases hv
          rw [h1] at vm
          omega
        · rw [List.getElem?_set_ne h1, List.getElem?_set_self (by omega)] at hv
          cases hv
          omega
      · rw [lr, hrow, List.getElem?_set_self (by simp; omega)] at hv
        cases hv
        omega
    have tr : tupI row = .tup (((vs.map D.int).set 0 (.int (vs.getD 0 0 + 1))).set (vs.length - 1) (.int (vs.getD (vs.length - 1) 0 + 1))) := by
      rw [hrow]
      unfold tupI
      rw [List.map_set, List.map_set]
    have res : PQ (.rt (.val (tupI row)) [.own y.d, .val (.int most), .val (.int 0), .val (.int high), .val (.int size), .own (.lst (((vs.map D.int).set 0 (.int (vs.getD 0 0 + 1))).set (vs.length - 1) (.int (vs.getD (vs.length - 1) 0 + 1)))), .un, .un, .un, .un]) := PQ.ret hy hys g
    rw [tr] at res
    simp only [List.getD_eq_getElem?_getD] at i0 im res
    simp [hc, i0, im, pl0, plm, tuple_lst]
    exact res
  · -- the items from 1 on
    have one : ∀ (elt : E) (it : It) (q : Nat) (hm : q ≤ 1000) (y0 : DrS) (hy0 : y0.Ok) (hys0 : y0.s < 2147483648), elt = (.bin .add (.con (.int 1)) (.call t [true, false] (.cons (.var 0) (.cons (.var 3) .nil)))) →
        evalI (callF fs (n + 1)) it [.own y0.d, .val (.int most), .val (.int kind), .val (.int high), .val (.int size), .un, .un, .un, .un, .un] = .ok ((List.range q).map fun (i : Nat) => D.int (i : Int)) [.own y0.d, .val (.int most), .val (.int kind), .val (.int high), .val (.int size), .un, .un, .un, .un, .un] →
        ∃ (z : DrS) (vs : List Int), z.Ok ∧ z.s < 2147483648 ∧ vs.length = q ∧ (∀ v ∈ vs, 1 ≤ v ∧ v ≤ 1000000) ∧
          evalE (callF fs (n + 1)) (.comp elt (.nm 6) it .yes [6]) [.own y0.d, .val (.int most), .val (.int kind), .val (.int high), .val (.int size), .un, .un, .un, .un, .un] = .ok (.fresh (.lst (vs.map .int))) [.own z.d, .val (.int most), .val (.int kind), .val (.int high), .val (.int size), .un, .un, .un, .un, .un] := by
      intro elt it q hm y0 hy0 hys0 he hI
      subst he
      exact draws_comp (fs := fs) (n + 1) (.val (.int most)) (.val (.int kind)) (.val (.int high)) (.val (.int size)) .un .un .un .un .un y0 hy0 hys0 _ it q 1 1000000 hm hI fun y d hy hys => by
        obtain ⟨z, hz, hzs, r, a0, a1, h⟩ := take_call hT n (env := [.own y.d, .val (.int most), .val (.int kind), .val (.int high), .val (.int size), .un, .val d, .un, .un, .un]) (i := 0) (x := y) rfl hy hys (m := high) (by omega) lh
        have h' : callR (callF fs (n + 1)) t [true, false] [.slot 0, .val (.int high)] [.own y.d, .val (.int most), .val (.int kind), .val (.int high), .val (.int size), .un, .val d, .un, .un, .un] = .ok (.val (.int r)) [.own z.d, .val (.int most), .val (.int kind), .val (.int high), .val (.int size), .un, .val d, .un, .un, .un] := h
        exact ⟨z, hz, hzs, 1 + r, by omega, by omega, by simp [h']⟩
    by_cases c1 : kind = 1
    · subst c1
      obtain ⟨y, vs, hy, hys, vl, vb, hc⟩ := one (std_law_row_c2e t) (.rng1 (.var 4)) size (by omega) x3 hx3 hxs3 rfl (rng1_run (m := size) (by simp) (by omega))
      change evalE (callF fs (n + 1)) (std_law_row_c2 t) _ = _ at hc
      obtain ⟨ws, hws⟩ : ∃ ws, ws = sortI vs := ⟨_, rfl⟩
      have so := sorted_ints vs
      rw [← hws] at so
      have wl : ws.length = size := by rw [hws, sortI_len, vl]
      have wb : ∀ v ∈ ws, 1 ≤ v ∧ v ≤ 1000000 := fun v hv => vb v (sortI_mem vs v (by rw [← hws]; exact hv))
      have lsz : ((size : Int)).natAbs.log2 < 9000 := by have := log2_lt (i := (size : Int)) (k := 10) (by omega) (by omega); omega
      obtain ⟨y2, hy2, hys2, cut, u0, u1, hcut⟩ := take_call hT n (env := [.own y.d, .val (.int most), .val (.int 1), .val (.int high), .val (.int size), .own (.lst (ws.map .int)), .un, .un, .un, .un]) (i := 0) (x := y) rfl hy hys (m := size) (by omega) lsz
      have hcut' : callR (callF fs (n + 1)) t [true, false] [.slot 0, .val (.int size)] [.own y.d, .val (.int most), .val (.int 1), .val (.int high), .val (.int size), .own (.lst (ws.map .int)), .un, .un, .un, .un] = .ok (.val (.int cut)) [.own y2.d, .val (.int most), .val (.int 1), .val (.int high), .val (.int size), .own (.lst (ws.map .int)), .un, .un, .un, .un] := hcut
      obtain ⟨c, rfl⟩ : ∃ c : Nat, cut = c := ⟨cut.toNat, by omega⟩
      have t1 := sl_take ws c
      have t2 := sl_drop ws c (by omega)
      have t3 := rev_lst (ws.drop c)
      have t4 := add_lstI (ws.take c) (ws.drop c).reverse (by simp; omega)
      have t5 := tuple_lstI (ws.take c ++ (ws.drop c).reverse)
      have g : Good (ws.take c ++ (ws.drop c).reverse) := good_pos (by simp; omega) (by simp; omega) fun v hv => by
        rcases List.mem_append.mp hv with hv | hv
        · have := wb v (List.mem_of_mem_take hv); omega
        · have := wb v (List.mem_of_mem_drop (List.mem_reverse.mp hv)); omega
      have res := PQ.ret hy2 hys2 g (r := [.val (.int most), .val (.int 1), .val (.int high), .val (.int size), .own (.lst (ws.map .int)), .un, .val (.int c), .un, .un])
      revert t1 t2 t3 t4 t5 res
      generalize ws.take c ++ (ws.drop c).reverse = W
      generalize (ws.drop c).reverse = R
      generalize ws.drop c = B
      generalize ws.take c = A
      intro t1 t2 t3 t4 t5 res
      simp [hc, so, hcut', t1, t2, t3, t4, t5]
      exact res
    · by_cases c2 : kind = 2
      · subst c2
        have e2 : ((size : Int) + 1) / 2 = (((size + 1) / 2 : Nat) : Int) := by omega
        have d2 : binV .fdiv (.int ((size : Int) + 1)) (.int 2) = some (.int (((size : Int) + 1) / 2)) := fdiv_int (by omega) (by decide +kernel)
        obtain ⟨y, vs, hy, hys, vl, vb, hc⟩ := one (std_law_row_c3e t) (.rng1 (.bin .fdiv (.bin .add (.var 4) (.con (.int 1))) (.con (.int 2)))) ((size + 1) / 2) (by omega) x3 hx3 hxs3 rfl (rng1_run (m := (size + 1) / 2) (by rw [← e2]; simp [d2]) (by omega))
        change evalE (callF fs (n + 1)) (std_law_row_c3 t) _ = _ at hc
        -- how many are left out
        obtain ⟨cut, hcut⟩ : ∃ cut : Nat, cut = if (size : Int) = 2 * (vs.length : Int) then 0 else 1 := ⟨_, rfl⟩
        have m2 : binV .mul (.int 2) (.int (vs.length : Int)) = some (.int (2 * (vs.length : Int))) := mul_int (mulOk_small (by decide +kernel) (by have := log2_lt (i := (vs.length : Int)) (k := 20) (by omega) (by omega); omega))
        have t3 := rev_lst vs
        have t2 := sl_drop vs.reverse cut (by rw [List.length_reverse]; split at hcut <;> omega)
        have t4 := add_lstI vs (vs.reverse.drop cut) (by simp; omega)
        have t5 := tuple_lstI (vs ++ vs.reverse.drop cut)
        have cutE : (if (!decide ((size : Int) = 2 * (vs.length : Int))) = true then (1 : Int) else 0) = (cut : Int) := by
          by_cases h : (size : Int) = 2 * (vs.length : Int)
          · rw [if_pos h] at hcut; rw [hcut]; simp [h]
          · rw [if_neg h] at hcut; rw [hcut]; simp [h]
        have ib : bltV .int [.bl (!decide ((size : Int) = 2 * (vs.length : Int)))] = some (.int cut) := by
          rw [int_bl, cutE]
        have g : Good (vs ++ vs.reverse.drop cut) := good_pos (by simp; omega) (by simp; omega) fun v hv => by
          rcases List.mem_append.mp hv with hv | hv
          · have := vb v hv; omega
          · have := vb v (List.mem_reverse.mp (List.mem_of_mem_drop hv)); omega
        have res := PQ.ret hy hys g (r := [.val (.int most), .val (.int 2), .val (.int high), .val (.int size), .un, .un, .un, .val (.lst (vs.map .int)), .un])
        have lenv : bltV .len [.lst (vs.map .int)] = some (.int vs.length) := by rw [len_lst, List.length_map]
        have neq : cmpV .ne (.int (size : Int)) (.int (2 * (vs.length : Int))) = some (!decide ((size : Int) = 2 * (vs.length : Int))) := ne_int _ _
        have fin : evalE (callF fs (n + 1)) (.blt .tuple (.cons (.bin .add (.var 8) (.sli (.rev (.var 8)) (.so (.blt .int (.cons (.cmp .ne (.var 4) (.bin .mul (.con (.int 2)) (.blt .len (.cons (.var 8) .nil)))) .nil))) .no)) .nil)) [.own y.d, .val (.int most), .val (.int 2), .val (.int high), .val (.int size), .un, .un, .un, .val (.lst (vs.map .int)), .un]
            = .ok (.val (tupI (vs ++ vs.reverse.drop cut))) [.own y.d, .val (.int most), .val (.int 2), .val (.int high), .val (.int size), .un, .un, .un, .val (.lst (vs.map .int)), .un] := by
          revert t2 t3 t4 t5 ib neq m2 lenv
          generalize vs ++ vs.reverse.drop cut = W
          generalize vs.reverse.drop cut = B
          generalize vs.reverse = R
          generalize (!decide ((size : Int) = 2 * (vs.length : Int))) = bb
          generalize (2 * (vs.length : Int)) = LL
          generalize (vs.length : Int) = L1
          generalize vs.map D.int = M
          intro t2 t3 t4 t5 ib neq m2 lenv
          simp only [evalE_blt, evalEs_cons, evalEs_nil, evalE_bin, evalE_var, evalE_sli, evalE_rev, evalE_cmp, evalE_con, List.getElem?_cons_succ, List.getElem?_cons_zero, varR_val, Res.bind_ok, binK_at, rev1_at, get_val, Option.bind_some, t3, okO_some, mkO_lst, sliK_at, evalB_so, cmpK_at, m2, lenv, esK_at, esT_at, bltK_at, gets_cons, gets_nil, consO_some, mkO_int, bin2_at, b2_some, cmp2_at, neq, okB_some, ib, bndK_int, sliH_at, evalB_no, sli2_at, get_fresh, t2, t4, t5, mkO_tupI]
        simp only [evalSs_cons, evalSs_nil, evalS_cond, evalT_e, evalE_cmp, evalE_var, evalE_con, List.getElem?_cons_succ, List.getElem?_cons_zero, varR_val, Res.bind_ok, cmpK_at, cmp2_at, get_val, b2_some, eq_int, okB_some, tstK_at, Option.bind_some, truth_bl, ofO_some, Res.fl_ok, Int.reduceEq, decide_true, decide_false, condK_f, condK_t, ssK_nx, evalS_set, hc]
        rw [show (setK 8 (.fresh (.lst (vs.map .int))) [.own y.d, .val (.int most), .val (.int 2), .val (.int high), .val (.int size), .un, .un, .un, .un, .un]) = .nx [.own y.d, .val (.int most), .val (.int 2), .val (.int high), .val (.int size), .un, .un, .un, .own (.lst (vs.map .int)), .un] by simp, ssK_nx, evalSs_cons, evalS_frz]
        rw [show frzL 8 [.own y.d, .val (.int most), .val (.int 2), .val (.int high), .val (.int size), .un, .un, .un, .own (.lst (vs.map .int)), .un] ([.own y.d, .val (.int most), .val (.int 2), .val (.int high), .val (.int size), .un, .un, .un, .own (.lst (vs.map .int)), .un] : Env)[8]? = .nx [.own y.d, .val (.int most), .val (.int 2), .val (.int high), .val (.int size), .un, .un, .un, .val (.lst (vs.map .int)), .un] by simp, ssK_nx, evalSs_cons, evalS_ret, fin]
        exact res
      · -- the products
        obtain ⟨y, hy, hys, r, q0, q1, h4⟩ := take_call hT n (env := [.own x3.d, .val (.int most), .val (.int kind), .val (.int high), .val (.int size), .un, .un, .un, .un, .un]) (i := 0) (x := x3) rfl hx3 hxs3 (m := 3) (by omega) (by decide +kernel)
        have h4' : callR (callF fs (n + 1)) t [true, false] [.slot 0, .val (.int 3)] [.own x3.d, .val (.int most), .val (.int kind), .val (.int high), .val (.int size), .un, .un, .un, .un, .un] = .ok (.val (.int r)) [.own y.d, .val (.int most), .val (.int kind), .val (.int high), .val (.int size), .un, .un, .un, .un, .un] := h4
        have l0 : Lp [1 + r] := by
          refine ⟨by simp, by simp, fun v hv => ?_, by simp; omega, by simp; omega, by simp; omega⟩
          rw [List.mem_singleton] at hv
          omega
        obtain ⟨z, row, t9, hz, hzs, l, hw⟩ := loop_run hT hM n (.val (.int most)) (.val (.int high)) .un .un .un kind size (by omega) 12 [1 + r] y .un fuel hy hys l0 (by simp) (by decide +kernel)
        simp only [List.map_cons, List.map_nil] at hw
        have res := PQ.ret hz hzs l.good (r := [.val (.int most), .val (.int kind), .val (.int high), .val (.int size), .own (.lst (row.map .int)), .un, .un, .un, t9])
        have t5 := tuple_lstI row
        simp [c0, c1, c2, h4', evalS_whl, hw, t5]
        exact res

end Pd
set_option autoImplicit false
set_option linter.all false
namespace Pd
open PySem (Str)
@[simp] theorem lt_s (a b : Nat) : (a + 1 < b + 1) = (a < b) := by rw [Nat.add_lt_add_iff_right]
@[simp] theorem lt_z (b : Nat) : (0 < b + 1) = True := by simp
/-! newer equations -/
section
variable {cl : Caller} {env e : Env}
def evy1 (k : Nat) (x : Opd) (e : Env) : Res Opd := okO ((x.get e).bind (evyV k)) e
def splM (s : Str) (y : Opd) (e : Env) : Res Opd := okO ((y.get e).bind (splV s)) e
@[simp] theorem splM_at (s : Str) (y : Opd) (e : Env) : splM s y e = okO ((y.get e).bind (splV s)) e := rfl
def splL (cl : Caller) (b : E) (e : Env) : Option Str → Res Opd
  | some s => (evalE cl b e).bind (splM s)
  | none => .stk
@[simp] theorem splL_some (cl : Caller) (b : E) (e : Env) (s : Str) : splL cl b e (some s) = (evalE cl b e).bind (splM s) := rfl
def splK (cl : Caller) (b : E) (x : Opd) (e : Env) : Res Opd := splL cl b e ((x.get e).bind strOf)
@[simp] theorem splK_at (cl : Caller) (b : E) (x : Opd) (e : Env) : splK cl b x e = splL cl b e ((x.get e).bind strOf) := rfl
@[simp] theorem strOf_str (s : Str) : strOf (.str s) = some s := rfl
def dixM (ks : List Str) (ds : List D) (y : Opd) (e : Env) : Res Opd := okV ((y.get e).bind (dixV ks ds)) e
@[simp] theorem dixM_at (ks : List Str) (ds : List D) (y : Opd) (e : Env) : dixM ks ds y e = okV ((y.get e).bind (dixV ks ds)) e := rfl
def dixL (cl : Caller) (ks : List Str) (a : E) (e : Env) : Option (List D) → Res Opd
  | some ds => (evalE cl a e).bind (dixM ks ds)
  | none => .stk
@[simp] theorem dixL_some (cl : Caller) (ks : List Str) (a : E) (e : Env) (ds : List D) : dixL cl ks a e (some ds) = (evalE cl a e).bind (dixM ks ds) := rfl
def dixK (cl : Caller) (ks : List Str) (a : E) (os : List Opd) (e : Env) : Res Opd := dixL cl ks a e (leaks os)
@[simp] theorem dixK_at (cl : Caller) (ks : List Str) (a : E) (os : List Opd) (e : Env) : dixK cl ks a os e = dixL cl ks a e (leaks os) := rfl
@[simp] theorem evalE_dix {cl : Caller} {env : Env} (ks : List Str) (es : Es) (a : E) : evalE cl (.dix ks es a) env = (evalEs cl es env).bind (dixK cl ks a) := by
  show ((evalEs cl es env).bind fun os e => (ofO (leaks os) e).bind fun ds e1 => (evalE cl a e1).bind fun y e2 => (ofO (y.get e2) e2).bind fun dy _ => (ofO (dixV ks ds dy) e2).bind fun d e => Res.ok (Opd.val d) e) = _
  cases evalEs cl es env with
  | stk => rfl
  | exc x e => rfl
  | ok os e =>
    show ((ofO (leaks os) e).bind fun ds e1 => (evalE cl a e1).bind fun y e2 => (ofO (y.get e2) e2).bind fun dy _ => (ofO (dixV ks ds dy) e2).bind fun d e => Res.ok (Opd.val d) e) = dixL cl ks a e (leaks os)
    cases leaks os with
    | none => rfl
    | some ds =>
      show ((evalE cl a e).bind fun y e2 => (ofO (y.get e2) e2).bind fun dy _ => (ofO (dixV ks ds dy) e2).bind fun d e => Res.ok (Opd.val d) e) = (evalE cl a e).bind (dixM ks ds)
      cases evalE cl a e with
      | stk => rfl
      | exc x e => rfl
      | ok y e2 =>
        show ((ofO (y.get e2) e2).bind fun dy _ => (ofO (dixV ks ds dy) e2).bind fun d e => Res.ok (Opd.val d) e) = okV ((y.get e2).bind (dixV ks ds)) e2
        cases y.get e2 with
        | none => rfl
        | some dy =>
          show ((ofO (dixV ks ds dy) e2).bind fun d e => Res.ok (Opd.val d) e) = okV (dixV ks ds dy) e2
          cases dixV ks ds dy <;> rfl
@[simp] theorem evalE_spl {cl : Caller} {env : Env} (a b : E) : evalE cl (.spl a b) env = (evalE cl a env).bind (splK cl b) := by
  show ((evalE cl a env).bind fun x e1 => (ofO (x.get e1) e1).bind fun dx _ => (ofO (strOf dx) e1).bind fun s _ => (evalE cl b e1).bind fun y e2 => (ofO (y.get e2) e2).bind fun dy _ => (ofO (splV s dy) e2).bind fun d e => Res.ok (mkO d) e) = _
  cases evalE cl a env with
  | stk => rfl
  | exc x e => rfl
  | ok x e1 =>
    show ((ofO (x.get e1) e1).bind fun dx _ => (ofO (strOf dx) e1).bind fun s _ => (evalE cl b e1).bind fun y e2 => (ofO (y.get e2) e2).bind fun dy _ => (ofO (splV s dy) e2).bind fun d e => Res.ok (mkO d) e) = splL cl b e1 ((x.get e1).bind strOf)
    cases x.get e1 with
    | none => rfl
    | some dx =>
      show ((ofO (strOf dx) e1).bind fun s _ => (evalE cl b e1).bind fun y e2 => (ofO (y.get e2) e2).bind fun dy _ => (ofO (splV s dy) e2).bind fun d e => Res.ok (mkO d) e) = splL cl b e1 (strOf dx)
      cases strOf dx with
      | none => rfl
      | some s =>
        show ((evalE cl b e1).bind fun y e2 => (ofO (y.get e2) e2).bind fun dy _ => (ofO (splV s dy) e2).bind fun d e => Res.ok (mkO d) e) = (evalE cl b e1).bind (splM s)
        cases evalE cl b e1 with
        | stk => rfl
        | exc x e => rfl
        | ok y e2 =>
          show ((ofO (y.get e2) e2).bind fun dy _ => (ofO (splV s dy) e2).bind fun d e => Res.ok (mkO d) e) = okO ((y.get e2).bind (splV s)) e2
          cases y.get e2 with
          | none => rfl
          | some dy =>
            show ((ofO (splV s dy) e2).bind fun d e => Res.ok (mkO d) e) = okO (splV s dy) e2
            cases splV s dy <;> rfl
@[simp] theorem evy1_at (k : Nat) (x : Opd) (e : Env) : evy1 k x e = okO ((x.get e).bind (evyV k)) e := rfl
@[simp] theorem evalE_evy (k : Nat) (a : E) : evalE cl (.evy k a) env = (evalE cl a env).bind (evy1 k) := by
  rw [evalE]
  congr 1
  funext x e
  unfold evy1
  cases x.get e <;> first | rfl | (rename_i p; show (ofO (evyV k p) e).bind _ = okO (evyV k p) e; cases evyV k p <;> rfl)
def raiL (c : Nat) (e : Env) : Option D → Fl
  | some d => .exc ⟨c, some d⟩ e
  | none => .stk
@[simp] theorem raiL_some (c : Nat) (e : Env) (d : D) : raiL c e (some d) = .exc ⟨c, some d⟩ e := rfl
def raiK (c : Nat) (o : Opd) (e : Env) : Fl := raiL c e o.leak
@[simp] theorem raiK_at (c : Nat) (o : Opd) (e : Env) : raiK c o e = raiL c e o.leak := rfl
@[simp] theorem evalS_raiseF (c : Nat) (a : E) : evalS cl (.raise c (.so a)) env = (evalE cl a env).fl (raiK c) := by
  rw [evalS]
  congr 1
@[simp] theorem bindD_tp (a b : Nat) (x y : D) : bindD (.tp a b) (.tup [x, y]) env = if a < env.length ∧ b < env.length then some ((env.set a (.val x)).set b (.val y)) else none := rfl
@[simp] theorem bindD_tp3 (a b c : Nat) (x y z : D) : bindD (.tp3 a b c) (.tup [x, y, z]) env = if a < env.length ∧ b < env.length ∧ c < env.length then some (((env.set a (.val x)).set b (.val y)).set c (.val z)) else none := rfl
@[simp] theorem augV_add (i j : Int) : augV .add (.int i) (.int j) = some (.int (i + j)) := rfl
@[simp] theorem augV_sub (i j : Int) : augV .sub (.int i) (.int j) = some (.int (i - j)) := rfl
def ownD : Option Slot → Option D
  | some (.own d) => some d
  | _ => none
@[simp] theorem ownD_own (d : D) : ownD (some (.own d)) = some d := rfl
@[simp] theorem getOwn_at (i : Nat) (k : D) : getOwn i k env = (ownD env[i]?).bind fun d => idxV d k := by
  unfold getOwn ownD
  cases env[i]? with
  | none => rfl
  | some s => cases s <;> rfl
def augIc (i : Nat) (k : D) (op : BOp) (d : D) (o : Opd) (e : Env) : Fl := nxO (o.leak.bind fun y => (augV op d y).bind fun z => setOwn i k z e)
@[simp] theorem augIc_at (i : Nat) (k : D) (op : BOp) (d : D) (o : Opd) (e : Env) : augIc i k op d o e = nxO (o.leak.bind fun y => (augV op d y).bind fun z => setOwn i k z e) := rfl
def augIb (cl : Caller) (i : Nat) (a : E) (op : BOp) (k : D) (e : Env) : Option D → Fl
  | some d => (evalE cl a e).fl (augIc i k op d)
  | none => .stk
@[simp] theorem augIb_some (i : Nat) (a : E) (op : BOp) (k d : D) (e : Env) : augIb cl i a op k e (some d) = (evalE cl a e).fl (augIc i k op d) := rfl
def augIk (cl : Caller) (i : Nat) (a : E) (op : BOp) (e : Env) : Option D → Fl
  | some k => augIb cl i a op k e (getOwn i k e)
  | none => .stk
@[simp] theorem augIk_some (i : Nat) (a : E) (op : BOp) (k : D) (e : Env) : augIk cl i a op e (some k) = augIb cl i a op k e (getOwn i k e) := rfl
def augIK (cl : Caller) (i : Nat) (a : E) (op : BOp) (o : Opd) (e : Env) : Fl := augIk cl i a op e o.leak
@[simp] theorem augIK_at (i : Nat) (a : E) (op : BOp) (o : Opd) (e : Env) : augIK cl i a op o e = augIk cl i a op e o.leak := rfl
@[simp] theorem evalS_augI (i : Nat) (ix : E) (op : BOp) (a : E) : evalS cl (.augI i ix op a) env = if slotOwn env[i]? then (evalE cl ix env).fl (augIK cl i a op) else .stk := by
  rw [evalS]
  show (if isOwn i env = true then _ else _) = _
  rw [isOwn_at']
  congr 1
  congr 1
  funext o e1
  unfold augIK augIk augIb
  cases o.leak with
  | none => rfl
  | some k =>
    simp only [leak_val, Option.bind_some]
    cases getOwn i k e1 <;> rfl
def xatR (c : Nat) (e : Env) : Option Slot → Res Opd
  | some (.ex ⟨c', some d⟩) => if c' = c then .ok (.val d) e else .stk
  | _ => .stk
@[simp] theorem xatR_ex (c c' : Nat) (e : Env) (d : D) : xatR c e (some (.ex ⟨c', some d⟩)) = if c' = c then .ok (.val d) e else .stk := rfl
@[simp] theorem evalE_xat (i c : Nat) : evalE cl (.xattr i c) env = xatR c env env[i]? := by
  rw [evalE]
  unfold xatR
  rfl
end
/-! ends of bodies, for simp -/
def endK (d : D) (new : Bool) : Option (List D) → CRes
  | some ds => .ok d new ds
  | none => .stk
@[simp] theorem endK_some (d : D) (new : Bool) (ds : List D) : endK d new (some ds) = .ok d new ds := rfl
def endX (x : Xn) : Option (List D) → CRes
  | some ds => .exc x ds
  | none => .stk
@[simp] theorem endX_some (x : Xn) (ds : List D) : endX x (some ds) = .exc x ds := rfl
section
variable {lent : List Bool} {env : Env}
@[simp] theorem endOf_v (d : D) : endOf lent (.rt (.val d) env) = endK d false (outsOf env 0 lent) := by
  unfold endOf endK; rfl
@[simp] theorem endOf_f (d : D) : endOf lent (.rt (.fresh d) env) = endK d true (outsOf env 0 lent) := by
  unfold endOf endK; rfl
@[simp] theorem endOf_nx : endOf lent (.nx env) = endK .non false (outsOf env 0 lent) := by
  unfold endOf endK; rfl
@[simp] theorem endOf_exc (x : Xn) : endOf lent (.exc x env) = endX x (outsOf env 0 lent) := by
  unfold endOf endX; rfl
@[simp] theorem outs_nil (i : Nat) : outsOf env i [] = some [] := rfl
@[simp] theorem outs_f (i : Nat) (r : List Bool) : outsOf env i (false :: r) = outsOf env (i + 1) r := rfl
def outK (r : Option (List D)) : Option Slot → Option (List D)
  | some (.own d) => r.map (d :: ·)
  | _ => none
@[simp] theorem outK_own (r : List D) (d : D) : outK (some r) (some (.own d)) = some (d :: r) := rfl
@[simp] theorem outs_t (i : Nat) (r : List Bool) : outsOf env i (true :: r) = outK (outsOf env (i + 1) r) env[i]? := by
  show (match env[i]? with | some (.own d) => (outsOf env (i + 1) r).map (d :: ·) | _ => none) = _
  cases env[i]? with
  | none => rfl
  | some s => cases s <;> rfl
/-- the list of a slot that is not lent is given back -/
theorem endOf_s (i : Nat) (d : D) (h : ¬ (i < lent.length ∧ lent[i]? = some true)) (h2 : env[i]? = some (.own d)) : endOf lent (.rt (.slot i) env) = endK d true (outsOf env 0 lent) := by
  unfold endOf endK
  simp only [h, h2, if_false]
  cases outsOf env 0 lent <;> rfl
end
/-! steps -/
theorem ss_nx {cl : Caller} {s : S} {r : Ss} {env e : Env} {X : Fl} (h : evalS cl s env = .nx e) (k : evalSs cl r e = X) : evalSs cl (.cons s r) env = X := by
  rw [evalSs_cons, h]; exact k
theorem ss_q {cl : Caller} {s : S} {r : Ss} {env e : Env} {Q : Env → Prop} (h : evalS cl s env = .nx e) (k : ∃ e', evalSs cl r e = .nx e' ∧ Q e') : ∃ e', evalSs cl (.cons s r) env = .nx e' ∧ Q e' := by
  obtain ⟨e', h1, h2⟩ := k
  exact ⟨e', ss_nx h h1, h2⟩
theorem ss_l {cl : Caller} {b : Ss} {e1 : Env} {Q : Env → Prop} (h : ∃ e, evalSs cl b e1 = .nx e ∧ Q e) : ∃ e2, (evalSs cl b e1 = .nx e2 ∨ evalSs cl b e1 = .ct e2) ∧ Q e2 := by
  obtain ⟨e, h1, h2⟩ := h
  exact ⟨e, .inl h1, h2⟩
theorem ss_rt {cl : Caller} {s : S} {r : Ss} {env : Env} {X : Fl} (h : evalS cl s env = X) (hx : ∀ e, X ≠ .nx e) : evalSs cl (.cons s r) env = X := by
  rw [evalSs_cons, h]
  cases X <;> first | rfl | exact absurd rfl (hx _)
/-- a call of a def, where its end is known: for every frame -/
theorem cv0 {cl : Caller} {f : Nat} {d : D} {new : Bool} (h : cl f [] = .ok d new []) (env : Env) : callR cl f [] [] env = .ok (if new then .fresh d else .val d) env := callR_of rfl rfl h rfl
theorem cv1 {cl : Caller} {f : Nat} {a d : D} (h : cl f [.val a] = .ok d false []) (env : Env) : callR cl f [false] [.val a] env = .ok (.val d) env := callR_of (new := false) rfl rfl h rfl
theorem cv2 {cl : Caller} {f : Nat} {a b d : D} (h : cl f [.val a, .val b] = .ok d false []) (env : Env) : callR cl f [false, false] [.val a, .val b] env = .ok (.val d) env := callR_of (new := false) rfl rfl h rfl
theorem cv3 {cl : Caller} {f : Nat} {a b c d : D} (h : cl f [.val a, .val b, .val c] = .ok d false []) (env : Env) : callR cl f [false, false, false] [.val a, .val b, .val c] env = .ok (.val d) env := callR_of (new := false) rfl rfl h rfl
theorem cv4 {cl : Caller} {f : Nat} {a b c a' d : D} (h : cl f [.val a, .val b, .val c, .val a'] = .ok d false []) (env : Env) : callR cl f [false, false, false, false] [.val a, .val b, .val c, .val a'] env = .ok (.val d) env := callR_of (new := false) rfl rfl h rfl
theorem cn1 {cl : Caller} {f : Nat} {a d : D} (h : cl f [.val a] = .ok d true []) (env : Env) : callR cl f [false] [.val a] env = .ok (.fresh d) env := callR_of (new := true) rfl rfl h rfl
theorem cn2 {cl : Caller} {f : Nat} {a b d : D} (h : cl f [.val a, .val b] = .ok d true []) (env : Env) : callR cl f [false, false] [.val a, .val b] env = .ok (.fresh d) env := callR_of (new := true) rfl rfl h rfl
theorem cn3 {cl : Caller} {f : Nat} {a b c d : D} (h : cl f [.val a, .val b, .val c] = .ok d true []) (env : Env) : callR cl f [false, false, false] [.val a, .val b, .val c] env = .ok (.fresh d) env := callR_of (new := true) rfl rfl h rfl
/-- an argument that was made for the call -/
theorem cf1 {cl : Caller} {f : Nat} {a d : D} (h : cl f [.val a] = .ok d false []) (env : Env) : callR cl f [false] [.fresh a] env = .ok (.val d) env := callR_of (new := false) rfl rfl h rfl
theorem cx1 {cl : Caller} {f : Nat} {a : D} {x : Xn} (h : cl f [.val a] = .exc x []) (env : Env) : callR cl f [false] [.val a] env = .exc x env := callR_exc rfl rfl h rfl
theorem cx2 {cl : Caller} {f : Nat} {a b : D} {x : Xn} (h : cl f [.val a, .val b] = .exc x []) (env : Env) : callR cl f [false, false] [.val a, .val b] env = .exc x env := callR_exc rfl rfl h rfl
theorem cx3 {cl : Caller} {f : Nat} {a b c : D} {x : Xn} (h : cl f [.val a, .val b, .val c] = .exc x []) (env : Env) : callR cl f [false, false, false] [.val a, .val b, .val c] env = .exc x env := callR_exc rfl rfl h rfl
/-! lists and tuples of one kind of items -/
def lM {α : Type} (f : α → D) (xs : List α) : D := .lst (xs.map f)
def tM {α : Type} (f : α → D) (xs : List α) : D := .tup (xs.map f)
abbrev lI (xs : List Int) : D := lM D.int xs
abbrev tI (xs : List Int) : D := tM D.int xs
abbrev nI (n : Nat) : D := D.int (n : Int)
section
variable {α β : Type} {f : α → D} {xs ys : List α}
@[simp] theorem slotOwn_lM : slotOwn (some (.own (lM f xs))) = true := rfl
@[simp] theorem mkO_lM : mkO (lM f xs) = .fresh (lM f xs) := rfl
@[simp] theorem mkO_tM : mkO (tM f xs) = .val (tM f xs) := rfl
@[simp] theorem len_lM : bltV .len [lM f xs] = some (.int xs.length) := by
  show some (D.int ((xs.map f).length : Nat)) = _
  rw [List.length_map]
@[simp] theorem len_tM : bltV .len [tM f xs] = some (.int xs.length) := len_lM
@[simp] theorem tup_lM : bltV .tuple [lM f xs] = some (tM f xs) := rfl
@[simp] theorem tup_tM : bltV .tuple [tM f xs] = some (tM f xs) := rfl
@[simp] theorem lst_lM : bltV .list [lM f xs] = some (lM f xs) := rfl
@[simp] theorem lst_tM : bltV .list [tM f xs] = some (lM f xs) := rfl
@[simp] theorem sum_lI (ns : List Int) : bltV .sum [lM D.int ns] = some (.int ns.sum) := sum_row ns
@[simp] theorem sum_tI (ns : List Int) : bltV .sum [tM D.int ns] = some (.int ns.sum) := sum_row ns
@[simp] theorem items_lM : itemsOf (.val (lM f xs)) = some (xs.map f) := rfl
@[simp] theorem items_fM : itemsOf (.fresh (lM f xs)) = some (xs.map f) := rfl
@[simp] theorem items_tM : itemsOf (.val (tM f xs)) = some (xs.map f) := rfl
@[simp] theorem rev_lM : revV (lM f xs) = some (lM f xs.reverse) := by
  show some (D.lst (xs.map f).reverse) = some (D.lst (xs.reverse.map f))
  rw [List.map_reverse]
@[simp] theorem rev_tM : revV (tM f xs) = some (tM f xs.reverse) := by
  show some (D.tup (xs.map f).reverse) = some (D.tup (xs.reverse.map f))
  rw [List.map_reverse]
@[simp] theorem evy_lM (k : Nat) : evyV k (lM f xs) = some (lM f (evy (xs.drop k))) := by
  show some (D.lst (evy ((xs.map f).drop k))) = some (D.lst ((evy (xs.drop k)).map f))
  rw [← List.map_drop]
  congr 2
  generalize xs.drop k = l
  have : ∀ (n : Nat) (l : List α), l.length ≤ n → evy (l.map f) = (evy l).map f := by
    intro n
    induction n with
    | zero => intro l h; cases l with | nil => rfl | cons a l => simp at h
    | succ n ih =>
      intro l h
      match l, h with
      | [], _ => rfl
      | [x], _ => rfl
      | x :: y :: r, h =>
        show f x :: evy (r.map f) = f x :: (evy r).map f
        rw [ih r (by simp only [List.length_cons] at h; omega)]
  exact this _ l (Nat.le_refl _)
@[simp] theorem evy_tM (k : Nat) : evyV k (tM f xs) = some (tM f (evy (xs.drop k))) := by
  have := evy_lM (f := f) (xs := xs) k
  injection this with this
  injection this with this
  show some (D.tup (evy ((xs.map f).drop k))) = some (D.tup ((evy (xs.drop k)).map f))
  rw [this]
theorem idx_lM {k : Nat} (d0 : α) (h : k < xs.length) : idxV (lM f xs) (.int k) = some (f (xs.getD k d0)) :=
  idx_lst (by omega) (by rw [show ((k : Int).toNat) = k from rfl, List.getElem?_map, List.getElem?_eq_getElem h, List.getD_eq_getElem?_getD, List.getElem?_eq_getElem h]; rfl)
theorem idx_tM {k : Nat} (d0 : α) (h : k < xs.length) : idxV (tM f xs) (.int k) = some (f (xs.getD k d0)) := idx_lM d0 h
theorem idx_neg {i : Int} {k : Nat} (d0 : α) (hk : k < xs.length) (h : i < 0) (hi : i + xs.length = k) : idxV (lM f xs) (.int i) = some (f (xs.getD k d0)) := by
  show (place (xs.map f).length i).bind (fun k => (xs.map f)[k]?) = _
  unfold place
  rw [if_neg (by omega), if_pos (by rw [List.length_map]; omega)]
  show (xs.map f)[(i + ((xs.map f).length : Int)).toNat]? = _
  rw [List.length_map, hi, show ((k : Int).toNat) = k from rfl, List.getElem?_map, List.getElem?_eq_getElem hk, List.getD_eq_getElem?_getD, List.getElem?_eq_getElem hk]; rfl
theorem idx_negT {i : Int} {k : Nat} (d0 : α) (hk : k < xs.length) (h : i < 0) (hi : i + xs.length = k) : idxV (tM f xs) (.int i) = some (f (xs.getD k d0)) := idx_neg d0 hk h hi
theorem add_lM (h : xs.length + ys.length ≤ 1000000) : binV .add (lM f xs) (lM f ys) = some (lM f (xs ++ ys)) := by
  show binV .add (.lst _) (.lst _) = some (.lst _)
  rw [add_lst (by rw [List.length_map, List.length_map, cap_is]; omega), List.map_append]
theorem add_tM (h : xs.length + ys.length ≤ 1000000) : binV .add (tM f xs) (tM f ys) = some (tM f (xs ++ ys)) := by
  show binV .add (.tup _) (.tup _) = some (.tup _)
  rw [add_tup (by rw [List.length_map, List.length_map, cap_is]; omega), List.map_append]
theorem mul_lM (x : α) (n : Nat) (hn : n ≤ 1000) : binV .mul (lM f [x]) (.int n) = some (lM f (List.replicate n x)) := by
  have hc : cap = 1000000 := rfl
  show (if -(2 ^ 62) ≤ (n : Int) ∧ (n : Int) ≤ cap ∧ ([x].map f).length * (n : Int).toNat ≤ cap then some (D.lst (reps ([x].map f) (n : Int).toNat)) else none) = _
  rw [if_pos ⟨by omega, by omega, by rw [hc]; simp; omega⟩]
  have : ∀ m : Nat, reps ([x].map f) m = (List.replicate m x).map f := fun m => by
    induction m with
    | zero => rfl
    | succ m ih => rw [List.replicate_succ]; show f x :: reps _ m = _; rw [ih]; rfl
  rw [this]; rfl
theorem mul_tM (x : α) (n : Nat) (hn : n ≤ 1000) : binV .mul (tM f [x]) (.int n) = some (tM f (List.replicate n x)) := by
  show (if -(2 ^ 62) ≤ (n : Int) ∧ (n : Int) ≤ 1000 ∧ ([x].map f).length ≤ 1000 then some (D.tup (reps ([x].map f) (n : Int).toNat)) else none) = _
  rw [if_pos ⟨by omega, by omega, by simp⟩]
  have : ∀ m : Nat, reps ([x].map f) m = (List.replicate m x).map f := fun m => by
    induction m with
    | zero => rfl
    | succ m ih => rw [List.replicate_succ]; show f x :: reps _ m = _; rw [ih]; rfl
  rw [this]; rfl
@[simp] theorem lst_1 (i : Int) : D.lst [.int i] = lM D.int [i] := rfl
theorem take_lM (j : Nat) : sliV (lM f xs) none (some (j : Int)) = some (lM f (xs.take j)) := by
  show some (D.lst (cut (xs.map f) none (some (j : Int)))) = some (D.lst _)
  congr 2
  unfold cut bound
  simp only [Nat.sub_zero, List.drop_zero]
  rw [if_neg (by omega), List.map_take, show ((j : Int).toNat) = j from rfl]
  exact List.take_eq_take_iff.mpr (by rw [List.length_map]; omega)
theorem drop_lM (j : Nat) (hj : j ≤ xs.length) : sliV (lM f xs) (some (j : Int)) none = some (lM f (xs.drop j)) := by
  show some (D.lst (cut (xs.map f) (some (j : Int)) none)) = some (D.lst _)
  congr 2
  unfold cut bound
  simp only
  rw [if_neg (by omega), show ((j : Int).toNat) = j from rfl, List.length_map, Nat.min_eq_left hj, List.map_drop]
  exact List.take_of_length_le (by rw [List.length_drop, List.length_map]; omega)
theorem take_tM (j : Nat) : sliV (tM f xs) none (some (j : Int)) = some (tM f (xs.take j)) := by
  have := take_lM (f := f) (xs := xs) j
  injection this with this
  injection this with this
  show some (D.tup (cut (xs.map f) none (some (j : Int)))) = some (D.tup _)
  rw [this]
theorem drop_tM (j : Nat) (hj : j ≤ xs.length) : sliV (tM f xs) (some (j : Int)) none = some (tM f (xs.drop j)) := by
  have := drop_lM (f := f) (xs := xs) j hj
  injection this with this
  injection this with this
  show some (D.tup (cut (xs.map f) (some (j : Int)) none)) = some (D.tup _)
  rw [this]
theorem put_lM {i : Nat} {y : α} {e : Env} {k : Nat} (h : k < xs.length) : putI i (f y) e (.int k) (some (.own (lM f xs))) = some (e.set i (.own (lM f (xs.set k y)))) := by
  show ((place (xs.map f).length (k : Int)).map fun p => e.set i (.own (.lst ((xs.map f).set p (f y))))) = _
  rw [place_nat (by omega) (by rw [List.length_map]; omega)]
  show some _ = _
  rw [show ((k : Int).toNat) = k from rfl]
  unfold lM
  rw [List.map_set]
theorem app_lM {i : Nat} {y : α} {e : Env} (h : xs.length < 1000000) : appP i (f y) e (some (.own (lM f xs))) = some (e.set i (.own (lM f (xs ++ [y])))) := by
  show (if (xs.map f).length < cap then some (e.set i (.own (.lst (xs.map f ++ [f y])))) else none) = _
  rw [if_pos (by rw [List.length_map, cap_is]; exact h)]
  unfold lM
  rw [List.map_append]; rfl
end
theorem lM_map {α β : Type} (f : β → D) (h : α → β) (xs : List α) : lM (fun x => f (h x)) xs = lM f (xs.map h) := by unfold lM; rw [List.map_map]; rfl
theorem tM_map {α β : Type} (f : β → D) (h : α → β) (xs : List α) : tM (fun x => f (h x)) xs = tM f (xs.map h) := by unfold tM; rw [List.map_map]; rfl
/-- a number drawn: in every frame -/
theorem take_any {fs : List Fn} {f : Nat} (hf : fs[f]? = some std_law_take) (n i : Nat) (x : DrS) (h : x.Ok) (hs : x.s < 2147483648) (m : Int) (h1 : 0 < m) (h2 : m < 1000000) : ∃ y : DrS, y.Ok ∧ y.s < 2147483648 ∧ ∃ r : Nat, (r : Int) < m ∧
    ∀ env : Env, env[i]? = some (.own x.d) → callR (callF fs (n + 1)) f [true, false] [.slot i, .val (.int m)] env = .ok (.val (nI r)) (env.set i (.own y.d)) := by
  obtain ⟨y, hy, hys, r, r1, r2, hr⟩ := take_run hf n x h hs m h1 (by have := log2_lt (i := m) (k := 20) (by omega) (by omega); omega)
  refine ⟨y, hy, hys, r.toNat, by omega, fun env he => ?_⟩
  rw [show nI r.toNat = .int r by show D.int _ = _; congr 1; omega]
  exact lent_call he hr
/-- the drawing, whatever the frame -/
def TakeC (cl : Caller) (f i : Nat) : Prop := ∀ x : DrS, x.Ok → x.s < 2147483648 → ∀ m : Int, 0 < m → m < 2000000 → ∃ y : DrS, y.Ok ∧ y.s < 2147483648 ∧ ∃ r : Nat, (r : Int) < m ∧
  ∀ env : Env, env[i]? = some (.own x.d) → callR cl f [true, false] [.slot i, .val (.int m)] env = .ok (.val (nI r)) (env.set i (.own y.d))
theorem takeC {fs : List Fn} {f : Nat} (hf : fs[f]? = some std_law_take) (n i : Nat) : TakeC (callF fs (n + 1)) f i := fun x h hs m h1 h2 => by
  obtain ⟨y, hy, hys, r, r1, r2, hr⟩ := take_run hf n x h hs m h1 (by have := log2_lt (i := m) (k := 21) (by omega) (by omega); omega)
  refine ⟨y, hy, hys, r.toNat, by omega, fun env he => ?_⟩
  rw [show nI r.toNat = .int r by show D.int _ = _; congr 1; omega]
  exact lent_call he hr
/-- a call that draws and gives a value -/
theorem ct1 {cl : Caller} {f i : Nat} {x y : DrS} {d r : D} (h : cl f [.own x.d, .val d] = .ok r false [y.d]) (env : Env) (he : env[i]? = some (.own x.d)) : callR cl f [true, false] [.slot i, .val d] env = .ok (.val r) (env.set i (.own y.d)) := lent_call he h
/-- drawn whole numbers in a row -/
theorem comp_dr {cl : Caller} {env0 base : Env} {i j : Nat} {elt : E} {it : It} {ds : List D} (lo hi : Int) (x : DrS) (hx : x.Ok) (hxs : x.s < 2147483648) (hij : i ≠ j) (hi' : i < base.length) (hj : j < base.length)
    (hI : evalI cl it env0 = .ok ds (base.set i (.own x.d))) (hc : ds.length ≤ 1000000)
    (hE : ∀ (y : DrS) (d : D), y.Ok → y.s < 2147483648 → d ∈ ds → ∃ z : DrS, z.Ok ∧ z.s < 2147483648 ∧ ∃ r : Int, lo ≤ r ∧ r ≤ hi ∧ evalE cl elt ((base.set i (.own y.d)).set j (.val d)) = .ok (.val (.int r)) ((base.set i (.own z.d)).set j (.val d))) :
    ∃ (z : DrS) (vs : List Int), z.Ok ∧ z.s < 2147483648 ∧ vs.length = ds.length ∧ (∀ v ∈ vs, lo ≤ v ∧ v ≤ hi) ∧
      evalE cl (.comp elt (.nm j) it .yes [j]) env0 = .ok (.fresh (lM D.int vs)) (base.set i (.own z.d)) := draws_ints lo hi x hx hxs hij hi' hj hI (by rw [cap_is]; exact hc) hE
/-! natural numbers as items -/
theorem map_nI (r : List Nat) : r.map nI = (r.map Int.ofNat).map D.int := by rw [List.map_map]; rfl
theorem sum_ofNat : ∀ r : List Nat, (r.map Int.ofNat).sum = (r.sum : Int)
  | [] => rfl
  | x :: r => by
    rw [List.map_cons, List.sum_cons, List.sum_cons, sum_ofNat r]
    exact (Int.natCast_add x r.sum).symm
@[simp] theorem sum_lN (r : List Nat) : bltV .sum [lM nI r] = some (nI r.sum) := by
  show bltV .sum [.lst (r.map nI)] = _
  rw [map_nI, show D.lst ((r.map Int.ofNat).map D.int) = lM D.int (r.map Int.ofNat) from rfl, sum_lI, sum_ofNat]
@[simp] theorem sum_tN (r : List Nat) : bltV .sum [tM nI r] = some (nI r.sum) := sum_lN r
theorem ofNat_inj {xs ys : List Nat} : xs.map Int.ofNat = ys.map Int.ofNat ↔ xs = ys := by
  constructor
  · intro h
    have := congrArg (List.map Int.toNat) h
    rwa [List.map_map, List.map_map, show (Int.toNat ∘ Int.ofNat) = id from rfl, List.map_id, List.map_id] at this
  · rintro rfl; rfl
theorem eq_lI (xs ys : List Int) : cmpV .eq (lM D.int xs) (lM D.int ys) = some (decide (xs = ys)) := by
  show (if eqOk (.lst (xs.map .int)) (.lst (ys.map .int)) then some (D.eqv (.lst (xs.map .int)) (.lst (ys.map .int))) else none) = _
  have h : ∀ l : List Int, D.plain 60 (.lst (l.map .int)) = true := fun l => plains_ints 59 l
  rw [show eqOk (.lst (xs.map .int)) (.lst (ys.map .int)) = true by unfold eqOk; rw [h, h]; rfl, if_pos rfl]
  show some (D.eqvs _ _) = _
  rw [eqvs_ints]
theorem eq_tI (xs ys : List Int) : cmpV .eq (tM D.int xs) (tM D.int ys) = some (decide (xs = ys)) := eq_tup xs ys
theorem eq_lN (xs ys : List Nat) : cmpV .eq (lM nI xs) (lM nI ys) = some (decide (xs = ys)) := by
  show cmpV .eq (.lst (xs.map nI)) (.lst (ys.map nI)) = _
  rw [map_nI, map_nI]
  refine (eq_lI _ _).trans ?_
  congr 1
  exact decide_eq_decide.mpr ofNat_inj
theorem eq_tN (xs ys : List Nat) : cmpV .eq (tM nI xs) (tM nI ys) = some (decide (xs = ys)) := by
  show cmpV .eq (.tup (xs.map nI)) (.tup (ys.map nI)) = _
  rw [map_nI, map_nI]
  refine (eq_tI _ _).trans ?_
  congr 1
  exact decide_eq_decide.mpr ofNat_inj
theorem ne_of_eq {a b : D} {k : Bool} (h : cmpV .eq a b = some k) : cmpV .ne a b = some (!k) := by
  show (cmpV .eq a b).map not = _
  rw [h]; rfl
theorem flat_ints : ∀ l : List Int, (l.map D.int).all flat = true
  | [] => rfl
  | x :: l => by rw [List.map_cons, List.all_cons, flat_ints l]; rfl
theorem any_ints (v : Int) : ∀ l : List Int, ((l.map D.int).any fun y => D.eqv y (.int v)) = l.contains v
  | [] => rfl
  | x :: l => by
    rw [List.map_cons, List.any_cons, any_ints v l, List.contains_cons]
    show ((x == v) || _) = _
    rw [show (x == v) = (v == x) from Bool.beq_comm]
theorem in_tI (v : Int) (l : List Int) : cmpV .inn (.int v) (tM D.int l) = some (l.contains v) := by
  show (if flat (.int v) && (l.map D.int).all flat then some ((l.map D.int).any fun y => D.eqv y (.int v)) else if D.plain 60 (.int v) && D.plain 60 (.tup (l.map D.int)) then some ((l.map D.int).any fun y => D.eqv y (.int v)) else none) = _
  rw [flat_ints, any_ints]; rfl
theorem contains_ofNat (v : Nat) (l : List Nat) : (l.map Int.ofNat).contains (v : Int) = l.contains v := by
  induction l with
  | nil => rfl
  | cons x l ih =>
    rw [List.map_cons, List.contains_cons, List.contains_cons, ih]
    congr 1
    show decide ((v : Int) = (x : Int)) = decide (v = x)
    exact decide_eq_decide.mpr (by omega)
theorem in_tN (v : Nat) (l : List Nat) : cmpV .inn (nI v) (tM nI l) = some (l.contains v) := by
  show cmpV .inn (nI v) (.tup (l.map nI)) = _
  rw [map_nI]
  refine (in_tI _ _).trans ?_
  rw [contains_ofNat]
theorem nin_of_in {a b : D} {k : Bool} (h : cmpV .inn a b = some k) : cmpV .nin a b = some (!k) := by
  show (innV a b).map not = _
  rw [show innV a b = cmpV .inn a b from rfl, h]; rfl
theorem nilT {α : Type} (f : α → D) : D.tup [] = tM f [] := rfl
theorem nilL {α : Type} (f : α → D) : D.lst [] = lM f [] := rfl
theorem oneT {α : Type} (f : α → D) (x : α) : D.tup [f x] = tM f [x] := rfl
/-! lists or tuples of whole numbers -/
def SeqI (d : D) (xs : List Int) : Prop := d = lM D.int xs ∨ d = tM D.int xs
theorem SeqI.len {d : D} {xs : List Int} (h : SeqI d xs) : bltV .len [d] = some (.int xs.length) := by rcases h with rfl | rfl <;> simp
theorem SeqI.idx {d : D} {xs : List Int} (h : SeqI d xs) {k : Nat} (hk : k < xs.length) : idxV d (.int k) = some (.int (xs.getD k 0)) := by
  rcases h with rfl | rfl
  · exact idx_lM 0 hk
  · exact idx_tM 0 hk
theorem SeqI.items {d : D} {xs : List Int} (h : SeqI d xs) : itemsOf (.val d) = some (xs.map D.int) := by rcases h with rfl | rfl <;> rfl
theorem SeqI.enum {d : D} {xs : List Int} (h : SeqI d xs) : enumO (.val d) = some ((List.range xs.length).map fun i => D.tup [nI i, .int (xs.getD i 0)]) := by
  have e := enumL_ints 0 xs
  rcases h with rfl | rfl <;>
  · show some (enumL 0 (xs.map D.int)) = _
    rw [e]
    congr 1
    apply List.map_congr_left
    intro i _
    rw [Int.zero_add]
theorem zip_ints {d d' : D} {xs ys : List Int} (h : (d = lM D.int xs ∧ d' = lM D.int ys) ∨ (d = tM D.int xs ∧ d' = tM D.int ys)) : zipO (.val d) (.val d') = some ((xs.zip ys).map fun p => D.tup [.int p.1, .int p.2]) := by
  rcases h with ⟨rfl, rfl⟩ | ⟨rfl, rfl⟩ <;> exact congrArg some (zipL_ints xs ys)
theorem zip_vl (xs ys : List Int) : zipO (.val (lM D.int xs)) (.fresh (lM D.int ys)) = some ((xs.zip ys).map fun p => D.tup [.int p.1, .int p.2]) := congrArg some (zipL_ints xs ys)
/-! comprehensions -/
section
variable {cl : Caller} {env : Env} {α : Type}
theorem comp_z0 {env0 : Env} {elt : E} {it : It} {i j : Nat} {xs : List α} (f g : α → D) (u v : α → D) (hf : ∀ x, f x = .tup [u x, v x]) (hI : evalI cl it env0 = .ok (xs.map f) env) (hc : xs.length ≤ 1000000) (hij : i ≠ j) (hi : i < env.length) (hj : j < env.length)
    (h : ∀ x ∈ xs, ∃ o, evalE cl elt ((env.set i (.val (u x))).set j (.val (v x))) = .ok o ((env.set i (.val (u x))).set j (.val (v x))) ∧ o.leak = some (g x)) :
    evalE cl (.comp elt (.tp i j) it .yes [i, j]) env0 = .ok (.fresh (lM g xs)) env := by
  rw [evalE_comp, hI, Res.bind_ok, compK_at _ _ _ _ _ _ (by rw [List.length_map, cap_is]; exact hc)]
  obtain ⟨ys, e, h1, h2, a, b, h3⟩ := compT_inv (cl := cl) (t := .tp i j) (c := .yes) (elt := elt) (own := [i, j]) (fun k acc e => acc = (xs.take k).map g ∧ ∃ a b, e = (env.set i a).set j b) (xs.map f) 0 [] env
    ⟨by simp, env[i], env[j], by rw [List.set_getElem_self, List.set_getElem_self]⟩ fun k d acc e hd hi' => by
      obtain ⟨rfl, a, b, rfl⟩ := hi'
      rw [List.getElem?_map] at hd
      obtain ⟨x, hx, rfl⟩ := Option.map_eq_some_iff.mp hd
      obtain ⟨o, h1, h2⟩ := h x (List.mem_of_getElem? hx)
      have tk : xs.take (0 + k + 1) = xs.take (0 + k) ++ [x] := by
        rw [Nat.zero_add, List.take_add_one, hx]; rfl
      refine ⟨(env.set i (.val (u x))).set j (.val (v x)), ?_, .inr ⟨_, o, _, g x, by simp, h1, h2, by rw [tk, List.map_append]; rfl, _, _, rfl⟩⟩
      have e1 : wipeE ((env.set i a).set j b) [i, j] = (env.set i .un).set j .un := by
        show ((((env.set i a).set j b).set j .un).set i .un) = _
        rw [List.set_set, List.set_comm _ _ (by omega : j ≠ i), List.set_set]
      rw [hf, e1, bindD_tp, if_pos ⟨by simpa using hi, by simpa using hj⟩, List.set_comm _ _ (by omega : j ≠ i), List.set_set, List.set_set]
  rw [h1]
  simp only [Res.bind_ok, compEnd_at, Nat.zero_add, List.take_length, List.length_map] at h2 ⊢
  rw [h2, h3, set_back2 hij (List.getElem?_eq_getElem hi) (List.getElem?_eq_getElem hj)]
  rfl
theorem comp_f0 {env0 : Env} {elt : E} {it : It} {c : T} {j : Nat} {xs : List α} (f g : α → D) (p : α → Bool) (hI : evalI cl it env0 = .ok (xs.map f) env) (hc : xs.length ≤ 1000000) (hj : j < env.length)
    (h : ∀ x ∈ xs, evalT cl c (env.set j (.val (f x))) = .ok (p x) (env.set j (.val (f x))) ∧ (p x = true → ∃ o, evalE cl elt (env.set j (.val (f x))) = .ok o (env.set j (.val (f x))) ∧ o.leak = some (g x))) :
    evalE cl (.comp elt (.nm j) it c [j]) env0 = .ok (.fresh (lM g (xs.filter p))) env := by
  rw [evalE_comp, hI, Res.bind_ok, compK_at _ _ _ _ _ _ (by rw [List.length_map, cap_is]; exact hc)]
  obtain ⟨ys, e, h1, h2, t, h3⟩ := compT_inv (cl := cl) (t := .nm j) (c := c) (elt := elt) (own := [j]) (fun k acc e => acc = ((xs.take k).filter p).map g ∧ ∃ t, e = env.set j t) (xs.map f) 0 [] env
    ⟨by simp, env[j], by rw [List.set_getElem_self]⟩ fun i d acc e hd hi => by
      obtain ⟨rfl, t, rfl⟩ := hi
      rw [List.getElem?_map] at hd
      obtain ⟨x, hx, rfl⟩ := Option.map_eq_some_iff.mp hd
      obtain ⟨h1, h2⟩ := h x (List.mem_of_getElem? hx)
      have tk : xs.take (0 + i + 1) = xs.take (0 + i) ++ [x] := by
        rw [Nat.zero_add, List.take_add_one, hx]; rfl
      refine ⟨env.set j (.val (f x)), ?_, ?_⟩
      · simp [wipeE, hj]
      · cases hp : p x with
        | false =>
          refine .inl ⟨_, by rw [h1, hp], ?_, _, rfl⟩
          rw [tk, List.filter_append, List.map_append]
          simp [hp]
        | true =>
          obtain ⟨o, g1, g2⟩ := h2 hp
          refine .inr ⟨_, o, _, g x, by rw [h1, hp], g1, g2, ?_, _, rfl⟩
          rw [tk, List.filter_append, List.map_append]
          simp [hp]
  rw [h1]
  simp only [Res.bind_ok, compEnd_at, Nat.zero_add, List.take_length, List.length_map] at h2 ⊢
  rw [h2, set_back ⟨t, h3⟩ (List.getElem?_eq_getElem hj)]
  rfl
theorem comp_m0 {env0 : Env} {elt : E} {it : It} {j : Nat} {xs : List α} (f g : α → D) (hI : evalI cl it env0 = .ok (xs.map f) env) (hc : xs.length ≤ 1000000) (hj : j < env.length)
    (h : ∀ x ∈ xs, ∃ o, evalE cl elt (env.set j (.val (f x))) = .ok o (env.set j (.val (f x))) ∧ o.leak = some (g x)) :
    evalE cl (.comp elt (.nm j) it .yes [j]) env0 = .ok (.fresh (lM g xs)) env := by
  have := comp_f0 (c := .yes) f g (fun _ => true) hI hc hj fun x hx => ⟨by simp, fun _ => h x hx⟩
  rw [this, List.filter_eq_self.mpr fun _ _ => rfl]
theorem comp_z {elt : E} {it : It} {i j : Nat} {xs : List α} (f g : α → D) (u v : α → D) (hf : ∀ x, f x = .tup [u x, v x]) (hI : evalI cl it env = .ok (xs.map f) env) (hc : xs.length ≤ 1000000) (hij : i ≠ j) (hi : i < env.length) (hj : j < env.length)
    (h : ∀ x ∈ xs, ∃ o, evalE cl elt ((env.set i (.val (u x))).set j (.val (v x))) = .ok o ((env.set i (.val (u x))).set j (.val (v x))) ∧ o.leak = some (g x)) :
    evalE cl (.comp elt (.tp i j) it .yes [i, j]) env = .ok (.fresh (lM g xs)) env := comp_z0 f g u v hf hI hc hij hi hj h
theorem comp_f {elt : E} {it : It} {c : T} {j : Nat} {xs : List α} (f g : α → D) (p : α → Bool) (hI : evalI cl it env = .ok (xs.map f) env) (hc : xs.length ≤ 1000000) (hj : j < env.length)
    (h : ∀ x ∈ xs, evalT cl c (env.set j (.val (f x))) = .ok (p x) (env.set j (.val (f x))) ∧ (p x = true → ∃ o, evalE cl elt (env.set j (.val (f x))) = .ok o (env.set j (.val (f x))) ∧ o.leak = some (g x))) :
    evalE cl (.comp elt (.nm j) it c [j]) env = .ok (.fresh (lM g (xs.filter p))) env := comp_f0 f g p hI hc hj h
theorem comp_m {elt : E} {it : It} {j : Nat} {xs : List α} (f g : α → D) (hI : evalI cl it env = .ok (xs.map f) env) (hc : xs.length ≤ 1000000) (hj : j < env.length)
    (h : ∀ x ∈ xs, ∃ o, evalE cl elt (env.set j (.val (f x))) = .ok o (env.set j (.val (f x))) ∧ o.leak = some (g x)) :
    evalE cl (.comp elt (.nm j) it .yes [j]) env = .ok (.fresh (lM g xs)) env := comp_m0 f g hI hc hj h
/-- over places -/
theorem rng_i {a : E} {env' : Env} {m : Nat} (h : evalE cl a env = .ok (.val (.int m)) env') (hm : m ≤ 1000000) : evalI cl (.rng1 a) env = .ok ((List.range m).map nI) env' := rng1_run h hm
theorem rng_2 {a b : E} {lo hi : Int} {m : Nat} (ha : evalE cl a env = .ok (.val (.int lo)) env) (hb : evalE cl b env = .ok (.val (.int hi)) env) (h : (hi - lo).toNat = m) (h1 : -1000000 ≤ lo) (h2 : lo ≤ 1000000) (h3 : hi ≤ 1000000) (h4 : -1000000 ≤ hi) (hm : m ≤ 1000000) :
    evalI cl (.rng2 a b) env = .ok ((List.range m).map fun (i : Nat) => D.int (lo + (i : Int))) env := by
  rw [evalI_rng2, ha, Res.bind_ok, rng2K_at, hb, Res.bind_ok, rng2L_int, rngN_of h1 h2 h3 h4 (by rw [h]; exact hm), h, ← upto_map]
  rfl
theorem comp_rf {elt a : E} {c : T} {j m : Nat} (g : Nat → D) (p : Nat → Bool) (hI : evalE cl a env = .ok (.val (.int m)) env) (hc : m ≤ 1000000) (hj : j < env.length)
    (h : ∀ k < m, evalT cl c (env.set j (.val (nI k))) = .ok (p k) (env.set j (.val (nI k))) ∧ (p k = true → ∃ o, evalE cl elt (env.set j (.val (nI k))) = .ok o (env.set j (.val (nI k))) ∧ o.leak = some (g k))) :
    evalE cl (.comp elt (.nm j) (.rng1 a) c [j]) env = .ok (.fresh (lM g ((List.range m).filter p))) env :=
  comp_f nI g p (rng_i hI hc) (by simpa using hc) hj fun x hx => h x (List.mem_range.mp hx)
theorem comp_rm {elt a : E} {j m : Nat} (g : Nat → D) (hI : evalE cl a env = .ok (.val (.int m)) env) (hc : m ≤ 1000000) (hj : j < env.length)
    (h : ∀ k < m, ∃ o, evalE cl elt (env.set j (.val (nI k))) = .ok o (env.set j (.val (nI k))) ∧ o.leak = some (g k)) :
    evalE cl (.comp elt (.nm j) (.rng1 a) .yes [j]) env = .ok (.fresh (lM g (List.range m))) env :=
  comp_m nI g (rng_i hI hc) (by simpa using hc) hj fun x hx => h x (List.mem_range.mp hx)
/-- a for over items of one kind: the frame by an invariant -/
theorem for_m {t : Tg} {it : It} {b : Ss} {xs : List α} (f : α → D) (I : Nat → Env → Prop) (hI : evalI cl it env = .ok (xs.map f) env) (h0 : I 0 env)
    (h : ∀ i x e, xs[i]? = some x → I i e → ∃ e1, bindD t (f x) e = some e1 ∧ ∃ e2, (evalSs cl b e1 = .nx e2 ∨ evalSs cl b e1 = .ct e2) ∧ I (i + 1) e2) : ∃ e, evalS cl (.for_ t it b) env = .nx e ∧ I xs.length e := by
  rw [evalS_for, hI]
  obtain ⟨e, h1, h2⟩ := forT_inv (cl := cl) (t := t) (b := b) I (xs.map f) 0 env h0 fun i d e hd hi => by
    rw [List.getElem?_map] at hd
    obtain ⟨x, hx, rfl⟩ := Option.map_eq_some_iff.mp hd
    rw [Nat.zero_add] at hi ⊢
    exact h i x e hx hi
  rw [List.length_map, Nat.zero_add] at h2
  exact ⟨e, h1, h2⟩
theorem for_r {t : Tg} {a : E} {b : Ss} {m : Nat} (I : Nat → Env → Prop) (hI : evalE cl a env = .ok (.val (.int m)) env) (hm : m ≤ 1000000) (h0 : I 0 env)
    (h : ∀ i e, i < m → I i e → ∃ e1, bindD t (nI i) e = some e1 ∧ ∃ e2, (evalSs cl b e1 = .nx e2 ∨ evalSs cl b e1 = .ct e2) ∧ I (i + 1) e2) : ∃ e, evalS cl (.for_ t (.rng1 a) b) env = .nx e ∧ I m e := by
  have := for_m (cl := cl) (t := t) (b := b) (xs := List.range m) nI I (rng_i hI hm) h0 fun i x e hx hi => by
    have hi' : i < m := by
      have := (List.getElem?_eq_some_iff.mp hx).1
      simpa using this
    rw [List.getElem?_range hi'] at hx
    cases hx
    exact h i e hi' hi
  rwa [List.length_range] at this
end
end Pd
set_option autoImplicit false
set_option linter.all false
set_option maxRecDepth 100000
namespace Pd
open PySem (Str)
section
variable {cl : Caller} {env e : Env}
def okN (o : Option D) (e : Env) : Res Opd := match o with | some d => .ok (.fresh d) e | none => .stk
@[simp] theorem okN_some (d : D) (e : Env) : okN (some d) e = .ok (.fresh d) e := rfl
@[simp] theorem evalE_dnew : evalE cl .dnew env = .ok (.fresh (.dic [] [])) env := by rw [evalE]
def dlitK (ks : List Str) (os : List Opd) (e : Env) : Res Opd := okN ((leaks os).bind (dlitV ks)) e
@[simp] theorem dlitK_at (ks : List Str) (os : List Opd) (e : Env) : dlitK ks os e = okN ((leaks os).bind (dlitV ks)) e := rfl
@[simp] theorem evalE_dlit (ks : List Str) (es : Es) : evalE cl (.dlit ks es) env = (evalEs cl es env).bind (dlitK ks) := by
  rw [evalE]
  congr 1
  funext os e
  unfold dlitK
  cases leaks os with
  | none => rfl
  | some ds =>
    simp only [ofO_some, Res.bind_ok, Option.bind_some]
    cases dlitV ks ds <;> rfl
def done2 (x y : Opd) (e : Env) : Res Opd := okN ((leaks [x, y]).bind doneV) e
@[simp] theorem done2_at (x y : Opd) (e : Env) : done2 x y e = okN ((leaks [x, y]).bind doneV) e := rfl
def doneK (cl : Caller) (b : E) (x : Opd) (e : Env) : Res Opd := (evalE cl b e).bind (done2 x)
@[simp] theorem doneK_at (b : E) (x : Opd) (e : Env) : doneK cl b x e = (evalE cl b e).bind (done2 x) := rfl
@[simp] theorem evalE_done (a b : E) : evalE cl (.done1 a b) env = (evalE cl a env).bind (doneK cl b) := by
  rw [evalE]
  congr 1
  funext x e
  unfold doneK
  congr 1
  funext y e2
  unfold done2
  cases leaks [x, y] with
  | none => rfl
  | some ds =>
    simp only [ofO_some, Res.bind_ok, Option.bind_some]
    cases doneV ds <;> rfl
def didx2 (x y : Opd) (e : Env) : Res Opd := okV (b2 didxV (x.get e) (y.get e)) e
@[simp] theorem didx2_at (x y : Opd) (e : Env) : didx2 x y e = okV (b2 didxV (x.get e) (y.get e)) e := rfl
def didxK (cl : Caller) (b : E) (x : Opd) (e : Env) : Res Opd := (evalE cl b e).bind (didx2 x)
@[simp] theorem didxK_at (b : E) (x : Opd) (e : Env) : didxK cl b x e = (evalE cl b e).bind (didx2 x) := rfl
@[simp] theorem evalE_didx (a b : E) : evalE cl (.didx a b) env = (evalE cl a env).bind (didxK cl b) := by
  rw [evalE]
  congr 1
  funext x e
  unfold didxK
  congr 1
  funext y e2
  unfold didx2
  cases x.get e2 <;> cases y.get e2 <;> first | rfl | (rename_i p q; show (ofO (didxV p q) e2).bind _ = okV (didxV p q) e2; cases didxV p q <;> rfl)
def din2 (neg : Bool) (y x : Opd) (e : Env) : Res Opd := okB ((b2 dinV (x.get e) (y.get e)).map (· != neg)) e
@[simp] theorem din2_at (neg : Bool) (y x : Opd) (e : Env) : din2 neg y x e = okB ((b2 dinV (x.get e) (y.get e)).map (· != neg)) e := rfl
def dinK (cl : Caller) (neg : Bool) (a : E) (y : Opd) (e : Env) : Res Opd := (evalE cl a e).bind (din2 neg y)
@[simp] theorem dinK_at (neg : Bool) (a : E) (y : Opd) (e : Env) : dinK cl neg a y e = (evalE cl a e).bind (din2 neg y) := rfl
@[simp] theorem evalE_din (neg : Bool) (b a : E) : evalE cl (.din neg b a) env = (evalE cl b env).bind (dinK cl neg a) := by
  rw [evalE]
  congr 1
  funext y e
  unfold dinK
  congr 1
  funext x e2
  unfold din2
  cases y.get e2 <;> cases x.get e2 <;> first | rfl | (rename_i p q; show (ofO (dinV q p) e2).bind _ = okB ((dinV q p).map (· != neg)) e2; cases dinV q p <;> rfl)
def dget3 (x y z : Opd) (e : Env) : Res Opd := okV ((leaks [y, z]).bind fun ds => (x.get e).bind fun dx => dgetV dx ds) e
@[simp] theorem dget3_at (x y z : Opd) (e : Env) : dget3 x y z e = okV ((leaks [y, z]).bind fun ds => (x.get e).bind fun dx => dgetV dx ds) e := rfl
def dget2 (cl : Caller) (c : E) (x y : Opd) (e : Env) : Res Opd := (evalE cl c e).bind (dget3 x y)
@[simp] theorem dget2_at (c : E) (x y : Opd) (e : Env) : dget2 cl c x y e = (evalE cl c e).bind (dget3 x y) := rfl
def dgetL (cl : Caller) (b c : E) (x : Opd) (e : Env) : Option Unit → Res Opd
  | some _ => (evalE cl b e).bind (dget2 cl c x)
  | none => .stk
@[simp] theorem dgetL_some (b c : E) (x : Opd) (e : Env) (u : Unit) : dgetL cl b c x e (some u) = (evalE cl b e).bind (dget2 cl c x) := rfl
def dgetK (cl : Caller) (b c : E) (x : Opd) (e : Env) : Res Opd := dgetL cl b c x e ((x.get e).bind isDic)
@[simp] theorem dgetK_at (b c : E) (x : Opd) (e : Env) : dgetK cl b c x e = dgetL cl b c x e ((x.get e).bind isDic) := rfl
@[simp] theorem isDic_dic (ks : List (Sum Int Str)) (ds : List D) : isDic (.dic ks ds) = some () := rfl
@[simp] theorem evalE_dget (a b c : E) : evalE cl (.dget a b c) env = (evalE cl a env).bind (dgetK cl b c) := by
  rw [evalE]
  congr 1
  funext x e
  unfold dgetK
  cases hx : x.get e with
  | none => rfl
  | some d =>
    simp only [ofO_some, Res.bind_ok, Option.bind_some]
    cases hd : isDic d with
    | none => rfl
    | some u =>
      show (evalE cl b e).bind _ = (evalE cl b e).bind (dget2 cl c x)
      congr 1
      funext y e2
      unfold dget2
      congr 1
      funext z e3
      unfold dget3
      cases leaks [y, z] with
      | none => rfl
      | some ds =>
        simp only [ofO_some, Res.bind_ok, Option.bind_some]
        cases x.get e3 with
        | none => rfl
        | some dx =>
          simp only [ofO_some, Res.bind_ok, Option.bind_some]
          cases dgetV dx ds <;> rfl
def putD (i : Nat) (d : D) (e : Env) (k : D) : Option Slot → Option Env
  | some (.own (.dic ks ds)) => if ks.length < cap then (keyD k).map fun k => e.set i (.own (.dic (putKs ks k) (putDs ks ds k d))) else none
  | _ => none
@[simp] theorem setDic_at (i : Nat) (k d : D) : setDic i k d env = putD i d env k env[i]? := by
  unfold setDic putD
  rfl
def slotDic : Option Slot → Bool
  | some (.own (.dic _ _)) => true
  | _ => false
@[simp] theorem slotDic_own (ks : List (Sum Int Str)) (ds : List D) : slotDic (some (.own (.dic ks ds))) = true := rfl
@[simp] theorem isOwnD_at (i : Nat) : isOwnD i env = slotDic env[i]? := rfl
def setD3 (i : Nat) (d : D) (k : Opd) (e : Env) : Fl := nxO (k.leak.bind fun k => setDic i k d e)
@[simp] theorem setD3_at (i : Nat) (d : D) (k : Opd) (e : Env) : setD3 i d k e = nxO (k.leak.bind fun k => setDic i k d e) := rfl
def setD2 (cl : Caller) (i : Nat) (ix : E) (d : D) (e : Env) : Bool → Fl
  | true => (evalE cl ix e).fl (setD3 i d)
  | false => .stk
@[simp] theorem setD2_t (i : Nat) (ix : E) (d : D) (e : Env) : setD2 cl i ix d e true = (evalE cl ix e).fl (setD3 i d) := rfl
def setDL (cl : Caller) (i : Nat) (ix : E) (e : Env) : Option D → Fl
  | some d => setD2 cl i ix d e (isOwnD i e)
  | none => .stk
@[simp] theorem setDL_some (i : Nat) (ix : E) (d : D) (e : Env) : setDL cl i ix e (some d) = setD2 cl i ix d e (isOwnD i e) := rfl
def setDK (cl : Caller) (i : Nat) (ix : E) (o : Opd) (e : Env) : Fl := setDL cl i ix e o.leak
@[simp] theorem setDK_at (i : Nat) (ix : E) (o : Opd) (e : Env) : setDK cl i ix o e = setDL cl i ix e o.leak := rfl
@[simp] theorem evalS_setD (i : Nat) (ix a : E) : evalS cl (.setD i ix a) env = (evalE cl a env).fl (setDK cl i ix) := by
  rw [evalS]
  congr 1
  funext o e
  unfold setDK setDL
  cases o.leak with
  | none => rfl
  | some d =>
    show (if isOwnD i e = true then _ else _) = setD2 cl i ix d e (isOwnD i e)
    cases isOwnD i e <;> rfl
@[simp] theorem evalE_kix (x : Str) (ks : List Str) (ds : List D) (a : E) : evalE cl (.kix x ks ds a) env = (evalE cl a env).bind (dixM ks ds) := by
  rw [evalE]
  congr 1
  funext y e
  unfold dixM
  cases y.get e with
  | none => rfl
  | some d => show (ofO (dixV ks ds d) e).bind _ = okV (dixV ks ds d) e; cases dixV ks ds d <;> rfl
def kinK (neg : Bool) (ks : List Str) (y : Opd) (e : Env) : Res Opd := okB (((y.get e).bind strOf).map fun s => ks.contains s != neg) e
@[simp] theorem kinK_at (neg : Bool) (ks : List Str) (y : Opd) (e : Env) : kinK neg ks y e = okB (((y.get e).bind strOf).map fun s => ks.contains s != neg) e := rfl
@[simp] theorem evalE_kin (neg : Bool) (x : Str) (ks : List Str) (ds : List D) (a : E) : evalE cl (.kin neg x ks ds a) env = (evalE cl a env).bind (kinK neg ks) := by
  rw [evalE]
  congr 1
  funext y e
  unfold kinK
  cases y.get e with
  | none => rfl
  | some d => show (ofO (strOf d) e).bind _ = okB ((strOf d).map _) e; cases strOf d <;> rfl
def cnt2 (x y : Opd) (e : Env) : Res Opd := okV ((b2 cntV (x.get e) (y.get e)).map D.int) e
@[simp] theorem cnt2_at (x y : Opd) (e : Env) : cnt2 x y e = okV ((b2 cntV (x.get e) (y.get e)).map D.int) e := rfl
def cntL (cl : Caller) (b : E) (x : Opd) (e : Env) : Option Unit → Res Opd
  | some _ => (evalE cl b e).bind (cnt2 x)
  | none => .stk
@[simp] theorem cntL_some (b : E) (x : Opd) (e : Env) (u : Unit) : cntL cl b x e (some u) = (evalE cl b e).bind (cnt2 x) := rfl
def cntK (cl : Caller) (b : E) (x : Opd) (e : Env) : Res Opd := cntL cl b x e ((x.get e).bind lstOf)
@[simp] theorem cntK_at (b : E) (x : Opd) (e : Env) : cntK cl b x e = cntL cl b x e ((x.get e).bind lstOf) := rfl
@[simp] theorem lstOf_lst (ds : List D) : lstOf (.lst ds) = some () := rfl
@[simp] theorem lstOf_lM {α : Type} (f : α → D) (xs : List α) : lstOf (lM f xs) = some () := rfl
@[simp] theorem evalE_cnt (a b : E) : evalE cl (.cnt a b) env = (evalE cl a env).bind (cntK cl b) := by
  rw [evalE]
  congr 1
  funext x e
  unfold cntK
  cases hx : x.get e with
  | none => rfl
  | some d =>
    simp only [ofO_some, Res.bind_ok, Option.bind_some]
    cases hd : lstOf d with
    | none => rfl
    | some u =>
      show (evalE cl b e).bind _ = (evalE cl b e).bind (cnt2 x)
      congr 1
      funext y e2
      unfold cnt2
      cases x.get e2 <;> cases y.get e2 <;> first | rfl | (rename_i p q; show (ofO (cntV p q) e2).bind _ = okV ((cntV p q).map D.int) e2; cases cntV p q <;> rfl)
@[simp] theorem mkO_dic (ks : List (Sum Int Str)) (ds : List D) : mkO (.dic ks ds) = .fresh (.dic ks ds) := rfl
end
/-! a dict of one kind of values -/
def dM {α : Type} (f : α → D) (kvs : List (Sum Int Str × α)) : D := .dic (kvs.map (·.1)) (kvs.map fun p => f p.2)
section
variable {α : Type} {f : α → D}
theorem getK_map (k : Sum Int Str) : ∀ kvs : List (Sum Int Str × α), getK (kvs.map (·.1)) (kvs.map fun p => f p.2) k = (kvs.find? fun p => decide (p.1 = k)).map fun p => f p.2
  | [] => rfl
  | p :: r => by
    show (if p.1 = k then some (f p.2) else getK (r.map (·.1)) (r.map fun p => f p.2) k) = _
    by_cases c : p.1 = k
    · rw [if_pos c, List.find?_cons_of_pos (by simp [c])]; rfl
    · rw [if_neg c, List.find?_cons_of_neg (by simp [c]), getK_map k r]
end
end Pd
local macro_rules | `(tactic| exists $ts,*) => `(tactic| (simp -implicitDefEqProofs only [$[$ts:term],*, Pd.Res.bind_ok, Pd.Res.bind_exc, Pd.Res.bind_stk, Pd.ofO_some, Pd.ofO_none, Pd.Res.fl_ok, Pd.Res.fl_exc, Pd.Res.fl_stk, Pd.nxO_some, Pd.nxO_none, Pd.b2_some, Pd.okO_some, Pd.okO_none, Pd.okV_some, Pd.okV_none, Pd.okB_some, Pd.okB_none, Pd.mkO_int, Pd.mkO_bl, Pd.mkO_str, Pd.mkO_non, Pd.mkO_tup, Pd.mkO_lst, Pd.mkO_rng, Pd.slotD_own, Pd.get_val, Pd.get_fresh, Pd.get_slot, Pd.leak_val, Pd.leak_fresh, Pd.leak_slot, Pd.varR_val, Pd.varR_own, Pd.evalE_var, Pd.evalE_con, Pd.evalE_glob, Pd.bin2_at, Pd.binK_at, Pd.evalE_bin, Pd.cmp2_at, Pd.cmpK_at, Pd.evalE_cmp, Pd.idx2_at, Pd.idxK_at, Pd.evalE_idx, Pd.neg1_at, Pd.evalE_neg, Pd.rev1_at, Pd.evalE_rev, Pd.not1_at, Pd.evalE_not, Pd.andR_t, Pd.andR_f, Pd.andL_some, Pd.andK_at, Pd.evalE_and, Pd.orR_f, Pd.orR_t, Pd.orL_some, Pd.orK_at, Pd.evalE_or, Pd.iteK_t, Pd.iteK_f, Pd.evalE_ite, Pd.chn3_at, Pd.chnR_t, Pd.chnR_f, Pd.chnL_some, Pd.chn2_at, Pd.chnK_at, Pd.evalE_chn, Pd.esT_at, Pd.esK_at, Pd.evalEs_nil, Pd.evalEs_cons, Pd.leaks_nil, Pd.consO_some, Pd.leaks_cons, Pd.gets_nil, Pd.gets_cons, Pd.tupK_at, Pd.evalE_tup, Pd.okF_some, Pd.lstK_at, Pd.evalE_lst, Pd.bltK_at, Pd.evalE_blt, Pd.callK_at, Pd.evalE_call, Pd.sli2_at, Pd.sliH_at, Pd.sliK_at, Pd.evalE_sli, Pd.bndK_int, Pd.evalB_no, Pd.evalB_so, Pd.tstK_at, Pd.evalT_yes, Pd.evalT_e, Pd.tandK_t, Pd.tandK_f, Pd.evalT_and, Pd.torK_t, Pd.torK_f, Pd.evalT_or, Pd.tnotK_at, Pd.evalT_not, Pd.plainK_at, Pd.evalI_plain, Pd.rng1K_int, Pd.evalI_rng1, Pd.rng2L_int, Pd.rng2K_at, Pd.evalI_rng2, Pd.compEnd_at, Pd.evalSs_nil, Pd.ssK_nx, Pd.ssK_rt, Pd.ssK_bk, Pd.ssK_ct, Pd.ssK_exc, Pd.evalSs_cons, Pd.evalS_pass, Pd.evalS_brk, Pd.evalS_cnt, Pd.expK_at, Pd.evalS_exp, Pd.setK_at, Pd.evalS_set, Pd.putO_val, Pd.putO_fresh, Pd.bindO_at, Pd.unpK_tup, Pd.evalS_unp, Pd.bindDs_nil, Pd.bindDs_cons, Pd.binds_nil, Pd.binds_cons, Pd.parK_at, Pd.evalS_par, Pd.setI3_at, Pd.setI2'_t, Pd.setIL_some, Pd.setIK_at, Pd.evalS_setI, Pd.slotOwn_own, Pd.isOwn_at', Pd.putI_own, Pd.setOwn_at, Pd.retK_at, Pd.evalS_ret, Pd.evalS_retN, Pd.condK_t, Pd.condK_f, Pd.evalS_cond, Pd.frzL_own, Pd.frzL_val, Pd.evalS_frz, Pd.add_int, Pd.sub_int, Pd.eq_int, Pd.ne_int, Pd.lt_int, Pd.le_int, Pd.gt_int, Pd.ge_int, Pd.truth_bl, Pd.truth_int, Pd.neg_int, Pd.int_int, Pd.int_bl, Pd.abs_int, Pd.idx4_0, Pd.idx4_1, Pd.idx4_2, Pd.idx4_3, Pd.bindD_nm, Pd.items_tup, Pd.items_lst, Pd.items_frs, Pd.evalS_raise, Pd.tryK_exc, Pd.tryK_rt, Pd.tryK_nx, Pd.evalS_try, Pd.hRet_ok, Pd.hs_hit, Pd.hs_hitAs, Pd.clr_nil, Pd.clr_val, Pd.clr_own, Pd.clr_un, Pd.clr_ex, Pd.xisR_ex, Pd.evalE_xis, Pd.cvL_at, Pd.cvK_fn, Pd.evalE_callv, Pd.zip2_at, Pd.zipK_at, Pd.evalI_zip, Pd.enumK_at, Pd.evalI_enum, Pd.appP_own, Pd.appOwn_at, Pd.appK_at, Pd.evalS_app, Pd.valO_val, Pd.getVal_at, Pd.augF_at, Pd.augL_some, Pd.evalS_aug, Pd.isi_tuple, Pd.isi_int, Pd.isi_bool, Pd.isi_str, Pd.mkO_tupI, Pd.si2D_t, Pd.si2C_some, Pd.si2B_at, Pd.si2A_t, Pd.si2L_some, Pd.si2K_at, Pd.evalS_setI2, Pd.idx2_0, Pd.idx2_1, Pd.mkO_shown, Pd.lt_s, Pd.lt_z, Pd.splM_at, Pd.splL_some, Pd.splK_at, Pd.strOf_str, Pd.dixM_at, Pd.dixL_some, Pd.dixK_at, Pd.evalE_dix, Pd.evalE_spl, Pd.evy1_at, Pd.evalE_evy, Pd.raiL_some, Pd.raiK_at, Pd.evalS_raiseF, Pd.bindD_tp, Pd.bindD_tp3, Pd.augV_add, Pd.augV_sub, Pd.ownD_own, Pd.getOwn_at, Pd.augIc_at, Pd.augIb_some, Pd.augIk_some, Pd.augIK_at, Pd.evalS_augI, Pd.xatR_ex, Pd.evalE_xat, Pd.endK_some, Pd.endX_some, Pd.endOf_v, Pd.endOf_f, Pd.endOf_nx, Pd.endOf_exc, Pd.outs_nil, Pd.outs_f, Pd.outK_own, Pd.outs_t, Pd.slotOwn_lM, Pd.mkO_lM, Pd.mkO_tM, Pd.len_lM, Pd.len_tM, Pd.tup_lM, Pd.tup_tM, Pd.lst_lM, Pd.lst_tM, Pd.sum_lI, Pd.sum_tI, Pd.items_lM, Pd.items_fM, Pd.items_tM, Pd.rev_lM, Pd.rev_tM, Pd.evy_lM, Pd.evy_tM, Pd.lst_1, Pd.sum_lN, Pd.sum_tN, Pd.okN_some, Pd.evalE_dnew, Pd.dlitK_at, Pd.evalE_dlit, Pd.done2_at, Pd.doneK_at, Pd.evalE_done, Pd.didx2_at, Pd.didxK_at, Pd.evalE_didx, Pd.din2_at, Pd.dinK_at, Pd.evalE_din, Pd.dget3_at, Pd.dget2_at, Pd.dgetL_some, Pd.dgetK_at, Pd.isDic_dic, Pd.evalE_dget, Pd.setDic_at, Pd.slotDic_own, Pd.isOwnD_at, Pd.setD3_at, Pd.setD2_t, Pd.setDL_some, Pd.setDK_at, Pd.evalS_setD, Pd.evalE_kix, Pd.kinK_at, Pd.evalE_kin, Pd.cnt2_at, Pd.cntL_some, Pd.cntK_at, Pd.lstOf_lst, Pd.lstOf_lM, Pd.evalE_cnt, Pd.mkO_dic, Pd.items_scr, Pd.len_lst, Pd.len_tup, Pd.zipO_ff, Pd.zipO_vf, Pd.zipO_fv, Pd.zipO_vv, Pd.zipO_tt, Pd.enumO_v, Pd.enumO_f, Pd.enumO_t, List.getElem?_cons_zero, List.getElem?_cons_succ, List.set_cons_zero, List.set_cons_succ, List.length_cons, List.length_nil, Nat.reduceAdd, Nat.reduceLT, Nat.reduceSub, Nat.zero_add, Option.bind_some, Option.map_some, if_true, if_false, ite_true, ite_false, decide_true, decide_false, Bool.not_true, Bool.not_false, Bool.true_and, Bool.and_true, Bool.false_and, Bool.and_false, Bool.or_true, Bool.true_or, Bool.false_or, Bool.or_false, Bool.false_eq_true, Bool.not_eq_true, bne_self_eq_false, Int.reduceNeg, Int.reduceAdd, Int.reduceSub, Int.reduceLT, Int.reduceLE, Int.reduceEq, Int.reduceNe, Int.reduceBNe, Int.reduceBEq, Int.reduceMul, Int.zero_add, Int.add_zero, reduceCtorEq, not_true_eq_false, not_false_eq_true, List.map_cons, List.map_nil, List.contains_cons, List.contains_nil, List.nil_append, List.cons_append, List.replicate_succ, List.replicate_zero, ne_eq, eq_self, true_and, and_true, and_self] <;> try with_reducible rfl))
set_option autoImplicit false
set_option linter.all false
set_option maxRecDepth 100000
namespace Pd
open PySem (Str)
/-! comprehensions of two clauses (from K68P6: where k68 is built, leave these out there) -/
def comp2K (cl : Caller) (elt : E) (t t' : Tg) (it' : It) (c : T) (own own' : List Nat) (ds : List D) (e : Env) : Res Opd :=
  if ds.length ≤ cap then (comp2L t own (fun acc e => (evalI cl it' e).bind fun ds' e2 => if acc.length + ds'.length ≤ cap then compT cl elt t' c own' ds' acc e2 else .stk) ds [] e).bind (compEnd e own) else .stk
theorem evalE_comp2 {cl : Caller} {env : Env} (elt : E) (t t' : Tg) (it it' : It) (c : T) (own own' : List Nat) : evalE cl (.comp2 elt t it t' it' c own own') env = (evalI cl it env).bind (comp2K cl elt t t' it' c own own') := by rw [evalE]; rfl
theorem comp2_pure {cl : Caller} {elt : E} {it it' : It} {c : T} {i j : Nat} {env : Env} {ds ds' : List D} (p : D → D → Bool) (g : D → D → D) (hI : evalI cl it env = .ok ds env) (hc : ds.length ≤ cap) (hij : i ≠ j) (hi : i < env.length) (hj : j < env.length)
    (hI' : ∀ d ∈ ds, evalI cl it' ((env.set i (.val d)).set j .un) = .ok ds' ((env.set i (.val d)).set j .un)) (hcap : ds.length * ds'.length ≤ cap)
    (h : ∀ d ∈ ds, ∀ d' ∈ ds', evalT cl c ((env.set i (.val d)).set j (.val d')) = .ok (p d d') ((env.set i (.val d)).set j (.val d')) ∧ (p d d' = true → ∃ o, evalE cl elt ((env.set i (.val d)).set j (.val d')) = .ok o ((env.set i (.val d)).set j (.val d')) ∧ o.leak = some (g d d'))) :
    evalE cl (.comp2 elt (.nm i) it (.nm j) it' c [i, j] [j]) env = .ok (.fresh (.lst (ds.flatMap fun d => (ds'.filter (p d)).map (g d)))) env := by
  have inner : ∀ (d : D), d ∈ ds → ∀ acc : List D, ∃ s, compT cl elt (.nm j) c [j] ds' acc ((env.set i (.val d)).set j .un) = .ok (acc ++ (ds'.filter (p d)).map (g d)) ((env.set i (.val d)).set j s) := fun d hd acc => by
    obtain ⟨ys, e, h1, h2, s, h3⟩ := compT_inv (cl := cl) (t := .nm j) (c := c) (elt := elt) (own := [j]) (fun k a e => a = acc ++ ((ds'.take k).filter (p d)).map (g d) ∧ ∃ s, e = (env.set i (.val d)).set j s) ds' 0 acc ((env.set i (.val d)).set j .un)
      ⟨by simp, .un, rfl⟩ fun k d' a e hd' hi' => by
        obtain ⟨rfl, s, rfl⟩ := hi'
        obtain ⟨q1, q2⟩ := h d hd d' (List.mem_of_getElem? hd')
        have tk : ds'.take (0 + k + 1) = ds'.take (0 + k) ++ [d'] := by rw [Nat.zero_add, List.take_add_one, hd']; rfl
        refine ⟨(env.set i (.val d)).set j (.val d'), by simp [wipeE, hj], ?_⟩
        cases hp : p d d' with
        | false =>
          rw [hp] at q1
          refine .inl ⟨_, q1, ?_, _, rfl⟩
          rw [tk, List.filter_append, List.map_append]
          simp [hp]
        | true =>
          rw [hp] at q1
          obtain ⟨o, r1, r2⟩ := q2 hp
          refine .inr ⟨_, o, _, g d d', q1, r1, r2, ?_, _, rfl⟩
          rw [tk, List.filter_append, List.map_append]
          simp [hp]
    rw [Nat.zero_add, List.take_length] at h2
    exact ⟨s, by rw [h1, h2, h3]⟩
  have outer : ∀ (rs : List D) (acc : List D) (a b : Slot), (∀ d ∈ rs, d ∈ ds) → acc.length + rs.length * ds'.length ≤ cap → ∃ a' b', comp2L (.nm i) [i, j] (fun acc e => (evalI cl it' e).bind fun ds' e2 => if acc.length + ds'.length ≤ cap then compT cl elt (.nm j) c [j] ds' acc e2 else .stk) rs acc ((env.set i a).set j b) = .ok (acc ++ rs.flatMap fun d => (ds'.filter (p d)).map (g d)) ((env.set i a').set j b') := fun rs => by
    induction rs with
    | nil => intro acc a b _ _; exact ⟨a, b, by simp [comp2L]⟩
    | cons d rs ih =>
      intro acc a b hm hl
      have hd := hm d List.mem_cons_self
      obtain ⟨s, hs⟩ := inner d hd acc
      simp only [List.length_cons, Nat.succ_mul] at hl
      obtain ⟨a', b', hr⟩ := ih (acc ++ (ds'.filter (p d)).map (g d)) (.val d) s (fun x hx => hm x (List.mem_cons_of_mem _ hx)) (by
        rw [List.length_append, List.length_map]
        have := List.length_filter_le (p d) ds'
        omega)
      refine ⟨a', b', ?_⟩
      have e1 : bindD (.nm i) d (wipeE ((env.set i a).set j b) [i, j]) = some ((env.set i (.val d)).set j .un) := by
        have w : wipeE ((env.set i a).set j b) [i, j] = (env.set i .un).set j .un := by
          show ((((env.set i a).set j b).set j .un).set i .un) = _
          rw [List.set_set, List.set_comm _ _ (by omega : j ≠ i), List.set_set]
        rw [w, bindD_nm, if_pos (by simpa using hi), List.set_comm _ _ (by omega : j ≠ i), List.set_set]
      unfold comp2L
      rw [e1]
      simp only [hI' d hd, Res.bind_ok, if_pos (show acc.length + ds'.length ≤ cap by omega), hs]
      rw [hr, List.flatMap_cons, List.append_assoc]
  obtain ⟨a', b', ho⟩ := outer ds [] env[i] env[j] (fun _ h => h) (by simpa using hcap)
  rw [List.set_getElem_self, List.set_getElem_self] at ho
  rw [evalE_comp2, hI, Res.bind_ok]
  unfold comp2K
  rw [if_pos hc, ho]
  simp only [Res.bind_ok, compEnd_at, List.nil_append]
  rw [set_back2 hij (List.getElem?_eq_getElem hi) (List.getElem?_eq_getElem hj)]
end Pd
namespace Pd
open PySem (Str)
def k70_k_MOST_POINT : D := .int 30
def k70_k_MOST_WEIGHT : D := .int 1000000
def k70_k_MOST_POINTS : D := .int 8
def k70_k_MOST_DEGREE : D := .int 12
def k70_is_whole : Fn := ⟨"is_whole", ["value"], ["value"], [false],
  (.cons (.ret (.and (.blt (.isi .int) (.cons (.var 0) .nil)) (.not (.blt (.isi .bool) (.cons (.var 0) .nil))))) .nil)⟩
def k70_is_pair_c1e : E := (.call 0 [false] (.cons (.var 1) .nil))
def k70_is_pair_c1 : E := .comp k70_is_pair_c1e (.nm 1) (.plain (.var 0)) .yes [1]
def k70_is_pair : Fn := ⟨"is_pair", ["value"], ["value", "item"], [false],
  (.cons (.cond (.or (.not (.e (.blt (.isi .tuple) (.cons (.var 0) .nil)))) (.or (.e (.cmp .ne (.blt .len (.cons (.var 0) .nil)) (.con (.int 2)))) (.not (.e (.blt .all (.cons k70_is_pair_c1 .nil)))))) (.cons (.ret (.con (.bl false))) .nil) .nil) (.cons (.ret (.and (.chn .le .le (.con (.int 0)) (.idx (.var 0) (.con (.int 0))) (.glob "MOST_POINT" k70_k_MOST_POINT)) (.chn .le .le (.con (.int 1)) (.idx (.var 0) (.con (.int 1))) (.glob "MOST_WEIGHT" k70_k_MOST_WEIGHT)))) .nil))⟩
def k70_is_mixture_c1e : E := (.call 1 [false] (.cons (.var 1) .nil))
def k70_is_mixture_c1 : E := .comp k70_is_mixture_c1e (.nm 1) (.plain (.var 0)) .yes [1]
def k70_is_mixture_c2e : E := (.cmp .lt (.idx (.var 2) (.con (.int 0))) (.idx (.var 3) (.con (.int 0))))
def k70_is_mixture_c2 : E := .comp k70_is_mixture_c2e (.tp 2 3) (.zip (.var 0) (.sli (.var 0) (.so (.con (.int 1))) .no)) .yes [2, 3]
def k70_is_mixture : Fn := ⟨"is_mixture", ["value"], ["value", "item", "one", "two"], [false],
  (.cons (.cond (.or (.not (.e (.blt (.isi .tuple) (.cons (.var 0) .nil)))) (.or (.not (.e (.chn .le .le (.con (.int 1)) (.blt .len (.cons (.var 0) .nil)) (.glob "MOST_POINTS" k70_k_MOST_POINTS)))) (.not (.e (.blt .all (.cons k70_is_mixture_c1 .nil)))))) (.cons (.ret (.con (.bl false))) .nil) .nil) (.cons (.ret (.blt .all (.cons k70_is_mixture_c2 .nil))) .nil))⟩
def k70_check_mixture : Fn := ⟨"check_mixture", ["value"], ["value"], [false],
  (.cons (.cond (.not (.e (.call 2 [false] (.cons (.var 0) .nil)))) (.cons (.raise 0 .no) .nil) .nil) .nil)⟩
def k70_check_degree : Fn := ⟨"check_degree", ["n"], ["n"], [false],
  (.cons (.cond (.or (.not (.e (.call 0 [false] (.cons (.var 0) .nil)))) (.not (.e (.chn .le .le (.con (.int 0)) (.var 0) (.glob "MOST_DEGREE" k70_k_MOST_DEGREE))))) (.cons (.raise 0 .no) .nil) .nil) .nil)⟩
def k70_power_b1 : Ss := (.cons (.aug 2 .mul (.var 0)) .nil)
def k70_power : Fn := ⟨"power", ["base", "number"], ["base", "number", "found", "_"], [false, false],
  (.cons (.set 2 (.con (.int 1))) (.cons (.for_ (.nm 3) (.rng1 (.var 1)) k70_power_b1) (.cons (.ret (.var 2)) .nil)))⟩
def k70_moment_row_c1e : E := (.bin .mul (.var 3) (.call 5 [false, false] (.cons (.var 2) (.cons (.var 4) .nil))))
def k70_moment_row_c1 : E := .comp k70_moment_row_c1e (.tp 2 3) (.plain (.var 0)) .yes [2, 3]
def k70_moment_row_c2e : E := (.blt .sum (.cons k70_moment_row_c1 .nil))
def k70_moment_row_c2 : E := .comp k70_moment_row_c2e (.nm 4) (.rng1 (.bin .add (.var 1) (.con (.int 1)))) .yes [4]
def k70_moment_row : Fn := ⟨"moment_row", ["mixture", "n"], ["mixture", "n", "point", "weight", "k"], [false, false],
  (.cons (.ret k70_moment_row_c2) .nil)⟩
def k70_moments : Fn := ⟨"moments", ["mixture", "n"], ["mixture", "n"], [false, false],
  (.cons (.exp (.call 3 [false] (.cons (.var 0) .nil))) (.cons (.exp (.call 4 [false] (.cons (.var 1) .nil))) (.cons (.ret (.blt .tuple (.cons (.call 6 [false, false] (.cons (.var 0) (.cons (.var 1) .nil))) .nil))) .nil)))⟩
def k70_gathered_b1 : Ss := (.cons (.setD 1 (.var 2) (.bin .add (.dget (.var 1) (.var 2) (.con (.int 0))) (.var 3))) .nil)
def k70_gathered_c2e : E := (.tup (.cons (.var 2) (.cons (.didx (.var 1) (.var 2)) .nil)))
def k70_gathered_c2 : E := .comp k70_gathered_c2e (.nm 2) (.plain (.blt .sorted (.cons (.var 1) .nil))) .yes [2]
def k70_gathered : Fn := ⟨"gathered", ["pairs"], ["pairs", "found", "point", "weight", "mixture"], [false],
  (.cons (.set 1 .dnew) (.cons (.for_ (.tp 2 3) (.plain (.var 0)) k70_gathered_b1) (.cons (.set 4 (.blt .tuple (.cons k70_gathered_c2 .nil))) (.cons (.cond (.not (.e (.call 2 [false] (.cons (.var 4) .nil)))) (.cons (.raise 1 (.so (.con (.str "large")))) .nil) .nil) (.cons (.ret (.var 4)) .nil)))))⟩
def k70_product_of_c1e : E := (.tup (.cons (.bin .mul (.var 2) (.var 4)) (.cons (.bin .mul (.var 3) (.var 5)) .nil)))
def k70_product_of_c1 : E := .comp2 k70_product_of_c1e (.tp 2 3) (.plain (.var 0)) (.tp 4 5) (.plain (.var 1)) .yes [2, 3, 4, 5] [4, 5]
def k70_product_of : Fn := ⟨"product_of", ["one", "two"], ["one", "two", "a", "v", "b", "w"], [false, false],
  (.cons (.exp (.call 3 [false] (.cons (.var 0) .nil))) (.cons (.exp (.call 3 [false] (.cons (.var 1) .nil))) (.cons (.ret (.call 8 [false] (.cons k70_product_of_c1 .nil))) .nil)))⟩
def k70_sum_of_c1e : E := (.tup (.cons (.bin .add (.var 2) (.var 4)) (.cons (.bin .mul (.var 3) (.var 5)) .nil)))
def k70_sum_of_c1 : E := .comp2 k70_sum_of_c1e (.tp 2 3) (.plain (.var 0)) (.tp 4 5) (.plain (.var 1)) .yes [2, 3, 4, 5] [4, 5]
def k70_sum_of : Fn := ⟨"sum_of", ["one", "two"], ["one", "two", "a", "v", "b", "w"], [false, false],
  (.cons (.exp (.call 3 [false] (.cons (.var 0) .nil))) (.cons (.exp (.call 3 [false] (.cons (.var 1) .nil))) (.cons (.ret (.call 8 [false] (.cons k70_sum_of_c1 .nil))) .nil)))⟩
def k70_law_draw_b1 : Ss := (.cons (.set 1 (.bin .mod (.blt .int (.cons (.bin .add (.bin .add (.bin .mul (.var 1) (.con (.int 48271))) (.bin .mod (.blt .abs (.cons (.blt .int (.cons (.var 2) .nil)) .nil)) (.con (.int 65521)))) (.con (.int 1))) .nil)) (.con (.int 2147483647)))) .nil)
def k70_law_draw_c2e : E := (.blt .abs (.cons (.blt .int (.cons (.var 2) .nil)) .nil))
def k70_law_draw_c2 : E := .comp k70_law_draw_c2e (.nm 2) (.plain (.var 0)) .yes [2]
def k70_law_draw : Fn := ⟨"_law_draw", ["script"], ["script", "seed", "cell"], [false],
  (.cons (.set 1 (.con (.int 7))) (.cons (.for_ (.nm 2) (.plain (.var 0)) k70_law_draw_b1) (.cons (.ret (.lst (.cons k70_law_draw_c2 (.cons (.un .neg (.con (.int 1))) (.cons (.con (.int 0)) (.cons (.var 1) .nil)))))) .nil)))⟩
def k70_law_take : Fn := ⟨"_law_take", ["draw", "many"], ["draw", "many", "found"], [true, false],
  (.cons (.cond (.e (.cmp .eq (.idx (.var 0) (.con (.int 2))) (.con (.int 0)))) (.cons (.setI 0 (.con (.int 1)) (.bin .add (.idx (.var 0) (.con (.int 1))) (.con (.int 1)))) (.cons (.cond (.e (.cmp .lt (.idx (.var 0) (.con (.int 1))) (.blt .len (.cons (.idx (.var 0) (.con (.int 0))) .nil)))) (.cons (.setI 0 (.con (.int 2)) (.idx (.idx (.var 0) (.con (.int 0))) (.idx (.var 0) (.con (.int 1))))) .nil) .nil) (.cons (.cond (.e (.cmp .eq (.idx (.var 0) (.con (.int 2))) (.con (.int 0)))) (.cons (.setI 0 (.con (.int 3)) (.bin .mod (.blt .int (.cons (.bin .add (.bin .mul (.idx (.var 0) (.con (.int 3))) (.con (.int 48271))) (.con (.int 11))) .nil)) (.con (.int 2147483647)))) (.cons (.setI 0 (.con (.int 2)) (.idx (.var 0) (.con (.int 3)))) .nil)) .nil) .nil))) .nil) (.cons (.set 2 (.bin .mod (.blt .int (.cons (.idx (.var 0) (.con (.int 2))) .nil)) (.var 1))) (.cons (.setI 0 (.con (.int 2)) (.bin .fdiv (.idx (.var 0) (.con (.int 2))) (.var 1))) (.cons (.ret (.var 2)) .nil))))⟩
def k70_law_mixture_b1 : Ss := (.cons (.set 5 (.call 12 [true, false] (.cons (.var 0) (.cons (.bin .add (.var 2) (.con (.int 1))) .nil)))) (.cons (.cond (.e (.cmp .nin (.var 5) (.var 3))) (.cons (.app 3 (.var 5)) .nil) .nil) .nil))
def k70_law_mixture_c2e : E := (.bin .add (.con (.int 1)) (.call 12 [true, false] (.cons (.var 0) (.cons (.idx (.lst (.cons (.con (.int 3)) (.cons (.con (.int 20)) .nil))) (.call 12 [true, false] (.cons (.var 0) (.cons (.con (.int 2)) .nil)))) .nil))))
def k70_law_mixture_c2 : E := .comp k70_law_mixture_c2e (.nm 5) (.plain (.var 3)) .yes [5]
def k70_law_mixture_c3e : E := (.tup (.cons (.var 5) (.cons (.var 7) .nil)))
def k70_law_mixture_c3 : E := .comp k70_law_mixture_c3e (.tp 5 7) (.zip (.blt .sorted (.cons (.var 3) .nil)) (.var 6)) .yes [5, 7]
def k70_law_mixture_q5 : S := .ret (.blt .tuple (.cons k70_law_mixture_c3 .nil))
def k70_law_mixture_s5 : Ss := .cons k70_law_mixture_q5 .nil
def k70_law_mixture_q4 : S := .frz 6
def k70_law_mixture_s4 : Ss := .cons k70_law_mixture_q4 k70_law_mixture_s5
def k70_law_mixture_q3 : S := .set 6 k70_law_mixture_c2
def k70_law_mixture_s3 : Ss := .cons k70_law_mixture_q3 k70_law_mixture_s4
def k70_law_mixture_q2 : S := .frz 3
def k70_law_mixture_s2 : Ss := .cons k70_law_mixture_q2 k70_law_mixture_s3
def k70_law_mixture_q1 : S := .for_ (.nm 4) (.rng1 (.bin .add (.con (.int 1)) (.call 12 [true, false] (.cons (.var 0) (.cons (.var 1) .nil))))) k70_law_mixture_b1
def k70_law_mixture_s1 : Ss := .cons k70_law_mixture_q1 k70_law_mixture_s2
def k70_law_mixture_q0 : S := .set 3 (.lst .nil)
def k70_law_mixture_s0 : Ss := .cons k70_law_mixture_q0 k70_law_mixture_s1
def k70_law_mixture : Fn := ⟨"_law_mixture", ["draw", "points", "high"], ["draw", "points", "high", "found", "turn", "item", "weights", "weight"], [true, false, false],
  k70_law_mixture_s0⟩
def k70_law_odd_mixture_c1e : E := (.tup (.cons (.var 3) (.cons (.con (.int 1)) .nil)))
def k70_law_odd_mixture_c1 : E := .comp k70_law_odd_mixture_c1e (.nm 3) (.rng1 (.con (.int 9))) .yes [3]
def k70_law_odd_mixture : Fn := ⟨"_law_odd_mixture", ["draw", "mixture"], ["draw", "mixture", "odd", "k"], [true, false],
  (.cons (.set 2 (.lst (.cons (.con .non) (.cons (.tup .nil) (.cons (.con (.int 5)) (.cons (.blt .list (.cons (.var 1) .nil)) (.cons (.bin .add (.var 1) (.sli (.var 1) .no (.so (.con (.int 1))))) (.cons (.tup (.cons (.tup (.cons (.con (.int 2)) (.cons (.con (.int 1)) .nil))) (.cons (.tup (.cons (.con (.int 1)) (.cons (.con (.int 1)) .nil))) .nil))) (.cons (.tup (.cons (.tup (.cons (.un .neg (.con (.int 1))) (.cons (.con (.int 1)) .nil))) .nil)) (.cons (.tup (.cons (.tup (.cons (.con (.int 31)) (.cons (.con (.int 1)) .nil))) .nil)) (.cons (.tup (.cons (.tup (.cons (.con (.int 1)) (.cons (.con (.int 0)) .nil))) .nil)) (.cons (.tup (.cons (.tup (.cons (.con (.int 1)) (.cons (.con (.int 1000001)) .nil))) .nil)) .nil)))))))))))) (.cons (.frz 2) (.cons (.set 2 (.bin .add (.var 2) (.lst (.cons (.tup (.cons (.tup (.cons (.con (.bl true)) (.cons (.con (.int 1)) .nil))) .nil)) (.cons (.tup (.cons (.tup (.cons (.con (.int 1)) .nil)) .nil)) (.cons (.tup (.cons (.lst (.cons (.con (.int 1)) (.cons (.con (.int 1)) .nil))) .nil)) (.cons (.tup (.cons (.con (.int 1)) (.cons (.con (.int 1)) .nil))) (.cons (.blt .tuple (.cons k70_law_odd_mixture_c1 .nil)) .nil)))))))) (.cons (.frz 2) (.cons (.ret (.idx (.var 2) (.call 12 [true, false] (.cons (.var 0) (.cons (.con (.int 15)) .nil))))) .nil)))))⟩
def k70_law_ways_b1 : Ss := (.cons (.set 2 (.bin .fdiv (.bin .mul (.var 2) (.bin .sub (.var 0) (.var 3))) (.bin .add (.var 3) (.con (.int 1))))) .nil)
def k70_law_ways : Fn := ⟨"_law_ways", ["n", "k"], ["n", "k", "found", "i"], [false, false],
  (.cons (.set 2 (.con (.int 1))) (.cons (.for_ (.nm 3) (.rng1 (.var 1)) k70_law_ways_b1) (.cons (.ret (.var 2)) .nil)))⟩
def k70_law_pairs_b1 : Ss := (.cons (.set 8 (.ite (.e (.cmp .eq (.var 2) (.con (.int 0)))) (.bin .mul (.var 4) (.var 6)) (.bin .add (.var 4) (.var 6)))) (.cons (.frz 8) (.cons (.setD 3 (.var 8) (.bin .add (.dget (.var 3) (.var 8) (.con (.int 0))) (.bin .mul (.var 5) (.var 7)))) .nil)))
def k70_law_pairs_b2 : Ss := (.cons (.for_ (.tp 6 7) (.plain (.var 1)) k70_law_pairs_b1) .nil)
def k70_law_pairs_c3e : E := (.tup (.cons (.var 8) (.cons (.didx (.var 3) (.var 8)) .nil)))
def k70_law_pairs_c3 : E := .comp k70_law_pairs_c3e (.nm 8) (.plain (.blt .sorted (.cons (.var 3) .nil))) .yes [8]
def k70_law_pairs : Fn := ⟨"_law_pairs", ["one", "two", "kind"], ["one", "two", "kind", "found", "a", "v", "b", "w", "point"], [false, false, false],
  (.cons (.set 3 .dnew) (.cons (.for_ (.tp 4 5) (.plain (.var 0)) k70_law_pairs_b2) (.cons (.cond (.or (.e (.cmp .gt (.blt .len (.cons (.var 3) .nil)) (.con (.int 8)))) (.e (.cmp .gt (.blt .max (.cons (.var 3) .nil)) (.con (.int 30))))) (.cons (.ret (.con (.str "<large>"))) .nil) .nil) (.cons (.ret (.blt .tuple (.cons k70_law_pairs_c3 .nil))) .nil))))⟩
def k70_law_told_b1 : Ss := (.cons (.ret (.ite (.e (.cmp .eq (.var 0) (.con (.int 0)))) (.call 9 [false, false] (.cons (.var 1) (.cons (.var 2) .nil))) (.call 10 [false, false] (.cons (.var 1) (.cons (.var 2) .nil))))) .nil)
def k70_law_told : Fn := ⟨"_law_told", ["kind", "one", "two"], ["kind", "one", "two", "refusal"], [false, false, false],
  (.cons (.tryX k70_law_told_b1 (.cons 0 none (.con (.str "<malformed>")) (.cons 1 (some 3) (.bin .add (.bin .add (.con (.str "<")) (.xattr 3 1)) (.con (.str ">"))) .nil))) .nil)⟩
def k70_law_c1e : E := (.bin .mul (.idx (.var 7) (.var 12)) (.idx (.var 8) (.var 12)))
def k70_law_c1 : E := .comp k70_law_c1e (.nm 12) (.rng1 (.bin .add (.var 6) (.con (.int 1)))) .yes [12]
def k70_law_c2e : E := (.bin .mul (.bin .mul (.call 15 [false, false] (.cons (.var 12) (.cons (.var 13) .nil))) (.idx (.var 7) (.var 13))) (.idx (.var 8) (.bin .sub (.var 12) (.var 13))))
def k70_law_c2 : E := .comp k70_law_c2e (.nm 13) (.rng1 (.bin .add (.var 12) (.con (.int 1)))) .yes [13]
def k70_law_c3e : E := (.blt .sum (.cons k70_law_c2 .nil))
def k70_law_c3 : E := .comp k70_law_c3e (.nm 12) (.rng1 (.bin .add (.var 6) (.con (.int 1)))) .yes [12]
def k70_law_b4 : Ss := (.cons (.set 10 (.call 17 [false, false, false] (.cons (.var 9) (.cons (.var 4) (.cons (.var 5) .nil))))) (.cons (.cond (.e (.cmp .ne (.blt .repr (.cons (.var 10) .nil)) (.blt .repr (.cons (.call 16 [false, false, false] (.cons (.var 4) (.cons (.var 5) (.cons (.var 9) .nil)))) .nil)))) (.cons (.ret (.con (.bl false))) .nil) .nil) (.cons (.cond (.e (.cmp .ne (.var 10) (.con (.str "<large>")))) (.cons (.set 11 k70_law_c1) (.cons (.frz 11) (.cons (.cond (.e (.cmp .eq (.var 9) (.con (.int 1)))) (.cons (.set 11 k70_law_c3) (.cons (.frz 11) .nil)) .nil) (.cons (.cond (.e (.cmp .ne (.call 7 [false, false] (.cons (.var 10) (.cons (.var 6) .nil))) (.blt .tuple (.cons (.var 11) .nil)))) (.cons (.ret (.con (.bl false))) .nil) .nil) .nil)))) .nil) .nil)))
def k70_law_b5 : Ss := (.cons (.set 3 (.idx (.lst (.cons (.con (.int 3)) (.cons (.con (.int 6)) (.cons (.con (.int 30)) .nil)))) (.call 12 [true, false] (.cons (.var 1) (.cons (.con (.int 3)) .nil))))) (.cons (.par [4, 5, 6] (.cons (.call 13 [true, false, false] (.cons (.var 1) (.cons (.con (.int 3)) (.cons (.var 3) .nil)))) (.cons (.call 13 [true, false, false] (.cons (.var 1) (.cons (.con (.int 3)) (.cons (.var 3) .nil)))) (.cons (.call 12 [true, false] (.cons (.var 1) (.cons (.con (.int 7)) .nil))) .nil)))) (.cons (.par [7, 8] (.cons (.call 7 [false, false] (.cons (.var 4) (.cons (.var 6) .nil))) (.cons (.call 7 [false, false] (.cons (.var 5) (.cons (.var 6) .nil))) .nil))) (.cons (.for_ (.nm 9) (.plain (.tup (.cons (.con (.int 0)) (.cons (.con (.int 1)) .nil)))) k70_law_b4) .nil))))
def k70_law_c6e : E := (.call 17 [false, false, false] (.cons (.var 9) (.cons (.var 14) (.cons (.var 5) .nil))))
def k70_law_c6 : E := .comp k70_law_c6e (.nm 9) (.plain (.tup (.cons (.con (.int 0)) (.cons (.con (.int 1)) .nil)))) .yes [9]
def k70_law_c7e : E := (.call 17 [false, false, false] (.cons (.var 9) (.cons (.var 4) (.cons (.var 14) .nil))))
def k70_law_c7 : E := .comp k70_law_c7e (.nm 9) (.plain (.tup (.cons (.con (.int 0)) (.cons (.con (.int 1)) .nil)))) .yes [9]
def k70_law : Fn := ⟨"law", ["script"], ["script", "draw", "turn", "high", "one", "two", "n", "x", "y", "kind", "told", "due", "k", "i", "odd"], [false],
  (.cons (.set 1 (.call 11 [false] (.cons (.var 0) .nil))) (.cons (.for_ (.nm 2) (.rng1 (.con (.int 3))) k70_law_b5) (.cons (.set 14 (.call 14 [true, false] (.cons (.var 1) (.cons (.var 4) .nil)))) (.cons (.ret (.cmp .eq (.bin .add k70_law_c6 k70_law_c7) (.bin .mul (.lst (.cons (.con (.str "<malformed>")) .nil)) (.con (.int 4))))) .nil))))⟩
def k70_st : Stat := { fs := [k70_is_whole, k70_is_pair, k70_is_mixture, k70_check_mixture, k70_check_degree, k70_power, k70_moment_row, k70_moments, k70_gathered, k70_product_of, k70_sum_of, k70_law_draw, k70_law_take, k70_law_mixture, k70_law_odd_mixture, k70_law_ways, k70_law_pairs, k70_law_told, k70_law], gl := [("MOST_POINT", k70_k_MOST_POINT), ("MOST_WEIGHT", k70_k_MOST_WEIGHT), ("MOST_POINTS", k70_k_MOST_POINTS), ("MOST_DEGREE", k70_k_MOST_DEGREE)], cs := [("Malformed", ""), ("Refused", "reason")], bl := ["isinstance", "int", "bool", "tuple", "len", "all", "zip", "range", "sum", "sorted", "abs", "list", "max", "repr"], xi := [], ini := [1], kd := [], ln := [] }

end Pd
set_option autoImplicit false
set_option linter.all false
set_option maxRecDepth 100000
namespace Pd
open PySem (Str)
/-! gathered pairs: a dict of whole numbers -/
def addK : List (Int × Int) → Int → Int → List (Int × Int)
  | [], x, w => [(x, w)]
  | p :: r, x, w => if p.1 = x then (p.1, p.2 + w) :: r else p :: addK r x w
def lookK : List (Int × Int) → Int → Int
  | [], _ => 0
  | p :: r, x => if p.1 = x then p.2 else lookK r x
def gathF (m : List (Int × Int)) (l : List (Int × Int)) : List (Int × Int) := l.foldl (fun m p => addK m p.1 p.2) m
def mixK (m : List (Int × Int)) : List (Int × Int) := (sortI (m.map (·.1))).map fun x => (x, lookK m x)
def sumF (f : Int → Int) (l : List (Int × Int)) : Int := (l.map fun p => p.2 * f p.1).sum
theorem sumF_nil (f : Int → Int) : sumF f [] = 0 := rfl
theorem sumF_cons (f : Int → Int) (p : Int × Int) (l : List (Int × Int)) : sumF f (p :: l) = p.2 * f p.1 + sumF f l := by simp [sumF]
theorem sumF_addK (f : Int → Int) (x w : Int) : ∀ m, sumF f (addK m x w) = sumF f m + w * f x
  | [] => by simp [addK, sumF]
  | p :: r => by
    unfold addK
    by_cases c : p.1 = x
    · rw [if_pos c, sumF_cons, sumF_cons]
      subst c
      show (p.2 + w) * f p.1 + _ = _
      rw [Int.add_mul]; omega
    · rw [if_neg c, sumF_cons, sumF_cons, sumF_addK f x w r]; omega
theorem sumF_gath (f : Int → Int) : ∀ (l m : List (Int × Int)), sumF f (gathF m l) = sumF f m + sumF f l
  | [], m => by simp [gathF, sumF]
  | p :: l, m => by
    show sumF f (gathF (addK m p.1 p.2) l) = _
    rw [sumF_gath f l, sumF_addK, sumF_cons]; omega
theorem addK_keys (x w : Int) : ∀ m : List (Int × Int), (addK m x w).map (·.1) = if x ∈ m.map (·.1) then m.map (·.1) else m.map (·.1) ++ [x]
  | [] => by simp [addK]
  | p :: r => by
    unfold addK
    by_cases c : p.1 = x
    · rw [if_pos c, List.map_cons, List.map_cons, if_pos (by rw [c]; exact List.mem_cons_self)]
    · rw [if_neg c, List.map_cons, List.map_cons, addK_keys x w r]
      by_cases d : x ∈ r.map (·.1)
      · rw [if_pos d, if_pos (List.mem_cons_of_mem _ d)]
      · rw [if_neg d, if_neg (fun h => by rcases List.mem_cons.mp h with h | h; exact c h.symm; exact d h)]
        rfl
theorem addK_nodup {m : List (Int × Int)} {x w : Int} (h : (m.map (·.1)).Nodup) : ((addK m x w).map (·.1)).Nodup := by
  rw [addK_keys]
  split
  · exact h
  · rename_i c
    rw [List.nodup_append]
    exact ⟨h, by simp, fun a ha b hb => by rw [List.mem_singleton] at hb; subst hb; exact fun e => c (e ▸ ha)⟩
theorem gath_nodup : ∀ (l m : List (Int × Int)), (m.map (·.1)).Nodup → ((gathF m l).map (·.1)).Nodup
  | [], m, h => h
  | p :: l, m, h => gath_nodup l (addK m p.1 p.2) (addK_nodup h)
theorem addK_mem {m : List (Int × Int)} {x w : Int} {P : Int → Int → Prop} (h : ∀ p ∈ m, P p.1 p.2) (h0 : P x w) (h1 : ∀ v, P x v → P x (v + w)) : ∀ p ∈ addK m x w, P p.1 p.2 := by
  induction m with
  | nil => intro p hp; rw [show addK [] x w = [(x, w)] from rfl, List.mem_singleton] at hp; subst hp; exact h0
  | cons q r ih =>
    intro p hp
    unfold addK at hp
    split at hp
    · rename_i c
      rcases List.mem_cons.mp hp with rfl | hp
      · have := h q List.mem_cons_self
        show P q.1 (q.2 + w)
        rw [c] at this ⊢
        exact h1 _ this
      · exact h p (List.mem_cons_of_mem _ hp)
    · rcases List.mem_cons.mp hp with rfl | hp
      · exact h _ List.mem_cons_self
      · exact ih (fun p hp => h p (List.mem_cons_of_mem _ hp)) p hp
theorem lookK_mem : ∀ {m : List (Int × Int)}, (m.map (·.1)).Nodup → ∀ p ∈ m, lookK m p.1 = p.2
  | q :: r, h, p, hp => by
    rw [List.map_cons, List.nodup_cons] at h
    unfold lookK
    rcases List.mem_cons.mp hp with rfl | hp
    · rw [if_pos rfl]
    · rw [if_neg fun (e : q.1 = p.1) => h.1 (by rw [e]; exact List.mem_map.mpr ⟨p, hp, rfl⟩)]
      exact lookK_mem h.2 p hp
theorem lookK_none : ∀ {m : List (Int × Int)} {x : Int}, x ∉ m.map (·.1) → lookK m x = 0
  | [], _, _ => rfl
  | p :: r, x, h => by
    rw [List.map_cons, List.mem_cons, not_or] at h
    unfold lookK
    rw [if_neg fun e => h.1 e.symm]
    exact lookK_none h.2
theorem mix_perm {m : List (Int × Int)} (h : (m.map (·.1)).Nodup) : (mixK m).Perm m := by
  have h1 : (mixK m).Perm ((m.map (·.1)).map fun x => (x, lookK m x)) := (sortI_perm _).map _
  refine h1.trans (List.Perm.of_eq ?_)
  rw [List.map_map]
  have : ∀ p ∈ m, ((fun x => (x, lookK m x)) ∘ (·.1)) p = id p := fun p hp => by
    show (p.1, lookK m p.1) = p
    rw [lookK_mem h p hp]
  rw [List.map_congr_left this, List.map_id]
theorem sum_perm {l m : List Int} (h : l.Perm m) : l.sum = m.sum := by
  induction h with
  | nil => rfl
  | cons x h ih => simp [ih]
  | swap x y l => simp; omega
  | trans _ _ h1 h2 => exact h1.trans h2
theorem sumF_mix (f : Int → Int) {m : List (Int × Int)} (h : (m.map (·.1)).Nodup) : sumF f (mixK m) = sumF f m := sum_perm ((mix_perm h).map _)
/-! the dict -/
def kD (m : List (Int × Int)) : D := .dic (m.map fun p => .inl p.1) (m.map fun p => .int p.2)
theorem getK_kD (x : Int) : ∀ m : List (Int × Int), (getK (m.map fun p => .inl p.1) (m.map fun p => .int p.2) (.inl x)) = if x ∈ m.map (·.1) then some (.int (lookK m x)) else none
  | [] => rfl
  | p :: r => by
    show (if (Sum.inl p.1 : Sum Int Str) = .inl x then some (D.int p.2) else getK (r.map fun p => .inl p.1) (r.map fun p => .int p.2) (.inl x)) = _
    by_cases c : p.1 = x
    · rw [if_pos (by rw [c]), if_pos (by rw [← c]; exact List.mem_cons_self)]
      unfold lookK; rw [if_pos c]
    · have hl : lookK (p :: r) x = lookK r x := by rw [lookK, if_neg c]
      rw [if_neg (fun e => c (Sum.inl.inj e)), getK_kD x r, hl, List.map_cons]
      by_cases d : x ∈ r.map (·.1)
      · rw [if_pos d, if_pos (List.mem_cons_of_mem _ d)]
      · rw [if_neg d, if_neg (fun h => by rcases List.mem_cons.mp h with h | h; exact c h.symm; exact d h)]
theorem dget_kD (m : List (Int × Int)) (x : Int) : dgetV (kD m) [.int x, .int 0] = some (.int (lookK m x)) := by
  show some ((getK (m.map fun p => .inl p.1) (m.map fun p => .int p.2) (.inl x)).getD (.int 0)) = _
  rw [getK_kD]
  split
  · rfl
  · rename_i c; rw [lookK_none c]; rfl
theorem didx_kD {m : List (Int × Int)} {x : Int} (h : x ∈ m.map (·.1)) : didxV (kD m) (.int x) = some (.int (lookK m x)) := by
  show getK (m.map fun p => .inl p.1) (m.map fun p => .int p.2) (.inl x) = _
  rw [getK_kD, if_pos h]
theorem any_kD (x : Int) : ∀ m : List (Int × Int), ((m.map fun p => (Sum.inl p.1 : Sum Int Str)).any fun y => decide (y = .inl x)) = decide (x ∈ m.map (·.1))
  | [] => rfl
  | p :: r => by
    rw [List.map_cons, List.any_cons, any_kD x r, List.map_cons]
    by_cases c : p.1 = x
    · simp [c]
    · have : ¬ x = p.1 := fun e => c e.symm
      simp [c, this]
theorem over_kD (x w : Int) : ∀ m : List (Int × Int), (m.map (·.1)).Nodup → x ∈ m.map (·.1) → overK (m.map fun p => .inl p.1) (m.map fun p => .int p.2) (.inl x) (.int (lookK m x + w)) = (addK m x w).map fun p => .int p.2
  | p :: r, nd, h => by
    rw [List.map_cons, List.nodup_cons] at nd
    show (if (Sum.inl p.1 : Sum Int Str) = .inl x then D.int (lookK (p :: r) x + w) else .int p.2) :: overK (r.map fun p => .inl p.1) (r.map fun p => .int p.2) (.inl x) (.int (lookK (p :: r) x + w)) = _
    unfold addK
    by_cases c : p.1 = x
    · rw [if_pos (by rw [c]), if_pos c]
      have : lookK (p :: r) x = p.2 := by unfold lookK; rw [if_pos c]
      rw [this, List.map_cons]
      congr 1
      have hx : x ∉ r.map (·.1) := c ▸ nd.1
      clear h this nd
      induction r with
      | nil => rfl
      | cons q r ih =>
        rw [List.map_cons, List.mem_cons, not_or] at hx
        show (if (Sum.inl q.1 : Sum Int Str) = .inl x then _ else D.int q.2) :: overK (r.map fun p => .inl p.1) (r.map fun p => .int p.2) (.inl x) _ = _
        rw [if_neg (fun e => hx.1 (Sum.inl.inj e).symm), ih hx.2]; rfl
    · rw [if_neg (fun e => c (Sum.inl.inj e)), if_neg c]
      have hl : lookK (p :: r) x = lookK r x := by rw [lookK, if_neg c]
      rw [hl, over_kD x w r nd.2 (by rcases List.mem_cons.mp h with h | h; exact absurd h.symm c; exact h)]; rfl
theorem put_kD {m : List (Int × Int)} (nd : (m.map (·.1)).Nodup) (x w : Int) : D.dic (putKs (m.map fun p => .inl p.1) (.inl x)) (putDs (m.map fun p => .inl p.1) (m.map fun p => .int p.2) (.inl x) (.int (lookK m x + w))) = kD (addK m x w) := by
  have hk : (addK m x w).map (fun p => (Sum.inl p.1 : Sum Int Str)) = ((addK m x w).map (·.1)).map Sum.inl := by rw [List.map_map]; rfl
  unfold kD
  congr 1
  · unfold putKs
    rw [any_kD, hk, addK_keys]
    by_cases d : x ∈ m.map (·.1)
    · rw [if_pos (by simpa using d), if_pos d, List.map_map]; rfl
    · rw [if_neg (by simpa using d), if_neg d, List.map_append, List.map_map]; rfl
  · unfold putDs
    rw [any_kD]
    by_cases d : x ∈ m.map (·.1)
    · rw [if_pos (by simpa using d)]
      exact over_kD x w m nd d
    · rw [if_neg (by simpa using d), lookK_none d, Int.zero_add]
      clear nd hk
      induction m with
      | nil => rfl
      | cons p r ih =>
        rw [List.map_cons, List.mem_cons, not_or] at d
        unfold addK
        rw [if_neg fun e => d.1 e.symm, List.map_cons, List.map_cons, List.cons_append, ih d.2]
theorem setDic_kD {m : List (Int × Int)} (nd : (m.map (·.1)).Nodup) (hl : m.length < 1000000) (i : Nat) (x w : Int) (env : Env) (h : env[i]? = some (.own (kD m))) : setDic i (.int x) (.int (lookK m x + w)) env = some (env.set i (.own (kD (addK m x w)))) := by
  unfold setDic
  rw [h]
  show (if (m.map fun p => (Sum.inl p.1 : Sum Int Str)).length < cap then (some (Sum.inl x : Sum Int Str)).map _ else none) = _
  rw [if_pos (by rw [List.length_map, cap_is]; omega), Option.map_some, put_kD nd]
end Pd
set_option autoImplicit false
set_option linter.all false
set_option maxRecDepth 100000
namespace Pd
open PySem (Str)
abbrev k70F := k70_st.fs
def prD (p : Int × Int) : D := .tup [.int p.1, .int p.2]
abbrev mxD (l : List (Int × Int)) : D := tM prD l
def pairB (p : Int × Int) : Bool := (decide (0 ≤ p.1) && decide (p.1 ≤ 30)) && (decide (1 ≤ p.2) && decide (p.2 ≤ 1000000))
def upB (l : List (Int × Int)) : Bool := (l.zip (l.drop 1)).all fun q => decide (q.1.1 < q.2.1)
def mixB (l : List (Int × Int)) : Bool := (decide ((1 : Int) ≤ (l.length : Int)) && decide ((l.length : Int) ≤ 8)) && (l.all pairB && upB l)
theorem all_lM {α : Type} (p : α → Bool) (xs : List α) : bltV .all [lM (fun x => D.bl (p x)) xs] = some (.bl (xs.all p)) := by
  have := all_lst p xs
  rw [List.all_map] at this
  exact this
theorem chn_le {a b c : Int} : (if decide (a ≤ b) then some (decide (b ≤ c)) else some false) = some (decide (a ≤ b) && decide (b ≤ c)) := by
  cases decide (a ≤ b) <;> rfl
theorem k70_isp (n : Nat) (p : Int × Int) : callF k70F (n + 2) 1 [.val (prD p)] = .ok (.bl (pairB p)) false [] := by
  rw [callF_at (F := k70_is_pair) (n := n + 1) rfl rfl rfl (by decide)]
  have w := fun v : Int => cv1 (whole_run (fs := k70F) (w := 0) rfl n v)
  (obtain ⟨cl, hcl⟩ : ∃ c : Caller, c = (callF k70F (n + 1)) := ⟨_, rfl⟩; rw [← hcl] at w ⊢; clear hcl)
  have c1 := comp_m (cl := cl) (elt := k70_is_pair_c1e) (it := .plain (.var 0)) (j := 1) (xs := [p.1, p.2]) (env := [.val (prD p), .un]) D.int (fun _ => .bl true) (by (exists prD)) (by simp) (by simp) fun v hv => ⟨.val (.bl true), by (exists k70_is_pair_c1e, w), rfl⟩
  have c1' : evalE cl k70_is_pair_c1 _ = .ok (.fresh (.lst [.bl true, .bl true])) _ := c1
  have al : bltV .all [.lst [.bl true, .bl true]] = some (.bl true) := rfl
  have ty : bltV (.isi .tuple) [.tup [.int p.1, .int p.2]] = some (.bl true) := rfl
  have d2 : decide (((2 : Nat) : Int) = 2) = true := rfl
  clear c1
  unfold prD at c1' ⊢
  show endOf [false] (evalSs cl _ [.val (.tup [.int p.1, .int p.2]), .un]) = _
  unfold pairB
  by_cases h1 : (0 : Int) ≤ p.1
  · by_cases h2 : p.1 ≤ 30
    · by_cases h3 : (1 : Int) ≤ p.2
      · (exists k70_is_pair, ty, c1', al, d2, h1, h2, h3, k70_k_MOST_POINT, k70_k_MOST_WEIGHT)
      · (exists k70_is_pair, ty, c1', al, d2, h1, h2, h3, k70_k_MOST_POINT, k70_k_MOST_WEIGHT)
    · (exists k70_is_pair, ty, c1', al, d2, h1, h2, k70_k_MOST_POINT, k70_k_MOST_WEIGHT)
  · (exists k70_is_pair, ty, c1', al, d2, h1, k70_k_MOST_POINT, k70_k_MOST_WEIGHT)
theorem zipL_map {α β : Type} (f : α → D) (g : β → D) : ∀ (xs : List α) (ys : List β), zipL (xs.map f) (ys.map g) = (xs.zip ys).map fun p => D.tup [f p.1, g p.2]
  | [], _ => rfl
  | _ :: _, [] => rfl
  | x :: xs, y :: ys => by
    show D.tup [f x, g y] :: zipL (xs.map f) (ys.map g) = _
    rw [zipL_map f g xs ys]; rfl
theorem zip_tM {α β : Type} (f : α → D) (g : β → D) (xs : List α) (ys : List β) : zipO (.val (tM f xs)) (.val (tM g ys)) = some ((xs.zip ys).map fun p => D.tup [f p.1, g p.2]) := congrArg some (zipL_map f g xs ys)
theorem k70_ismix (n : Nat) (l : List (Int × Int)) (hl : l.length ≤ 100) : callF k70F (n + 3) 2 [.val (mxD l)] = .ok (.bl (mixB l)) false [] := by
  rw [callF_at (F := k70_is_mixture) (n := n + 2) rfl rfl rfl (by decide)]
  have w := fun p : Int × Int => cv1 (k70_isp n p)
  (obtain ⟨cl, hcl⟩ : ∃ c : Caller, c = (callF k70F (n + 2)) := ⟨_, rfl⟩; rw [← hcl] at w ⊢; clear hcl)
  have c1 := comp_m (cl := cl) (elt := k70_is_mixture_c1e) (it := .plain (.var 0)) (j := 1) (xs := l) (env := [.val (mxD l), .un, .un, .un]) prD (fun p => .bl (pairB p)) (by (exists true_and)) (by omega) (by simp) fun p hp => by
    have w := w p
    exact ⟨.val (.bl (pairB p)), by (exists k70_is_mixture_c1e, w), rfl⟩
  have c1' : evalE cl k70_is_mixture_c1 _ = .ok (.fresh (lM (fun p => .bl (pairB p)) l)) _ := c1
  have al := all_lM pairB l
  have ty : bltV (.isi .tuple) [mxD l] = some (.bl true) := rfl
  clear c1 w
  show endOf [false] (evalSs cl _ [.val (mxD l), .un, .un, .un]) = _
  generalize lM (fun p => .bl (pairB p)) l = Y at c1' al
  by_cases h1 : (1 : Int) ≤ (l.length : Int)
  · by_cases h2 : (l.length : Int) ≤ 8
    · by_cases h3 : l.all pairB = true
      · have dr : sliV (mxD l) (some 1) none = some (mxD (l.drop 1)) := drop_tM (f := prD) (xs := l) 1 (by omega)
        have zi : zipO (.val (mxD l)) (.val (mxD (l.drop 1))) = _ := zip_tM prD prD l (l.drop 1)
        have c2 := comp_z (cl := cl) (elt := k70_is_mixture_c2e) (it := .zip (.var 0) (.sli (.var 0) (.so (.con (.int 1))) .no)) (i := 2) (j := 3) (xs := l.zip (l.drop 1)) (env := [.val (mxD l), .un, .un, .un]) (fun q => .tup [prD q.1, prD q.2]) (fun q => .bl (decide (q.1.1 < q.2.1))) (fun q => prD q.1) (fun q => prD q.2) (fun _ => rfl)
          (by (exists dr, zi)) (by rw [List.length_zip]; omega) (by decide) (by simp) (by simp) fun q hq => ⟨.val (.bl (decide (q.1.1 < q.2.1))), by (exists k70_is_mixture_c2e, prD), rfl⟩
        have c2' : evalE cl k70_is_mixture_c2 _ = .ok (.fresh (lM (fun q : (Int × Int) × (Int × Int) => .bl (decide (q.1.1 < q.2.1))) (l.zip (l.drop 1)))) _ := c2
        have al2 := all_lM (fun q : (Int × Int) × (Int × Int) => decide (q.1.1 < q.2.1)) (l.zip (l.drop 1))
        clear c2 zi dr
        have e : mixB l = upB l := by unfold mixB; rw [h3]; simp [h1, h2]
        rw [e]
        change _ = some (D.bl (upB l)) at al2
        generalize lM (fun q : (Int × Int) × (Int × Int) => D.bl (decide (q.1.1 < q.2.1))) (l.zip (l.drop 1)) = Z at c2' al2
        rw [h3] at al
        (exists k70_is_mixture, ty, c1', al, c2', al2, h1, h2, k70_k_MOST_POINTS)
      · have e : mixB l = false := by unfold mixB; rw [Bool.not_eq_true] at h3; rw [h3]; simp
        rw [Bool.not_eq_true] at h3
        rw [h3] at al
        rw [e]
        (exists k70_is_mixture, ty, c1', al, h1, h2, k70_k_MOST_POINTS)
    · have e : mixB l = false := by unfold mixB; simp [h2]
      rw [e]
      (exists k70_is_mixture, ty, h1, h2, k70_k_MOST_POINTS)
  · have e : mixB l = false := by unfold mixB; simp [h1]
    rw [e]
    (exists k70_is_mixture, ty, h1, k70_k_MOST_POINTS)
theorem k70_chk (n : Nat) (l : List (Int × Int)) (hl : l.length ≤ 100) (h : mixB l = true) : callF k70F (n + 4) 3 [.val (mxD l)] = .ok .non false [] := by
  rw [callF_at (F := k70_check_mixture) (n := n + 3) rfl rfl rfl (by decide)]
  have w := cv1 (k70_ismix n l hl)
  rw [h] at w
  (obtain ⟨cl, hcl⟩ : ∃ c : Caller, c = (callF k70F (n + 3)) := ⟨_, rfl⟩; rw [← hcl] at w ⊢; clear hcl)
  show endOf [false] (evalSs cl _ [.val (mxD l)]) = _
  generalize mxD l = Y at w ⊢
  (exists k70_check_mixture, w)
end Pd
set_option autoImplicit false
set_option linter.all false
set_option maxRecDepth 100000
namespace Pd
open PySem (Str)
def pwI (b : Int) : Nat → Int
  | 0 => 1
  | k + 1 => pwI b k * b
theorem pwI_le {b : Int} (hb : b.natAbs ≤ 30) : ∀ k, (pwI b k).natAbs ≤ 30 ^ k
  | 0 => by simp [pwI]
  | k + 1 => by
    show (pwI b k * b).natAbs ≤ _
    rw [Int.natAbs_mul, Nat.pow_succ]
    exact Nat.mul_le_mul (pwI_le hb k) hb
theorem log_of {x : Int} (h : x.natAbs < 2 ^ 100) : x.natAbs.log2 < 500000 := by have := log2_lt (i := x) (k := 100) h (by omega); omega
theorem pwI_log {b : Int} (hb : b.natAbs ≤ 30) {k : Nat} (hk : k ≤ 12) : (pwI b k).natAbs < 2 ^ 61 := by
  have h := pwI_le hb k
  have : (30 : Nat) ^ k ≤ 30 ^ 12 := Nat.pow_le_pow_right (by omega) hk
  omega
theorem k70_pow (n : Nat) (b : Int) (hb : b.natAbs ≤ 30) (k : Nat) (hk : k ≤ 12) : callF k70F (n + 1) 5 [.val (.int b), .val (.int k)] = .ok (.int (pwI b k)) false [] := by
  rw [callF_at (F := k70_power) (n := n) rfl rfl rfl (by decide)]
  generalize callF k70F n = cl
  show endOf [false, false] (evalSs cl _ [.val (.int b), .val (.int k), .un, .un]) = _
  obtain ⟨e, he, s3, rfl⟩ := for_r (cl := cl) (t := .nm 3) (a := .var 1) (b := k70_power_b1) (m := k) (env := [.val (.int b), .val (.int k), .val (.int (pwI b 0)), .un])
    (fun t e => ∃ s3, e = [.val (.int b), .val (.int k), .val (.int (pwI b t)), s3]) (by (exists true_and)) (by omega) ⟨_, rfl⟩ fun t e ht hI => by
      obtain ⟨s3, rfl⟩ := hI
      have h1 := pwI_log hb (k := t) (by omega)
      have mo : mulOk (pwI b t) b = true := mulOk_small (log_of (by omega)) (log_of (by omega))
      have au : augV .mul (.int (pwI b t)) (.int b) = some (.int (pwI b (t + 1))) := if_pos mo
      exact ⟨_, by (exists true_and), [.val (.int b), .val (.int k), .val (.int (pwI b (t + 1))), .val (nI t)], .inl (by (exists k70_power_b1, b2_some, au)), _, rfl⟩
  have he' : evalS cl (.for_ (.nm 3) (.rng1 (.var 1)) k70_power_b1) [.val (.int b), .val (.int k), .val (.int 1), .un] = .nx [.val (.int b), .val (.int k), .val (.int (pwI b k)), s3] := he
  (exists k70_power, he')
/-- points and weights as they are in mixtures -/
def MxOk (l : List (Int × Int)) : Prop := l.length ≤ 100 ∧ ∀ p ∈ l, p.1.natAbs ≤ 30 ∧ p.2.natAbs ≤ 1000000
def momL (l : List (Int × Int)) (n : Nat) : List Int := (List.range (n + 1)).map fun k => sumF (fun x => pwI x k) l
theorem k70_momrow (n : Nat) (l : List (Int × Int)) (h : MxOk l) (m : Nat) (hm : m ≤ 12) : callF k70F (n + 2) 6 [.val (mxD l), .val (.int m)] = .ok (lM D.int (momL l m)) true [] := by
  rw [callF_at (F := k70_moment_row) (n := n + 1) rfl rfl rfl (by decide)]
  have w := fun (b : Int) (hb : b.natAbs ≤ 30) (k : Nat) (hk : k ≤ 12) => cv2 (k70_pow n b hb k hk)
  (obtain ⟨cl, hcl⟩ : ∃ c : Caller, c = (callF k70F (n + 1)) := ⟨_, rfl⟩; rw [← hcl] at w ⊢; clear hcl)
  show endOf [false, false] (evalSs cl _ [.val (mxD l), .val (.int m), .un, .un, .un]) = _
  have c2 := comp_rm (cl := cl) (elt := k70_moment_row_c2e) (a := .bin .add (.var 1) (.con (.int 1))) (j := 4) (m := m + 1) (env := [.val (mxD l), .val (.int m), .un, .un, .un]) (fun k => .int (sumF (fun x => pwI x k) l)) (by (exists true_and); rfl) (by omega) (by simp) fun k hk => by
    have c1 := comp_z (cl := cl) (elt := k70_moment_row_c1e) (it := .plain (.var 0)) (i := 2) (j := 3) (xs := l) (env := [.val (mxD l), .val (.int m), .un, .un, .val (nI k)]) prD (fun p => .int (p.2 * pwI p.1 k)) (fun p => .int p.1) (fun p => .int p.2) (fun _ => rfl) (by (exists true_and)) (by have := h.1; omega) (by decide) (by simp) (by simp) fun p hp => by
      obtain ⟨h1, h2⟩ := h.2 p hp
      have w := w p.1 h1 k (by omega)
      have h3 := pwI_log h1 (k := k) (by omega)
      have mu : binV .mul (.int p.2) (.int (pwI p.1 k)) = some (.int (p.2 * pwI p.1 k)) := mul_int (mulOk_small (log_of (by omega)) (log_of (by omega)))
      exact ⟨.val (.int (p.2 * pwI p.1 k)), by (exists k70_moment_row_c1e, w, mu), rfl⟩
    have c1' : evalE cl k70_moment_row_c1 _ = .ok (.fresh (lM D.int (l.map fun p => p.2 * pwI p.1 k))) _ := c1.trans (by rw [lM_map D.int fun p : Int × Int => p.2 * pwI p.1 k])
    clear c1
    exact ⟨.val (.int (sumF (fun x => pwI x k) l)), by (exists k70_moment_row_c2e, c1', sumF), rfl⟩
  have c2' : evalE cl k70_moment_row_c2 _ = .ok (.fresh (lM D.int (momL l m))) _ := c2.trans (by rw [lM_map D.int fun k => sumF (fun x => pwI x k) l]; rfl)
  clear c2
  generalize lM D.int (momL l m) = Y at c2' ⊢
  (exists k70_moment_row, c2')
end Pd
set_option autoImplicit false
set_option linter.all false
set_option maxRecDepth 100000
namespace Pd
open PySem (Str)
theorem k70_deg (n m : Nat) (hm : m ≤ 12) : callF k70F (n + 2) 4 [.val (.int m)] = .ok .non false [] := by
  rw [callF_at (F := k70_check_degree) (n := n + 1) rfl rfl rfl (by decide)]
  have w := cv1 (whole_run (fs := k70F) (w := 0) rfl n (m : Int))
  (obtain ⟨cl, hcl⟩ : ∃ c : Caller, c = (callF k70F (n + 1)) := ⟨_, rfl⟩; rw [← hcl] at w ⊢; clear hcl)
  show endOf [false] (evalSs cl _ [.val (.int m)]) = _
  have h1 : decide ((0 : Int) ≤ (m : Int)) = true := by simp
  have h2 : decide ((m : Int) ≤ 12) = true := by simp; omega
  (exists k70_check_degree, w, h1, h2, k70_k_MOST_DEGREE)
theorem mix_ok {l : List (Int × Int)} (h : mixB l = true) : MxOk l := by
  unfold mixB at h
  simp only [Bool.and_eq_true, decide_eq_true_eq, List.all_eq_true] at h
  obtain ⟨⟨h1, h2⟩, h3, h4⟩ := h
  refine ⟨by omega, fun p hp => ?_⟩
  have := h3 p hp
  unfold pairB at this
  simp only [Bool.and_eq_true, decide_eq_true_eq] at this
  omega
theorem k70_moments_run (n : Nat) (l : List (Int × Int)) (h : mixB l = true) (m : Nat) (hm : m ≤ 12) : callF k70F (n + 5) 7 [.val (mxD l), .val (.int m)] = .ok (tM D.int (momL l m)) false [] := by
  have ok := mix_ok h
  rw [callF_at (F := k70_moments) (n := n + 4) rfl rfl rfl (by decide)]
  have w1 := cv1 (k70_chk n l ok.1 h)
  have w2 := cv1 (k70_deg (n + 2) m hm)
  have w3 := cn2 (k70_momrow (n + 2) l ok m hm)
  (obtain ⟨cl, hcl⟩ : ∃ c : Caller, c = (callF k70F (n + 4)) := ⟨_, rfl⟩; rw [← hcl] at w1 w2 w3 ⊢; clear hcl)
  show endOf [false, false] (evalSs cl _ [.val (mxD l), .val (.int m)]) = _
  have tu : bltV .tuple [lM D.int (momL l m)] = some (tM D.int (momL l m)) := rfl
  have mk : mkO (tM D.int (momL l m)) = .val (tM D.int (momL l m)) := rfl
  generalize mxD l = Y at w1 w3 ⊢
  generalize lM D.int (momL l m) = Z at w3 tu
  generalize tM D.int (momL l m) = T at tu mk ⊢
  (exists k70_moments, w1, w2, w3, tu, mk)
theorem put_kD' {m : List (Int × Int)} (nd : (m.map (·.1)).Nodup) (hl : m.length < 1000000) (i : Nat) (x w : Int) (env : Env) : putD i (.int (lookK m x + w)) env (.int x) (some (.own (kD m))) = some (env.set i (.own (kD (addK m x w)))) := by
  show (if (m.map fun p => (Sum.inl p.1 : Sum Int Str)).length < cap then (some (Sum.inl x : Sum Int Str)).map _ else none) = _
  rw [if_pos (by rw [List.length_map, cap_is]; omega), Option.map_some, put_kD nd]
theorem addK_len (x w : Int) : ∀ m : List (Int × Int), (addK m x w).length ≤ m.length + 1
  | [] => by simp [addK]
  | p :: r => by
    unfold addK
    split
    · simp
    · have := addK_len x w r
      simp; omega
theorem gath_len : ∀ (l m : List (Int × Int)), (gathF m l).length ≤ m.length + l.length
  | [], m => by simp [gathF]
  | p :: l, m => by
    have h1 := gath_len l (addK m p.1 p.2)
    have h2 := addK_len p.1 p.2 m
    show (gathF (addK m p.1 p.2) l).length ≤ _
    simp; omega
theorem gath_snoc (l : List (Int × Int)) (p : Int × Int) (m : List (Int × Int)) : gathF m (l ++ [p]) = addK (gathF m l) p.1 p.2 := by
  unfold gathF; rw [List.foldl_append]; rfl
theorem kD_nil : D.dic [] [] = kD [] := rfl
theorem mix_len (m : List (Int × Int)) : (mixK m).length = m.length := by unfold mixK; rw [List.length_map, sortI_len, List.length_map]
theorem kInts_kD (m : List (Int × Int)) : kInts? (m.map fun p => (Sum.inl p.1 : Sum Int Str)) = some (m.map (·.1)) := by
  induction m with
  | nil => rfl
  | cons p r ih => show (kInts? (r.map fun p => (Sum.inl p.1 : Sum Int Str))).map _ = _; rw [ih]; rfl
theorem sorted_kD (m : List (Int × Int)) (h : m.length < 64) : bltV .sorted [kD m] = some (lM D.int (sortI (m.map (·.1)))) := by
  show (if (m.map fun p => (Sum.inl p.1 : Sum Int Str)).length < 64 then (kInts? (m.map fun p => (Sum.inl p.1 : Sum Int Str))).map _ else none) = _
  rw [if_pos (by rw [List.length_map]; exact h), kInts_kD]; rfl
/-- what gathered gives -/
def gathR (l : List (Int × Int)) : List (Int × Int) := mixK (gathF [] l)
theorem k70_gath0 (cl : Caller) (l : List (Int × Int)) (hl : l.length ≤ 60) (s2 s3 : Slot) : ∃ s2 s3, evalSs cl k70_gathered.body [.val (lM prD l), .un, .un, .un, .un] = evalSs cl (.cons (.set 4 (.blt .tuple (.cons k70_gathered_c2 .nil))) (.cons (.cond (.not (.e (.call 2 [false] (.cons (.var 4) .nil)))) (.cons (.raise 1 (.so (.con (.str "large")))) .nil) .nil) (.cons (.ret (.var 4)) .nil))) [.val (lM prD l), .own (kD (gathF [] l)), s2, s3, .un] := by
  obtain ⟨e, he, s2, s3, rfl⟩ := for_m (cl := cl) (t := .tp 2 3) (it := .plain (.var 0)) (b := k70_gathered_b1) (xs := l) (env := [.val (lM prD l), .own (kD (gathF [] (l.take 0))), .un, .un, .un]) prD
    (fun i e => ∃ s2 s3, e = [.val (lM prD l), .own (kD (gathF [] (l.take i))), s2, s3, .un]) (by (exists true_and)) ⟨_, _, rfl⟩ fun i p e hp hI => by
      obtain ⟨s2, s3, rfl⟩ := hI
      have tk : l.take (i + 1) = l.take i ++ [p] := by rw [List.take_add_one, hp]; rfl
      have nd := gath_nodup (l.take i) [] (by simp)
      have ln := gath_len (l.take i) []
      rw [tk, gath_snoc]
      have hle : (l.take i).length ≤ 60 := by rw [List.length_take]; omega
      have ln' : (gathF [] (l.take i)).length < 1000000 := by simp at ln; omega
      generalize gathF [] (l.take i) = m at nd ln' ⊢
      have dg := dget_kD m p.1
      have pd := fun env => put_kD' nd ln' 1 p.1 p.2 env
      have sl : slotDic (some (.own (kD m))) = true := rfl
      have isd : isDic (kD m) = some () := rfl
      generalize lM prD l = Y
      refine ⟨[.val Y, .own (kD m), .val (.int p.1), .val (.int p.2), .un], by (exists prD), [.val Y, .own (kD (addK m p.1 p.2)), .val (.int p.1), .val (.int p.2), .un], .inl ?_, _, _, rfl⟩
      generalize kD (addK m p.1 p.2) = K2 at pd ⊢
      generalize kD m = K1 at dg pd sl isd ⊢
      (exists k70_gathered_b1, dg, pd, sl, isd)
  rw [List.take_length] at he
  have he' : evalS cl (.for_ (.tp 2 3) (.plain (.var 0)) k70_gathered_b1) [.val (lM prD l), .own (.dic [] []), .un, .un, .un] = .nx [.val (lM prD l), .own (kD (gathF [] l)), s2, s3, .un] := he
  refine ⟨s2, s3, ?_⟩
  refine (ss_nx (e := [.val (lM prD l), .own (.dic [] []), .un, .un, .un]) (by (exists true_and)) ?_)
  exact ss_nx he' rfl
end Pd
set_option autoImplicit false
set_option linter.all false
set_option maxRecDepth 100000
namespace Pd
open PySem (Str)
theorem comp2_tp {cl : Caller} {elt : E} (l1 l2 : List (Int × Int)) (g : Int × Int → Int × Int → Int × Int) (s2 s3 s4 s5 : Slot) (hc1 : l1.length ≤ 100) (hc2 : l2.length ≤ 100)
    (h : ∀ p ∈ l1, ∀ q ∈ l2, ∃ o, evalE cl elt [.val (mxD l1), .val (mxD l2), .val (.int p.1), .val (.int p.2), .val (.int q.1), .val (.int q.2)] = .ok o [.val (mxD l1), .val (mxD l2), .val (.int p.1), .val (.int p.2), .val (.int q.1), .val (.int q.2)] ∧ o.leak = some (prD (g p q))) :
    evalE cl (.comp2 elt (.tp 2 3) (.plain (.var 0)) (.tp 4 5) (.plain (.var 1)) .yes [2, 3, 4, 5] [4, 5]) [.val (mxD l1), .val (mxD l2), s2, s3, s4, s5] = .ok (.fresh (lM prD (l1.flatMap fun p => l2.map (g p)))) [.val (mxD l1), .val (mxD l2), s2, s3, s4, s5] := by
  have inner : ∀ (p : Int × Int), p ∈ l1 → ∀ acc : List D, ∃ s4 s5, compT cl elt (.tp 4 5) .yes [4, 5] (l2.map prD) acc [.val (mxD l1), .val (mxD l2), .val (.int p.1), .val (.int p.2), .un, .un] = .ok (acc ++ (l2.map (g p)).map prD) [.val (mxD l1), .val (mxD l2), .val (.int p.1), .val (.int p.2), s4, s5] := fun p hp acc => by
    obtain ⟨ys, e, h1, h2, s4, s5, h3⟩ := compT_inv (cl := cl) (t := .tp 4 5) (c := .yes) (elt := elt) (own := [4, 5]) (fun k a e => a = acc ++ ((l2.take k).map (g p)).map prD ∧ ∃ s4 s5, e = [.val (mxD l1), .val (mxD l2), .val (.int p.1), .val (.int p.2), s4, s5]) (l2.map prD) 0 acc [.val (mxD l1), .val (mxD l2), .val (.int p.1), .val (.int p.2), .un, .un]
      ⟨by simp, .un, .un, rfl⟩ fun k d' a e hd' hi' => by
        obtain ⟨rfl, s4, s5, rfl⟩ := hi'
        rw [List.getElem?_map] at hd'
        obtain ⟨q, hq, rfl⟩ := Option.map_eq_some_iff.mp hd'
        obtain ⟨o, r1, r2⟩ := h p hp q (List.mem_of_getElem? hq)
        have tk : l2.take (0 + k + 1) = l2.take (0 + k) ++ [q] := by rw [Nat.zero_add, List.take_add_one, hq]; rfl
        refine ⟨[.val (mxD l1), .val (mxD l2), .val (.int p.1), .val (.int p.2), .val (.int q.1), .val (.int q.2)], rfl, ?_⟩
        refine .inr ⟨_, o, _, prD (g p q), by rw [evalT_yes], r1, r2, ?_, _, _, rfl⟩
        rw [tk, List.map_append, List.map_append]
        simp
    rw [Nat.zero_add, List.length_map, List.take_length] at h2
    exact ⟨s4, s5, by rw [h1, h2, h3]⟩
  have ev1 : ∀ s2 s3 s4 s5, evalI cl (.plain (.var 1)) [.val (mxD l1), .val (mxD l2), s2, s3, s4, s5] = .ok (l2.map prD) [.val (mxD l1), .val (mxD l2), s2, s3, s4, s5] := fun s2 s3 s4 s5 => by (exists true_and)
  have outer : ∀ (rs : List (Int × Int)) (acc : List D) (s2 s3 s4 s5 : Slot), (∀ p ∈ rs, p ∈ l1) → acc.length + rs.length * l2.length ≤ cap → ∃ s2' s3' s4' s5', comp2L (.tp 2 3) [2, 3, 4, 5] (fun acc e => (evalI cl (.plain (.var 1)) e).bind fun ds' e2 => if acc.length + ds'.length ≤ cap then compT cl elt (.tp 4 5) .yes [4, 5] ds' acc e2 else .stk) (rs.map prD) acc [.val (mxD l1), .val (mxD l2), s2, s3, s4, s5]
      = .ok (acc ++ (rs.flatMap fun p => l2.map (g p)).map prD) [.val (mxD l1), .val (mxD l2), s2', s3', s4', s5'] := fun rs => by
    induction rs with
    | nil => intro acc s2 s3 s4 s5 _ _; exact ⟨s2, s3, s4, s5, by simp [comp2L]⟩
    | cons p rs ih =>
      intro acc s2 s3 s4 s5 hm hl
      obtain ⟨t4, t5, hs⟩ := inner p (hm p List.mem_cons_self) acc
      simp only [List.length_cons, Nat.succ_mul] at hl
      obtain ⟨u2, u3, u4, u5, hr⟩ := ih (acc ++ (l2.map (g p)).map prD) (.val (.int p.1)) (.val (.int p.2)) t4 t5 (fun x hx => hm x (List.mem_cons_of_mem _ hx)) (by
        rw [List.length_append, List.length_map, List.length_map]; omega)
      refine ⟨u2, u3, u4, u5, ?_⟩
      rw [List.map_cons]
      unfold comp2L
      have e1 : bindD (.tp 2 3) (prD p) (wipeE [.val (mxD l1), .val (mxD l2), s2, s3, s4, s5] [2, 3, 4, 5]) = some [.val (mxD l1), .val (mxD l2), .val (.int p.1), .val (.int p.2), .un, .un] := rfl
      rw [e1]
      simp only [ev1, Res.bind_ok, List.length_map, if_pos (show acc.length + l2.length ≤ cap by omega), hs]
      rw [hr, List.flatMap_cons, List.map_append, List.append_assoc]
  obtain ⟨u2, u3, u4, u5, ho⟩ := outer l1 [] s2 s3 s4 s5 (fun _ h => h) (by
    rw [cap_is]
    have : l1.length * l2.length ≤ 100 * 100 := Nat.mul_le_mul hc1 hc2
    simp; omega)
  rw [evalE_comp2, show evalI cl (.plain (.var 0)) [.val (mxD l1), .val (mxD l2), s2, s3, s4, s5] = .ok (l1.map prD) [.val (mxD l1), .val (mxD l2), s2, s3, s4, s5] by (exists true_and), Res.bind_ok]
  unfold comp2K
  rw [if_pos (by rw [List.length_map, cap_is]; omega), ho]
  simp only [Res.bind_ok, compEnd_at, List.nil_append]
  rfl
theorem k70_gath (n : Nat) (l : List (Int × Int)) (hl : l.length ≤ 60) : callF k70F (n + 4) 8 [.val (lM prD l)] = if mixB (gathR l) then .ok (mxD (gathR l)) false [] else .exc ⟨1, some (.str "large")⟩ [] := by
  rw [callF_at (F := k70_gathered) (n := n + 3) rfl rfl rfl (by decide)]
  have ln := gath_len l []
  have hlen : (gathF [] l).length ≤ 60 := by simp at ln; omega
  have nd := gath_nodup l [] (by simp)
  have w := cv1 (k70_ismix n (gathR l) (by unfold gathR; rw [mix_len]; omega))
  (obtain ⟨cl, hcl⟩ : ∃ c : Caller, c = (callF k70F (n + 3)) := ⟨_, rfl⟩; rw [← hcl] at w ⊢; clear hcl)
  obtain ⟨s2, s3, hb⟩ := k70_gath0 cl l hl .un .un
  show endOf [false] (evalSs cl k70_gathered.body [.val (lM prD l), .un, .un, .un, .un]) = _
  rw [hb]
  have so := sorted_kD (gathF [] l) (by omega)
  have c2 := comp_m (cl := cl) (elt := k70_gathered_c2e) (it := .plain (.blt .sorted (.cons (.var 1) .nil))) (j := 2) (xs := sortI ((gathF [] l).map (·.1))) (env := [.val (lM prD l), .own (kD (gathF [] l)), s2, s3, .un]) D.int (fun x => prD (x, lookK (gathF [] l) x))
    (by (exists so)) (by rw [sortI_len, List.length_map]; omega) (by simp) fun x hx => by
      have dx := didx_kD (sortI_mem _ x hx)
      generalize lM prD l = Y
      generalize kD (gathF [] l) = K at dx ⊢
      exact ⟨.val (prD (x, lookK (gathF [] l) x)), by (exists k70_gathered_c2e, b2_some, dx, prD), rfl⟩
  have c2' : evalE cl k70_gathered_c2 _ = .ok (.fresh (lM prD (gathR l))) _ := c2.trans (by rw [lM_map prD fun x => (x, lookK (gathF [] l) x)]; rfl)
  have tu : bltV .tuple [lM prD (gathR l)] = some (mxD (gathR l)) := rfl
  have mk : mkO (mxD (gathR l)) = .val (mxD (gathR l)) := rfl
  clear c2 so hb
  generalize kD (gathF [] l) = K at c2' ⊢
  generalize lM prD (gathR l) = Z at c2' tu
  generalize lM prD l = Y at c2' ⊢
  cases hm : mixB (gathR l) with
  | true =>
    rw [hm] at w
    generalize mxD (gathR l) = T at w tu mk ⊢
    (exists c2', tu, mk, w)
  | false =>
    rw [hm] at w
    generalize mxD (gathR l) = T at w tu mk ⊢
    (exists c2', tu, mk, w)
end Pd
set_option autoImplicit false
set_option linter.all false
set_option maxRecDepth 100000
namespace Pd
open PySem (Str)
theorem cvf1 {cl : Caller} {f : Nat} {a d : D} (h : cl f [.val a] = .ok d false []) (env : Env) : callR cl f [false] [.fresh a] env = .ok (.val d) env := callR_of (new := false) rfl rfl h rfl
theorem cxf1 {cl : Caller} {f : Nat} {a : D} {x : Xn} (h : cl f [.val a] = .exc x []) (env : Env) : callR cl f [false] [.fresh a] env = .exc x env := callR_exc rfl rfl h rfl
def opK : Nat → Int → Int → Int
  | 0, a, b => a * b
  | _, a, b => a + b
/-- the pairs of products or sums -/
def prK (k : Nat) (l1 l2 : List (Int × Int)) : List (Int × Int) := l1.flatMap fun p => l2.map fun q => (opK k p.1 q.1, p.2 * q.2)
def resK (R : List (Int × Int)) : CRes := if mixB R then .ok (mxD R) false [] else .exc ⟨1, some (.str "large")⟩ []
theorem prK_len (k : Nat) (l1 l2 : List (Int × Int)) : (prK k l1 l2).length = l1.length * l2.length := by
  unfold prK
  induction l1 with
  | nil => simp
  | cons p r ih => rw [List.flatMap_cons, List.length_append, ih, List.length_map, List.length_cons, Nat.succ_mul]; omega
theorem prK_small (k : Nat) {l1 l2 : List (Int × Int)} (h1 : l1.length ≤ 3) (h2 : l2.length ≤ 3) : (prK k l1 l2).length ≤ 9 := by
  rw [prK_len]; exact Nat.mul_le_mul h1 h2
theorem mul_small {a b : Int} (ha : a.natAbs ≤ 1000000) (hb : b.natAbs ≤ 1000000) : binV .mul (.int a) (.int b) = some (.int (a * b)) := mul_int (mulOk_small (log_of (by omega)) (log_of (by omega)))
theorem k70_prod (n : Nat) (l1 l2 : List (Int × Int)) (h1 : mixB l1 = true) (h2 : mixB l2 = true) (n1 : l1.length ≤ 3) (n2 : l2.length ≤ 3) : callF k70F (n + 5) 9 [.val (mxD l1), .val (mxD l2)] = resK (gathR (prK 0 l1 l2)) := by
  have o1 := mix_ok h1
  have o2 := mix_ok h2
  rw [callF_at (F := k70_product_of) (n := n + 4) rfl rfl rfl (by decide)]
  have w1 := cv1 (k70_chk n l1 o1.1 h1)
  have w2 := cv1 (k70_chk n l2 o2.1 h2)
  have g := k70_gath n (prK 0 l1 l2) (by have := prK_small 0 n1 n2; omega)
  have c1 := comp2_tp (cl := callF k70F (n + 4)) (elt := k70_product_of_c1e) l1 l2 (fun p q => (p.1 * q.1, p.2 * q.2)) .un .un .un .un (by omega) (by omega) fun p hp q hq => by
    have m1 := mul_small (a := p.1) (b := q.1) (by have := (o1.2 p hp).1; omega) (by have := (o2.2 q hq).1; omega)
    have m2 := mul_small (o1.2 p hp).2 (o2.2 q hq).2
    generalize callF k70F (n + 4) = cl
    exact ⟨.val (prD (p.1 * q.1, p.2 * q.2)), by (exists k70_product_of_c1e, m1, m2, prD), rfl⟩
  have c1' : evalE (callF k70F (n + 4)) k70_product_of_c1 _ = .ok (.fresh (lM prD (prK 0 l1 l2))) _ := c1
  clear c1
  unfold resK
  show endOf [false, false] (evalSs _ _ [.val (mxD l1), .val (mxD l2), .un, .un, .un, .un]) = _
  generalize lM prD (prK 0 l1 l2) = P at g c1'
  generalize gathR (prK 0 l1 l2) = R at g ⊢
  cases hm : mixB R with
  | true =>
    rw [hm] at g
    have g := cvf1 g
    (obtain ⟨cl, hcl⟩ : ∃ c : Caller, c = (callF k70F (n + 4)) := ⟨_, rfl⟩; rw [← hcl] at w1 w2 g c1' ⊢; clear hcl)
    generalize mxD R = T at g ⊢
    generalize mxD l1 = A at w1 c1' ⊢
    generalize mxD l2 = B at w2 c1' ⊢
    (exists k70_product_of, w1, w2, c1', g)
  | false =>
    rw [hm] at g
    have g := cxf1 g
    (obtain ⟨cl, hcl⟩ : ∃ c : Caller, c = (callF k70F (n + 4)) := ⟨_, rfl⟩; rw [← hcl] at w1 w2 g c1' ⊢; clear hcl)
    generalize mxD l1 = A at w1 c1' ⊢
    generalize mxD l2 = B at w2 c1' ⊢
    (exists k70_product_of, w1, w2, c1', g)
theorem k70_sum (n : Nat) (l1 l2 : List (Int × Int)) (h1 : mixB l1 = true) (h2 : mixB l2 = true) (n1 : l1.length ≤ 3) (n2 : l2.length ≤ 3) : callF k70F (n + 5) 10 [.val (mxD l1), .val (mxD l2)] = resK (gathR (prK 1 l1 l2)) := by
  have o1 := mix_ok h1
  have o2 := mix_ok h2
  rw [callF_at (F := k70_sum_of) (n := n + 4) rfl rfl rfl (by decide)]
  have w1 := cv1 (k70_chk n l1 o1.1 h1)
  have w2 := cv1 (k70_chk n l2 o2.1 h2)
  have g := k70_gath n (prK 1 l1 l2) (by have := prK_small 1 n1 n2; omega)
  have c1 := comp2_tp (cl := callF k70F (n + 4)) (elt := k70_sum_of_c1e) l1 l2 (fun p q => (p.1 + q.1, p.2 * q.2)) .un .un .un .un (by omega) (by omega) fun p hp q hq => by
    have m2 := mul_small (o1.2 p hp).2 (o2.2 q hq).2
    generalize callF k70F (n + 4) = cl
    exact ⟨.val (prD (p.1 + q.1, p.2 * q.2)), by (exists k70_sum_of_c1e, m2, prD), rfl⟩
  have c1' : evalE (callF k70F (n + 4)) k70_sum_of_c1 _ = .ok (.fresh (lM prD (prK 1 l1 l2))) _ := c1
  clear c1
  unfold resK
  show endOf [false, false] (evalSs _ _ [.val (mxD l1), .val (mxD l2), .un, .un, .un, .un]) = _
  generalize lM prD (prK 1 l1 l2) = P at g c1'
  generalize gathR (prK 1 l1 l2) = R at g ⊢
  cases hm : mixB R with
  | true =>
    rw [hm] at g
    have g := cvf1 g
    (obtain ⟨cl, hcl⟩ : ∃ c : Caller, c = (callF k70F (n + 4)) := ⟨_, rfl⟩; rw [← hcl] at w1 w2 g c1' ⊢; clear hcl)
    generalize mxD R = T at g ⊢
    generalize mxD l1 = A at w1 c1' ⊢
    generalize mxD l2 = B at w2 c1' ⊢
    (exists k70_sum_of, w1, w2, c1', g)
  | false =>
    rw [hm] at g
    have g := cxf1 g
    (obtain ⟨cl, hcl⟩ : ∃ c : Caller, c = (callF k70F (n + 4)) := ⟨_, rfl⟩; rw [← hcl] at w1 w2 g c1' ⊢; clear hcl)
    generalize mxD l1 = A at w1 c1' ⊢
    generalize mxD l2 = B at w2 c1' ⊢
    (exists k70_sum_of, w1, w2, c1', g)
end Pd
set_option autoImplicit false
set_option linter.all false
set_option maxRecDepth 100000
namespace Pd
open PySem (Str)
def tolD (R : List (Int × Int)) : D := if mixB R then mxD R else .str "<large>"
theorem k70_told_run (n k : Nat) (hk : k ≤ 1) (l1 l2 : List (Int × Int)) (h1 : mixB l1 = true) (h2 : mixB l2 = true) (n1 : l1.length ≤ 3) (n2 : l2.length ≤ 3) : callF k70F (n + 6) 17 [.val (.int k), .val (mxD l1), .val (mxD l2)] = .ok (tolD (gathR (prK k l1 l2))) false [] := by
  have g0 := k70_prod n l1 l2 h1 h2 n1 n2
  have g1 := k70_sum n l1 l2 h1 h2 n1 n2
  rw [callF_at (F := k70_law_told) (n := n + 5) rfl rfl rfl (by decide)]
  show endOf [false, false, false] (evalSs _ _ [.val (.int k), .val (mxD l1), .val (mxD l2), .un]) = _
  have a1 : binV .add (.str "<") (.str "large") = some (.str "<large") := by kernel_rfl
  have a2 : binV .add (.str "<large") (.str ">") = some (.str "<large>") := by kernel_rfl
  have ne : (1 : Nat) ≠ 0 := by decide
  unfold tolD
  have key : ∀ (f : Nat) (R : List (Int × Int)), callF k70F (n + 5) f [.val (mxD l1), .val (mxD l2)] = resK R → (mixB R = true ∧ ∀ env, callR (callF k70F (n + 5)) f [false, false] [.val (mxD l1), .val (mxD l2)] env = .ok (.val (mxD R)) env) ∨ (mixB R = false ∧ ∀ env, callR (callF k70F (n + 5)) f [false, false] [.val (mxD l1), .val (mxD l2)] env = .exc ⟨1, some (.str "large")⟩ env) := fun f R h => by
    unfold resK at h
    cases hm : mixB R with
    | true => rw [hm] at h; exact .inl ⟨rfl, cv2 h⟩
    | false => rw [hm] at h; exact .inr ⟨rfl, cx2 h⟩
  have q0 := key 9 _ g0
  have q1 := key 10 _ g1
  clear key g0 g1
  generalize callF k70F (n + 5) = cl at q0 q1 ⊢
  generalize mxD l1 = A at q0 q1 ⊢
  generalize mxD l2 = B at q0 q1 ⊢
  have hs : ∀ (a : E) (r : Hs) (env : Env), evalHs cl (.cons 0 none a r) ⟨1, some (.str "large")⟩ env = evalHs cl r ⟨1, some (.str "large")⟩ env := fun a r env => hs_miss 0 1 none a r _ ne
  have k0 : decide (((0 : Nat) : Int) = 0) = true := rfl
  have k1 : decide (((1 : Nat) : Int) = 0) = false := rfl
  match k, hk with
  | 0, _ =>
    rcases q0 with ⟨m, q⟩ | ⟨m, q⟩
    · rw [m]; generalize mxD (gathR (prK 0 l1 l2)) = T at q ⊢
      (exists k70_law_told, k70_law_told_b1, q, k0)
    · rw [m]
      (exists k70_law_told, k70_law_told_b1, q, k0, hs, a1, a2)
  | 1, _ =>
    rcases q1 with ⟨m, q⟩ | ⟨m, q⟩
    · rw [m]; generalize mxD (gathR (prK 1 l1 l2)) = T at q ⊢
      (exists k70_law_told, k70_law_told_b1, q, k1)
    · rw [m]
      (exists k70_law_told, k70_law_told_b1, q, k1, hs, a1, a2)
end Pd
set_option autoImplicit false
set_option linter.all false
set_option maxRecDepth 100000
namespace Pd
open PySem (Str)
theorem up_of : ∀ {l : List (Int × Int)}, (l.map (·.1)).Pairwise (· < ·) → upB l = true
  | [], _ => rfl
  | [p], _ => rfl
  | p :: q :: r, h => by
    rw [List.map_cons, List.pairwise_cons] at h
    have ih := up_of h.2
    unfold upB at ih ⊢
    show (decide (p.1 < q.1) && ((q :: r).zip ((q :: r).drop 1)).all _) = true
    rw [ih, Bool.and_true]
    exact decide_eq_true (h.1 q.1 (by simp))
theorem lt_of_sorted {l : List Int} (h1 : l.Pairwise (· ≤ ·)) (h2 : l.Nodup) : l.Pairwise (· < ·) := by
  have := h1.and h2
  exact this.imp fun ⟨a, b⟩ => by omega
theorem mixB_iff {m : List (Int × Int)} (nd : (m.map (·.1)).Nodup) (ne : m ≠ []) (h : ∀ p ∈ m, 0 ≤ p.1 ∧ 1 ≤ p.2 ∧ p.2 ≤ 1000000) : mixB (mixK m) = (decide ((m.length : Int) ≤ 8) && m.all fun p => decide (p.1 ≤ 30)) := by
  have pm := mix_perm nd
  have hu : upB (mixK m) = true := up_of (by
    have : (mixK m).map (·.1) = sortI (m.map (·.1)) := by unfold mixK; rw [List.map_map]; exact List.map_id _
    rw [this]
    exact lt_of_sorted (sortI_sorted _) ((sortI_perm _).nodup_iff.mpr nd))
  have hl : 1 ≤ m.length := by cases m with | nil => exact absurd rfl ne | cons a b => simp
  have ha : (mixK m).all pairB = m.all fun p => decide (p.1 ≤ 30) := by
    rw [pm.all_eq]
    apply Bool.eq_iff_iff.mpr
    simp only [List.all_eq_true]
    refine ⟨fun z p hp => ?_, fun z p hp => ?_⟩
    · have := z p hp
      unfold pairB at this
      simp only [Bool.and_eq_true, decide_eq_true_eq] at this
      exact decide_eq_true this.1.2
    · have := z p hp
      have b := h p hp
      unfold pairB
      simp only [Bool.and_eq_true, decide_eq_true_eq] at this ⊢
      omega
  unfold mixB
  rw [hu, ha, mix_len, Bool.and_true]
  have : decide ((1 : Int) ≤ (m.length : Int)) = true := decide_eq_true (by omega)
  rw [this, Bool.true_and]
theorem max_kD {m : List (Int × Int)} (ne : m ≠ []) : ∃ M, bltV .max [kD m] = some (.int M) ∧ decide (M ≤ 30) = m.all fun p => decide (p.1 ≤ 30) := by
  cases m with
  | nil => exact absurd rfl ne
  | cons a r =>
    have sp := maxL_spec (r.map (·.1)) a.1
    refine ⟨maxL a.1 (r.map (·.1)), ?_, ?_⟩
    · show (match kInts? ((a :: r).map fun p => (Sum.inl p.1 : Sum Int Str)) with | some (n :: ns) => some (D.int (maxL n ns)) | _ => none) = _
      rw [kInts_kD]; rfl
    · apply Bool.eq_iff_iff.mpr
      simp only [List.all_eq_true, decide_eq_true_eq]
      refine ⟨fun z p hp => ?_, fun z => ?_⟩
      · have := sp.2 p.1 (by
          rcases List.mem_cons.mp hp with rfl | hp
          · exact List.mem_cons_self
          · exact List.mem_cons_of_mem _ (List.mem_map.mpr ⟨p, hp, rfl⟩))
        omega
      · rcases List.mem_cons.mp sp.1 with e | e
        · rw [e]; exact z a List.mem_cons_self
        · obtain ⟨p, hp, e2⟩ := List.mem_map.mp e
          rw [← e2]; exact z p (List.mem_cons_of_mem _ hp)
/-- a mixture of the law's own -/
structure LMx (l : List (Int × Int)) : Prop where
  len : l.length ≤ 3
  ne : l ≠ []
  ok : mixB l = true
  small : ∀ p ∈ l, 0 ≤ p.1 ∧ p.1 ≤ 30 ∧ 1 ≤ p.2 ∧ p.2 ≤ 20
theorem prK_mem {k : Nat} {l1 l2 : List (Int × Int)} (h1 : LMx l1) (h2 : LMx l2) : ∀ p ∈ prK k l1 l2, 0 ≤ p.1 ∧ 1 ≤ p.2 ∧ p.2 ≤ 400 := fun p hp => by
  obtain ⟨a, ha, hp⟩ := List.mem_flatMap.mp hp
  obtain ⟨b, hb, rfl⟩ := List.mem_map.mp hp
  have x := h1.small a ha
  have y := h2.small b hb
  refine ⟨?_, ?_, ?_⟩
  · show 0 ≤ opK k a.1 b.1
    unfold opK
    split
    · exact Int.mul_nonneg x.1 y.1
    · omega
  · show 1 ≤ a.2 * b.2
    have := Int.mul_le_mul x.2.2.1 y.2.2.1 (by omega) (by omega)
    omega
  · show a.2 * b.2 ≤ 400
    have := Int.mul_le_mul x.2.2.2 y.2.2.2 (by omega) (by omega)
    omega
theorem gath_bound : ∀ (l m : List (Int × Int)) (B : Int), (∀ p ∈ l, 0 ≤ p.1 ∧ 1 ≤ p.2 ∧ p.2 ≤ 400) → (∀ p ∈ m, 0 ≤ p.1 ∧ 1 ≤ p.2 ∧ p.2 ≤ B) → 0 ≤ B → ∀ p ∈ gathF m l, 0 ≤ p.1 ∧ 1 ≤ p.2 ∧ p.2 ≤ B + 400 * (l.length : Int)
  | [], m, B, _, hm, _ => fun p hp => by
    have := hm p hp
    simpa using this
  | q :: l, m, B, hl, hm, hB => fun p hp => by
    have hq := hl q List.mem_cons_self
    have h1 : ∀ p ∈ addK m q.1 q.2, 0 ≤ p.1 ∧ 1 ≤ p.2 ∧ p.2 ≤ B + 400 := by
      have g : ∀ p ∈ addK m q.1 q.2, (fun x v => 0 ≤ x ∧ 1 ≤ v ∧ (v ≤ B ∨ v ≤ B + 400)) p.1 p.2 := by
        clear hp hl
        induction m with
        | nil => intro p hp; rw [show addK [] q.1 q.2 = [(q.1, q.2)] from rfl, List.mem_singleton] at hp; subst hp; exact ⟨hq.1, hq.2.1, .inr (by show q.2 ≤ _; omega)⟩
        | cons a r ih =>
          intro p hp
          unfold addK at hp
          have ha := hm a List.mem_cons_self
          split at hp
          · rcases List.mem_cons.mp hp with rfl | hp
            · exact ⟨ha.1, by show 1 ≤ a.2 + q.2; omega, .inr (by show a.2 + q.2 ≤ _; omega)⟩
            · have := hm p (List.mem_cons_of_mem _ hp); exact ⟨this.1, this.2.1, .inl this.2.2⟩
          · rcases List.mem_cons.mp hp with rfl | hp
            · exact ⟨ha.1, ha.2.1, .inl ha.2.2⟩
            · exact ih (fun p hp => hm p (List.mem_cons_of_mem _ hp)) p hp
      intro p hp
      have := g p hp
      refine ⟨this.1, this.2.1, ?_⟩
      rcases this.2.2 with h | h <;> omega
    have := gath_bound l (addK m q.1 q.2) (B + 400) (fun p hp => hl p (List.mem_cons_of_mem _ hp)) h1 (by omega) p hp
    refine ⟨this.1, this.2.1, ?_⟩
    rw [List.length_cons]
    have h3 := this.2.2
    push_cast
    omega
end Pd
set_option autoImplicit false
set_option linter.all false
set_option maxRecDepth 100000
namespace Pd
open PySem (Str)
theorem gathF_app (m a b : List (Int × Int)) : gathF m (a ++ b) = gathF (gathF m a) b := by unfold gathF; rw [List.foldl_append]
def rowK (k : Nat) (p : Int × Int) (l2 : List (Int × Int)) : List (Int × Int) := l2.map fun q => (opK k p.1 q.1, p.2 * q.2)
theorem k70_pairs_in (cl : Caller) (k : Nat) (hk : k ≤ 1) (A : D) (l2 : List (Int × Int)) (p : Int × Int) (m : List (Int × Int)) (hl2 : l2.length ≤ 3) (hm : m.length ≤ 100) (nd : (m.map (·.1)).Nodup) (hp : p.1.natAbs ≤ 1000000 ∧ p.2.natAbs ≤ 1000000) (hq : ∀ q ∈ l2, q.1.natAbs ≤ 1000000 ∧ q.2.natAbs ≤ 1000000) (s6 s7 s8 : Slot) :
    ∃ s6' s7' s8', evalSs cl k70_law_pairs_b2 [.val A, .val (mxD l2), .val (.int k), .own (kD m), .val (.int p.1), .val (.int p.2), s6, s7, s8] = .nx [.val A, .val (mxD l2), .val (.int k), .own (kD (gathF m (rowK k p l2))), .val (.int p.1), .val (.int p.2), s6', s7', s8'] := by
  obtain ⟨e, he, s6', s7', s8', rfl⟩ := for_m (cl := cl) (t := .tp 6 7) (it := .plain (.var 1)) (b := k70_law_pairs_b1) (xs := l2) (env := [.val A, .val (mxD l2), .val (.int k), .own (kD (gathF m (rowK k p (l2.take 0)))), .val (.int p.1), .val (.int p.2), s6, s7, s8]) prD
    (fun i e => ∃ s6 s7 s8, e = [.val A, .val (mxD l2), .val (.int k), .own (kD (gathF m (rowK k p (l2.take i)))), .val (.int p.1), .val (.int p.2), s6, s7, s8]) (by (exists true_and)) ⟨_, _, _, rfl⟩ fun i q e hqi hI => by
      obtain ⟨s6, s7, s8, rfl⟩ := hI
      have hqm := hq q (List.mem_of_getElem? hqi)
      have tk : l2.take (i + 1) = l2.take i ++ [q] := by rw [List.take_add_one, hqi]; rfl
      have nd' := gath_nodup (rowK k p (l2.take i)) m nd
      have ln := gath_len (rowK k p (l2.take i)) m
      have e1 : rowK k p (l2.take (i + 1)) = rowK k p (l2.take i) ++ [(opK k p.1 q.1, p.2 * q.2)] := by unfold rowK; rw [tk, List.map_append]; rfl
      rw [e1, gath_snoc]
      have hle : (rowK k p (l2.take i)).length ≤ 3 := by unfold rowK; rw [List.length_map, List.length_take]; omega
      have ln' : (gathF m (rowK k p (l2.take i))).length < 1000000 := by omega
      generalize gathF m (rowK k p (l2.take i)) = M at nd' ln' ⊢
      generalize mxD l2 = B
      have dg := dget_kD M (opK k p.1 q.1)
      have pd := fun env => put_kD' nd' ln' 3 (opK k p.1 q.1) (p.2 * q.2) env
      have sl : slotDic (some (.own (kD M))) = true := rfl
      have isd : isDic (kD M) = some () := rfl
      have mw := mul_small hp.2 hqm.2
      have it : ∀ env : Env, env[2]? = some (.val (.int k)) → env[4]? = some (.val (.int p.1)) → env[6]? = some (.val (.int q.1)) → evalE cl (.ite (.e (.cmp .eq (.var 2) (.con (.int 0)))) (.bin .mul (.var 4) (.var 6)) (.bin .add (.var 4) (.var 6))) env = .ok (.val (.int (opK k p.1 q.1))) env := fun env e2 e4 e6 => by
        have mm := mul_small hp.1 hqm.1
        have k0 : decide (((0 : Nat) : Int) = 0) = true := rfl
        have k1 : decide (((1 : Nat) : Int) = 0) = false := rfl
        match k, hk with
        | 0, _ => (exists e2, e4, e6, mm, k0, opK)
        | 1, _ => (exists e2, e4, e6, k1, opK)
      refine ⟨[.val A, .val B, .val (.int k), .own (kD M), .val (.int p.1), .val (.int p.2), .val (.int q.1), .val (.int q.2), s8], by (exists prD), [.val A, .val B, .val (.int k), .own (kD (addK M (opK k p.1 q.1) (p.2 * q.2))), .val (.int p.1), .val (.int p.2), .val (.int q.1), .val (.int q.2), .val (.int (opK k p.1 q.1))], .inl ?_, _, _, _, rfl⟩
      have it' := it [.val A, .val B, .val (.int k), .own (kD M), .val (.int p.1), .val (.int p.2), .val (.int q.1), .val (.int q.2), s8] rfl rfl rfl
      generalize opK k p.1 q.1 = O at dg pd it' ⊢
      generalize kD (addK M O (p.2 * q.2)) = K2 at pd ⊢
      generalize kD M = K1 at dg pd sl isd it' ⊢
      unfold k70_law_pairs_b1
      refine ss_nx (e := [.val A, .val B, .val (.int k), K1 |> Slot.own, .val (.int p.1), .val (.int p.2), .val (.int q.1), .val (.int q.2), .val (.int O)]) (by rw [evalS_set, it']; (exists true_and)) ?_
      (exists dg, pd, sl, isd, mw)
  rw [List.take_length] at he
  have he' : evalS cl (.for_ (.tp 6 7) (.plain (.var 1)) k70_law_pairs_b1) [.val A, .val (mxD l2), .val (.int k), .own (kD m), .val (.int p.1), .val (.int p.2), s6, s7, s8] = .nx _ := he
  refine ⟨s6', s7', s8', ?_⟩
  unfold k70_law_pairs_b2
  exact ss_nx he' (evalSs_nil ..)
end Pd
set_option autoImplicit false
set_option linter.all false
set_option maxRecDepth 100000
namespace Pd
open PySem (Str)
theorem prK_snoc (k : Nat) (l : List (Int × Int)) (p : Int × Int) (l2 : List (Int × Int)) : prK k (l ++ [p]) l2 = prK k l l2 ++ rowK k p l2 := by
  unfold prK rowK; rw [List.flatMap_append]; simp
theorem prK_ne {k : Nat} {l1 l2 : List (Int × Int)} (h1 : l1 ≠ []) (h2 : l2 ≠ []) : prK k l1 l2 ≠ [] := by
  cases l1 with
  | nil => exact absurd rfl h1
  | cons a r =>
    cases l2 with
    | nil => exact absurd rfl h2
    | cons b s => unfold prK; simp
theorem addK_ne (m : List (Int × Int)) (x w : Int) : addK m x w ≠ [] := by
  cases m with
  | nil => unfold addK; simp
  | cons a r => unfold addK; split <;> simp
theorem gath_ne : ∀ (l m : List (Int × Int)), (l ≠ [] ∨ m ≠ []) → gathF m l ≠ []
  | [], m, h => by rcases h with h | h; exact absurd rfl h; exact h
  | p :: l, m, _ => gath_ne l (addK m p.1 p.2) (.inr (addK_ne _ _ _))
theorem k70_pairs_run (n k : Nat) (hk : k ≤ 1) (l1 l2 : List (Int × Int)) (h1 : LMx l1) (h2 : LMx l2) : callF k70F (n + 1) 16 [.val (mxD l1), .val (mxD l2), .val (.int k)] = .ok (tolD (gathR (prK k l1 l2))) false [] := by
  rw [callF_at (F := k70_law_pairs) (n := n) rfl rfl rfl (by decide)]
  generalize callF k70F n = cl
  show endOf [false, false, false] (evalSs cl _ [.val (mxD l1), .val (mxD l2), .val (.int k), .un, .un, .un, .un, .un, .un]) = _
  have s1 := h1.small
  have s2 := h2.small
  have len1 := h1.len
  have len2 := h2.len
  obtain ⟨e, he, s4, s5, s6, s7, s8, rfl⟩ := for_m (cl := cl) (t := .tp 4 5) (it := .plain (.var 0)) (b := k70_law_pairs_b2) (xs := l1) (env := [.val (mxD l1), .val (mxD l2), .val (.int k), .own (kD (gathF [] (prK k (l1.take 0) l2))), .un, .un, .un, .un, .un]) prD
    (fun i e => ∃ s4 s5 s6 s7 s8, e = [.val (mxD l1), .val (mxD l2), .val (.int k), .own (kD (gathF [] (prK k (l1.take i) l2))), s4, s5, s6, s7, s8]) (by (exists true_and)) ⟨_, _, _, _, _, rfl⟩ fun i p e hpi hI => by
      obtain ⟨s4, s5, s6, s7, s8, rfl⟩ := hI
      have hp := s1 p (List.mem_of_getElem? hpi)
      have tk : l1.take (i + 1) = l1.take i ++ [p] := by rw [List.take_add_one, hpi]; rfl
      have ln := gath_len (prK k (l1.take i) l2) []
      have hl := prK_len k (l1.take i) l2
      have hle : (l1.take i).length ≤ 3 := by rw [List.length_take]; omega
      have h9 : (l1.take i).length * l2.length ≤ 3 * 3 := Nat.mul_le_mul hle len2
      have nd := gath_nodup (prK k (l1.take i) l2) [] (by simp)
      rw [tk, prK_snoc, gathF_app]
      have hm : (gathF [] (prK k (l1.take i) l2)).length ≤ 100 := by simp at ln; omega
      generalize gathF [] (prK k (l1.take i) l2) = M at nd hm ⊢
      obtain ⟨u6, u7, u8, hin⟩ := k70_pairs_in cl k hk (mxD l1) l2 p M len2 hm nd (by omega) (fun q hq => by have := s2 q hq; omega) s6 s7 s8
      exact ⟨[.val (mxD l1), .val (mxD l2), .val (.int k), .own (kD M), .val (.int p.1), .val (.int p.2), s6, s7, s8], by (exists prD), _, .inl hin, _, _, _, _, _, rfl⟩
  rw [List.take_length] at he
  have he' : evalS cl (.for_ (.tp 4 5) (.plain (.var 0)) k70_law_pairs_b2) [.val (mxD l1), .val (mxD l2), .val (.int k), .own (.dic [] []), .un, .un, .un, .un, .un] = .nx [.val (mxD l1), .val (mxD l2), .val (.int k), .own (kD (gathF [] (prK k l1 l2))), s4, s5, s6, s7, s8] := he
  clear he
  have nd := gath_nodup (prK k l1 l2) [] (by simp)
  have ne := gath_ne (prK k l1 l2) [] (.inl (prK_ne h1.ne h2.ne))
  have ln := gath_len (prK k l1 l2) []
  have h9 := prK_small k len1 len2
  have hlen : (gathF [] (prK k l1 l2)).length ≤ 9 := by simp at ln; omega
  have bd := gath_bound (prK k l1 l2) [] 0 (prK_mem h1 h2) (by simp) (by omega)
  have mi := mixB_iff nd ne fun p hp => by have := bd p hp; omega
  obtain ⟨M, mx, mb⟩ := max_kD ne
  have ok : tolD (gathR (prK k l1 l2)) = if mixB (mixK (gathF [] (prK k l1 l2))) then mxD (gathR (prK k l1 l2)) else .str "<large>" := rfl
  rw [ok, mi, ← mb]
  have so := sorted_kD (gathF [] (prK k l1 l2)) (by omega)
  have c3 := comp_m (cl := cl) (elt := k70_law_pairs_c3e) (it := .plain (.blt .sorted (.cons (.var 3) .nil))) (j := 8) (xs := sortI ((gathF [] (prK k l1 l2)).map (·.1))) (env := [.val (mxD l1), .val (mxD l2), .val (.int k), .own (kD (gathF [] (prK k l1 l2))), s4, s5, s6, s7, s8]) D.int (fun x => prD (x, lookK (gathF [] (prK k l1 l2)) x))
    (by (exists so)) (by rw [sortI_len, List.length_map]; omega) (by simp) fun x hx => by
      have dx := didx_kD (sortI_mem _ x hx)
      generalize mxD l1 = A
      generalize mxD l2 = B
      generalize lookK (gathF [] (prK k l1 l2)) x = v at dx ⊢
      generalize kD (gathF [] (prK k l1 l2)) = K at dx ⊢
      exact ⟨.val (prD (x, v)), by (exists k70_law_pairs_c3e, b2_some, dx, prD), rfl⟩
  have c3' : evalE cl k70_law_pairs_c3 _ = .ok (.fresh (lM prD (gathR (prK k l1 l2)))) _ := c3.trans (by rw [lM_map prD fun x => (x, lookK (gathF [] (prK k l1 l2)) x)]; rfl)
  have tu : bltV .tuple [lM prD (gathR (prK k l1 l2))] = some (mxD (gathR (prK k l1 l2))) := rfl
  have mk : mkO (mxD (gathR (prK k l1 l2))) = .val (mxD (gathR (prK k l1 l2))) := rfl
  have le : bltV .len [kD (gathF [] (prK k l1 l2))] = some (.int ((gathF [] (prK k l1 l2)).length : Int)) := by
    show some (D.int _) = _
    rw [List.length_map]
  clear c3 so mi bd ok nd ne ln mb
  generalize (gathF [] (prK k l1 l2)).length = L at le hlen ⊢
  generalize kD (gathF [] (prK k l1 l2)) = K at he' mx c3' le
  generalize lM prD (gathR (prK k l1 l2)) = Z at c3' tu
  generalize mxD (gathR (prK k l1 l2)) = T at tu mk ⊢
  generalize mxD l1 = A at he' c3' ⊢
  generalize mxD l2 = B at he' c3' ⊢
  by_cases g1 : (L : Int) ≤ 8
  · have g1' : ¬ ((8 : Int) < (L : Int)) := by omega
    by_cases g2 : M ≤ 30
    · have g2' : ¬ ((30 : Int) < M) := by omega
      (exists k70_law_pairs, he', le, mx, c3', tu, mk, g1, g1', g2, g2', gt_iff_lt)
    · have g2' : (30 : Int) < M := by omega
      (exists k70_law_pairs, he', le, mx, g1, g1', g2, g2', gt_iff_lt)
  · have g1' : (8 : Int) < (L : Int) := by omega
    (exists k70_law_pairs, he', le, g1, g1', gt_iff_lt)
end Pd
set_option autoImplicit false
set_option linter.all false
set_option maxRecDepth 100000
namespace Pd
open PySem (Str)
theorem pwI_mul (a b : Int) : ∀ e, pwI (a * b) e = pwI a e * pwI b e
  | 0 => rfl
  | e + 1 => by
    show pwI (a * b) e * (a * b) = pwI a e * a * (pwI b e * b)
    rw [pwI_mul a b e]; simp only [Int.mul_comm, Int.mul_left_comm, Int.mul_assoc]
theorem sumF_app (f : Int → Int) (l m : List (Int × Int)) : sumF f (l ++ m) = sumF f l + sumF f m := by simp [sumF, List.sum_append]
theorem sumF_row0 (e : Nat) (p : Int × Int) : ∀ l2, sumF (fun x => pwI x e) (rowK 0 p l2) = p.2 * pwI p.1 e * sumF (fun x => pwI x e) l2
  | [] => by simp [sumF, rowK]
  | q :: r => by
    show sumF (fun x => pwI x e) ((opK 0 p.1 q.1, p.2 * q.2) :: rowK 0 p r) = _
    rw [sumF_cons, sumF_cons, sumF_row0 e p r, Int.mul_add]
    show p.2 * q.2 * pwI (p.1 * q.1) e + _ = _
    rw [pwI_mul]
    congr 1
    simp only [Int.mul_comm, Int.mul_left_comm, Int.mul_assoc]
theorem sumF_prK0 (e : Nat) (l2 : List (Int × Int)) : ∀ l1, sumF (fun x => pwI x e) (prK 0 l1 l2) = sumF (fun x => pwI x e) l1 * sumF (fun x => pwI x e) l2
  | [] => by simp [sumF, prK]
  | p :: r => by
    show sumF (fun x => pwI x e) (rowK 0 p l2 ++ prK 0 r l2) = _
    rw [sumF_app, sumF_row0, sumF_prK0 e l2 r, sumF_cons, Int.add_mul]
theorem sumF_gathR (f : Int → Int) (l : List (Int × Int)) : sumF f (gathR l) = sumF f l := by
  unfold gathR
  rw [sumF_mix f (gath_nodup l [] (by simp)), sumF_gath, sumF_nil, Int.zero_add]
/-! sums over places -/
def sR (n : Nat) (f : Nat → Int) : Int := ((List.range n).map f).sum
theorem sR_succ (n : Nat) (f : Nat → Int) : sR (n + 1) f = sR n f + f n := by simp [sR, List.range_succ, List.sum_append]
theorem sR_zero (f : Nat → Int) : sR 0 f = 0 := rfl
theorem sR_congr {n : Nat} {f g : Nat → Int} (h : ∀ i < n, f i = g i) : sR n f = sR n g := by
  induction n with
  | zero => rfl
  | succ n ih => rw [sR_succ, sR_succ, ih fun i hi => h i (by omega), h n (by omega)]
theorem sR_add (n : Nat) (f g : Nat → Int) : sR n (fun i => f i + g i) = sR n f + sR n g := by
  induction n with
  | zero => rfl
  | succ n ih => rw [sR_succ, sR_succ, sR_succ, ih]; omega
theorem sR_mul (n : Nat) (c : Int) (f : Nat → Int) : sR n (fun i => c * f i) = c * sR n f := by
  induction n with
  | zero => rw [sR_zero, sR_zero, Int.mul_zero]
  | succ n ih => rw [sR_succ, sR_succ, ih, Int.mul_add]
theorem sR_first (n : Nat) (f : Nat → Int) : sR (n + 1) f = f 0 + sR n (fun i => f (i + 1)) := by
  induction n with
  | zero => rw [sR_succ, sR_zero, sR_zero]; omega
  | succ n ih => rw [sR_succ, ih, sR_succ]; omega
end Pd
set_option autoImplicit false
set_option linter.all false
set_option maxRecDepth 100000
namespace Pd
open PySem (Str)
def chK : Nat → Nat → Nat
  | _, 0 => 1
  | 0, _ + 1 => 0
  | n + 1, k + 1 => chK n k + chK n (k + 1)
theorem chK_0 (n : Nat) : chK n 0 = 1 := by cases n <;> rfl
theorem chK_gt : ∀ (n k : Nat), n < k → chK n k = 0
  | 0, k + 1, _ => rfl
  | n + 1, k + 1, h => by
    show chK n k + chK n (k + 1) = 0
    rw [chK_gt n k (by omega), chK_gt n (k + 1) (by omega)]
theorem pwI_add (a b : Int) : ∀ e, pwI (a + b) e = sR (e + 1) fun i => (chK e i : Int) * (pwI a i * pwI b (e - i))
  | 0 => rfl
  | e + 1 => by
    have ih := pwI_add a b e
    have hA : sR (e + 1) (fun i => (chK e i : Int) * (pwI a (i + 1) * pwI b (e - i))) = pwI (a + b) e * a := by
      rw [ih, Int.mul_comm, ← sR_mul]
      refine sR_congr fun i hi => ?_
      show _ * (pwI a i * a * _) = _
      simp only [Int.mul_comm, Int.mul_left_comm, Int.mul_assoc]
    have hB : sR (e + 1) (fun i => (chK e i : Int) * (pwI a i * pwI b (e + 1 - i))) = pwI (a + b) e * b := by
      rw [ih, Int.mul_comm, ← sR_mul]
      refine sR_congr fun i hi => ?_
      rw [show e + 1 - i = (e - i) + 1 by omega]
      show _ * (_ * (pwI b (e - i) * b)) = _
      simp only [Int.mul_comm, Int.mul_left_comm, Int.mul_assoc]
    have hC : sR (e + 1) (fun i => (chK e (i + 1) : Int) * (pwI a (i + 1) * pwI b (e - i))) + pwI b (e + 1) = sR (e + 1) (fun i => (chK e i : Int) * (pwI a i * pwI b (e + 1 - i))) := by
      rw [sR_first e (fun i => (chK e i : Int) * (pwI a i * pwI b (e + 1 - i))), sR_succ, chK_gt e (e + 1) (by omega), chK_0]
      have : sR e (fun i => (chK e (i + 1) : Int) * (pwI a (i + 1) * pwI b (e - i))) = sR e (fun i => (chK e (i + 1) : Int) * (pwI a (i + 1) * pwI b (e + 1 - (i + 1)))) := sR_congr fun i hi => by rw [show e + 1 - (i + 1) = e - i by omega]
      rw [this]
      show _ + ((0 : Nat) : Int) * _ + _ = ((1 : Nat) : Int) * (1 * pwI b (e + 1)) + _
      simp
      omega
    rw [sR_first (e + 1)]
    have : sR (e + 1) (fun i => (chK (e + 1) (i + 1) : Int) * (pwI a (i + 1) * pwI b (e + 1 - (i + 1)))) = sR (e + 1) (fun i => (chK e i : Int) * (pwI a (i + 1) * pwI b (e - i)) + (chK e (i + 1) : Int) * (pwI a (i + 1) * pwI b (e - i))) := sR_congr fun i hi => by
      rw [show e + 1 - (i + 1) = e - i by omega]
      show ((chK e i + chK e (i + 1) : Nat) : Int) * _ = _
      rw [Int.natCast_add, Int.add_mul]
    rw [this, sR_add, hA]
    show pwI (a + b) e * (a + b) = ((chK (e + 1) 0 : Nat) : Int) * (1 * pwI b (e + 1)) + _
    rw [chK_0, Int.mul_add, ← hB, ← hC]
    simp
    omega
theorem sumF_row1 (e : Nat) (p : Int × Int) : ∀ l2, sumF (fun x => pwI x e) (rowK 1 p l2) = sR (e + 1) fun i => (chK e i : Int) * (p.2 * pwI p.1 i) * sumF (fun x => pwI x (e - i)) l2
  | [] => by
    rw [show sumF (fun x => pwI x e) (rowK 1 p []) = 0 from rfl, show (fun i => (chK e i : Int) * (p.2 * pwI p.1 i) * sumF (fun x => pwI x (e - i)) []) = fun i => (0 : Int) * 0 from funext fun i => by rw [sumF_nil]; simp, sR_mul]; simp
  | q :: r => by
    show sumF (fun x => pwI x e) ((opK 1 p.1 q.1, p.2 * q.2) :: rowK 1 p r) = _
    rw [sumF_cons, sumF_row1 e p r]
    show p.2 * q.2 * pwI (p.1 + q.1) e + _ = _
    rw [pwI_add, ← sR_mul, ← sR_add]
    refine sR_congr fun i hi => ?_
    rw [sumF_cons, Int.mul_add]
    congr 1
    simp only [Int.mul_comm, Int.mul_left_comm, Int.mul_assoc]
theorem sumF_prK1 (e : Nat) (l2 : List (Int × Int)) : ∀ l1, sumF (fun x => pwI x e) (prK 1 l1 l2) = sR (e + 1) fun i => (chK e i : Int) * sumF (fun x => pwI x i) l1 * sumF (fun x => pwI x (e - i)) l2
  | [] => by
    rw [show sumF (fun x => pwI x e) (prK 1 [] l2) = 0 from rfl, show (fun i => (chK e i : Int) * sumF (fun x => pwI x i) [] * sumF (fun x => pwI x (e - i)) l2) = fun i => (0 : Int) * 0 from funext fun i => by rw [sumF_nil]; simp, sR_mul]; simp
  | p :: r => by
    show sumF (fun x => pwI x e) (rowK 1 p l2 ++ prK 1 r l2) = _
    rw [sumF_app, sumF_row1, sumF_prK1 e l2 r, ← sR_add]
    refine sR_congr fun i hi => ?_
    rw [sumF_cons, Int.mul_add, Int.add_mul]
end Pd
set_option autoImplicit false
set_option linter.all false
set_option maxRecDepth 100000
set_option Elab.async false
namespace Pd
open PySem (Str)
def isI70 : CRes → Int → Bool
  | .ok (.int i) false [], j => i == j
  | _, _ => false
theorem isI70_ok {r : CRes} {b : Int} (h : isI70 r b = true) : r = .ok (.int b) false [] := by
  unfold isI70 at h
  split at h
  · rw [beq_iff_eq] at h; rw [h]
  · cases h
theorem k70_ways_all : ∀ n < 7, ∀ k < 7, (decide (k ≤ n) && !isI70 (callF k70F 39 15 [.val (.int (n : Nat)), .val (.int (k : Nat))]) (chK n k)) = false := by decide +kernel
theorem k70_ways {n k : Nat} (hn : n < 7) (hk : k ≤ n) : callF k70F 39 15 [.val (.int n), .val (.int k)] = .ok (.int (chK n k)) false [] := by
  have h := k70_ways_all n hn k (by omega)
  rw [decide_eq_true hk, Bool.true_and, Bool.not_eq_false'] at h
  exact isI70_ok h
/-- what is no mixture -/
def NoMx (o : D) : Prop := ∀ n, callF k70F (n + 3) 2 [.val o] = .ok (.bl false) false []
theorem bad_chk {o : D} (h : NoMx o) (n : Nat) : callF k70F (n + 4) 3 [.val o] = .exc ⟨0, none⟩ [] := by
  have h := cv1 (h n)
  rw [callF_at (F := k70_check_mixture) (n := n + 3) rfl rfl rfl (by decide)]
  (obtain ⟨cl, hcl⟩ : ∃ c : Caller, c = (callF k70F (n + 3)) := ⟨_, rfl⟩; rw [← hcl] at h ⊢; clear hcl)
  show endOf [false] (evalSs cl _ [.val o]) = _
  (exists k70_check_mixture, h)
theorem bad_p1 {o : D} (h : NoMx o) (x : D) (n : Nat) : callF k70F (n + 5) 9 [.val o, .val x] = .exc ⟨0, none⟩ [] := by
  have w := cx1 (bad_chk h n)
  rw [callF_at (F := k70_product_of) (n := n + 4) rfl rfl rfl (by decide)]
  (obtain ⟨cl, hcl⟩ : ∃ c : Caller, c = (callF k70F (n + 4)) := ⟨_, rfl⟩; rw [← hcl] at w ⊢; clear hcl)
  show endOf [false, false] (evalSs cl _ [.val o, .val x, .un, .un, .un, .un]) = _
  (exists k70_product_of, w)
theorem bad_s1 {o : D} (h : NoMx o) (x : D) (n : Nat) : callF k70F (n + 5) 10 [.val o, .val x] = .exc ⟨0, none⟩ [] := by
  have w := cx1 (bad_chk h n)
  rw [callF_at (F := k70_sum_of) (n := n + 4) rfl rfl rfl (by decide)]
  (obtain ⟨cl, hcl⟩ : ∃ c : Caller, c = (callF k70F (n + 4)) := ⟨_, rfl⟩; rw [← hcl] at w ⊢; clear hcl)
  show endOf [false, false] (evalSs cl _ [.val o, .val x, .un, .un, .un, .un]) = _
  (exists k70_sum_of, w)
theorem bad_p2 {o : D} (h : NoMx o) {l : List (Int × Int)} (hl : mixB l = true) (n : Nat) : callF k70F (n + 5) 9 [.val (mxD l), .val o] = .exc ⟨0, none⟩ [] := by
  have w := cx1 (bad_chk h n)
  have w1 := cv1 (k70_chk n l (mix_ok hl).1 hl)
  rw [callF_at (F := k70_product_of) (n := n + 4) rfl rfl rfl (by decide)]
  (obtain ⟨cl, hcl⟩ : ∃ c : Caller, c = (callF k70F (n + 4)) := ⟨_, rfl⟩; rw [← hcl] at w w1 ⊢; clear hcl)
  generalize mxD l = A at w1 ⊢
  show endOf [false, false] (evalSs cl _ [.val A, .val o, .un, .un, .un, .un]) = _
  (exists k70_product_of, w, w1)
theorem bad_s2 {o : D} (h : NoMx o) {l : List (Int × Int)} (hl : mixB l = true) (n : Nat) : callF k70F (n + 5) 10 [.val (mxD l), .val o] = .exc ⟨0, none⟩ [] := by
  have w := cx1 (bad_chk h n)
  have w1 := cv1 (k70_chk n l (mix_ok hl).1 hl)
  rw [callF_at (F := k70_sum_of) (n := n + 4) rfl rfl rfl (by decide)]
  (obtain ⟨cl, hcl⟩ : ∃ c : Caller, c = (callF k70F (n + 4)) := ⟨_, rfl⟩; rw [← hcl] at w w1 ⊢; clear hcl)
  generalize mxD l = A at w1 ⊢
  show endOf [false, false] (evalSs cl _ [.val A, .val o, .un, .un, .un, .un]) = _
  (exists k70_sum_of, w, w1)
theorem bad_told {a b : D} (n k : Nat) (hk : k ≤ 1) (h9 : callF k70F (n + 5) 9 [.val a, .val b] = .exc ⟨0, none⟩ []) (h10 : callF k70F (n + 5) 10 [.val a, .val b] = .exc ⟨0, none⟩ []) : callF k70F (n + 6) 17 [.val (.int k), .val a, .val b] = .ok (.str "<malformed>") false [] := by
  have w9 := cx2 h9
  have w10 := cx2 h10
  rw [callF_at (F := k70_law_told) (n := n + 5) rfl rfl rfl (by decide)]
  (obtain ⟨cl, hcl⟩ : ∃ c : Caller, c = (callF k70F (n + 5)) := ⟨_, rfl⟩; rw [← hcl] at w9 w10 ⊢; clear hcl)
  show endOf [false, false, false] (evalSs cl _ [.val (.int k), .val a, .val b, .un]) = _
  have k0 : decide (((0 : Nat) : Int) = 0) = true := rfl
  have k1 : decide (((1 : Nat) : Int) = 0) = false := rfl
  match k, hk with
  | 0, _ => (exists k70_law_told, k70_law_told_b1, w9, k0)
  | 1, _ => (exists k70_law_told, k70_law_told_b1, w10, k1)
/-! the law's fifteen values -/
theorem no_ty {o : D} (h : bltV (.isi .tuple) [o] = some (.bl false)) : NoMx o := fun n => by
  rw [callF_at (F := k70_is_mixture) (n := n + 2) rfl rfl rfl (by decide)]
  generalize callF k70F (n + 2) = cl
  show endOf [false] (evalSs cl _ [.val o, .un, .un, .un]) = _
  (exists k70_is_mixture, h)
end Pd
set_option autoImplicit false
set_option linter.all false
set_option maxRecDepth 100000
set_option Elab.async false
namespace Pd
open PySem (Str)
def odd70 (l : List (Int × Int)) : List D := [.non, .tup [], .int 5, lM prD l, mxD (l ++ l.take 1), .tup [.tup [.int 2, .int 1], .tup [.int 1, .int 1]], .tup [.tup [.int (-1), .int 1]], .tup [.tup [.int 31, .int 1]], .tup [.tup [.int 1, .int 0]], .tup [.tup [.int 1, .int 1000001]],
  .tup [.tup [.bl true, .int 1]], .tup [.tup [.int 1]], .tup [.lst [.int 1, .int 1]], .tup [.int 1, .int 1], tM (fun k : Nat => D.tup [nI k, .int 1]) (List.range 9)]
theorem no1 : NoMx (.tup []) := fun n => by kernel_rfl
theorem no5 : NoMx (.tup [.tup [.int 2, .int 1], .tup [.int 1, .int 1]]) := fun n => by kernel_rfl
theorem no6 : NoMx (.tup [.tup [.int (-1), .int 1]]) := fun n => by kernel_rfl
theorem no7 : NoMx (.tup [.tup [.int 31, .int 1]]) := fun n => by kernel_rfl
theorem no8 : NoMx (.tup [.tup [.int 1, .int 0]]) := fun n => by kernel_rfl
theorem no9 : NoMx (.tup [.tup [.int 1, .int 1000001]]) := fun n => by kernel_rfl
theorem no10 : NoMx (.tup [.tup [.bl true, .int 1]]) := fun n => by kernel_rfl
theorem no11 : NoMx (.tup [.tup [.int 1]]) := fun n => by kernel_rfl
theorem no12 : NoMx (.tup [.lst [.int 1, .int 1]]) := fun n => by kernel_rfl
theorem no13 : NoMx (.tup [.int 1, .int 1]) := fun n => by kernel_rfl
theorem no14 : NoMx (tM (fun k : Nat => D.tup [nI k, .int 1]) (List.range 9)) := fun n => by kernel_rfl
theorem up_le : ∀ {l : List (Int × Int)} {p : Int × Int}, upB (p :: l) = true → ∀ q ∈ l, p.1 < q.1
  | [], p, _, q, hq => by cases hq
  | a :: r, p, h, q, hq => by
    unfold upB at h
    have h' : (decide (p.1 < a.1) && ((a :: r).zip ((a :: r).drop 1)).all fun q => decide (q.1.1 < q.2.1)) = true := h
    rw [Bool.and_eq_true, decide_eq_true_eq] at h'
    rcases List.mem_cons.mp hq with rfl | hq
    · exact h'.1
    · have := up_le (l := r) (p := a) h'.2 q hq
      omega
theorem no4 {l : List (Int × Int)} (h : LMx l) : NoMx (mxD (l ++ l.take 1)) := fun n => by
  have hl := h.len
  rw [k70_ismix n _ (by rw [List.length_append, List.length_take]; omega)]
  have : mixB (l ++ l.take 1) = false := by
    have ne := h.ne
    cases l with
    | nil => exact absurd rfl ne
    | cons p r =>
      have e : (p :: r) ++ (p :: r).take 1 = p :: (r ++ [p]) := rfl
      rw [e]
      cases hm : mixB (p :: (r ++ [p])) with
      | false => rfl
      | true =>
        unfold mixB at hm
        simp only [Bool.and_eq_true] at hm
        have := up_le hm.2.2 p (by simp)
        omega
  rw [this]
theorem odd_no {l : List (Int × Int)} (h : LMx l) : ∀ o ∈ odd70 l, NoMx o := fun o ho => by
  simp only [odd70, List.mem_cons, List.not_mem_nil, or_false] at ho
  rcases ho with rfl | rfl | rfl | rfl | rfl | rfl | rfl | rfl | rfl | rfl | rfl | rfl | rfl | rfl | rfl
  · exact no_ty rfl
  · exact no1
  · exact no_ty rfl
  · exact no_ty rfl
  · exact no4 h
  · exact no5
  · exact no6
  · exact no7
  · exact no8
  · exact no9
  · exact no10
  · exact no11
  · exact no12
  · exact no13
  · exact no14
end Pd
set_option autoImplicit false
set_option linter.all false
set_option maxRecDepth 100000
namespace Pd
open PySem (Str)
theorem k70_odd_run (n : Nat) (x : DrS) (hx : x.Ok) (hxs : x.s < 2147483648) (l : List (Int × Int)) (h : LMx l) : ∃ y : DrS, y.Ok ∧ y.s < 2147483648 ∧ ∃ o, o ∈ odd70 l ∧ callF k70F (n + 2) 14 [.own x.d, .val (mxD l)] = .ok o false [y.d] := by
  have tk := takeC (fs := k70F) (f := 12) rfl n 0
  obtain ⟨y, hy, hys, r, hr, t⟩ := tk x hx hxs 15 (by omega) (by omega)
  have hr' : r < (odd70 l).length := by show r < 15; omega
  refine ⟨y, hy, hys, (odd70 l)[r], List.getElem_mem hr', ?_⟩
  rw [callF_at (F := k70_law_odd_mixture) (n := n + 1) rfl rfl rfl (by decide)]
  (obtain ⟨cl, hcl⟩ : ∃ c : Caller, c = (callF k70F (n + 1)) := ⟨_, rfl⟩; rw [← hcl] at t ⊢; clear hcl)
  show endOf [true, false] (evalSs cl _ [.own x.d, .val (mxD l), .un, .un]) = _
  have hl := h.len
  have t1 : sliV (mxD l) none (some 1) = some (mxD (l.take 1)) := take_tM (f := prD) (xs := l) 1
  have ad := add_tM (f := prD) (xs := l) (ys := l.take 1) (by rw [List.length_take]; omega)
  have mk : ∀ m, mkO (mxD m) = .val (mxD m) := fun _ => rfl
  have ls : bltV .list [mxD l] = some (lM prD l) := rfl
  have mk2 : mkO (lM prD l) = .fresh (lM prD l) := rfl
  have c1 := fun env0 : Env => fun (he : env0.length = 4) => comp_rm (cl := cl) (elt := k70_law_odd_mixture_c1e) (a := .con (.int 9)) (j := 3) (m := 9) (env := env0) (fun k => D.tup [nI k, .int 1]) (by (exists true_and); rfl) (by omega) (by omega) fun k hk => ⟨.val (.tup [nI k, .int 1]), by
    obtain ⟨a, b, c, d, rfl⟩ : ∃ a b c d, env0 = [a, b, c, d] := by
      match env0, he with
      | [a, b, c, d], _ => exact ⟨a, b, c, d, rfl⟩
    (exists k70_law_odd_mixture_c1e), rfl⟩
  have tu : bltV .tuple [lM (fun k : Nat => D.tup [nI k, .int 1]) (List.range 9)] = some (tM (fun k : Nat => D.tup [nI k, .int 1]) (List.range 9)) := rfl
  have mk3 : mkO (tM (fun k : Nat => D.tup [nI k, .int 1]) (List.range 9)) = .val (tM (fun k : Nat => D.tup [nI k, .int 1]) (List.range 9)) := rfl
  have ix : idxV (.lst (odd70 l)) (nI r) = some (odd70 l)[r] := by
    have := idx_lM (f := id) (xs := odd70 l) (k := r) .non hr'
    unfold lM at this
    rw [List.map_id] at this
    rw [this, List.getD_eq_getElem?_getD, List.getElem?_eq_getElem hr']; rfl
  have c1' := fun (a b c d : Slot) => (show evalE cl k70_law_odd_mixture_c1 [a, b, c, d] = _ from c1 [a, b, c, d] rfl)
  have sum : binV .add (.lst [.non, .tup [], .int 5, lM prD l, mxD (l ++ l.take 1), .tup [.tup [.int 2, .int 1], .tup [.int 1, .int 1]], .tup [.tup [.int (-1), .int 1]], .tup [.tup [.int 31, .int 1]], .tup [.tup [.int 1, .int 0]], .tup [.tup [.int 1, .int 1000001]]])
    (.lst [.tup [.tup [.bl true, .int 1]], .tup [.tup [.int 1]], .tup [.lst [.int 1, .int 1]], .tup [.int 1, .int 1], tM (fun k : Nat => D.tup [nI k, .int 1]) (List.range 9)]) = some (.lst (odd70 l)) := add_lst (by simp [cap_is])
  have mk4 : mkO (.lst (odd70 l)) = .fresh (.lst (odd70 l)) := rfl
  clear c1
  generalize (odd70 l)[r] = o at ix ⊢
  generalize odd70 l = O at ix sum mk4
  generalize tM (fun k : Nat => D.tup [nI k, .int 1]) (List.range 9) = T9 at tu mk3 sum
  generalize lM (fun k : Nat => D.tup [nI k, .int 1]) (List.range 9) = L9 at tu c1'
  generalize lM prD l = Z at ls mk2 sum
  (exists k70_law_odd_mixture, ls, mk2, t1, ad, mk, c1', tu, mk3, sum, mk4, t, ix)
end Pd
set_option autoImplicit false
set_option linter.all false
set_option maxRecDepth 100000
namespace Pd
open PySem (Str)
theorem zip_fst70 {S ws : List Int} (h : S.length = ws.length) : (S.zip ws).map (·.1) = S := by
  rw [List.map_fst_zip (by omega)]
theorem lmx_of {F ws : List Int} (nd : F.Nodup) (h0 : F ≠ []) (h3 : F.length ≤ 3) (hF : ∀ v ∈ F, 0 ≤ v ∧ v ≤ 30) (hl : ws.length = F.length) (hw : ∀ v ∈ ws, 1 ≤ v ∧ v ≤ 20) : LMx ((sortI F).zip ws) := by
  have hs : (sortI F).length = ws.length := by rw [sortI_len, hl]
  have hlen : ((sortI F).zip ws).length = F.length := by rw [List.length_zip, hs, hl]; omega
  have hpos : 1 ≤ F.length := by cases F with | nil => exact absurd rfl h0 | cons a b => simp
  have small : ∀ p ∈ (sortI F).zip ws, 0 ≤ p.1 ∧ p.1 ≤ 30 ∧ 1 ≤ p.2 ∧ p.2 ≤ 20 := fun p hp => by
    have h1 := List.of_mem_zip (a := p.1) (b := p.2) hp
    have a := hF p.1 (sortI_mem _ _ h1.1)
    have b := hw p.2 h1.2
    omega
  refine ⟨by omega, fun e => ?_, ?_, small⟩
  · rw [e] at hlen; simp at hlen; omega
  · have hu : upB ((sortI F).zip ws) = true := up_of (by
      rw [zip_fst70 hs]
      exact lt_of_sorted (sortI_sorted _) ((sortI_perm _).nodup_iff.mpr nd))
    have ha : ((sortI F).zip ws).all pairB = true := by
      rw [List.all_eq_true]
      intro p hp
      have := small p hp
      unfold pairB
      simp only [Bool.and_eq_true, decide_eq_true_eq]
      omega
    unfold mixB
    rw [hu, ha, hlen]
    simp only [Bool.and_true, Bool.and_eq_true, decide_eq_true_eq]
    omega
theorem plains_I (n : Nat) : ∀ F : List Int, D.plains (n + 1) (F.map D.int) = true
  | [] => rfl
  | a :: r => by
    show (D.plain (n + 1) (.int a) && D.plains (n + 1) (r.map D.int)) = true
    rw [plains_I n r]; rfl
theorem plain_lI (F : List Int) : D.plain 60 (.lst (F.map D.int)) = true := plains_I 58 F
theorem k70_mix_loop (cl : Caller) (tk : TakeC cl 12 0) (hi : Nat) (hh : hi ≤ 30) (x : DrS) (hx : x.Ok) (hxs : x.s < 2147483648) :
    ∃ (z : DrS) (F : List Int) (s4 s5 : Slot), z.Ok ∧ z.s < 2147483648 ∧ F.Nodup ∧ F ≠ [] ∧ F.length ≤ 3 ∧ (∀ v ∈ F, 0 ≤ v ∧ v ≤ 30) ∧
      evalS cl k70_law_mixture_q1 [.own x.d, .val (.int 3), .val (.int hi), .own (lM D.int []), .un, .un, .un, .un] = .nx [.own z.d, .val (.int 3), .val (.int hi), .own (lM D.int F), s4, s5, .un, .un] := by
  obtain ⟨y, hy, hys, r, hr, t⟩ := tk x hx hxs 3 (by omega) (by omega)
  have hm : (1 : Int) + (r : Int) = ((1 + r : Nat) : Int) := by omega
  have ev : evalE cl (.bin .add (.con (.int 1)) (.call 12 [true, false] (.cons (.var 0) (.cons (.var 1) .nil)))) [.own x.d, .val (.int 3), .val (.int hi), .own (lM D.int []), .un, .un, .un, .un] = .ok (.val (.int ((1 + r : Nat) : Int))) [.own y.d, .val (.int 3), .val (.int hi), .own (lM D.int []), .un, .un, .un, .un] := by
    (exists t, hm)
  have ri := rng_i (cl := cl) ev (by omega)
  obtain ⟨e, he, z, F, s4, s5, rfl, hz, hzs, nd, hl, hn, hb⟩ := forT_inv (cl := cl) (t := .nm 4) (b := k70_law_mixture_b1) (fun t e => ∃ (z : DrS) (F : List Int) (s4 s5 : Slot), e = [.own z.d, .val (.int 3), .val (.int hi), .own (lM D.int F), s4, s5, .un, .un] ∧ z.Ok ∧ z.s < 2147483648 ∧ F.Nodup ∧ F.length ≤ t ∧ (t ≠ 0 → F ≠ []) ∧ ∀ v ∈ F, 0 ≤ v ∧ v ≤ 30)
    ((List.range (1 + r)).map nI) 0 [.own y.d, .val (.int 3), .val (.int hi), .own (lM D.int []), .un, .un, .un, .un] ⟨y, [], _, _, rfl, hy, hys, by simp, by simp, fun z => absurd rfl z, by simp⟩ fun i d e hd hI => by
      obtain ⟨z, F, s4, s5, rfl, hz, hzs, nd, hl, hn, hb⟩ := hI
      obtain ⟨w, hw, hws, v, hv, t2⟩ := tk z hz hzs ((hi : Int) + 1) (by omega) (by omega)
      have ini := in_tI
      have inn : cmpV .inn (nI v) (lM D.int F) = some (F.contains (v : Int)) := by
        show (if D.plain 60 (.int v) && D.plain 60 (.lst (F.map D.int)) then some ((F.map D.int).any fun y => D.eqv y (.int v)) else none) = _
        rw [any_ints]
        rw [plain_lI]; rfl
      have nin := nin_of_in inn
      refine ⟨[.own z.d, .val (.int 3), .val (.int hi), .own (lM D.int F), .val d, s5, .un, .un], by (exists true_and), ?_⟩
      have hlr : F.length < 1000000 := by
        have h1 := (List.getElem?_eq_some_iff.mp hd).1
        simp at h1; omega
      have ap := fun e => app_lM (f := D.int) (xs := F) (i := 3) (y := (v : Int)) (e := e) hlr
      by_cases c : F.contains (v : Int) = true
      · refine ⟨[.own w.d, .val (.int 3), .val (.int hi), .own (lM D.int F), .val d, .val (nI v), .un, .un], .inl ?_, w, F, _, _, rfl, hw, hws, nd, by omega, fun _ e => by rw [e] at c; simp at c, hb⟩
        rw [c] at nin
        (exists k70_law_mixture_b1, t2, nin)
      · rw [Bool.not_eq_true] at c
        rw [c] at nin
        refine ⟨[.own w.d, .val (.int 3), .val (.int hi), .own (lM D.int (F ++ [(v : Int)])), .val d, .val (nI v), .un, .un], .inl ?_, w, F ++ [(v : Int)], _, _, rfl, hw, hws, ?_, by simp; omega, fun _ e => by simp at e, fun u hu => ?_⟩
        · (exists k70_law_mixture_b1, t2, nin, ap)
        · rw [List.nodup_append]
          refine ⟨nd, by simp, fun a ha b hb' => ?_⟩
          rw [List.mem_singleton] at hb'
          subst hb'
          intro e
          subst e
          have := List.contains_iff_mem.mpr ha
          rw [c] at this; cases this
        · rcases List.mem_append.mp hu with hu | hu
          · exact hb u hu
          · rw [List.mem_singleton] at hu; subst hu; omega
  refine ⟨z, F, s4, s5, hz, hzs, nd, hn (by simp), by simp at hl; omega, hb, ?_⟩
  unfold k70_law_mixture_q1
  rw [evalS_for, ri]
  exact he
end Pd
set_option autoImplicit false
set_option linter.all false
set_option maxRecDepth 100000
namespace Pd
open PySem (Str)
theorem k70_mixture (n : Nat) (hi : Nat) (hh : hi ≤ 30) (x : DrS) (hx : x.Ok) (hxs : x.s < 2147483648) : ∃ y : DrS, y.Ok ∧ y.s < 2147483648 ∧ ∃ l, LMx l ∧ callF k70F (n + 2) 13 [.own x.d, .val (.int 3), .val (.int hi)] = .ok (mxD l) false [y.d] := by
  have tk := takeC (fs := k70F) (f := 12) rfl n 0
  obtain ⟨z, F, s4, s5, hz, hzs, nd, h0, h3, hb, hq1⟩ := k70_mix_loop (callF k70F (n + 1)) tk hi hh x hx hxs
  have c2 := comp_dr (cl := callF k70F (n + 1)) (env0 := [.own z.d, .val (.int 3), .val (.int hi), .val (lM D.int F), s4, s5, .un, .un]) (base := [.own z.d, .val (.int 3), .val (.int hi), .val (lM D.int F), s4, s5, .un, .un]) (i := 0) (j := 5) (elt := k70_law_mixture_c2e) (it := .plain (.var 3)) (ds := F.map D.int) 1 20 z hz hzs (by omega) (by simp) (by simp)
    (by (exists true_and)) (by rw [List.length_map]; omega) fun u d hu hus hd => by
      obtain ⟨v, hv, hvs, r, hr, t⟩ := tk u hu hus 2 (by omega) (by omega)
      generalize callF k70F (n + 1) = cl at tk t ⊢
      match r, hr with
      | 0, _ =>
        obtain ⟨w, hw, hws, r2, hr2, t2⟩ := tk v hv hvs 3 (by omega) (by omega)
        have i0 : idxV (.lst [.int 3, .int 20]) (.int ((0 : Nat) : Int)) = some (.int 3) := rfl
        exact ⟨w, hw, hws, 1 + (r2 : Int), by omega, by omega, by (exists k70_law_mixture_c2e, t, i0, t2)⟩
      | 1, _ =>
        obtain ⟨w, hw, hws, r2, hr2, t2⟩ := tk v hv hvs 20 (by omega) (by omega)
        have i0 : idxV (.lst [.int 3, .int 20]) (.int ((1 : Nat) : Int)) = some (.int 20) := rfl
        exact ⟨w, hw, hws, 1 + (r2 : Int), by omega, by omega, by (exists k70_law_mixture_c2e, t, i0, t2)⟩
  obtain ⟨y, ws, hy, hys, hwl, hwb, c2⟩ := c2
  have hwl' : ws.length = F.length := by rw [hwl, List.length_map]
  refine ⟨y, hy, hys, (sortI F).zip ws, lmx_of nd h0 h3 hb hwl' hwb, ?_⟩
  rw [callF_at (F := k70_law_mixture) (n := n + 1) rfl rfl rfl (by decide)]
  generalize callF k70F (n + 1) = cl at hq1 c2 ⊢
  show endOf [true, false, false] (evalSs cl k70_law_mixture_s0 [.own x.d, .val (.int 3), .val (.int hi), .un, .un, .un, .un, .un]) = _
  have c2' : evalE cl k70_law_mixture_c2 [.own z.d, .val (.int 3), .val (.int hi), .val (lM D.int F), s4, s5, .un, .un] = .ok (.fresh (lM D.int ws)) [.own y.d, .val (.int 3), .val (.int hi), .val (lM D.int F), s4, s5, .un, .un] := c2
  have so : bltV .sorted [lM D.int F] = some (lM D.int (sortI F)) := sorted_ints F
  have mk0 : mkO (lM D.int (sortI F)) = .fresh (lM D.int (sortI F)) := rfl
  have zi : zipO (.fresh (lM D.int (sortI F))) (.val (lM D.int ws)) = some (((sortI F).zip ws).map prD) := congrArg some (zipL_ints (sortI F) ws)
  have c3 := comp_z (cl := cl) (elt := k70_law_mixture_c3e) (it := .zip (.blt .sorted (.cons (.var 3) .nil)) (.var 6)) (i := 5) (j := 7) (xs := (sortI F).zip ws) (env := [.own y.d, .val (.int 3), .val (.int hi), .val (lM D.int F), s4, s5, .val (lM D.int ws), .un]) prD prD (fun p => .int p.1) (fun p => .int p.2) (fun _ => rfl)
    (by (exists so, mk0, zi)) (by rw [List.length_zip, sortI_len]; omega) (by decide) (by simp) (by simp) fun p hp => ⟨.val (prD p), by (exists k70_law_mixture_c3e, prD), rfl⟩
  have c3' : evalE cl k70_law_mixture_c3 _ = .ok (.fresh (lM prD ((sortI F).zip ws))) _ := c3
  have tu : bltV .tuple [lM prD ((sortI F).zip ws)] = some (mxD ((sortI F).zip ws)) := rfl
  have mk : mkO (mxD ((sortI F).zip ws)) = .val (mxD ((sortI F).zip ws)) := rfl
  clear c2 c3 so mk0 zi hb hwb
  generalize mxD ((sortI F).zip ws) = T at tu mk ⊢
  generalize lM prD ((sortI F).zip ws) = Z at c3' tu
  have e0 : (D.lst [] : D) = lM D.int [] := rfl
  unfold k70_law_mixture_s0
  refine ss_step (P := fun f => endOf [true, false, false] f = CRes.ok T false [y.d]) (e := [.own x.d, .val (.int 3), .val (.int hi), .own (lM D.int []), .un, .un, .un, .un]) (by (exists k70_law_mixture_q0); rfl) ?_
  refine ss_step (P := fun f => endOf [true, false, false] f = CRes.ok T false [y.d]) hq1 ?_
  (exists k70_law_mixture_s2, k70_law_mixture_q2, k70_law_mixture_s3, k70_law_mixture_q3, k70_law_mixture_s4, k70_law_mixture_q4, k70_law_mixture_s5, k70_law_mixture_q5, c2', c3', tu, mk)
end Pd
set_option autoImplicit false
set_option linter.all false
set_option maxRecDepth 100000
namespace Pd
open PySem (Str)
theorem mx_plain : ∀ R : List (Int × Int), D.plains 59 (R.map prD) = true
  | [] => rfl
  | p :: r => by
    show (D.plain 59 (prD p) && D.plains 59 (r.map prD)) = true
    rw [mx_plain r]; rfl
theorem mx_shT : ∀ R : List (Int × Int), (∀ p ∈ R, p.1.natAbs ≤ 1000000 ∧ p.2.natAbs ≤ 1000000) → D.shTs (R.map prD) = true
  | [], _ => rfl
  | p :: r, h => by
    have hp := h p List.mem_cons_self
    have l1 : p.1.natAbs.log2 < 1920 := by have := log2_lt (i := p.1) (k := 100) (by omega) (by omega); omega
    have l2 : p.2.natAbs.log2 < 1920 := by have := log2_lt (i := p.2) (k := 100) (by omega) (by omega); omega
    show (D.shT (prD p) && D.shTs (r.map prD)) = true
    rw [mx_shT r fun q hq => h q (List.mem_cons_of_mem _ hq), Bool.and_true]
    exact shTs_ints [p.1, p.2] (by simp [l1, l2])
theorem mx_shB : ∀ R : List (Int × Int), D.shBs (R.map prD) = 3851 * R.length
  | [] => rfl
  | p :: r => by
    show D.shB (prD p) + 2 + D.shBs (r.map prD) = _
    rw [mx_shB r, show D.shB (prD p) = 3849 from rfl, List.length_cons]; omega
theorem tol_repr (R : List (Int × Int)) : bltV .repr [tolD R] = some (shown (tolD R)) := by
  unfold tolD
  cases h : mixB R with
  | false =>
    show bltV .repr [.str "<large>"] = some (shown (.str "<large>"))
    exact repr_at (by decide +kernel) (by decide +kernel) (by decide +kernel)
  | true =>
    have ok := mix_ok h
    show bltV .repr [mxD R] = some (shown (mxD R))
    refine repr_at (mx_plain R) (mx_shT R fun p hp => ?_) ?_
    · have := ok.2 p hp; omega
    · show D.shBs (R.map prD) + 3 ≤ _
      rw [mx_shB]
      have := ok.1
      omega
end Pd
set_option autoImplicit false
set_option linter.all false
set_option maxRecDepth 100000
namespace Pd
open PySem (Str)
/-- what is due: products of moments, or their binomial sums -/
def dueK (k : Nat) (l1 l2 : List (Int × Int)) (n : Nat) : List Int := (List.range (n + 1)).map fun e => sumF (fun x => pwI x e) (prK k l1 l2)
theorem mom_due (k : Nat) (l1 l2 : List (Int × Int)) (n : Nat) : momL (gathR (prK k l1 l2)) n = dueK k l1 l2 n := by
  unfold momL dueK
  exact List.map_congr_left fun e _ => sumF_gathR _ _
theorem momL_at {l : List (Int × Int)} {n e : Nat} (h : e ≤ n) : idxV (tM D.int (momL l n)) (nI e) = some (.int (sumF (fun x => pwI x e) l)) := by
  rw [idx_tM (f := D.int) (xs := momL l n) (k := e) 0 (by unfold momL; rw [List.length_map, List.length_range]; omega)]
  unfold momL
  rw [List.getD_eq_getElem?_getD, List.getElem?_map, List.getElem?_range (by omega)]; rfl
theorem pw_bound {x : Int} (h : x.natAbs ≤ 30) {e : Nat} (he : e ≤ 6) : (pwI x e).natAbs ≤ 729000000 := Nat.le_trans (pwI_le h e) (Nat.le_trans (Nat.pow_le_pow_right (by omega) he) (by decide))
theorem mom_small {l : List (Int × Int)} (h : LMx l) {e : Nat} (he : e ≤ 6) : (sumF (fun x => pwI x e) l).natAbs ≤ 43740000000 := by
  have key : ∀ m : List (Int × Int), (∀ p ∈ m, p.1.natAbs ≤ 30 ∧ p.2.natAbs ≤ 20) → (sumF (fun x => pwI x e) m).natAbs ≤ m.length * (14580000000) := fun m => by
    induction m with
    | nil => intro _; simp [sumF]
    | cons p r ih =>
      intro hm
      have hp := hm p List.mem_cons_self
      rw [sumF_cons, List.length_cons, Nat.succ_mul]
      have i := ih fun q hq => hm q (List.mem_cons_of_mem _ hq)
      have b : (p.2 * pwI p.1 e).natAbs ≤ 14580000000 := by
        rw [Int.natAbs_mul]; exact Nat.le_trans (Nat.mul_le_mul hp.2 (pw_bound hp.1 he)) (by decide)
      have := Int.natAbs_add_le (p.2 * pwI p.1 e) (sumF (fun x => pwI x e) r)
      omega
  have := key l fun p hp => by have := h.small p hp; omega
  have h3 := h.len
  have : l.length * (14580000000) ≤ 3 * (14580000000) := Nat.mul_le_mul_right _ h3
  omega
theorem chK_small : ∀ n < 7, ∀ k < 7, chK n k ≤ 20 := by decide +kernel
end Pd
set_option autoImplicit false
set_option linter.all false
set_option maxRecDepth 100000
namespace Pd
open PySem (Str)
/-- the due moments, kind 0 and kind 1 -/
theorem k70_due0 (cl : Caller) (l1 l2 : List (Int × Int)) (h1 : LMx l1) (h2 : LMx l2) (n : Nat) (hn : n ≤ 6) (a0 a1 a2 a3 a4 a5 a9 a10 a11 a12 a13 a14 : Slot) :
    evalE cl k70_law_c1 [a0, a1, a2, a3, a4, a5, .val (.int n), .val (tM D.int (momL l1 n)), .val (tM D.int (momL l2 n)), a9, a10, a11, a12, a13, a14] = .ok (.fresh (lM D.int (dueK 0 l1 l2 n))) [a0, a1, a2, a3, a4, a5, .val (.int n), .val (tM D.int (momL l1 n)), .val (tM D.int (momL l2 n)), a9, a10, a11, a12, a13, a14] := by
  have c := comp_rm (cl := cl) (elt := k70_law_c1e) (a := .bin .add (.var 6) (.con (.int 1))) (j := 12) (m := n + 1) (env := [a0, a1, a2, a3, a4, a5, .val (.int n), .val (tM D.int (momL l1 n)), .val (tM D.int (momL l2 n)), a9, a10, a11, a12, a13, a14]) (fun e => .int (sumF (fun x => pwI x e) (prK 0 l1 l2))) (by (exists true_and); rfl) (by omega) (by simp) fun e he => by
    have i1 := momL_at (l := l1) (n := n) (e := e) (by omega)
    have i2 := momL_at (l := l2) (n := n) (e := e) (by omega)
    have b1 := mom_small h1 (e := e) (by omega)
    have b2 := mom_small h2 (e := e) (by omega)
    have mu : binV .mul (.int (sumF (fun x => pwI x e) l1)) (.int (sumF (fun x => pwI x e) l2)) = some (.int (sumF (fun x => pwI x e) (prK 0 l1 l2))) := by
      rw [sumF_prK0]; exact mul_int (mulOk_small (log_of (by omega)) (log_of (by omega)))
    generalize tM D.int (momL l1 n) = M1 at i1 ⊢
    generalize tM D.int (momL l2 n) = M2 at i2 ⊢
    exact ⟨.val (.int (sumF (fun x => pwI x e) (prK 0 l1 l2))), by (exists k70_law_c1e, i1, i2, mu), rfl⟩
  exact c.trans (by rw [lM_map D.int fun e => sumF (fun x => pwI x e) (prK 0 l1 l2)]; rfl)
theorem sR_list (n : Nat) (f : Nat → Int) : bltV .sum [lM D.int ((List.range n).map f)] = some (.int (sR n f)) := by rw [sum_lI]; rfl
theorem k70_due1 (cl : Caller) (hw : ∀ n k : Nat, n < 7 → k ≤ n → ∀ env, callR cl 15 [false, false] [.val (.int n), .val (.int k)] env = .ok (.val (.int (chK n k))) env) (l1 l2 : List (Int × Int)) (h1 : LMx l1) (h2 : LMx l2) (n : Nat) (hn : n ≤ 6) (a0 a1 a2 a3 a4 a5 a9 a10 a11 a12 a13 a14 : Slot) :
    evalE cl k70_law_c3 [a0, a1, a2, a3, a4, a5, .val (.int n), .val (tM D.int (momL l1 n)), .val (tM D.int (momL l2 n)), a9, a10, a11, a12, a13, a14] = .ok (.fresh (lM D.int (dueK 1 l1 l2 n))) [a0, a1, a2, a3, a4, a5, .val (.int n), .val (tM D.int (momL l1 n)), .val (tM D.int (momL l2 n)), a9, a10, a11, a12, a13, a14] := by
  have c := comp_rm (cl := cl) (elt := k70_law_c3e) (a := .bin .add (.var 6) (.con (.int 1))) (j := 12) (m := n + 1) (env := [a0, a1, a2, a3, a4, a5, .val (.int n), .val (tM D.int (momL l1 n)), .val (tM D.int (momL l2 n)), a9, a10, a11, a12, a13, a14]) (fun e => .int (sumF (fun x => pwI x e) (prK 1 l1 l2))) (by (exists true_and); rfl) (by omega) (by simp) fun e he => by
    have c2 := comp_rm (cl := cl) (elt := k70_law_c2e) (a := .bin .add (.var 12) (.con (.int 1))) (j := 13) (m := e + 1) (env := [a0, a1, a2, a3, a4, a5, .val (.int n), .val (tM D.int (momL l1 n)), .val (tM D.int (momL l2 n)), a9, a10, a11, .val (nI e), a13, a14]) (fun i => .int ((chK e i : Int) * sumF (fun x => pwI x i) l1 * sumF (fun x => pwI x (e - i)) l2)) (by (exists true_and); rfl) (by omega) (by simp) fun i hi => by
      have i1 := momL_at (l := l1) (n := n) (e := i) (by omega)
      have i2 : idxV (tM D.int (momL l2 n)) (.int ((e : Int) - (i : Int))) = some (.int (sumF (fun x => pwI x (e - i)) l2)) := by
        rw [show (e : Int) - (i : Int) = ((e - i : Nat) : Int) by omega]; exact momL_at (by omega)
      have b1 := mom_small h1 (e := i) (by omega)
      have b2 := mom_small h2 (e := e - i) (by omega)
      have b3 := chK_small e (by omega) i (by omega)
      have w := hw e i (by omega) (by omega)
      have m1 : binV .mul (.int (chK e i)) (.int (sumF (fun x => pwI x i) l1)) = some (.int ((chK e i : Int) * sumF (fun x => pwI x i) l1)) := mul_int (mulOk_small (log_of (by omega)) (log_of (by omega)))
      have b4 : ((chK e i : Int) * sumF (fun x => pwI x i) l1).natAbs ≤ 20 * 43740000000 := by
        rw [Int.natAbs_mul]; exact Nat.mul_le_mul (by omega) b1
      have m2 : binV .mul (.int ((chK e i : Int) * sumF (fun x => pwI x i) l1)) (.int (sumF (fun x => pwI x (e - i)) l2)) = some (.int ((chK e i : Int) * sumF (fun x => pwI x i) l1 * sumF (fun x => pwI x (e - i)) l2)) := mul_int (mulOk_small (log_of (by omega)) (log_of (by omega)))
      generalize tM D.int (momL l1 n) = M1 at i1 ⊢
      generalize tM D.int (momL l2 n) = M2 at i2 ⊢
      generalize sumF (fun x => pwI x i) l1 = S1 at i1 m1 m2 ⊢
      generalize sumF (fun x => pwI x (e - i)) l2 = S2 at i2 m2 ⊢
      exact ⟨.val (.int ((chK e i : Int) * S1 * S2)), by (exists k70_law_c2e, w, i1, i2, m1, m2), rfl⟩
    have c2' : evalE cl k70_law_c2 _ = .ok (.fresh (lM D.int ((List.range (e + 1)).map fun i => (chK e i : Int) * sumF (fun x => pwI x i) l1 * sumF (fun x => pwI x (e - i)) l2))) _ := c2.trans (by rw [lM_map D.int fun i => (chK e i : Int) * sumF (fun x => pwI x i) l1 * sumF (fun x => pwI x (e - i)) l2])
    have su := sR_list (e + 1) fun i => (chK e i : Int) * sumF (fun x => pwI x i) l1 * sumF (fun x => pwI x (e - i)) l2
    rw [← sumF_prK1] at su
    clear c2
    generalize lM D.int ((List.range (e + 1)).map fun i => (chK e i : Int) * sumF (fun x => pwI x i) l1 * sumF (fun x => pwI x (e - i)) l2) = Z at c2' su
    generalize tM D.int (momL l1 n) = M1 at c2' ⊢
    generalize tM D.int (momL l2 n) = M2 at c2' ⊢
    exact ⟨.val (.int (sumF (fun x => pwI x e) (prK 1 l1 l2))), by (exists k70_law_c3e, c2', su), rfl⟩
  exact c.trans (by rw [lM_map D.int fun e => sumF (fun x => pwI x e) (prK 1 l1 l2)]; rfl)
end Pd
set_option autoImplicit false
set_option linter.all false
set_option maxRecDepth 100000
namespace Pd
open PySem (Str)
theorem lent_call2 {cl : Caller} {f : Nat} {x y : DrS} {a b r : D} {env : Env} {i : Nat} (he : env[i]? = some (.own x.d)) (h : cl f [.own x.d, .val a, .val b] = .ok r false [y.d]) : callR cl f [true, false, false] [.slot i, .val a, .val b] env = .ok (.val r) (env.set i (.own y.d)) := by
  have hl : lendS env [true, false, false] [.slot i, .val a, .val b] = some [.own x.d, .val a, .val b] := by
    show (match env[i]? with | some (.own d) => _ | _ => none) = _
    rw [he]
    rfl
  exact callR_of (new := false) (by simp [lentOf, nodupB]) hl h rfl
/-- what the law calls -/
structure K70C (cl : Caller) : Prop where
  take : TakeC cl 12 1
  mix : ∀ hi : Nat, hi ≤ 30 → ∀ x : DrS, x.Ok → x.s < 2147483648 → ∃ y : DrS, y.Ok ∧ y.s < 2147483648 ∧ ∃ l, LMx l ∧ ∀ env : Env, env[1]? = some (.own x.d) → callR cl 13 [true, false, false] [.slot 1, .val (.int 3), .val (.int hi)] env = .ok (.val (mxD l)) (env.set 1 (.own y.d))
  odd : ∀ l, LMx l → ∀ x : DrS, x.Ok → x.s < 2147483648 → ∃ y : DrS, y.Ok ∧ y.s < 2147483648 ∧ ∃ o, NoMx o ∧ ∀ env : Env, env[1]? = some (.own x.d) → callR cl 14 [true, false] [.slot 1, .val (mxD l)] env = .ok (.val o) (env.set 1 (.own y.d))
  told : ∀ k, k ≤ 1 → ∀ l1 l2, LMx l1 → LMx l2 → ∀ env, callR cl 17 [false, false, false] [.val (.int (k : Nat)), .val (mxD l1), .val (mxD l2)] env = .ok (.val (tolD (gathR (prK k l1 l2)))) env
  pairs : ∀ k, k ≤ 1 → ∀ l1 l2, LMx l1 → LMx l2 → ∀ env, callR cl 16 [false, false, false] [.val (mxD l1), .val (mxD l2), .val (.int (k : Nat))] env = .ok (.val (tolD (gathR (prK k l1 l2)))) env
  mom : ∀ l, mixB l = true → ∀ n, n ≤ 12 → ∀ env, callR cl 7 [false, false] [.val (mxD l), .val (.int (n : Nat))] env = .ok (.val (tM D.int (momL l n))) env
  ways : ∀ n k : Nat, n < 7 → k ≤ n → ∀ env, callR cl 15 [false, false] [.val (.int n), .val (.int k)] env = .ok (.val (.int (chK n k))) env
  bad1 : ∀ o, NoMx o → ∀ x k, k ≤ 1 → ∀ env, callR cl 17 [false, false, false] [.val (.int (k : Nat)), .val o, .val x] env = .ok (.val (.str "<malformed>")) env
  bad2 : ∀ o, NoMx o → ∀ l, LMx l → ∀ k, k ≤ 1 → ∀ env, callR cl 17 [false, false, false] [.val (.int (k : Nat)), .val (mxD l), .val o] env = .ok (.val (.str "<malformed>")) env
theorem k70C : K70C (callF k70F 39) where
  take := takeC (fs := k70F) (f := 12) rfl 38 1
  mix hi hh x hx hxs := by
    obtain ⟨y, hy, hys, l, hl, h⟩ := k70_mixture 37 hi hh x hx hxs
    exact ⟨y, hy, hys, l, hl, fun env he => lent_call2 he h⟩
  odd l hl x hx hxs := by
    obtain ⟨y, hy, hys, o, ho, h⟩ := k70_odd_run 37 x hx hxs l hl
    exact ⟨y, hy, hys, o, odd_no hl o ho, fun env he => lent_call he h⟩
  told k hk l1 l2 h1 h2 := cv3 (k70_told_run 33 k hk l1 l2 h1.ok h2.ok h1.len h2.len)
  pairs k hk l1 l2 h1 h2 := cv3 (k70_pairs_run 38 k hk l1 l2 h1 h2)
  mom l h n hn := cv2 (k70_moments_run 34 l h n hn)
  ways n k hn hk := cv2 (k70_ways hn hk)
  bad1 o h x k hk := cv3 (bad_told 33 k hk (bad_p1 h x 33) (bad_s1 h x 33))
  bad2 o h l hl k hk := cv3 (bad_told 33 k hk (bad_p2 h hl.ok 33) (bad_s2 h hl.ok 33))
end Pd
set_option autoImplicit false
set_option linter.all false
set_option maxRecDepth 100000
namespace Pd
open PySem (Str)
theorem k70_b4 (cl : Caller) (c : K70C cl) (l1 l2 : List (Int × Int)) (h1 : LMx l1) (h2 : LMx l2) (n : Nat) (hn : n ≤ 6) (k : Nat) (hk : k ≤ 1) (a0 a1 a2 a3 a10 a11 a12 a13 a14 : Slot) :
    ∃ s10 s11, evalSs cl k70_law_b4 [a0, a1, a2, a3, .val (mxD l1), .val (mxD l2), .val (.int n), .val (tM D.int (momL l1 n)), .val (tM D.int (momL l2 n)), .val (.int k), a10, a11, a12, a13, a14] = .nx [a0, a1, a2, a3, .val (mxD l1), .val (mxD l2), .val (.int n), .val (tM D.int (momL l1 n)), .val (tM D.int (momL l2 n)), .val (.int k), s10, s11, a12, a13, a14] := by
  have t := c.told k hk l1 l2 h1 h2
  have p := c.pairs k hk l1 l2 h1 h2
  have rp := tol_repr (gathR (prK k l1 l2))
  have ns := ne_shown (tolD (gathR (prK k l1 l2)))
  have mks := mkO_shown (tolD (gathR (prK k l1 l2)))
  have d0 := fun a9 a10 a11 a12 a13 a14 => k70_due0 cl l1 l2 h1 h2 n hn a0 a1 a2 a3 (.val (mxD l1)) (.val (mxD l2)) a9 a10 a11 a12 a13 a14
  have d1 := fun a9 a10 a11 a12 a13 a14 => k70_due1 cl c.ways l1 l2 h1 h2 n hn a0 a1 a2 a3 (.val (mxD l1)) (.val (mxD l2)) a9 a10 a11 a12 a13 a14
  have mom := fun hm => c.mom (gathR (prK k l1 l2)) hm n (by omega)
  have md := mom_due k l1 l2 n
  have k0 : decide (((0 : Nat) : Int) = 1) = false := rfl
  have k1 : decide (((1 : Nat) : Int) = 1) = true := rfl
  have tu : ∀ l : List Int, bltV .tuple [lM D.int l] = some (tM D.int l) := fun _ => rfl
  have mkt : ∀ l : List Int, mkO (tM D.int l) = .val (tM D.int l) := fun _ => rfl
  have eqq : ∀ l : List Int, cmpV .ne (tM D.int l) (tM D.int l) = some false := fun l => by
    have := eq_tI l l
    show (cmpV .eq (tM D.int l) (tM D.int l)).map not = _
    rw [this]; simp
  cases hm : mixB (gathR (prK k l1 l2)) with
  | false =>
    have e : tolD (gathR (prK k l1 l2)) = .str "<large>" := by unfold tolD; rw [hm]; rfl
    rw [e] at t p rp ns mks
    have nl : cmpV .ne (.str "<large>") (.str "<large>") = some false := by kernel_rfl
    refine ⟨.val (.str "<large>"), a11, ?_⟩
    generalize shown (.str "<large>") = S at rp ns mks
    clear d0 d1 mom md
    (exists k70_law_b4, t, p, rp, ns, mks, nl)
  | true =>
    have e : tolD (gathR (prK k l1 l2)) = mxD (gathR (prK k l1 l2)) := by unfold tolD; rw [hm]; rfl
    have mom := mom hm
    rw [md] at mom
    rw [e] at t p rp ns mks
    have nl : cmpV .ne (mxD (gathR (prK k l1 l2))) (.str "<large>") = some true := by
      show (if D.plain 60 (mxD (gathR (prK k l1 l2))) && D.plain 60 (.str "<large>") then some (D.eqv (mxD (gathR (prK k l1 l2))) (.str "<large>")) else none).map not = _
      rw [show D.plain 60 (mxD (gathR (prK k l1 l2))) = true from mx_plain _, show D.plain 60 (.str "<large>") = true by decide +kernel]; rfl
    clear md e
    generalize shown (mxD (gathR (prK k l1 l2))) = S at rp ns mks
    generalize mxD (gathR (prK k l1 l2)) = R at t p rp nl mom
    generalize mxD l1 = A at t p d0 d1 ⊢
    generalize mxD l2 = B at t p d0 d1 ⊢
    generalize tM D.int (momL l1 n) = M1 at d0 d1 ⊢
    generalize tM D.int (momL l2 n) = M2 at d0 d1 ⊢
    match k, hk with
    | 0, _ => exact ⟨.val R, .val (lM D.int (dueK 0 l1 l2 n)), by (exists k70_law_b4, t, p, rp, ns, mks, nl, d0, k0, mom, tu, mkt, eqq)⟩
    | 1, _ => exact ⟨.val R, .val (lM D.int (dueK 1 l1 l2 n)), by (exists k70_law_b4, t, p, rp, ns, mks, nl, d0, d1, k1, mom, tu, mkt, eqq)⟩
end Pd
set_option autoImplicit false
set_option linter.all false
set_option maxRecDepth 100000
namespace Pd
open PySem (Str)
theorem k70_turn (cl : Caller) (c : K70C cl) (x : DrS) (hx : x.Ok) (hxs : x.s < 2147483648) (a0 a2 a3 a4 a5 a6 a7 a8 a9 a10 a11 a12 a13 a14 : Slot) :
    ∃ e, evalSs cl k70_law_b5 [a0, .own x.d, a2, a3, a4, a5, a6, a7, a8, a9, a10, a11, a12, a13, a14] = .nx e ∧ ∃ y : DrS, y.Ok ∧ y.s < 2147483648 ∧ ∃ l1 l2, LMx l1 ∧ LMx l2 ∧ ∃ s3 s6 s7 s8 s9 s10 s11, e = [a0, .own y.d, a2, s3, .val (mxD l1), .val (mxD l2), s6, s7, s8, s9, s10, s11, a12, a13, a14] := by
  obtain ⟨y1, hy1, hys1, r, hr, t1⟩ := c.take x hx hxs 3 (by omega) (by omega)
  obtain ⟨hi, hh, ix⟩ : ∃ hi : Nat, hi ≤ 30 ∧ idxV (.lst [.int 3, .int 6, .int 30]) (nI r) = some (.int hi) := by
    match r, hr with
    | 0, _ => exact ⟨3, by omega, rfl⟩
    | 1, _ => exact ⟨6, by omega, rfl⟩
    | 2, _ => exact ⟨30, by omega, rfl⟩
  obtain ⟨y2, hy2, hys2, l1, h1, t2⟩ := c.mix hi hh y1 hy1 hys1
  obtain ⟨y3, hy3, hys3, l2, h2, t3⟩ := c.mix hi hh y2 hy2 hys2
  obtain ⟨y4, hy4, hys4, n, hn, t4⟩ := c.take y3 hy3 hys3 7 (by omega) (by omega)
  have m1 := c.mom l1 h1.ok n (by omega)
  have m2 := c.mom l2 h2.ok n (by omega)
  unfold k70_law_b5
  refine ss_q (e := [a0, .own y1.d, a2, .val (.int hi), a4, a5, a6, a7, a8, a9, a10, a11, a12, a13, a14]) (by (exists t1, ix)) ?_
  refine ss_q (e := [a0, .own y4.d, a2, .val (.int hi), .val (mxD l1), .val (mxD l2), .val (.int n), a7, a8, a9, a10, a11, a12, a13, a14]) (by (exists t2, t3, t4)) ?_
  refine ss_q (e := [a0, .own y4.d, a2, .val (.int hi), .val (mxD l1), .val (mxD l2), .val (.int n), .val (tM D.int (momL l1 n)), .val (tM D.int (momL l2 n)), a9, a10, a11, a12, a13, a14]) (by (exists m1, m2)) ?_
  obtain ⟨e, he, s9, s10, s11, rfl⟩ := for_m (cl := cl) (t := .nm 9) (it := .plain (.tup (.cons (.con (.int 0)) (.cons (.con (.int 1)) .nil)))) (b := k70_law_b4) (xs := [0, 1]) (env := [a0, .own y4.d, a2, .val (.int hi), .val (mxD l1), .val (mxD l2), .val (.int n), .val (tM D.int (momL l1 n)), .val (tM D.int (momL l2 n)), a9, a10, a11, a12, a13, a14]) nI
    (fun _ e => ∃ s9 s10 s11, e = [a0, .own y4.d, a2, .val (.int hi), .val (mxD l1), .val (mxD l2), .val (.int n), .val (tM D.int (momL l1 n)), .val (tM D.int (momL l2 n)), s9, s10, s11, a12, a13, a14]) (by (exists true_and); rfl) ⟨_, _, _, rfl⟩ fun i k e hki hI => by
      obtain ⟨s9, s10, s11, rfl⟩ := hI
      have hk : k ≤ 1 := by
        have := List.mem_of_getElem? hki
        simp at this; omega
      obtain ⟨u10, u11, h⟩ := k70_b4 cl c l1 l2 h1 h2 n (by omega) k hk a0 (.own y4.d) a2 (.val (.int hi)) s10 s11 a12 a13 a14
      exact ⟨_, by (exists true_and), _, .inl h, _, _, _, rfl⟩
  exact ss_q he ⟨_, rfl, y4, hy4, hys4, l1, l2, h1, h2, _, _, _, _, _, _, _, rfl⟩
end Pd
set_option autoImplicit false
set_option linter.all false
set_option maxRecDepth 100000
namespace Pd
open PySem (Str)
theorem k70_body (cl : Caller) (c : K70C cl) (ns : List Int) (x : DrS) (hx : x.Ok) (hxs : x.s < 2147483648) (hd : ∀ env, callR cl 11 [false] [.val (.scr (ns.map .int))] env = .ok (.fresh x.d) env) :
    endOf [false] (evalSs cl k70_law.body [.val (.scr (ns.map .int)), .un, .un, .un, .un, .un, .un, .un, .un, .un, .un, .un, .un, .un, .un]) = CRes.ok (.bl true) false [] := by
  generalize D.scr (ns.map .int) = a0 at hd ⊢
  refine ss_step (P := fun f => endOf [false] f = CRes.ok (.bl true) false []) (e := [.val a0, .own x.d, .un, .un, .un, .un, .un, .un, .un, .un, .un, .un, .un, .un, .un]) (by (exists hd)) ?_
  obtain ⟨e, he, y, hy, hys, s2, s3, s4, s5, s6, s7, s8, s9, s10, s11, rfl, hl⟩ := for_r (cl := cl) (t := .nm 2) (a := .con (.int 3)) (b := k70_law_b5) (m := 3) (env := [.val a0, .own x.d, .un, .un, .un, .un, .un, .un, .un, .un, .un, .un, .un, .un, .un])
    (fun t e => ∃ y : DrS, y.Ok ∧ y.s < 2147483648 ∧ ∃ s2 s3 s4 s5 s6 s7 s8 s9 s10 s11, e = [.val a0, .own y.d, s2, s3, s4, s5, s6, s7, s8, s9, s10, s11, .un, .un, .un] ∧ (t ≠ 0 → ∃ l1 l2, LMx l1 ∧ LMx l2 ∧ s4 = .val (mxD l1) ∧ s5 = .val (mxD l2))) (by (exists true_and); rfl) (by omega) ⟨x, hx, hxs, _, _, _, _, _, _, _, _, _, _, rfl, fun z => absurd rfl z⟩ fun t e ht hI => by
      obtain ⟨y, hy, hys, s2, s3, s4, s5, s6, s7, s8, s9, s10, s11, rfl, _⟩ := hI
      obtain ⟨e, h, z, hz, hzs, l1, l2, h1, h2, t3, t6, t7, t8, t9, t10, t11, rfl⟩ := k70_turn cl c y hy hys (.val a0) (.val (nI t)) s3 s4 s5 s6 s7 s8 s9 s10 s11 .un .un .un
      exact ⟨_, by (exists true_and), _, .inl h, z, hz, hzs, _, _, _, _, _, _, _, _, _, _, rfl, fun _ => ⟨l1, l2, h1, h2, rfl, rfl⟩⟩
  obtain ⟨l1, l2, h1, h2, rfl, rfl⟩ := hl (by omega)
  refine ss_step (P := fun f => endOf [false] f = CRes.ok (.bl true) false []) he ?_
  obtain ⟨z, hz, hzs, o, ho, t⟩ := c.odd l1 h1 y hy hys
  refine ss_step (P := fun f => endOf [false] f = CRes.ok (.bl true) false []) (e := [.val a0, .own z.d, s2, s3, .val (mxD l1), .val (mxD l2), s6, s7, s8, s9, s10, s11, .un, .un, .val o]) (by (exists t)) ?_
  have b1 := c.bad1 o ho (mxD l2)
  have b2 := c.bad2 o ho l1 h1
  have c6 := comp_m (cl := cl) (elt := k70_law_c6e) (it := .plain (.tup (.cons (.con (.int 0)) (.cons (.con (.int 1)) .nil)))) (j := 9) (xs := [0, 1]) (env := [.val a0, .own z.d, s2, s3, .val (mxD l1), .val (mxD l2), s6, s7, s8, s9, s10, s11, .un, .un, .val o]) nI (fun _ => .str "<malformed>") (by (exists true_and); rfl) (by decide) (by simp) fun k hk => by
    have b := b1 k (by simp at hk; omega)
    exact ⟨.val (.str "<malformed>"), by (exists k70_law_c6e, b), rfl⟩
  have c7 := comp_m (cl := cl) (elt := k70_law_c7e) (it := .plain (.tup (.cons (.con (.int 0)) (.cons (.con (.int 1)) .nil)))) (j := 9) (xs := [0, 1]) (env := [.val a0, .own z.d, s2, s3, .val (mxD l1), .val (mxD l2), s6, s7, s8, s9, s10, s11, .un, .un, .val o]) nI (fun _ => .str "<malformed>") (by (exists true_and); rfl) (by decide) (by simp) fun k hk => by
    have b := b2 k (by simp at hk; omega)
    exact ⟨.val (.str "<malformed>"), by (exists k70_law_c7e, b), rfl⟩
  have c6' : evalE cl k70_law_c6 _ = .ok (.fresh (.lst [.str "<malformed>", .str "<malformed>"])) _ := c6
  have c7' : evalE cl k70_law_c7 _ = .ok (.fresh (.lst [.str "<malformed>", .str "<malformed>"])) _ := c7
  have ad : binV .add (.lst [.str "<malformed>", .str "<malformed>"]) (.lst [.str "<malformed>", .str "<malformed>"]) = some (.lst [.str "<malformed>", .str "<malformed>", .str "<malformed>", .str "<malformed>"]) := rfl
  have mu : binV .mul (.lst [.str "<malformed>"]) (.int 4) = some (.lst [.str "<malformed>", .str "<malformed>", .str "<malformed>", .str "<malformed>"]) := rfl
  have eq : cmpV .eq (.lst [.str "<malformed>", .str "<malformed>", .str "<malformed>", .str "<malformed>"]) (.lst [.str "<malformed>", .str "<malformed>", .str "<malformed>", .str "<malformed>"]) = some true := by decide +kernel
  clear c6 c7 b1 b2 t
  (exists c6', c7', ad, mu, eq)
theorem k70_run (ns : List Int) (hl : ns.length ≤ 63) : callF k70_st.fs 40 18 [.val (.scr (ns.map .int))] = .ok (.bl true) false [] := by
  rw [callF_at (F := k70_law) (n := 39) rfl rfl rfl (by decide)]
  obtain ⟨x, hx, hxs, hd⟩ := draw_run (fs := k70F) (f := 11) rfl 38 ns hl
  exact k70_body _ k70C ns x hx hxs (cn1 hd)
end Pd
namespace Pd
open PySem PySem.Spec PyProof.Rows L2
def k70_top (i : Nat) : Stmt := PySem.Challenge.pw_risesonce_k70_whole_products_and_sums_of.main.body.getD i (.Pass ⟨0, 0, 0, 0⟩)
theorem k70_chk0 : chkFn k70_st k70_is_whole (k70_top 5) = true := by decide +kernel
theorem k70_scp0 : fnScB k70_is_whole.slots k70_is_whole.pars (defScope (k70_top 5)) = true := by decide +kernel
theorem k70_chk1 : chkFn k70_st k70_is_pair (k70_top 11) = true := by decide +kernel
theorem k70_scp1 : fnScB k70_is_pair.slots k70_is_pair.pars (defScope (k70_top 11)) = true := by decide +kernel
theorem k70_chk2 : chkFn k70_st k70_is_mixture (k70_top 12) = true := by decide +kernel
theorem k70_scp2 : fnScB k70_is_mixture.slots k70_is_mixture.pars (defScope (k70_top 12)) = true := by decide +kernel
theorem k70_chk3 : chkFn k70_st k70_check_mixture (k70_top 13) = true := by decide +kernel
theorem k70_scp3 : fnScB k70_check_mixture.slots k70_check_mixture.pars (defScope (k70_top 13)) = true := by decide +kernel
theorem k70_chk4 : chkFn k70_st k70_check_degree (k70_top 14) = true := by decide +kernel
theorem k70_scp4 : fnScB k70_check_degree.slots k70_check_degree.pars (defScope (k70_top 14)) = true := by decide +kernel
theorem k70_chk5 : chkFn k70_st k70_power (k70_top 15) = true := by decide +kernel
theorem k70_scp5 : fnScB k70_power.slots k70_power.pars (defScope (k70_top 15)) = true := by decide +kernel
theorem k70_chk6 : chkFn k70_st k70_moment_row (k70_top 16) = true := by decide +kernel
theorem k70_scp6 : fnScB k70_moment_row.slots k70_moment_row.pars (defScope (k70_top 16)) = true := by decide +kernel
theorem k70_chk7 : chkFn k70_st k70_moments (k70_top 17) = true := by decide +kernel
theorem k70_scp7 : fnScB k70_moments.slots k70_moments.pars (defScope (k70_top 17)) = true := by decide +kernel
theorem k70_chk8 : chkFn k70_st k70_gathered (k70_top 18) = true := by decide +kernel
theorem k70_scp8 : fnScB k70_gathered.slots k70_gathered.pars (defScope (k70_top 18)) = true := by decide +kernel
theorem k70_chk9 : chkFn k70_st k70_product_of (k70_top 19) = true := by decide +kernel
theorem k70_scp9 : fnScB k70_product_of.slots k70_product_of.pars (defScope (k70_top 19)) = true := by decide +kernel
theorem k70_chk10 : chkFn k70_st k70_sum_of (k70_top 20) = true := by decide +kernel
theorem k70_scp10 : fnScB k70_sum_of.slots k70_sum_of.pars (defScope (k70_top 20)) = true := by decide +kernel
theorem k70_chk11 : chkFn k70_st k70_law_draw (k70_top 22) = true := by decide +kernel
theorem k70_scp11 : fnScB k70_law_draw.slots k70_law_draw.pars (defScope (k70_top 22)) = true := by decide +kernel
theorem k70_chk12 : chkFn k70_st k70_law_take (k70_top 23) = true := by decide +kernel
theorem k70_scp12 : fnScB k70_law_take.slots k70_law_take.pars (defScope (k70_top 23)) = true := by decide +kernel
theorem k70_chk13 : chkFn k70_st k70_law_mixture (k70_top 24) = true := by decide +kernel
theorem k70_scp13 : fnScB k70_law_mixture.slots k70_law_mixture.pars (defScope (k70_top 24)) = true := by decide +kernel
theorem k70_chk14 : chkFn k70_st k70_law_odd_mixture (k70_top 27) = true := by decide +kernel
theorem k70_scp14 : fnScB k70_law_odd_mixture.slots k70_law_odd_mixture.pars (defScope (k70_top 27)) = true := by decide +kernel
theorem k70_chk15 : chkFn k70_st k70_law_ways (k70_top 29) = true := by decide +kernel
theorem k70_scp15 : fnScB k70_law_ways.slots k70_law_ways.pars (defScope (k70_top 29)) = true := by decide +kernel
theorem k70_chk16 : chkFn k70_st k70_law_pairs (k70_top 30) = true := by decide +kernel
theorem k70_scp16 : fnScB k70_law_pairs.slots k70_law_pairs.pars (defScope (k70_top 30)) = true := by decide +kernel
theorem k70_chk17 : chkFn k70_st k70_law_told (k70_top 31) = true := by decide +kernel
theorem k70_scp17 : fnScB k70_law_told.slots k70_law_told.pars (defScope (k70_top 31)) = true := by decide +kernel
theorem k70_chk18 : chkFn k70_st k70_law (k70_top 32) = true := by decide +kernel
theorem k70_scp18 : fnScB k70_law.slots k70_law.pars (defScope (k70_top 32)) = true := by decide +kernel
theorem k70_ib1 : siBody "self" "reason" "reason" (defBody (initOf 0 (k70_top 3))) = true := by decide +kernel
theorem k70_is1 : siScp "self" "reason" (defArgs (initOf 0 (k70_top 3))) (defScope (initOf 0 (k70_top 3))) = true := by decide +kernel
def k70_pl (K : PySem.W.Frag) (fs cs : List Addr) : Pl := { K := K, fa := fun i => fs.getD i 0, ca := fun i => cs.getD i 0, cf := fun i => [("" : Str), ("reason" : Str)].getD i "", lx := fun _ => none, hx := none, nc := 2 }
set_option maxHeartbeats 8000000 in
theorem k70_mk {K : PySem.W.Frag} {h : Heap} {mg : Str → Option Value} {Pg : Program} {w : World} {fa : Addr} (X : K.In h) (G : h.Ns mainGlobals mg) (hfa : mg "law" = some (.ref fa))
    {f0 : Addr} {oc0 kV0 dc0 pm0 cd0 ct0 : Value} {od0 an0 : Option Addr} {sl0 : Array (Option Value)}
    {f1 : Addr} {oc1 kV1 dc1 pm1 cd1 ct1 : Value} {od1 an1 : Option Addr} {sl1 : Array (Option Value)}
    {f2 : Addr} {oc2 kV2 dc2 pm2 cd2 ct2 : Value} {od2 an2 : Option Addr} {sl2 : Array (Option Value)}
    {f3 : Addr} {oc3 kV3 dc3 pm3 cd3 ct3 : Value} {od3 an3 : Option Addr} {sl3 : Array (Option Value)}
    {f4 : Addr} {oc4 kV4 dc4 pm4 cd4 ct4 : Value} {od4 an4 : Option Addr} {sl4 : Array (Option Value)}
    {f5 : Addr} {oc5 kV5 dc5 pm5 cd5 ct5 : Value} {od5 an5 : Option Addr} {sl5 : Array (Option Value)}
    {f6 : Addr} {oc6 kV6 dc6 pm6 cd6 ct6 : Value} {od6 an6 : Option Addr} {sl6 : Array (Option Value)}
    {f7 : Addr} {oc7 kV7 dc7 pm7 cd7 ct7 : Value} {od7 an7 : Option Addr} {sl7 : Array (Option Value)}
    {f8 : Addr} {oc8 kV8 dc8 pm8 cd8 ct8 : Value} {od8 an8 : Option Addr} {sl8 : Array (Option Value)}
    {f9 : Addr} {oc9 kV9 dc9 pm9 cd9 ct9 : Value} {od9 an9 : Option Addr} {sl9 : Array (Option Value)}
    {f10 : Addr} {oc10 kV10 dc10 pm10 cd10 ct10 : Value} {od10 an10 : Option Addr} {sl10 : Array (Option Value)}
    {f11 : Addr} {oc11 kV11 dc11 pm11 cd11 ct11 : Value} {od11 an11 : Option Addr} {sl11 : Array (Option Value)}
    {f12 : Addr} {oc12 kV12 dc12 pm12 cd12 ct12 : Value} {od12 an12 : Option Addr} {sl12 : Array (Option Value)}
    {f13 : Addr} {oc13 kV13 dc13 pm13 cd13 ct13 : Value} {od13 an13 : Option Addr} {sl13 : Array (Option Value)}
    {f14 : Addr} {oc14 kV14 dc14 pm14 cd14 ct14 : Value} {od14 an14 : Option Addr} {sl14 : Array (Option Value)}
    {f15 : Addr} {oc15 kV15 dc15 pm15 cd15 ct15 : Value} {od15 an15 : Option Addr} {sl15 : Array (Option Value)}
    {f16 : Addr} {oc16 kV16 dc16 pm16 cd16 ct16 : Value} {od16 an16 : Option Addr} {sl16 : Array (Option Value)}
    {f17 : Addr} {oc17 kV17 dc17 pm17 cd17 ct17 : Value} {od17 an17 : Option Addr} {sl17 : Array (Option Value)}
    {f18 : Addr} {oc18 kV18 dc18 pm18 cd18 ct18 : Value} {od18 an18 : Option Addr} {sl18 : Array (Option Value)}
    {e0 : Addr}
    {e1 : Addr}
    {jf1 jc1 jd1 : Addr} {joc1 jkV1 jdc1 jpm1 jct1 jcc1 jcl1 : Value} {jod1 jan1 jcd1 jce1 : Option Addr} {jsl1 jcs1 jct21 : Array (Option Value)} {jvs1 : Array Value} {jfi1 : Str} {jtf1 : Tok} {jnm1 jqn1 : Str} {jN1 : Addr} {jbs1 jbm1 : List Value} {jsn1 : List Str} {jsb1 : List Value} {jab1 : Bool} {jco1 : Option Bool} {jdd1 : Option Addr} {jk01 jk11 jk21 jk31 jk51 : Option Value}
    {t0 : Tok}
    {t1 : Tok}
    {t2 : Tok}
    {t3 : Tok}
    (a0 : PySem.W.nsIn K mainGlobals "is_whole" = some (some (.ref f0))) (l0 : K.lookup f0 = some ⟨oc0, od0, .func (PySem.W.fnOf "is_whole" "is_whole" (defArgs (k70_top 5)) (defBody (k70_top 5)) (defScope (k70_top 5)) .none kV0 dc0 pm0 an0 cd0 ct0), sl0⟩) (c0 : PySem.W.codeIn K cd0 "is_whole" = true) (k0 : PySem.W.keepIn K (.ref f0) = true)
    (a1 : PySem.W.nsIn K mainGlobals "is_pair" = some (some (.ref f1))) (l1 : K.lookup f1 = some ⟨oc1, od1, .func (PySem.W.fnOf "is_pair" "is_pair" (defArgs (k70_top 11)) (defBody (k70_top 11)) (defScope (k70_top 11)) .none kV1 dc1 pm1 an1 cd1 ct1), sl1⟩) (c1 : PySem.W.codeIn K cd1 "is_pair" = true) (k1 : PySem.W.keepIn K (.ref f1) = true)
    (a2 : PySem.W.nsIn K mainGlobals "is_mixture" = some (some (.ref f2))) (l2 : K.lookup f2 = some ⟨oc2, od2, .func (PySem.W.fnOf "is_mixture" "is_mixture" (defArgs (k70_top 12)) (defBody (k70_top 12)) (defScope (k70_top 12)) .none kV2 dc2 pm2 an2 cd2 ct2), sl2⟩) (c2 : PySem.W.codeIn K cd2 "is_mixture" = true) (k2 : PySem.W.keepIn K (.ref f2) = true)
    (a3 : PySem.W.nsIn K mainGlobals "check_mixture" = some (some (.ref f3))) (l3 : K.lookup f3 = some ⟨oc3, od3, .func (PySem.W.fnOf "check_mixture" "check_mixture" (defArgs (k70_top 13)) (defBody (k70_top 13)) (defScope (k70_top 13)) .none kV3 dc3 pm3 an3 cd3 ct3), sl3⟩) (c3 : PySem.W.codeIn K cd3 "check_mixture" = true) (k3 : PySem.W.keepIn K (.ref f3) = true)
    (a4 : PySem.W.nsIn K mainGlobals "check_degree" = some (some (.ref f4))) (l4 : K.lookup f4 = some ⟨oc4, od4, .func (PySem.W.fnOf "check_degree" "check_degree" (defArgs (k70_top 14)) (defBody (k70_top 14)) (defScope (k70_top 14)) .none kV4 dc4 pm4 an4 cd4 ct4), sl4⟩) (c4 : PySem.W.codeIn K cd4 "check_degree" = true) (k4 : PySem.W.keepIn K (.ref f4) = true)
    (a5 : PySem.W.nsIn K mainGlobals "power" = some (some (.ref f5))) (l5 : K.lookup f5 = some ⟨oc5, od5, .func (PySem.W.fnOf "power" "power" (defArgs (k70_top 15)) (defBody (k70_top 15)) (defScope (k70_top 15)) .none kV5 dc5 pm5 an5 cd5 ct5), sl5⟩) (c5 : PySem.W.codeIn K cd5 "power" = true) (k5 : PySem.W.keepIn K (.ref f5) = true)
    (a6 : PySem.W.nsIn K mainGlobals "moment_row" = some (some (.ref f6))) (l6 : K.lookup f6 = some ⟨oc6, od6, .func (PySem.W.fnOf "moment_row" "moment_row" (defArgs (k70_top 16)) (defBody (k70_top 16)) (defScope (k70_top 16)) .none kV6 dc6 pm6 an6 cd6 ct6), sl6⟩) (c6 : PySem.W.codeIn K cd6 "moment_row" = true) (k6 : PySem.W.keepIn K (.ref f6) = true)
    (a7 : PySem.W.nsIn K mainGlobals "moments" = some (some (.ref f7))) (l7 : K.lookup f7 = some ⟨oc7, od7, .func (PySem.W.fnOf "moments" "moments" (defArgs (k70_top 17)) (defBody (k70_top 17)) (defScope (k70_top 17)) .none kV7 dc7 pm7 an7 cd7 ct7), sl7⟩) (c7 : PySem.W.codeIn K cd7 "moments" = true) (k7 : PySem.W.keepIn K (.ref f7) = true)
    (a8 : PySem.W.nsIn K mainGlobals "gathered" = some (some (.ref f8))) (l8 : K.lookup f8 = some ⟨oc8, od8, .func (PySem.W.fnOf "gathered" "gathered" (defArgs (k70_top 18)) (defBody (k70_top 18)) (defScope (k70_top 18)) .none kV8 dc8 pm8 an8 cd8 ct8), sl8⟩) (c8 : PySem.W.codeIn K cd8 "gathered" = true) (k8 : PySem.W.keepIn K (.ref f8) = true)
    (a9 : PySem.W.nsIn K mainGlobals "product_of" = some (some (.ref f9))) (l9 : K.lookup f9 = some ⟨oc9, od9, .func (PySem.W.fnOf "product_of" "product_of" (defArgs (k70_top 19)) (defBody (k70_top 19)) (defScope (k70_top 19)) .none kV9 dc9 pm9 an9 cd9 ct9), sl9⟩) (c9 : PySem.W.codeIn K cd9 "product_of" = true) (k9 : PySem.W.keepIn K (.ref f9) = true)
    (a10 : PySem.W.nsIn K mainGlobals "sum_of" = some (some (.ref f10))) (l10 : K.lookup f10 = some ⟨oc10, od10, .func (PySem.W.fnOf "sum_of" "sum_of" (defArgs (k70_top 20)) (defBody (k70_top 20)) (defScope (k70_top 20)) .none kV10 dc10 pm10 an10 cd10 ct10), sl10⟩) (c10 : PySem.W.codeIn K cd10 "sum_of" = true) (k10 : PySem.W.keepIn K (.ref f10) = true)
    (a11 : PySem.W.nsIn K mainGlobals "_law_draw" = some (some (.ref f11))) (l11 : K.lookup f11 = some ⟨oc11, od11, .func (PySem.W.fnOf "_law_draw" "_law_draw" (defArgs (k70_top 22)) (defBody (k70_top 22)) (defScope (k70_top 22)) .none kV11 dc11 pm11 an11 cd11 ct11), sl11⟩) (c11 : PySem.W.codeIn K cd11 "_law_draw" = true) (k11 : PySem.W.keepIn K (.ref f11) = true)
    (a12 : PySem.W.nsIn K mainGlobals "_law_take" = some (some (.ref f12))) (l12 : K.lookup f12 = some ⟨oc12, od12, .func (PySem.W.fnOf "_law_take" "_law_take" (defArgs (k70_top 23)) (defBody (k70_top 23)) (defScope (k70_top 23)) .none kV12 dc12 pm12 an12 cd12 ct12), sl12⟩) (c12 : PySem.W.codeIn K cd12 "_law_take" = true) (k12 : PySem.W.keepIn K (.ref f12) = true)
    (a13 : PySem.W.nsIn K mainGlobals "_law_mixture" = some (some (.ref f13))) (l13 : K.lookup f13 = some ⟨oc13, od13, .func (PySem.W.fnOf "_law_mixture" "_law_mixture" (defArgs (k70_top 24)) (defBody (k70_top 24)) (defScope (k70_top 24)) .none kV13 dc13 pm13 an13 cd13 ct13), sl13⟩) (c13 : PySem.W.codeIn K cd13 "_law_mixture" = true) (k13 : PySem.W.keepIn K (.ref f13) = true)
    (a14 : PySem.W.nsIn K mainGlobals "_law_odd_mixture" = some (some (.ref f14))) (l14 : K.lookup f14 = some ⟨oc14, od14, .func (PySem.W.fnOf "_law_odd_mixture" "_law_odd_mixture" (defArgs (k70_top 27)) (defBody (k70_top 27)) (defScope (k70_top 27)) .none kV14 dc14 pm14 an14 cd14 ct14), sl14⟩) (c14 : PySem.W.codeIn K cd14 "_law_odd_mixture" = true) (k14 : PySem.W.keepIn K (.ref f14) = true)
    (a15 : PySem.W.nsIn K mainGlobals "_law_ways" = some (some (.ref f15))) (l15 : K.lookup f15 = some ⟨oc15, od15, .func (PySem.W.fnOf "_law_ways" "_law_ways" (defArgs (k70_top 29)) (defBody (k70_top 29)) (defScope (k70_top 29)) .none kV15 dc15 pm15 an15 cd15 ct15), sl15⟩) (c15 : PySem.W.codeIn K cd15 "_law_ways" = true) (k15 : PySem.W.keepIn K (.ref f15) = true)
    (a16 : PySem.W.nsIn K mainGlobals "_law_pairs" = some (some (.ref f16))) (l16 : K.lookup f16 = some ⟨oc16, od16, .func (PySem.W.fnOf "_law_pairs" "_law_pairs" (defArgs (k70_top 30)) (defBody (k70_top 30)) (defScope (k70_top 30)) .none kV16 dc16 pm16 an16 cd16 ct16), sl16⟩) (c16 : PySem.W.codeIn K cd16 "_law_pairs" = true) (k16 : PySem.W.keepIn K (.ref f16) = true)
    (a17 : PySem.W.nsIn K mainGlobals "_law_told" = some (some (.ref f17))) (l17 : K.lookup f17 = some ⟨oc17, od17, .func (PySem.W.fnOf "_law_told" "_law_told" (defArgs (k70_top 31)) (defBody (k70_top 31)) (defScope (k70_top 31)) .none kV17 dc17 pm17 an17 cd17 ct17), sl17⟩) (c17 : PySem.W.codeIn K cd17 "_law_told" = true) (k17 : PySem.W.keepIn K (.ref f17) = true)
    (a18 : PySem.W.nsIn K mainGlobals "law" = some (some (.ref f18))) (l18 : K.lookup f18 = some ⟨oc18, od18, .func (PySem.W.fnOf "law" "law" (defArgs (k70_top 32)) (defBody (k70_top 32)) (defScope (k70_top 32)) .none kV18 dc18 pm18 an18 cd18 ct18), sl18⟩) (c18 : PySem.W.codeIn K cd18 "law" = true) (k18 : PySem.W.keepIn K (.ref f18) = true)
    (b0 : PySem.W.nsIn K mainGlobals "Malformed" = some (some (.ref e0)))
    (bb0 : PySem.W.subIn K (.ref e0) (.type "BaseException") = some true) (bt0 : PySem.W.typeIn K (.ref e0) = some (.type "type")) (bd0 : PySem.W.hasDictIn K e0 = true)
    (bx0 : PySem.W.excIn K e0 [.type "ValueError", .type "Exception", .type "BaseException", .type "object"] "ValueError.__new__" = true) (bk0 : PySem.W.keepIn K (.ref e0) = true)
    (b1 : PySem.W.nsIn K mainGlobals "Refused" = some (some (.ref e1)))
    (bb1 : PySem.W.subIn K (.ref e1) (.type "BaseException") = some true) (bt1 : PySem.W.typeIn K (.ref e1) = some (.type "type")) (bd1 : PySem.W.hasDictIn K e1 = true)
    (be0_0 : PySem.W.subIn K (.ref e0) (.ref e0) = some true)
    (be0_1 : PySem.W.subIn K (.ref e0) (.ref e1) = some false)
    (be1_0 : PySem.W.subIn K (.ref e1) (.ref e0) = some false)
    (be1_1 : PySem.W.subIn K (.ref e1) (.ref e1) = some true)
    (xa1 : PySem.W.findIn K (.ref e1) "__getattribute__" = some (some (.builtin "BaseException.__getattribute__"))) (xb1 : PySem.W.findIn K (.ref e1) "__getattr__" = some none) (xc1 : PySem.W.subIn K (.ref e1) (.type "BaseException") = some true) (xd1 : PySem.W.hasDictIn K e1 = true) (xe1 : PySem.W.findIn K (.ref e1) "__class__" = some (some (.builtin "object.__class__"))) (xf1 : PySem.W.specialIn K (.builtin "object.__class__") "__get__" = some (some (.builtin "getset_descriptor.__get__"))) (xg1 : PySem.W.takesIn K (.builtin "object.__class__") = some true) (xh1 : PySem.W.mroIn K e1 (.type "object") = some true)
    (ja1 : PySem.W.findIn K (.ref e1) "__init__" = some (some (.ref jf1))) (jb1 : PySem.W.typeIn K (.ref jf1) = some (.type "function")) (jl1 : K.lookup jf1 = some ⟨joc1, jod1, .func (PySem.W.fnX "__init__" "Refused.__init__" (defArgs (initOf 0 (k70_top 3))) (defBody (initOf 0 (k70_top 3))) (defScope (initOf 0 (k70_top 3))) [("__class__", jc1)] .none jkV1 jdc1 jpm1 jan1 (.ref jd1) jct1), jsl1⟩) (jm1 : PySem.W.codeIn K (.ref jd1) "Refused.__init__" = true)
    (jn1 : K.lookup jd1 = some ⟨jcc1, jcd1, .fields jvs1, jcs1⟩) (jo1 : jvs1[2]? = some (.str jfi1 jtf1)) (jp1 : ((Pg.main.file : Str) == jfi1) = true) (jq1 : K.lookup jc1 = some ⟨jcl1, jce1, .cell (some (.ref e1)), jct21⟩) (jr1 : PySem.W.nsIn K mainGlobals "super" = some none) (js1 : (Pg.main.scope.names.lookup ("super" : Str)).isSome = false)
    (jt1 : K.lookup e1 = some (excClassObj jnm1 jqn1 e1 jN1 jbs1 jbm1 true jsn1 jsb1 jab1 jco1 jdd1 jk01 jk11 jk21 jk31 jk51 "ValueError.__new__")) (ju1 : PySem.HandSPX.refsVE jbm1 = true) (jv1 : PySem.W.findIn K (.ref e1) "__setattr__" = some (some (.builtin "object.__setattr__"))) (jw1 : PySem.W.keepIn K (.ref e1) = true) (jx1 : PySem.W.mroIn K e1 (.ref e1) = some true) (jy1 : PySem.W.ks_superIn K e1 e1 "__init__" = some (some (.builtin "ValueError.__init__"))) (jz1 : PySem.W.subIn K (.ref e1) (.type "ValueError") = some true) (jg1 : PySem.W.nsIn K cStatics "thirdparty.any" = some none) (jh1 : PySem.W.findIn K (.ref e1) "reason" = some none)
    (ga0 : PySem.W.nsIn K mainGlobals "MOST_POINT" = some (some (Value.int 30 t0)))
    (ga1 : PySem.W.nsIn K mainGlobals "MOST_WEIGHT" = some (some (Value.int 1000000 t1)))
    (ga2 : PySem.W.nsIn K mainGlobals "MOST_POINTS" = some (some (Value.int 8 t2)))
    (ga3 : PySem.W.nsIn K mainGlobals "MOST_DEGREE" = some (some (Value.int 12 t3)))
    (z0 : PySem.W.nsIn K mainGlobals "isinstance" = some none)
    (z1 : PySem.W.nsIn K mainGlobals "int" = some none)
    (z2 : PySem.W.nsIn K mainGlobals "bool" = some none)
    (z3 : PySem.W.nsIn K mainGlobals "tuple" = some none)
    (z4 : PySem.W.nsIn K mainGlobals "len" = some none)
    (z5 : PySem.W.nsIn K mainGlobals "all" = some none)
    (z6 : PySem.W.nsIn K mainGlobals "zip" = some none)
    (z7 : PySem.W.nsIn K mainGlobals "range" = some none)
    (z8 : PySem.W.nsIn K mainGlobals "sum" = some none)
    (z9 : PySem.W.nsIn K mainGlobals "sorted" = some none)
    (z10 : PySem.W.nsIn K mainGlobals "abs" = some none)
    (z11 : PySem.W.nsIn K mainGlobals "list" = some none)
    (z12 : PySem.W.nsIn K mainGlobals "max" = some none)
    (z13 : PySem.W.nsIn K mainGlobals "repr" = some none) :
    ∃ fd : FuncData, (∀ (s : Shared) (v : Value), BindsTo s fd ⟨[v], []⟩ [("script", v)]) ∧ ∀ base : Heap, K.In base → base.Ns mainGlobals mg → FnG Pg w K mg base (L2.CX Pg w) 41 fa fd ["script"] (spLaw K) := by
  have e : f18 = fa := by
    have e := hfa.symm.trans (PySem.W.mg_of X G a18)
    cases e
    rfl
  subst e
  have F0 := fun_mk (st := k70_top 5) l0 c0 k0
  have F1 := fun_mk (st := k70_top 11) l1 c1 k1
  have F2 := fun_mk (st := k70_top 12) l2 c2 k2
  have F3 := fun_mk (st := k70_top 13) l3 c3 k3
  have F4 := fun_mk (st := k70_top 14) l4 c4 k4
  have F5 := fun_mk (st := k70_top 15) l5 c5 k5
  have F6 := fun_mk (st := k70_top 16) l6 c6 k6
  have F7 := fun_mk (st := k70_top 17) l7 c7 k7
  have F8 := fun_mk (st := k70_top 18) l8 c8 k8
  have F9 := fun_mk (st := k70_top 19) l9 c9 k9
  have F10 := fun_mk (st := k70_top 20) l10 c10 k10
  have F11 := fun_mk (st := k70_top 22) l11 c11 k11
  have F12 := fun_mk (st := k70_top 23) l12 c12 k12
  have F13 := fun_mk (st := k70_top 24) l13 c13 k13
  have F14 := fun_mk (st := k70_top 27) l14 c14 k14
  have F15 := fun_mk (st := k70_top 29) l15 c15 k15
  have F16 := fun_mk (st := k70_top 30) l16 c16 k16
  have F17 := fun_mk (st := k70_top 31) l17 c17 k17
  have F18 := fun_mk (st := k70_top 32) l18 c18 k18
  have T : Facts Pg w K mg (k70_pl K [f0, f1, f2, f3, f4, f5, f6, f7, f8, f9, f10, f11, f12, f13, f14, f15, f16, f17, f18] [e0, e1]) k70_st := by
    refine ⟨rfl, fun p hp => ?_, fun p hp => ?_, fun x hx => ?_, ?_, fun c x f h hi => ?_, rfl, fun f Fd hf => ?_⟩
    · simp only [k70_st, List.mem_cons, List.not_mem_nil, or_false] at hp
      rcases hp with rfl | rfl | rfl | rfl
      · exact ⟨_, (V.int 30), PySem.W.mg_of X G ga0, ⟨_, rfl⟩, fun lx F H => (.int _)⟩
      · exact ⟨_, (V.int 1000000), PySem.W.mg_of X G ga1, ⟨_, rfl⟩, fun lx F H => (.int _)⟩
      · exact ⟨_, (V.int 8), PySem.W.mg_of X G ga2, ⟨_, rfl⟩, fun lx F H => (.int _)⟩
      · exact ⟨_, (V.int 12), PySem.W.mg_of X G ga3, ⟨_, rfl⟩, fun lx F H => (.int _)⟩
    · simp [k70_st] at hp
    · simp only [k70_st, List.mem_cons, List.not_mem_nil, or_false] at hx
      rcases hx with rfl | rfl | rfl | rfl | rfl | rfl | rfl | rfl | rfl | rfl | rfl | rfl | rfl | rfl
      · exact PySem.W.mg_none_of X G z0
      · exact PySem.W.mg_none_of X G z1
      · exact PySem.W.mg_none_of X G z2
      · exact PySem.W.mg_none_of X G z3
      · exact PySem.W.mg_none_of X G z4
      · exact PySem.W.mg_none_of X G z5
      · exact PySem.W.mg_none_of X G z6
      · exact PySem.W.mg_none_of X G z7
      · exact PySem.W.mg_none_of X G z8
      · exact PySem.W.mg_none_of X G z9
      · exact PySem.W.mg_none_of X G z10
      · exact PySem.W.mg_none_of X G z11
      · exact PySem.W.mg_none_of X G z12
      · exact PySem.W.mg_none_of X G z13
    · refine ⟨rfl, fun c x h => ?_, fun c x f h => ?_, fun c d p q h1 h2 => ?_, fun p hp => ?_, fun c x f h hi => ?_⟩
      · match c, h with
        | 0, h => cases h; exact ⟨PySem.W.mg_of X G b0, bx0, bk0, bb0, bt0⟩
        | 1, h => exact absurd (congrArg (fun o => o.map fun q : Str × Str => decide (q.2 = Str.ofString "")) h) (by simp [k70_st]; decide)
        | c + 2, h => simp [k70_st] at h
      · match c, h with
        | 0, h => cases h; exact PySem.W.mg_of X G b0
        | 1, h => cases h; exact PySem.W.mg_of X G b1
        | c + 2, h => simp [k70_st] at h
      · match c, d, h1, h2 with
        | 0, 0, _, _ => exact PySem.W.exm_ref bb0 bd0 bt0 be0_0
        | 0, 1, _, _ => exact PySem.W.exm_ref bb1 bd1 bt1 be0_1
        | 1, 0, _, _ => exact PySem.W.exm_ref bb0 bd0 bt0 be1_0
        | 1, 1, _, _ => exact PySem.W.exm_ref bb1 bd1 bt1 be1_1
        | c + 2, _, h, _ => simp [k70_st] at h
        | _, d + 2, _, h => simp [k70_st] at h
      · simp only [k70_st, List.mem_cons, List.not_mem_nil, or_false] at hp
      · simp only [k70_st, List.mem_cons, List.not_mem_nil, or_false] at hi
        subst hi
        · cases h; exact ⟨⟨xa1, xb1, xc1, xd1⟩, jh1, rfl⟩
    · simp only [k70_st, List.mem_cons, List.not_mem_nil, or_false] at hi
      subst hi
      · cases h; exact ini_mk k70_ib1 k70_is1 (PySem.W.mg_of X G b1) ja1 jb1 jl1 jm1 (fun us hl => match us, hl with | [_, _], _ => rfl) jn1 jo1 jp1 jq1 (PySem.W.mg_none_of X G jr1) js1 jt1 ju1 jv1 bb1 bt1 jw1 jx1 jy1 jz1 jg1 jh1
    · match f, hf with
      | 0, hf => cases hf; exact ⟨_, _, F0, F0.binds (ps := ["value"]) fun _ _ _ _ _ _ us hl => match us, hl with | [_], _ => rfl, PySem.W.mg_of X G a0, k70_chk0, k70_scp0⟩
      | 1, hf => cases hf; exact ⟨_, _, F1, F1.binds (ps := ["value"]) fun _ _ _ _ _ _ us hl => match us, hl with | [_], _ => rfl, PySem.W.mg_of X G a1, k70_chk1, k70_scp1⟩
      | 2, hf => cases hf; exact ⟨_, _, F2, F2.binds (ps := ["value"]) fun _ _ _ _ _ _ us hl => match us, hl with | [_], _ => rfl, PySem.W.mg_of X G a2, k70_chk2, k70_scp2⟩
      | 3, hf => cases hf; exact ⟨_, _, F3, F3.binds (ps := ["value"]) fun _ _ _ _ _ _ us hl => match us, hl with | [_], _ => rfl, PySem.W.mg_of X G a3, k70_chk3, k70_scp3⟩
      | 4, hf => cases hf; exact ⟨_, _, F4, F4.binds (ps := ["n"]) fun _ _ _ _ _ _ us hl => match us, hl with | [_], _ => rfl, PySem.W.mg_of X G a4, k70_chk4, k70_scp4⟩
      | 5, hf => cases hf; exact ⟨_, _, F5, F5.binds (ps := ["base", "number"]) fun _ _ _ _ _ _ us hl => match us, hl with | [_, _], _ => rfl, PySem.W.mg_of X G a5, k70_chk5, k70_scp5⟩
      | 6, hf => cases hf; exact ⟨_, _, F6, F6.binds (ps := ["mixture", "n"]) fun _ _ _ _ _ _ us hl => match us, hl with | [_, _], _ => rfl, PySem.W.mg_of X G a6, k70_chk6, k70_scp6⟩
      | 7, hf => cases hf; exact ⟨_, _, F7, F7.binds (ps := ["mixture", "n"]) fun _ _ _ _ _ _ us hl => match us, hl with | [_, _], _ => rfl, PySem.W.mg_of X G a7, k70_chk7, k70_scp7⟩
      | 8, hf => cases hf; exact ⟨_, _, F8, F8.binds (ps := ["pairs"]) fun _ _ _ _ _ _ us hl => match us, hl with | [_], _ => rfl, PySem.W.mg_of X G a8, k70_chk8, k70_scp8⟩
      | 9, hf => cases hf; exact ⟨_, _, F9, F9.binds (ps := ["one", "two"]) fun _ _ _ _ _ _ us hl => match us, hl with | [_, _], _ => rfl, PySem.W.mg_of X G a9, k70_chk9, k70_scp9⟩
      | 10, hf => cases hf; exact ⟨_, _, F10, F10.binds (ps := ["one", "two"]) fun _ _ _ _ _ _ us hl => match us, hl with | [_, _], _ => rfl, PySem.W.mg_of X G a10, k70_chk10, k70_scp10⟩
      | 11, hf => cases hf; exact ⟨_, _, F11, F11.binds (ps := ["script"]) fun _ _ _ _ _ _ us hl => match us, hl with | [_], _ => rfl, PySem.W.mg_of X G a11, k70_chk11, k70_scp11⟩
      | 12, hf => cases hf; exact ⟨_, _, F12, F12.binds (ps := ["draw", "many"]) fun _ _ _ _ _ _ us hl => match us, hl with | [_, _], _ => rfl, PySem.W.mg_of X G a12, k70_chk12, k70_scp12⟩
      | 13, hf => cases hf; exact ⟨_, _, F13, F13.binds (ps := ["draw", "points", "high"]) fun _ _ _ _ _ _ us hl => match us, hl with | [_, _, _], _ => rfl, PySem.W.mg_of X G a13, k70_chk13, k70_scp13⟩
      | 14, hf => cases hf; exact ⟨_, _, F14, F14.binds (ps := ["draw", "mixture"]) fun _ _ _ _ _ _ us hl => match us, hl with | [_, _], _ => rfl, PySem.W.mg_of X G a14, k70_chk14, k70_scp14⟩
      | 15, hf => cases hf; exact ⟨_, _, F15, F15.binds (ps := ["n", "k"]) fun _ _ _ _ _ _ us hl => match us, hl with | [_, _], _ => rfl, PySem.W.mg_of X G a15, k70_chk15, k70_scp15⟩
      | 16, hf => cases hf; exact ⟨_, _, F16, F16.binds (ps := ["one", "two", "kind"]) fun _ _ _ _ _ _ us hl => match us, hl with | [_, _, _], _ => rfl, PySem.W.mg_of X G a16, k70_chk16, k70_scp16⟩
      | 17, hf => cases hf; exact ⟨_, _, F17, F17.binds (ps := ["kind", "one", "two"]) fun _ _ _ _ _ _ us hl => match us, hl with | [_, _, _], _ => rfl, PySem.W.mg_of X G a17, k70_chk17, k70_scp17⟩
      | 18, hf => cases hf; exact ⟨_, _, F18, F18.binds (ps := ["script"]) fun _ _ _ _ _ _ us hl => match us, hl with | [_], _ => rfl, PySem.W.mg_of X G a18, k70_chk18, k70_scp18⟩
      | f + 19, hf => simp [k70_st] at hf
  refine ⟨PySem.W.fnOf "law" "law" (defArgs (k70_top 32)) (defBody (k70_top 32)) (defScope (k70_top 32)) .none kV18 dc18 pm18 an18 cd18 ct18, fun s v => .of_eq rfl, fun base _ _ => ?_⟩
  exact law_end T (n := 40) (f := 18) (Fd := k70_law) rfl rfl k70_run (fn_one T rfl F18 k70_chk18 k70_scp18 (fns_ok T 39))
end Pd
open PySem PySem.W PyProof.Rows
set_option maxHeartbeats 0 in
theorem PySem.Challenge.cw_risesonce_k70_whole_products_and_sums_of_holds : PySem.Challenge.rw_risesonce_k70_whole_products_and_sums_of.Holds := by
  w_on; o_law; k_head; (case hw => w_witness2)
  k_fill
  refine Pd.walk_G (l := PySem.Challenge.rw_risesonce_k70_whole_products_and_sums_of) (n := 63) (k := 41) (x := "script") (sp := fun w => Pd.spLaw _) rfl (by decide) rfl ⟨rfl, by decide, by decide⟩ (fun w h Y => PySem.W.kIn_of Y) ?F
    (fun _ _ a ns hl hO hS => ⟨a, ns, rfl, hS, hl, hO, fun _ => rfl⟩)
  case F =>
    intro w mg fa h KX G hmg
    refine' Pd.k70_mk KX G hmg ?a0 ?l0 ?c0 ?k0 ?a1 ?l1 ?c1 ?k1 ?a2 ?l2 ?c2 ?k2 ?a3 ?l3 ?c3 ?k3 ?a4 ?l4 ?c4 ?k4 ?a5 ?l5 ?c5 ?k5 ?a6 ?l6 ?c6 ?k6 ?a7 ?l7 ?c7 ?k7 ?a8 ?l8 ?c8 ?k8 ?a9 ?l9 ?c9 ?k9 ?a10 ?l10 ?c10 ?k10 ?a11 ?l11 ?c11 ?k11 ?a12 ?l12 ?c12 ?k12 ?a13 ?l13 ?c13 ?k13 ?a14 ?l14 ?c14 ?k14 ?a15 ?l15 ?c15 ?k15 ?a16 ?l16 ?c16 ?k16 ?a17 ?l17 ?c17 ?k17 ?a18 ?l18 ?c18 ?k18 ?b0 ?bb0 ?bt0 ?bd0 ?bx0 ?bk0 ?b1 ?bb1 ?bt1 ?bd1 ?be0_0 ?be0_1 ?be1_0 ?be1_1 ?xa1 ?xb1 ?xc1 ?xd1 ?xe1 ?xf1 ?xg1 ?xh1 ?ja1 ?jb1 ?jl1 ?jm1 ?jn1 ?jo1 ?jp1 ?jq1 ?jr1 ?js1 ?jt1 ?ju1 ?jv1 ?jw1 ?jx1 ?jy1 ?jz1 ?jg1 ?jh1 ?ga0 ?ga1 ?ga2 ?ga3 ?z0 ?z1 ?z2 ?z3 ?z4 ?z5 ?z6 ?z7 ?z8 ?z9 ?z10 ?z11 ?z12 ?z13
    (case a0 => k_is)
    (case l0 => k_is)
    (case c0 => k_is)
    (case k0 => k_is)
    (case a1 => k_is)
    (case l1 => k_is)
    (case c1 => k_is)
    (case k1 => k_is)
    (case a2 => k_is)
    (case l2 => k_is)
    (case c2 => k_is)
    (case k2 => k_is)
    (case a3 => k_is)
    (case l3 => k_is)
    (case c3 => k_is)
    (case k3 => k_is)
    (case a4 => k_is)
    (case l4 => k_is)
    (case c4 => k_is)
    (case k4 => k_is)
    (case a5 => k_is)
    (case l5 => k_is)
    (case c5 => k_is)
    (case k5 => k_is)
    (case a6 => k_is)
    (case l6 => k_is)
    (case c6 => k_is)
    (case k6 => k_is)
    (case a7 => k_is)
    (case l7 => k_is)
    (case c7 => k_is)
    (case k7 => k_is)
    (case a8 => k_is)
    (case l8 => k_is)
    (case c8 => k_is)
    (case k8 => k_is)
    (case a9 => k_is)
    (case l9 => k_is)
    (case c9 => k_is)
    (case k9 => k_is)
    (case a10 => k_is)
    (case l10 => k_is)
    (case c10 => k_is)
    (case k10 => k_is)
    (case a11 => k_is)
    (case l11 => k_is)
    (case c11 => k_is)
    (case k11 => k_is)
    (case a12 => k_is)
    (case l12 => k_is)
    (case c12 => k_is)
    (case k12 => k_is)
    (case a13 => k_is)
    (case l13 => k_is)
    (case c13 => k_is)
    (case k13 => k_is)
    (case a14 => k_is)
    (case l14 => k_is)
    (case c14 => k_is)
    (case k14 => k_is)
    (case a15 => k_is)
    (case l15 => k_is)
    (case c15 => k_is)
    (case k15 => k_is)
    (case a16 => k_is)
    (case l16 => k_is)
    (case c16 => k_is)
    (case k16 => k_is)
    (case a17 => k_is)
    (case l17 => k_is)
    (case c17 => k_is)
    (case k17 => k_is)
    (case a18 => k_is)
    (case l18 => k_is)
    (case c18 => k_is)
    (case k18 => k_is)
    (case b0 => k_is)
    (case bb0 => k_is)
    (case bt0 => k_is)
    (case bd0 => k_is)
    (case bx0 => k_exc)
    (case bk0 => k_is)
    (case b1 => k_is)
    (case bb1 => k_is)
    (case bt1 => k_is)
    (case bd1 => k_is)
    (case be0_0 => k_is)
    (case be0_1 => k_is)
    (case be1_0 => k_is)
    (case be1_1 => k_is)
    (case xa1 => k_is)
    (case xb1 => k_is)
    (case xc1 => k_is)
    (case xd1 => k_is)
    (case xe1 => k_is)
    (case xf1 => k_is)
    (case xg1 => k_is)
    (case xh1 => k_is)
    (case ja1 => k_is)
    (case jb1 => k_is)
    (case jl1 => k_is)
    (case jm1 => k_is)
    (case jn1 => k_is)
    (case jo1 => first | rfl | kernel_rfl | decide +kernel)
    (case jp1 => first | rfl | kernel_rfl | decide +kernel)
    (case jq1 => k_is)
    (case jr1 => k_is)
    (case js1 => first | rfl | kernel_rfl | decide +kernel)
    (case jt1 => k_is)
    (case ju1 => first | rfl | kernel_rfl | decide +kernel)
    (case jv1 => k_is)
    (case jw1 => k_is)
    (case jx1 => k_is)
    (case jy1 => ks_is)
    (case jz1 => k_is)
    (case jg1 => k_is)
    (case jh1 => k_is)
    (case ga0 => k_is)
    (case ga1 => k_is)
    (case ga2 => k_is)
    (case ga3 => k_is)
    (case z0 => k_is)
    (case z1 => k_is)
    (case z2 => k_is)
    (case z3 => k_is)
    (case z4 => k_is)
    (case z5 => k_is)
    (case z6 => k_is)
    (case z7 => k_is)
    (case z8 => k_is)
    (case z9 => k_is)
    (case z10 => k_is)
    (case z11 => k_is)
    (case z12 => k_is)
    (case z13 => k_is)

