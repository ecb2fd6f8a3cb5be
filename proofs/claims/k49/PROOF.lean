import PyProof.Rows.All
import Wide.All
import OpenK.AllK
import Wide.FinOn
import PyProof.EqAt
import PyProof.EqKinds
import PyProof.TupleCall
import KE.KExcSuper
import HandS.Base
import HandS.Call
import HandS.Exc
import KE.KExcIs
import HandS.ExcField
import HandS.IsInst
import PyProof.InstNe
import HandS.ForMost
import HandS.TupMul
import HandS.TupAny
import HandS.SetFor
import HandS.RaiseMore
import HandS.Iter
import HandS.AnyAll
import HandS.List
import HandS.Defaults
import HandS.Property
import HandS.WordsExc
import HandS.Lambda
import HandS.Flow
import HandS.Comp
import HandS.Conv
import HandS.Wide
import HandS.Style
import HandS.Head0
import HandS.Head1
import HandS.Head2
import HandS.HeadEnd
import HandS.HeadWalk
import HandS.HeadHook1
import HandS.HeadHook2
import HandS.HeadHook4
import PySem.Challenge.RW_waitedandasked_k49_whole_purses_and_rows
set_option Elab.async false
set_option linter.all false
set_option maxRecDepth 100000
set_option maxHeartbeats 2000000
/-! An error class of the program whose __init__ says super().__init__(value); self.value = value, and the classes below it. -/
namespace AskE
open PySem PySem.W PySem.Calls PyProof.Rows PySem.HandSPX

def iA : Arguments := { posonlyargs := [], args := [{ arg := "self", annotation := none, pos := ⟨4, 17, 4, 21⟩ }, { arg := "value", annotation := none, pos := ⟨4, 23, 4, 28⟩ }], vararg := none, kwonlyargs := [], kw_defaults := [], kwarg := none, defaults := [] }
def iB : List Stmt :=
  [.Expr (.Call (.Attribute (.Call (.Name "super" ⟨5, 8, 5, 13⟩) [] [] ⟨5, 8, 5, 15⟩) "__init__" ⟨5, 8, 5, 24⟩) [.Name "value" ⟨5, 25, 5, 30⟩] [] ⟨5, 8, 5, 31⟩) ⟨5, 8, 5, 31⟩,
   .Assign [.Attribute (.Name "self" ⟨6, 8, 6, 12⟩) "value" ⟨6, 8, 6, 18⟩] (.Name "value" ⟨6, 21, 6, 26⟩) ⟨6, 8, 6, 26⟩]
def iS : Scope := { kind := .function, names := [(PySem.Str.ofString "self", .local), (PySem.Str.ofString "value", .local), (PySem.Str.ofString "__class__", .free), (PySem.Str.ofString "super", .globalImplicit)], isGenerator := false, isCoroutine := false, more := [] }
abbrev qI : Str := PySem.Str.ofString "AskError.__init__"

/-- what the written part says of a class at C below the class at D, whose __init__ is at fI, its cell at cc -/
structure AskTxt (prog : Program) (K : Frag) (C D fI cc : Addr) : Prop where
  cls : ∃ nm q N bs bm sn sub ab col dd k0 k1 k2 k3 k5, K.lookup C = some (excClassObj nm q C N bs bm true sn sub ab col dd k0 k1 k2 k3 k5 "ValueError.__new__") ∧ refsVE bm = true
  sa : findIn K (.ref C) "__setattr__" = some (some (.builtin "object.__setattr__"))
  noV : findIn K (.ref C) "value" = some none
  iC : findIn K (.ref C) "__init__" = some (some (.ref fI))
  tC : typeIn K (.ref fI) = some (.type "function")
  clD : (clsIn K D).isSome = true
  sub : mroIn K C (.ref D) = some true
  sup : ks_superIn K C D "__init__" = some (some (.builtin "ValueError.__init__"))
  subV : subIn K (.ref C) (.type "ValueError") = some true
  opq : nsIn K cStatics "thirdparty.any" = some none
  top : (prog.main.scope.names.lookup ("super" : Str)).isSome = false
  fn : ∃ (oc : Value) (od : Option Addr) (doc pm : Value) (an : Option Addr) (cda : Addr) (ct : Value) (osl : Array (Option Value)),
    K.lookup fI = some ⟨oc, od, .func (ksFn "__init__" qI iA iB iS .none .none doc pm an (.ref cda) ct cc), osl⟩ ∧ codeIn K (.ref cda) qI = true ∧
    (∃ ccl cdd vs ccs file tf, K.lookup cda = some ⟨ccl, cdd, .fields vs, ccs⟩ ∧ vs[2]? = some (.str file tf) ∧ ((prog.main.file : Str) == file) = true) ∧
    ∃ cl cld csl, K.lookup cc = some ⟨cl, cld, .cell (some (.ref D)), csl⟩

/-- what __init__ leaves of a fresh exception at x -/
structure InitEnd (h h' : Heap) (x C dx t1 : Addr) (v : Value) : Prop where
  keep : ∀ b o, b ≠ x → h.get? b = some o → h'.get? b = some o
  obj : h'.get? x = some { cls := .ref C, dict := some dx, data := .fields #[.ref t1, .none, .none, .none, .bool false, .none] }
  dbig : h.objs.size ≤ dx
  dne : dx ≠ x
  ns : h'.Ns1 dx (fun y => if y = "value" then some v else none)

section
variable {prog : Program} {w : World} {A : Around} {E : Value → Shared → Prop} {R : Result → Shared → Prop} {s : Shared} {K : Frag} {C D fI cc : Addr}

theorem one_size (v : Value) : [v].length ≤ sizeLine := by
  rw [sizeLine_eq]
  exact (by decide : 1 ≤ 16777216)
theorem lkSup : iS.names.lookup ("super" : Str) = some .globalImplicit := by decide +kernel
theorem lkCls : iS.names.lookup ("__class__" : Str) = some .free := by decide +kernel
theorem lkSelf : iS.names.lookup ("self" : Str) = some .local := by decide +kernel
theorem lkVal : iS.names.lookup ("value" : Str) = some .local := by decide +kernel
theorem noCell : ∀ y ∈ iS.names, y.2 ≠ .cell := by decide +kernel
theorem locI (u v : Value) : ∀ y ∈ [(("self" : Str), u), (("value" : Str), v)], iS.names.lookup y.1 = some .local := fun y hy => by
  rcases List.mem_cons.mp hy with e | hy
  · rw [e]
    exact (by decide +kernel : iS.names.lookup ("self" : Str) = some .local)
  · rcases List.mem_cons.mp hy with e | hy
    · rw [e]
      exact (by decide +kernel : iS.names.lookup ("value" : Str) = some .local)
    · cases hy
theorem ask_init (T : AskTxt prog K C D fI cc) {x t0 : Addr} {v : Value} {mg mb : Str → Option Value} (X : K.In s.heap) (hlim : s.heap.NoLimit) (hg : s.heap.Ns mainGlobals mg) (hms : mg "super" = none) (hb : s.heap.Ns builtinsNs mb) (hbb : ∀ y : Str, y ≠ "__name__" → mb y = bootBuiltins y)
    (hx : s.heap.get? x = some (excO C t0)) (hnx : K.lookup x = none) (hroom : A.depth < recursionLimit)
    (hq : ∀ h' tk dx t1, InitEnd s.heap h' x C dx t1 v → R (.ok (.ret .none)) { s with heap := h', toks := tk }) :
    codeAny (model prog w) A (.call (.ref fI) ⟨[.ref x, v], []⟩) R s := by
  obtain ⟨oc, od, doc, pm, an, cda, ct, osl, ho, hcd, ⟨ccl, cdd, cvs, ccs, file, tf, hcode, hvs, hfile⟩, cl, cld, csl, hcell⟩ := T.fn
  obtain ⟨nm, q, N, bs, bm, sn, sub, ab, col, dd, k0, k1, k2, k3, k5, hC, hbm⟩ := T.cls
  have hcl : clsIn K C = some { name := nm, bases := bs, mro := .ref C :: bm, ns := N, qualname := q, hasDict := true, slotNames := sn, subclasses := sub, abstract := ab, collection := col, hasDel := false } := by unfold clsIn; rw [hC] <;> rfl
  obtain ⟨cdD, hD⟩ := Option.isSome_iff_exists.mp T.clD
  refine ks_codeAny_call_defAt (fd := ksFn "__init__" qI iA iB iS .none .none doc pm an (.ref cda) ct cc) (body := iB) (binds := [("self", .ref x), ("value", v)]) hroom (X _ _ ho) rfl hlim (codeRec_of X hcd) rfl
    (BindsTo.of_eq (by first | rfl | with_unfolding_all rfl)) noCell (locI _ _) (fun h₁ hns k₁ => ?_) rfl rfl rfl
  have X₁ : K.In h₁ := X.keeps k₁
  have hx₁ := k₁ _ _ hx
  refine ks_wpAt_execs_cons ?_
  refine ks_wpAt_Expr_any ?_
  refine ks_wpAt_MethodCall ?_
  have hC₁ := X₁ _ _ hC
  have hlt : ∀ {b : Addr} {o : Obj}, s.heap.get? b = some o → b ≠ s.heap.objs.size := fun e => Nat.ne_of_lt (Heap.lt_size e)
  have hxL : s.heap.objs.size ≠ x := (hlt hx).symm
  have Ix : PySem.W.InstAt h₁ x (excO C t0) C none := ⟨hx₁, rfl, rfl, trivial⟩
  have hnd : ∀ c, (excO C t0).data ≠ .cls c := fun c z => by cases z
  obtain ⟨oD, hD1, hD2⟩ : ∃ oD, h₁.get? D = some oD ∧ oD.data = .cls cdD := by
    unfold clsIn at hD
    split at hD
    · rename_i c d cd' sl ho
      cases hD
      exact ⟨_, X₁ _ _ ho, rfl⟩
    · cases hD
  refine ks_wpAt_super_base (env := ksEnv qI iS s.heap.objs.size fI (.ref cda) cc) lkSup lkCls (by decide +kernel) rfl (X₁ _ _ ho) rfl (ar := { arg := "self", annotation := none, pos := ⟨4, 17, 4, 21⟩ }) rfl rfl (X₁ _ _ hcode) rfl hvs hfile T.top ?_
  have gN : h₁.Ns mainGlobals mg := hg.keeps k₁
  have bN : h₁.Ns builtinsNs mb := hb.keeps k₁
  refine ks_loadName_global rfl lkSup (loadGlobal_builtin (env := ksEnv qI iS s.heap.objs.size fI (.ref cda) cc) gN hms bN ((hbb _ (by decide +kernel)).trans (by decide +kernel : bootBuiltins "super" = some (.type "super"))) ⟨rfl, ?_⟩)
  refine wpAny_loadName_free rfl lkCls rfl ⟨_, X₁ _ _ hcell, rfl⟩ ?_
  refine wpAny_loadName_local rfl lkSelf hns (by rfl) ?_
  refine ks_wpAny_isType_cls hD1 hD2 ⟨rfl, ?_⟩
  refine ks_wpAny_call_super hD1 hD2 hx₁ rfl hnd (looks_mroIn X₁ T.sub) (fun h₂ e₂ k₂ => ?_)
  have X₂ : K.In h₂ := X₁.keeps k₂
  have hx₂ := k₂ _ _ hx₁
  have Ix₂ : PySem.W.InstAt h₂ x (excO C t0) C none := ⟨hx₂, rfl, rfl, trivial⟩
  have hsup := T.sup
  unfold ks_superIn at hsup
  rw [hcl] at hsup
  have hI : PySem.W.Looks (model prog w) h₂ (isInstance (.ref x) (.type "ValueError")) true := Ix₂.type.andThen (looks_subIn X₂ T.subV)
  have hmro : PySem.W.Looks (model prog w) h₂ (mroOf (.ref C)) (.ref C :: bm) := fun A Q E s k q => wpAny_bind ((looks_clsIn X₂ hcl) A _ E s k (wpAny_pure q))
  refine kxs_getMethod kxs_ValueError e₂ (looks_opaque X₂ T.opq) hmro rfl X₂ hsup hI (ks_ne X₂ Ix₂ hcl) (by decide +kernel) ?_
  -- callWith of the method-wrapper
  have hu : (h₂.push (kxs_mw "ValueError.__init__" x)).get? h₂.objs.size = some (kxs_mw "ValueError.__init__" x) := Heap.get?_push_size _ rfl
  have k₃ : ∀ b o, h₂.get? b = some o → (h₂.push (kxs_mw "ValueError.__init__" x)).get? b = some o := fun b o e => Heap.get?_push_of_some _ e
  have hns₃ : (h₂.push (kxs_mw "ValueError.__init__" x)).Ns s.heap.objs.size (fun y => [(("self" : Str), Value.ref x), (("value" : Str), v)].reverse.lookup y) := (hns.keeps k₂).keeps k₃
  refine kxs_callWith (i := "ValueError.__init__") (x := x) rfl ?_
  refine evalArgs_plain ?_
  refine Calls.spliced_cons ?_
  refine wpAny_Name (wpAny_loadName_local (v := v) rfl lkVal hns₃ (by rfl) ?_) (by decide +kernel)
  refine Calls.spliced_nil ⟨hu, ?_⟩
  show wpAny _ _ (call (.ref h₂.objs.size) [v]) _ _ _
  obtain ⟨hp, g, dr, tk, os⟩ := s
  dsimp only at *
  have hC₃ := k₃ _ _ (k₂ _ _ hC₁)
  have hx₃ := k₃ _ _ hx₂
  refine wpAny_call (codeAny_of_tree ?_)
  show wpAny _ _ (callAny (.ref h₂.objs.size) ⟨[v], []⟩) _ _ _
  simp only [callAny]
  refine wpAny_bind (wpAny_load hu ?_)
  simp only [kxs_mw, show (Value.type "method-wrapper" == Value.type "method" || Value.type "method-wrapper" == Value.type "builtin_function_or_method" || Value.type "method-wrapper" == Value.type "method-wrapper") = true by decide, if_true]
  refine KFB.if_so (by decide) ?_
  refine wpAny_bind (check_bound_init F.excBase_ValueError.toExcCallFacts hC₃ hx₃ rfl ?_)
  refine wpAny_bind (wpAny_pure (wpAny_pure ?_))
  refine ⟨plainId_quiet F.excBase_ValueError.init.plain _, codeAny_builtin F.excBase_ValueError.initEntry ?_⟩
  refine exc_init_tree (cls := .ref C) (t0 := t0) (dv := none) (c2 := .none) (c3 := .none) (b4 := .bool false) hx₃ (one_size v) (fun h₄ k₄ hx₄ ht₄ => ?_)
  have X₄ : K.In h₄ := fun b o e => by
    have h0 := X b o e
    refine k₄ b o (fun z => ?_) (k₃ _ _ (k₂ _ _ (k₁ _ _ h0)))
    rw [z, hnx] at e
    cases e
  have hns₄ : h₄.Ns hp.objs.size (fun y => [(("self" : Str), Value.ref x), (("value" : Str), v)].reverse.lookup y) := by
    obtain ⟨oL, es, ep, hL, r⟩ := hns₃
    exact ⟨oL, es, ep, k₄ _ _ hxL hL, r⟩
  show _root_.PySem.wpAt _ _ _ (execs _ _) _ _ _
  refine ks_wpAt_execs_cons (wpAt_of_wpAny ?_)
  refine plainObj_wpAny_Assign_Attribute ?_
  refine wpAny_Name (wpAny_loadName_local (v := v) rfl lkVal hns₄ (by rfl) ?_) (by decide +kernel)
  refine wpAny_Name (wpAny_loadName_local (v := .ref x) rfl lkSelf hns₄ (by rfl) ?_) (by decide +kernel)
  refine set_plain X₄ (ox := excO C (h₂.push (kxs_mw "ValueError.__init__" x)).objs.size) (od := none) ⟨hx₄, rfl, rfl, trivial⟩ T.sa ?_
  refine exc_osa X₄ hx₄ hcl (show refsVE (.ref C :: bm) = true from hbm) rfl T.noV (fun h₅ tk₅ dx k₅ dn dne hx₅ hn₅ => ?_)
  show _root_.PySem.wpAt _ _ _ (execs _ _) _ _ _
  refine wpAt_of_wpAny (wpAny_execs_nil (hq h₅ tk₅ dx _ ⟨fun b o hb e => k₅ b o hb (k₄ b o hb (k₃ _ _ (k₂ _ _ (k₁ _ _ e)))), hx₅, ?_, dne, hn₅⟩))
  obtain ⟨oL, _, _, hL, _⟩ := hns₄
  exact Nat.le_trans (Nat.le_of_lt (Heap.lt_size hL)) dn
/-- what a call C(v) has made: the error at e, its own dict at d -/
structure Made (h h' : Heap) (e C d : Addr) (v : Value) : Prop where
  keep : ∀ b o, h.get? b = some o → h'.get? b = some o
  new : h.objs.size ≤ e
  obj : ∃ t1 : Addr, h'.get? e = some { cls := .ref C, dict := some d, data := .fields #[.ref t1, .none, .none, .none, .bool false, .none] }
  dbig : h.objs.size ≤ d
  dne : d ≠ e
  ns : h'.Ns1 d (fun y => if y = "value" then some v else none)
theorem ask_made (T : AskTxt prog K C D fI cc) {v : Value} {mg mb : Str → Option Value} (X : K.In s.heap) (hlim : s.heap.NoLimit) (hg : s.heap.Ns mainGlobals mg) (hms : mg "super" = none) (hb : s.heap.Ns builtinsNs mb) (hbb : ∀ y : Str, y ≠ "__name__" → mb y = bootBuiltins y)
    (hroom : A.depth + 1 < recursionLimit) (hq : ∀ h' tk e d, Made s.heap h' e C d v → R (.ok (.ret (.ref e))) { s with heap := h', toks := tk }) :
    codeAny (model prog w) A (.call (.ref C) ⟨[v], []⟩) R s := by
  obtain ⟨nm, q, N, bs, bm, sn, sub, ab, col, dd, k0, k1, k2, k3, k5, hC, hbm⟩ := T.cls
  obtain ⟨hp, g, dr, tk, os⟩ := s
  have k : ∀ b o, hp.get? b = some o → ((hp.push (kdv_tup [v])).push (excO C hp.objs.size)).get? b = some o := fun b o e => Heap.get?_push_of_some _ (Heap.get?_push_of_some _ e)
  have hget : ((hp.push (kdv_tup [v])).push (excO C hp.objs.size)).get? (hp.objs.size + 1) = some (excO C hp.objs.size) := by heap_get
  have hnx : K.lookup (hp.objs.size + 1) = none := by
    cases e : K.lookup (hp.objs.size + 1) with
    | none => rfl
    | some o => exact absurd (Nat.lt_of_succ_lt (Heap.lt_size (show hp.get? (hp.objs.size + 1) = some o from X _ _ e))) (Nat.lt_irrefl _)
  refine call_own F.excBase_ValueError (fun X => refsVE_contains X bm hbm) (X _ _ hC) (looks_findIn X T.iC) (fun self => bind_fn X self T.tC) (one_size v) ?_
  refine ask_init (s := ⟨(hp.push (kdv_tup [v])).push (excO C hp.objs.size), g, dr, tk, os⟩) T (X.keeps k) (hlim.keeps k) (hg.keeps k) hms (hb.keeps k) hbb hget hnx hroom fun h' tk' dx t1 ie => ?_
  obtain ⟨k', hx, dn, dne, hns⟩ := ie
  have z : hp.objs.size + 1 + 1 ≤ dx := by
    have q := dn
    rw [Heap.size_push, Heap.size_push] at q
    exact q
  refine ⟨rfl, hq h' tk' (hp.objs.size + 1) dx ⟨fun b o e => k' b o (Nat.ne_of_lt (Nat.lt_succ_of_lt (Heap.lt_size e))) (k b o e), Nat.le_succ _, ⟨t1, hx⟩, Nat.le_trans (Nat.le_trans (Nat.le_succ _) (Nat.le_succ _)) z, dne, hns⟩⟩
end
end AskE
namespace L2
open PySem PySem.Spec PyProof.Rows
/-- one field -/
theorem relO_one {f₀ : Str} {v : V} {v' : Value} (r : RelV v v') (f : Str) : RelO (List.lookup f [(f₀, v)]) (if f = f₀ then some v' else none) := by
  by_cases hw : f = f₀
  · subst hw
    rw [if_pos rfl]
    have q : List.lookup f [(f, v)] = some v := by simp [List.lookup]
    rw [q]
    exact r
  · rw [if_neg hw]
    have qw : (f == f₀) = false := by simpa using hw
    have q2 : List.lookup f [(f₀, v)] = none := by simp [List.lookup, qw]
    rw [q2]
    trivial
/-- what the module says of an error class: C by its name x, below AskError at D -/
structure AskC (prog : Program) (K : PySem.W.Frag) (mg : Str → Option Value) (x : Str) (C D : Addr) : Prop where
  gC : mg x = some (.ref C)
  txt : ∃ fI cc, AskE.AskTxt prog K C D fI cc
  kC : PySem.W.keepIn K (.ref C) = true
  exC : PySem.W.subIn K (.ref C) (.type "BaseException") = some true
  tyC : PySem.W.typeIn K (.ref C) = some (.type "type")
  sup : mg "super" = none
/-- x(e) -/
def tMkAsk (C : Addr) (ta : TE) : St → Hp → XK → Prop := fun σ H Q => ta σ H fun v H1 => ∀ d, H1 d = none → Q (.ref C) (some d) (upd H1 d (.xd [(("value" : Str), v)]))
section
variable {X : Cx} {C D : Addr} {x : Str}
theorem pmk_ask {a : Expr} {ta : TE} {p pos : Pos} {k : Nat} (T : AskC X.prog X.K X.mg x C D) (hr : Room k X.A) (ha : PE X a ta) (hg : Gl X x := by rfl) (hdb : (x == ("__debug__" : Str)) = false := by decide +kernel)
    (he : starEach [a] X.env = (false, eval a X.env) :: starEach [] X.env := by rfl) : PMk X (.Call (.Name x p) [a] [] pos) (tMkAsk C ta) := by
  intro pins s σ H Q I h
  refine wpAny_Call_Name_kw (ld_glob I hg T.gC ?_ hdb)
  refine PySem.W.callWith_K (h₀ := X.base) I.ok.mod.kin T.kC ?_ he (by rfl)
  rw [he]
  show wpAny _ _ (spliced ((false, eval a X.env) :: backTo pos (starEach [] X.env))) _ _ s
  refine Calls.spliced_cons (thn (ha.run pins s σ H _ I h) fun v' s1 hh => ?_)
  obtain ⟨v, H1, I1, rv, q1⟩ := hh
  refine Calls.spliced_nil ⟨I1.kIn, ?_⟩
  show wpAny _ _ (call (.ref C) [v']) _ _ _
  have hlim := I1.nolimit
  have hgl : s1.heap.Ns mainGlobals X.mg := I1.mod.glob.keeps I1.bk
  obtain ⟨mb, hb1, hbb⟩ := I1.mod.blt
  have hb2 : s1.heap.Ns builtinsNs mb := hb1.keeps I1.bk
  obtain ⟨fI, cc, TT⟩ := T.txt
  obtain ⟨hp, g, dr, tk, os⟩ := s1
  refine wpAny_call (AskE.ask_made TT I1.kIn hlim hgl T.sup hb2 hbb (by have := hr.dp; omega) fun h' tk' e d M => ?_)
  show MkP X pins σ Q (.ref e) ⟨h', g, dr, tk', os⟩
  obtain ⟨t1, hoe⟩ := M.obj
  obtain ⟨G', g1, g2⟩ := restrict h' fun b => decide (b ≠ e)
  have gk : ∀ b, b ≠ e → G'.get? b = h'.get? b := fun b hb => g1 b (decide_eq_true hb)
  have ge : G'.get? e = none := g2 e (by simp)
  have old : ∀ b o, hp.get? b = some o → G'.get? b = some o := fun b o q => (gk b (Nat.ne_of_lt (Nat.lt_of_lt_of_le (Heap.lt_size q) M.new))).trans (M.keep b o q)
  have ob : ObjOk X.prog X.w (upd H1 d (.xd [(("value" : Str), v)])) G' d (.xd [(("value" : Str), v)]) :=
    ⟨_, M.ns.at (fun o q => (gk d M.dne).trans q), fun f => relO_one rv f⟩
  have J : Inv X pins σ (upd H1 d (.xd [(("value" : Str), v)])) ⟨G', g, dr, tk', os⟩ := I1.laid (t' := tk') old M.dbig ob
  refine ⟨e, _, _, ⟨G', g, dr, tk', os⟩, _, .ref C, some d, rfl, J, fun b o q => ?_, ge, hoe, ⟨rfl, rfl⟩, rfl, rfl, ?_, rfl, I1.bare, raises_own T.exC T.tyC, q1 d (I1.hok.fresh M.dbig)⟩
  · by_cases hb : b = e
    · have q' : G'.get? b = some o := q
      rw [hb, ge] at q'
      cases q'
    · exact (gk b hb).symm.trans q
  · rw [upd_ne (Ne.symm M.dne)]
    exact I1.hok.fresh M.new
/-- raise x(e) -/
def tRaiseAsk (C : Addr) (W : WX) (ta : TE) : TS := fun _ σ H => tMkAsk C ta σ H fun cls d H' => W cls d σ H'
theorem ps_raiseAsk {a : Expr} {ta : TE} {W : WX} {p pos pos2 : Pos} {k : Nat} (hc : X.calm = true) (T : AskC X.prog X.K X.mg x C D) (hr : Room k X.A) (tk : Takes X W) (ha : PE X a ta) (hg : Gl X x := by rfl) (hdb : (x == ("__debug__" : Str)) = false := by decide +kernel)
    (he : starEach [a] X.env = (false, eval a X.env) :: starEach [] X.env := by rfl) :
    PS X (.Raise (some (.Call (.Name x p) [a] [] pos)) none pos2) (tRaiseAsk C W ta) := ps_raise hc tk (pmk_ask T hr ha hg hdb he)
end
end L2
set_option Elab.async false
set_option linter.all false
set_option maxRecDepth 100000
set_option maxHeartbeats 2000000
/-! An error that was caught is kept in a name: try: body / except x as n: c = n. -/
namespace L2
open PySem PySem.Spec PyProof.Rows
/-- at a: an error of the class cls, its own dict at d -/
def ExV (cls : Value) (d : Option Addr) (a : Addr) : HO := .ext fun h => ∃ (oe : Obj) (vs : Array Value), h.get? a = some oe ∧ Zc cls d oe ∧ oe.data = .fields vs
theorem exV_ok {P : Program} {w : World} {H : Hp} {h : Heap} {a : Addr} {cls : Value} {d : Option Addr} {oe : Obj} {vs : Array Value} (e : h.get? a = some oe) (z : Zc cls d oe) (hd : oe.data = .fields vs) : ObjOk P w H h a (ExV cls d a) :=
  ⟨⟨oe, vs, e, z, hd⟩, ⟨oe, e⟩, fun _ _ q k => by
    obtain ⟨o, v, q, r⟩ := q
    exact ⟨o, v, k o q, r⟩⟩
theorem exV_at {P : Program} {w : World} {H : Hp} {h : Heap} {a : Addr} {cls : Value} {d : Option Addr} (hok : HOk P w H h) (e : H a = some (ExV cls d a)) : ∃ (oe : Obj) (vs : Array Value), h.get? a = some oe ∧ Zc cls d oe ∧ oe.data = .fields vs := by
  have x : ObjOk P w H h a (.ext fun h => ∃ (oe : Obj) (vs : Array Value), h.get? a = some oe ∧ Zc cls d oe ∧ oe.data = .fields vs) := hok a _ e
  exact x.1
section
variable {X : Cx} {pins : List (Addr × Obj)} {σ : St} {H : Hp} {s : Shared}
/-- an object that was pinned, and is none of the entry's, is tracked from now on -/
theorem Inv.track {a : Addr} {oe : Obj} {vs : Array Value} {cls : Value} {d : Option Addr} (I : Inv X ((a, oe) :: pins) σ H s) (z : Zc cls d oe) (hd : oe.data = .fields vs) (n0 : X.s_0.heap.get? a = none) (np : ∀ p ∈ X.pn ++ pins, p.1 ≠ a) :
    Inv X pins σ (upd H a (ExV cls d a)) s := by
  obtain ⟨ha, na, nL, nF, nC⟩ := I.pin (a, oe) (List.mem_append_right _ List.mem_cons_self)
  have n1 : H a = none := na
  have ne0 : ∀ b o, X.s_0.heap.get? b = some o → b ≠ a := fun b o e q => by
    rw [q, n0] at e
    cases e
  have neS : ∀ b u, H b = some u → b ≠ a := fun b u e => ne_of_none e n1
  have sub : ∀ p ∈ X.pn ++ pins, p ∈ X.pn ++ ((a, oe) :: pins) := fun p hp => by
    rcases List.mem_append.mp hp with q | q
    · exact List.mem_append_left _ q
    · exact List.mem_append_right _ (List.mem_cons_of_mem _ q)
  refine ⟨I.ok, I.os, I.bare, ⟨I.base.keep, I.base.slot, fun b o e n hx => ?_, I.base.there, fun b xs e => ?_, fun b o u e => ?_, fun b ps e => ?_⟩, I.loc, I.cell, ?_, fun x c e => ?_, fun p hp => ?_, fun b u e => ?_, I.len⟩
  · rw [upd_ne (ne0 b o e)]
    exact I.base.free b o e n hx
  · have q := I.base.tups b xs e
    rw [upd_ne (neS b _ q)]
    exact q
  · have q := I.base.frzs b o u e
    rw [upd_ne (neS b _ q)]
    exact q
  · obtain ⟨more, q⟩ := I.base.tbls b ps e
    exact ⟨more, by rw [upd_ne (neS b _ q)]; exact q⟩
  · rw [upd_ne (Ne.symm nL)]
    exact I.free
  · have nc : c ≠ a := fun q => by
      obtain ⟨v, o, ho, hdc⟩ := I.cell x c e
      rw [q] at ho
      have ho2 : s.heap.get? a = some o := ho
      rw [show s.heap.get? a = some oe from ha] at ho2
      cases ho2
      exact nC v hdc
    rw [upd_ne nc]
    exact I.freeC x c e
  · obtain ⟨e, n, q1, q2, q3⟩ := I.pin p (sub p hp)
    exact ⟨e, by rw [upd_ne (np p hp)]; exact n, q1, q2, q3⟩
  · by_cases hb : b = a
    · subst hb
      rw [upd_same] at e
      cases e
      exact exV_ok ha z hd
    · rw [upd_ne hb] at e
      exact (I.hok b u e).stay (fun c v _ q => q) (fun c q => by rw [upd_ne (neS c _ q)]; exact q) fun c xs q => by rw [upd_ne (neS c _ q)]; exact q
end
/-- what the clause 'except x as n: c = n' wishes of an error of the body: slot i is n's, slot ic is c's -/
def wKeep (K : PySem.W.Frag) (cv : Value) (i ic : Nat) (Wout : WX) (D : Ends) : WX := fun cls d σ H =>
  ∃ b, PySem.W.exmOne K cls cv = some b ∧ (b = true → ∀ a, H a = none → D.nx ((σ.set ic (some (.ref a))).set i none) (upd H a (ExV cls d a))) ∧ (b = false → Wout cls d σ H)
section
variable {X : Cx} {x n c : Str} {cv : Value} {i ic : Nat} {body : List Stmt} {np np2 cp ap pos pos' : Pos} {tb : WX → TS} {Wout : WX}
theorem ps_try_keep (hs : X.stack = X.env :: X.outer) (hf : X.env.frame = some X.env.locals) (hex : X.ex = []) (hN : X.N.Nodup) (hi : X.N[i]? = some n) (hln : X.env.kindOf n = some .local) (hic : X.N[ic]? = some c) (hlc : X.env.kindOf c = some .local) (hc : Names X x cv) (hne : i ≠ ic) (tk : Takes X Wout)
    (hb : ∀ (W : WX) (pn : List (Addr × Obj)) (xe : Value → Shared → Prop), Takes (X.tr pn xe) W → PassesOwn (model X.prog X.w) X.A X.env xe → PSs (X.tr pn xe) body (tb W))
    (hsw : swapsWith (.Name n np2) (some (.Name c cp)) ap.line X.env = pure false := by rfl) (hdn : (n == ("__debug__" : Str)) = false := by decide +kernel) (hdc : (n == ("__classdict__" : Str)) = false := by decide +kernel) :
    PS X (.Try body [.ExceptHandler (some (.Name x np)) (some n) [.Assign [.Name c cp] (.Name n np2) ap] pos'] [] [] pos) (fun D σ H => tb (wKeep X.K cv i ic Wout D) D σ H) := by
  refine ⟨fun pins s σ H D I h => ?_⟩
  have ok := I.ok
  have hfr : X.A.frames = some (X.env :: X.outer) := by rw [ok.frames, hs]
  have hloc : Loc X.env.scope n := .inl hln
  refine wpAny_Try_except ?_
  refine wpAny_mono ((hb (wKeep X.K cv i ic Wout D) (X.pn ++ pins) (fun e s₁ => wpAny (model X.prog X.w) X.A (noteFrame e X.env) (fun _ s₂ => wpAny (model X.prog X.w) X.A (setFlight e none) (fun _ s₃ =>
    wpAny (model X.prog X.w) X.A (handleBy e X.env [.ExceptHandler (some (.Name x np)) (some n) [.Assign [.Name c cp] (.Name n np2) ap] pos']) (SP X pins D) X.xe s₃) X.xe s₂) X.xe s₁) (fun u s' xx => ?_) PassesOwn.looking).run [] s σ H D (I.toTry _) h) (fun f s1 hsp => ?_) (fun e s1 he => he)
  · obtain ⟨a, B, sI, pins', σ', H', cls, d, rfl, J', nb, up, sky, na, os, ag, b, hb1, hyes, hno⟩ := xx
    have J : Inv X pins σ' H' sI := J'.ofTry ok
    have sky' : Sky B (X.env :: X.outer) a (Zc cls d) X.env.locals s'.heap := by rw [← hs]; exact sky
    show wpAny (model X.prog X.w) X.A (noteFrame (.ref a) X.env) _ _ _
    refine Sky.land Zc.steady hfr hf sky' fun h3 fl3 up3 => ?_
    have J3 : Inv X pins σ' H' { s' with heap := h3 } := J.landed nb fl3.1 (up.trans up3) os ag
    obtain ⟨oe3, vs3, he3, hz3, hd3⟩ := fl3.there
    have hBa : B.get? a = none := fl3.2.1
    have nfr : a ∉ frs (X.env :: X.outer) := fun hm => by
      obtain ⟨_, o', e', hnf⟩ := fl3.2.2.1.mem hm
      rw [show h3.get? a = some oe3 from he3] at e'
      cases e'
      exact hnf _ hd3
    have nL : a ≠ X.env.locals := fun z => nfr (List.mem_filterMap.mpr ⟨X.env, List.mem_cons_self, by rw [hf, z]⟩)
    have nF : a ∉ X.fs := fun hm => by
      obtain ⟨e, he, q⟩ := List.mem_filterMap.mp hm
      exact nfr (List.mem_filterMap.mpr ⟨e, List.mem_cons_of_mem _ he, q⟩)
    have nI : sI.heap.get? a = none := by
      cases q : sI.heap.get? a with
      | none => rfl
      | some o =>
        have z := nb a o q (by rw [hs]; exact nfr)
        rw [hBa] at z
        cases z
    have n0 : X.s_0.heap.get? a = none := by
      cases q : X.s_0.heap.get? a with
      | none => rfl
      | some o =>
        obtain ⟨o', z⟩ := J.base.there a o q (by rw [hex]; exact fun z => nomatch z)
        rw [nI] at z
        cases z
    have np0 : ∀ p ∈ X.pn ++ pins, p.1 ≠ a := fun p hp q => by
      obtain ⟨e, _⟩ := J.pin p hp
      rw [q, nI] at e
      cases e
    have S3 := J3.suite he3 hd3 na nL nF
    refine wpAny_handleBy_cons (codeAny_handlers_test ?_) (by intro q; cases q)
    have LT : PySem.W.Looks (model X.prog X.w) h3 (typeOf (.ref a)) cls := fun A Q E s k q => wpAny_typeOf_ref (k _ _ he3) (by rw [hz3.1]; exact q)
    have LM := PySem.W.exm_one (M := model X.prog X.w) (J3.kIn) LT hb1
    have test : ∀ {Q : Value → Shared → Prop} {E : Value → Shared → Prop}, Q cv { s' with heap := h3 } → wpAny (model X.prog X.w) (X.A.mark (some (.ref a))) (eval (.Name x np) X.env) Q E { s' with heap := h3 } := fun {Q E} q => by
      obtain ⟨hg, hdbg, hm | ⟨hm, hv, hnn⟩⟩ := hc
      · exact ld_glob (X := X.suite a ((a, oe3) :: (X.pn ++ pins))) S3 hg hm q hdbg
      · exact ld_blt (X := X.suite a ((a, oe3) :: (X.pn ++ pins))) S3 hg hm hv q hnn hdbg
    refine test (LM.here ?_)
    cases b with
    | true =>
      refine codeAny_handlers_suite_as ?_
      refine HandSPX.lands_againZ fl3 fun h4 fl4 up4 => ?_
      have J4 : Inv X pins σ' H' { s' with heap := h4 } := J.landed nb fl4.1 ((up.trans up3).trans up4) os ag
      obtain ⟨oe4, vs4, he4, hz4, hd4⟩ := fl4.there
      have S4 := J4.suite he4 hd4 na nL nF
      refine store_ok (X := X.suite a ((a, oe4) :: (X.pn ++ pins))) (v := .ref a) S4 hN hi hloc rfl (fun s5 S5 => ?_) (.inr hln)
      have pS : PSs (X.suite a ((a, oe4) :: (X.pn ++ pins))) [.Assign [.Name c cp] (.Name n np2) ap] (tAsg (tVar i) (gName ic)) :=
        pss_one (ps_set (i := ic) hN hic (.inl hlc) (pe_var (i := i) hi (.inl hln) hdn hdc) hsw (.inr hlc))
      have hiσ : i < σ'.length := by
        rw [J.len]
        exact (List.getElem?_eq_some_iff.mp hi).1
      refine wpAny_mono (pS.run [] s5 _ H' { nx := fun σ6 H6 => σ6 = (σ'.set i (some (.ref a))).set ic (some (.ref a)) ∧ H6 = H', rt := fun _ _ => False } S5 ⟨.ref a, List.getElem?_set_self hiσ, rfl, rfl⟩) (fun f s6 hsp => ?_) (fun _ _ z => False.elim z)
      cases f with
      | next =>
        obtain ⟨σ6, H6, S6, rfl, rfl⟩ := hsp
        have J6 : Inv X ((a, oe4) :: pins) ((σ'.set i (some (.ref a))).set ic (some (.ref a))) H6 s6 :=
          ⟨ok, S6.os, S6.bare, S6.base, S6.loc, S6.cell, S6.free, S6.freeC, fun p hp => S6.pin p (by
            rw [List.append_nil]
            rcases List.mem_append.mp hp with q | q
            · exact List.mem_cons_of_mem _ (List.mem_append_left _ q)
            · rcases List.mem_cons.mp q with q | q
              · rw [q]
                exact List.mem_cons_self
              · exact List.mem_cons_of_mem _ (List.mem_append_right _ q)), S6.hok, S6.len⟩
        refine gone_ok J6 hN hi hln fun s7 J7 => ?_
        have T7 := J7.track hz4 hd4 n0 np0
        refine ⟨_, _, T7, ?_⟩
        have q := hyes rfl a na
        have es : (((σ'.set i (some (V.ref a))).set ic (some (V.ref a))).set i none) = ((σ'.set ic (some (V.ref a))).set i none) := by
          rw [List.set_comm _ _ hne, List.set_set]
        rw [es]
        exact q
      | brk =>
        obtain ⟨_, _, _, q⟩ := hsp
        exact False.elim q
      | cont =>
        obtain ⟨_, _, _, q⟩ := hsp
        exact False.elim q
      | ret u =>
        obtain ⟨_, _, _, _, _, q⟩ := hsp
        exact False.elim q
    | false =>
      show wpAny _ X.A (handleBy (.ref a) X.env []) _ _ _
      refine wpAny_handleBy_nil ?_
      obtain ⟨k1, k2, k3, oe, vs, T, oT, ts', he, hz, hd, h1, hr⟩ := id fl3
      unfold PySem.passOn
      refine wpAny_bind (wpAny_field he hd h1 ?_)
      rw [if_neg (show ¬ ((Value.ref T == Value.none) = true) from by simp)]
      have fin : wpAny (model X.prog X.w) X.A (setFlight (.ref a) X.env.frame) (fun _ s4 => wpAny (model X.prog X.w) X.A (throw (.ref a) : Sem Flow) (SP X pins D) X.xe s4) X.xe { s' with heap := h3 } := by
        rw [hf]
        refine HandSPX.setFlight_upZ fl3 fun h4 hh4 up4 => wpAny_throw (tk _ _ ?_)
        exact ⟨a, B, sI, pins, σ', H', cls, d, rfl, J, nb, (up.trans up3).trans up4, .inr (.inr (by rw [hs]; exact hh4)), na, os, ag, hno rfl⟩
      first
        | exact wpAny_bind (wpAny_pure (wpAny_bind fin))
        | exact wpAny_bind fin
  · cases f with
    | next =>
      obtain ⟨σ', H', J', q⟩ := hsp
      exact wpAny_execs_nil ⟨σ', H', J'.ofTry ok, q⟩
    | brk =>
      obtain ⟨σ', H', J', q⟩ := hsp
      exact ⟨σ', H', J'.ofTry ok, q⟩
    | cont =>
      obtain ⟨σ', H', J', q⟩ := hsp
      exact ⟨σ', H', J'.ofTry ok, q⟩
    | ret u =>
      obtain ⟨v, σ', H', J', r, q⟩ := hsp
      exact ⟨v, σ', H', J'.ofTry ok, r, q⟩
end
/-! ### what is asked of a kept error -/
/-- the class of a kept error: isinstance and fields are asked rightly -/
structure ExVC (K : PySem.W.Frag) (C : Addr) : Prop where
  cl : (PySem.W.clsIn K C).isSome = true
  ga : PySem.W.findIn K (.ref C) "__getattribute__" = some (some (.builtin "BaseException.__getattribute__"))
  gg : PySem.W.findIn K (.ref C) "__getattr__" = some none
  exC : PySem.W.subIn K (.ref C) (.type "BaseException") = some true
  hdC : PySem.W.hasDictIn K C = true
  ha : PySem.W.findIn K (.ref C) "__class__" = some (some (.builtin "object.__class__"))
  hn : PySem.W.specialIn K (.builtin "object.__class__") "__get__" = some (some (.builtin "getset_descriptor.__get__"))
  ht : PySem.W.takesIn K (.builtin "object.__class__") = some true
  hm : PySem.W.mroIn K C (.type "object") = some true
  noV : PySem.W.findIn K (.ref C) "value" = some none
section
variable {X : Cx}
theorem inst_exV {pins : List (Addr × Obj)} {σ : St} {H : Hp} {s : Shared} {a C dd : Addr} {fs : List (Str × V)} (I : Inv X pins σ H s) (e : H a = some (ExV (.ref C) (some dd) a)) (ed : H dd = some (.xd fs)) :
    ∃ (oe od : Obj) (mA : Str → Option Value), PySem.W.InstAt s.heap a oe C (some od) ∧ (∀ name, PySem.W.lookIn name od = some (mA name)) ∧ ∀ f, RelO (fs.lookup f) (mA f) := by
  obtain ⟨oe, vs, ha, hz, hd⟩ := exV_at I.hok e
  obtain ⟨mA, hns, hr⟩ := (show ObjOk X.prog X.w H s.heap dd (.xd fs) from I.hok dd _ ed)
  obtain ⟨od, ho, hl⟩ := lookIn_ns hns
  exact ⟨oe, od, mA, ⟨ha, hz.1, by unfold PySem.W.notCls; rw [hd] <;> rfl, by rw [hz.2]; exact ho⟩, hl, hr⟩
/-- isinstance(e, c), e a kept error -/
def rIsV (K : PySem.W.Frag) : List V → Hp → VK → Prop := fun xs H Q => ∃ (a C C2 dd : Addr) (fs : List (Str × V)) (b : Bool), xs = [.ref a, .ref C2] ∧ H a = some (ExV (.ref C) (some dd) a) ∧ H dd = some (.xd fs) ∧ ExVC K C ∧ PySem.W.kitOne K (.ref C) (.ref C2) = some b ∧ Q (.bl b) H
theorem call_isV : CallR X (.builtin "isinstance") (rIsV X.K) := by
  intro pins s σ H xs us Q I r h
  obtain ⟨a, C, C2, dd, fs, b, rfl, ea, ed, T, e, q⟩ := h
  obtain ⟨u1, u2, rfl, r1, r2⟩ := vals2 r
  cases (show u1 = Value.ref a from r1)
  cases (show u2 = Value.ref C2 from r2)
  obtain ⟨oe, od, mA, J, _, _⟩ := inst_exV I ea ed
  exact PySem.W.kia_one (PySem.W.kitx_exc (od := some od) (ox := oe) T.cl T.ga T.gg T.exC T.ha T.hn T.ht T.hm) I.kIn J e (fun z => nomatch z) fun tk => ⟨.bl b, H, I.tok tk, rfl, q⟩
/-- e.value, e a kept error -/
def tExV (K : PySem.W.Frag) (te : TE) : TE := fun σ H Q => te σ H fun x H1 => ∃ (a C dd : Addr) (fs : List (Str × V)) (v : V), x = .ref a ∧ H1 a = some (ExV (.ref C) (some dd) a) ∧ H1 dd = some (.xd fs) ∧ ExVC K C ∧ fs.lookup ("value" : Str) = some v ∧ Q v H1
theorem pe_exV {e : Expr} {te : TE} {pos : Pos} (he : PE X e te) (hb : attributeBase e "value" X.env (eval e X.env) = eval e X.env := by rfl) : PE X (.Attribute e "value" pos) (tExV X.K te) := by
  refine ⟨fun pins s σ H Q I h => ?_⟩
  refine attr_of hb (thn (he.run pins s σ H _ I h) fun u s1 hh => ?_)
  obtain ⟨x, H1, I1, rx, a, C, dd, fs, v, rfl, ea, ed, T, l, q⟩ := hh
  cases (show u = Value.ref a from rx)
  obtain ⟨oe, od, mA, J, hl, hr⟩ := inst_exV I1 ea ed
  obtain ⟨u, hu, ru⟩ := RelO.some_of (v := v) (o := mA "value") (by rw [← l]; exact hr "value")
  exact HandSPX.exc_get I1.kIn J T.ga T.gg T.exC (PySem.W.findObj_own T.hdC T.noV rfl (by rw [hl, hu])) (handed_of ru) ⟨v, H1, I1.tok _, ru, q⟩
end
end L2
set_option Elab.async false
set_option linter.all false
set_option maxRecDepth 100000
set_option maxHeartbeats 4000000
/-! Rules that the layer lacks: powers of greater numbers, repr of constants, methods of new tuples, == and != by an own __eq__. -/
namespace L2
open PySem PySem.Spec PyProof.Rows
section
variable {X : Cx}
/-- a ** b of greater numbers -/
def CPowW (i j : Int) : Prop := 0 ≤ j ∧ (Builtin.Int.intBits i : Int) * j ≤ 2 ^ 27
theorem op_powW : OpR X (binaryOp .Pow) (rI CPowW fun i j => .int (i ^ j.toNat)) := opI fun _ _ _ _ _ _ _ hc q => pow_int hc.1 hc.2 q
/-- repr of None, a bool, an int -/
def rRepr : List V → Hp → VK → Prop := fun xs H Q => (xs = [.non] ∧ Q (.str "None") H) ∨ (∃ b, xs = [.bl b] ∧ Q (.str (if b then "True" else "False")) H) ∨ ∃ i, xs = [.int i] ∧ i.natAbs.log2 < 1920 ∧ Q (.str (toString i)) H
theorem call_repr : CallR X (.builtin "repr") rRepr := by
  intro pins s σ H xs us Q I r h
  rcases h with ⟨rfl, q⟩ | ⟨b, rfl, q⟩ | ⟨i, rfl, hz, q⟩
  · obtain ⟨u, rfl, ru⟩ := vals1 r
    cases (show u = Value.none from ru)
    exact PySem.P.repr_of_none ⟨.str _, H, I.tok _, ⟨_, rfl⟩, q⟩
  · obtain ⟨u, rfl, ru⟩ := vals1 r
    cases (show u = Value.bool b from ru)
    exact PySem.P.repr_of_bool ⟨.str _, H, I.tok _, ⟨_, by cases b <;> rfl⟩, q⟩
  · obtain ⟨u, rfl, t, rfl⟩ := vals1 r
    exact PySem.P.repr_of_int hz ⟨.str _, H, I.tok _, ⟨_, rfl⟩, q⟩
/-- a tuple at p without a dict of its own: its methods may be called -/
def FT (H : Hp) (p : Addr) (xs : List V) : Prop := ∃ o : Obj, H p = some (.frz o (.tup xs)) ∧ o.cls = .type "tuple" ∧ o.dict = none
theorem FT.sq {K : PySem.W.Frag} {H : Hp} {p : Addr} {xs : List V} (h : FT H p xs) : SqT K H p xs := by
  obtain ⟨o, e, _⟩ := h
  exact .inl (.inr ⟨o, e⟩)
theorem FT.keep {H H' : Hp} {p : Addr} {xs : List V} (h : FT H p xs) (e : Same H H') : FT H' p xs := by
  obtain ⟨o, a, b⟩ := h
  exact ⟨o, e _ _ a, b⟩
theorem FT.ty {K : PySem.W.Frag} {H : Hp} {p : Addr} {xs : List V} (h : FT H p xs) : ∃ o : Obj, H p = some (.frz o (.tup xs)) := by
  obtain ⟨o, a, b⟩ := h
  exact ⟨o, a⟩
/-- a new tuple, laid so -/
theorem laidF {pins : List (Addr × Obj)} {σ : St} {H : Hp} {s : Shared} {ys : List V} {its : List Value} (I : Inv X pins σ H s) (r : Vals ys its) (hz : ys.length ≤ sizeLine) :
    Inv X pins σ (upd H s.heap.objs.size (.frz { cls := .type "tuple", data := .seq its.toArray } (.tup ys))) { s with heap := s.heap.push { cls := .type "tuple", data := .seq its.toArray } } :=
  I.laid (t' := s.toks) (fun b o e => Heap.get?_push_of_some _ e) (Nat.le_refl _) ⟨Heap.get?_push_size _ rfl, hz, its, r, IsTup.new _ _⟩
/-- tuple(xs), a list -/
def rTupF (K : PySem.W.Frag) : List V → Hp → VK → Prop := fun xs H Q => ∃ p ys, xs = [.ref p] ∧ SqL K H p ys ∧ ∀ l o, H l = none → o.cls = .type "tuple" → o.dict = none → Q (.ref l) (upd H l (.frz o (.tup ys)))
theorem call_tupF : CallR X (.type "tuple") (rTupF X.K) := by
  intro pins s σ H xs us Q I r h
  obtain ⟨p, ys, rfl, hq, q⟩ := h
  obtain ⟨u, rfl, rx⟩ := vals1 r
  cases rx
  obtain ⟨its, r', pl, hz⟩ := I.list hq
  have hlen := r'.length
  refine call_tuple_list pl.isList (fun h' kp => ?_) (by simp only [List.size_toArray] <;> omega)
  have I1 : Inv X pins σ H { s with heap := h' } := I.kept (t' := s.toks) kp
  exact ⟨.ref h'.objs.size, _, laidF I1 r' hz, rfl, q _ _ (I1.hok.fresh (Nat.le_refl _)) rfl rfl⟩
/-- a method of such a tuple -/
def tFM (r : V → List V → Hp → VK → Prop) (to : TE) (t : TA) : TE := fun σ H Q => to σ H fun x H1 => (∃ p xs, x = .ref p ∧ FT H1 p xs) ∧ t σ H1 fun xs H2 => r x xs H2 Q
theorem pe_fm {o e : Expr} {es : List Expr} {to : TE} {t : TA} {name : Str} {apos cpos : Pos} {id : String} {r : V → List V → Hp → VK → Prop} (pa : PlainAttrs "tuple") (slot : Slot "tuple" name id) (hty : typeOf (.builtin id) = pure (.type "method_descriptor")) (hm : MtR X id r) (ho : PE X o to) (ha : PA X (e :: es) t)
    (hbase : attributeBase o name X.env (eval o X.env) = eval o X.env := by rfl)
    (hfew : ((backTo cpos (starEach (e :: es) X.env)).all (fun x => !x.1) && (backToKw cpos (keywordEach [] X.env)).all (fun x => x.1.isSome)
      && decide ((e :: es).length + ([] : List Keyword).length + (if ([] : List Keyword).isEmpty then 0 else 1) < 30)) = true := by rfl)
    (hline : (apos.endLine == cpos.line) = true := by rfl) (hs : starEach (e :: es) X.env = (false, eval e X.env) :: starEach es X.env := by rfl) (hplain : (backTo cpos (starEach es X.env)).any (·.1) = false := by rfl) :
    PE X (.Call (.Attribute o name apos) (e :: es) [] cpos) (tFM r to t) := by
  refine ⟨fun pins s σ H Q I h => ?_⟩
  refine wpAny_Call_method_late hbase hfew hline rfl (thn (ho.run pins s σ H _ I h) fun v s1 hh => ?_)
  obtain ⟨x, H1, I1, r1, ⟨p, xs, rfl, ob, ep, ec, edn⟩, q1⟩ := hh
  cases (show v = Value.ref p from r1)
  obtain ⟨eo, _⟩ := (show ObjOk X.prog X.w H1 s1.heap p (.frz ob (.tup xs)) from I1.hok p _ ep)
  have eo : s1.heap.get? p = some ob := eo
  refine ⟨"tuple", id, pa, slot, hty, ⟨ob, eo, ec⟩, (fun a e => by cases e; exact ⟨ob, eo, edn⟩), ?_⟩
  have hA := ha.run cpos pins s1 σ H1 _ I1 q1
  rw [hs] at hA ⊢
  refine Calls.callWith_builtin (by show (false || (backTo cpos (starEach es X.env)).any (·.1)) = false; rw [hplain] <;> rfl) (Calls.evalArgs_plain ?_)
  exact thn hA fun us s2 ⟨vs, H2, I2, r2, q2⟩ => hm pins s2 σ H2 (.ref p) vs (Value.ref p) us Q I2 rfl r2 q2
/-- t.count(x), flat items -/
def rTCnt (K : PySem.W.Frag) : V → List V → Hp → VK → Prop := fun x xs H Q => ∃ (p : Addr) (ys : List V) (z : V), x = .ref p ∧ xs = [z] ∧ SqT K H p ys ∧ flatV z = true ∧ ys.all flatV = true ∧ Q (.int ((ys.countP fun y => eqV y z : Nat) : Int)) H
theorem countP_abs {z : V} : ∀ {ys : List V} {us : List Value}, Vals ys us → us.countP (fun u => match absV u with | some v => eqV v z | none => false) = ys.countP fun y => eqV y z
  | _, _, .nil => rfl
  | _, _, .cons r t => by
    rw [List.countP_cons, List.countP_cons, countP_abs t, r.abs]
theorem mt_tcount : MtR X "tuple.count" (rTCnt X.K) := by
  intro pins s σ H x xs v us Q I rx rxs h
  obtain ⟨p, ys, z, rfl, rfl, hs, fz, fy, q⟩ := h
  cases rx
  obtain ⟨u, rfl, ru⟩ := vals1 rxs
  obtain ⟨its, rv, ⟨⟨cls, dd, data, sl⟩, ho, hc, n, hd⟩, hlen⟩ := I.tuple hs
  simp only at hc hd
  subst hc hd
  refine call_meets PySem.F.slot_tuple_count ⟨_, ho, rfl⟩ PySem.F.entry_tuple_count (PySem.F.args_tuple_count_2 _ _)
    (SeqAt.tuple_countAt p its.toArray n dd sl u (fun u => match absV u with | some v => eqV v z | none => false)) ⟨ho, fun y hy => ?_, ?_⟩
  · have hy' : y ∈ its := by simpa using hy
    obtain ⟨i, hi, e⟩ := List.getElem_of_mem hy'
    have hl := rv.length
    have e1 : ys[i]? = some (ys[i]'(by omega)) := List.getElem?_eq_getElem (by omega)
    obtain ⟨w, ew, rw'⟩ := rv.get e1
    rw [List.getElem?_eq_getElem hi, e] at ew
    cases ew
    rw [rw'.abs]
    exact eqAt_V rw' ru (List.all_eq_true.mp fy _ (List.getElem_mem _)) fz
  · refine ⟨.int _, H, I.tok _, ⟨s.toks, ?_⟩, q⟩
    have e := countP_abs (z := z) rv
    show Value.int ((its.toArray.toList.countP _ : Nat) : Int) s.toks = _
    rw [← e]
end
end L2
set_option Elab.async false
set_option linter.all false
set_option maxRecDepth 100000
set_option maxHeartbeats 4000000
/-! == and != of two instances by the text's own __eq__, whatever it answers. -/
namespace OwnNe
open PySem PySem.Spec PyProof.Rows PySem.SeqAt
section
variable {prog : Program} {w : World} {A : Around} {E : Value → Shared → Prop} {s : Shared} {K : PySem.W.Frag} {x y C f L : Addr} {ox : Obj} {od : Option Obj} {h₀ : Heap} {m : Str → Option Value}
theorem entry {Q : Fin → Shared → Prop} (X : K.In s.heap) (I : PySem.W.InstAt s.heap x ox C od) (hu : A.units < cLine) (hs : PySem.W.findIn K (.ref C) "__eq__" = some (some (.ref f))) (hf : PySem.W.isFn K (.ref f) = true)
    (h : wpAny (model prog w) A (call (.ref f) [.ref x, .ref y]) (fun v s' => ∃ k, v = .bool k ∧ Q (.done (.ret (.bool (!k)))) s') E s) : wpAny (model prog w) A (Builtin.«object.__ne__» ⟨[.ref x, .ref y], []⟩) Q E s := by
  unfold Builtin.«object.__ne__»
  repeat (first
    | with_reducible refine wpAny_cRoomFor hu ?_
    | (refine wpAny_bind (m := callSpecialIfBound? (.ref x) (Str.ofString "__eq__") [.ref y])
        (PySem.W.ifBound_K X I hs hf (wpAny_mono h (fun r s' hr => by
          obtain ⟨b, rfl, hq⟩ := hr
          repeat (first | exact hq | exact wpAny_pure hq | exact wpAny_truthy_bool hq | (refine wpAny_bind (m := truthy (.bool _)) (wpAny_truthy_bool ?_)) | wp_step)) fun _ _ e => e)))
    | wp_step)
theorem ifBound_ne {M : Model} {args : List Value} {Q : Option Value → Shared → Prop} (X : K.In s.heap) (I : PySem.W.InstAt s.heap x ox C od) (hs : PySem.W.findIn K (.ref C) "__ne__" = some (some (.builtin "object.__ne__")))
    (h : wpAny M A (call (.builtin "object.__ne__") (.ref x :: args)) (fun v => Q (some v)) E s) : wpAny M A (callSpecialIfBound? (.ref x) "__ne__" args) Q E s := by
  simp only [callSpecialIfBound?, bindSpecialIfBound?]
  refine wpAny_holding (wpAny_bind (wpAny_bind (wpAny_bind (I.type.here ((PySem.W.looks_findIn X hs).here ?_)))))
  refine wpAny_bind (wpAny_askSetting (wpAny_ite ?_))
  have fin : wpAny M A (call (.builtin "object.__ne__") ([.ref x] ++ args) >>= fun v => pure (some v)) Q E s := wpAny_bind (wpAny_mono h (fun v s' h' => wpAny_pure h') fun _ _ h' => h')
  split
  · exact wpAny_bind (wpAny_of_eq (F.cmp_object.ne.bind _) (wpAny_pure (by exact fin)))
  · exact wpAny_tryCatch (wpAny_bind (wpAny_of_eq (F.cmp_object.ne.bind _) (wpAny_pure (by exact fin))))
theorem rc_ne {C2 : Addr} {Q : Value → Shared → Prop} (hu : A.units + 1 < cLine) (X : K.In s.heap) (I : PySem.W.InstAt s.heap x ox C od) (hb : PySem.W.Looks (model prog w) s.heap (typeOf (.ref y)) (.ref C)) (hm : PySem.W.mroIn K C (.type "object") = some true)
    (hs : PySem.W.findIn K (.ref C) "__eq__" = some (some (.ref f))) (hn : PySem.W.findIn K (.ref C) "__ne__" = some (some (.builtin "object.__ne__"))) (hf : PySem.W.isFn K (.ref f) = true)
    (h : wpAny (model prog w) A.in1 (call (.ref f) [.ref x, .ref y]) (fun v s' => ∃ k, v = .bool k ∧ Q (.bool (!k)) s') E s) : wpAny (model prog w) A (richCompare .NotEq (.ref x) (.ref y)) Q E s := by
  have one : wpAny (model prog w) A (tryCompare (.ref x) "__ne__" (.ref y)) (fun r s' => ∃ k, r = some (.bool (!k)) ∧ Q (.bool (!k)) s') E s := by
    unfold tryCompare
    refine wpAny_bind (ifBound_ne X I hn (wpAny_call (codeAny_call_builtin F.cmp_object.ne.plain F.cmpEntry_ne (PySem.W.check_slot F.cmpKind_ne F.cmpSplit_ne (I.type.andThen (PySem.W.looks_mroIn X hm)) (F.cmpArgs_ne _ _)
      (entry X I (by show A.units + 1 < cLine; exact hu) hs hf (wpAny_mono h (fun v s' hv => ?_) fun _ _ e => e))))))
    obtain ⟨b, rfl, hq⟩ := hv
    first | exact ⟨b, rfl, wpAny_pure ⟨b, rfl, hq⟩⟩ | exact ⟨b, rfl, ⟨b, rfl, hq⟩⟩
  unfold richCompare
  simp only [oneThing_ref]
  refine wpAny_holding (wpAny_bind (wpAny_cRoomFor (Nat.lt_of_succ_lt hu) ?_))
  rw [cmpInfo_NotEq]
  dsimp only
  refine wpAny_bind (I.type.here (wpAny_bind (hb.here ?_)))
  rw [show (Value.ref C != Value.ref C) = false from by simp]
  simp only [Bool.false_eq_true, if_false]
  refine wpAny_bind (wpAny_pure ?_)
  simp only [Bool.false_eq_true, if_false]
  refine wpAny_bind (wpAny_mono one (fun r s' hv => ?_) fun _ _ e => e)
  obtain ⟨b, rfl, hq⟩ := hv
  first | exact wpAny_pure hq | exact hq
end
end OwnNe
namespace L2
open PySem PySem.Spec PyProof.Rows
/-- a == b, a != b of two instances of the class at C; sp: what its own __eq__ promises -/
def rOwn (C : Addr) (sp : Sp) (E : XK) (g : Bool → Bool) : R2 := fun x y H Q => ∃ a b dx dy fs gs, x = .ref a ∧ y = .ref b ∧ H a = some (.ins C dx fs) ∧ H b = some (.ins C dy gs) ∧
  sp [.ref a, .ref b] H (fun v H' => ∃ k, v = .bl k ∧ Q (.bl (g k)) H') E
section
variable {X : Cx}
theorem op_ownEq {CX : CXT} {C f : Addr} {fd : FuncData} {ps : List Str} {sp : Sp} {E : XK} {k : Nat} (F : FnOk X.prog X.w X.K X.mg X.base CX k f fd ps sp) (hr : Room k X.A)
    (hs : PySem.W.findIn X.K (.ref C) "__eq__" = some (some (.ref f))) (hf : PySem.W.isFn X.K (.ref f) = true) (hb : Binds X.K fd ps []) (hx : Passes CX X E) : OpR X (compareOp .Eq) (rOwn C sp E id) := by
  intro pins s σ H x y v u Q I rx ry hq
  obtain ⟨a, b, dx, dy, fs, gs, rfl, rfl, ha, hb', hsp⟩ := hq
  cases rx
  cases ry
  obtain ⟨mA, J, _⟩ := ins_get I.hok ha
  obtain ⟨mB, J', _⟩ := ins_get I.hok hb'
  obtain ⟨od, J, _⟩ := J.look
  obtain ⟨od', J', _⟩ := J'.look
  obtain ⟨m, hF⟩ := I.fr
  show wpAny (model X.prog X.w) X.A (richCompare .Eq (.ref a) (.ref b)) (EP X pins σ Q) X.xe s
  refine PySem.W.cmp_K (op := .Eq) (tb := .ref C) hr.units0 hF I.ok.mod.kin J J'.type (by simp [PySem.W.notFirst]) hs hf ?_
  refine thn (run_fn (vs := [.ref a, .ref b]) (dvs := []) (Q := fun v H2 => ∃ k, v = .bl k ∧ Q (.bl k) H2) F hr hb .nil hx I (.cons rfl (.cons rfl .nil)) (by exact hsp)) fun v s1 hv => ?_
  obtain ⟨z, H', I', rz, k, rfl, q⟩ := hv
  cases rz
  exact ⟨.bl k, H', I', rfl, q⟩
theorem op_ownNe {CX : CXT} {C f : Addr} {fd : FuncData} {ps : List Str} {sp : Sp} {E : XK} {k : Nat} (F : FnOk X.prog X.w X.K X.mg X.base CX k f fd ps sp) (hr : Room (k + 1) X.A)
    (hs : PySem.W.findIn X.K (.ref C) "__eq__" = some (some (.ref f))) (hn : PySem.W.findIn X.K (.ref C) "__ne__" = some (some (.builtin "object.__ne__"))) (hm : PySem.W.mroIn X.K C (.type "object") = some true)
    (hf : PySem.W.isFn X.K (.ref f) = true) (hb : Binds X.K fd ps []) (hx : Passes CX X E) : OpR X (compareOp .NotEq) (rOwn C sp E not) := by
  intro pins s σ H x y v u Q I rx ry hq
  obtain ⟨a, b, dx, dy, fs, gs, rfl, rfl, ha, hb', hsp⟩ := hq
  cases rx
  cases ry
  obtain ⟨mA, J, _⟩ := ins_get I.hok ha
  obtain ⟨mB, J', _⟩ := ins_get I.hok hb'
  obtain ⟨od, J, _⟩ := J.look
  obtain ⟨od', J', _⟩ := J'.look
  show wpAny (model X.prog X.w) X.A (richCompare .NotEq (.ref a) (.ref b)) (EP X pins σ Q) X.xe s
  have hu : X.A.units + 1 < cLine := by have := hr.un; omega
  refine OwnNe.rc_ne (C2 := C) hu I.kIn J J'.type hm hs hn hf ?_
  have e0 : Env0 X.prog X.w X.K X.mg X.base X.A.in1 X.stack s H := I.env0.in1
  have hsp2 : sp [.ref a, .ref b] H (fun v H' => ∃ k, v = .bl k ∧ Q (.bl (!k)) H') E := hsp
  have hl := F.len _ _ _ _ hsp2
  have r2 : Vals [V.ref a, V.ref b] [Value.ref a, Value.ref b] := .cons rfl (.cons rfl .nil)
  refine wpAny_call (codeAny_mono (F.run X.A.in1 X.stack s H ⟨[.ref a, .ref b], []⟩ [.ref a, .ref b] [.ref a, .ref b] _ E hr.in1 e0 (by
    have := hb s [.ref a, .ref b] I.kIn (by simpa using hl)
    simpa using this) r2 hsp2) fun r s' hq => ?_)
  cases r with
  | error e => exact hx pins σ H s e s' I hq
  | ok fl =>
    cases fl with
    | ret w =>
      obtain ⟨z, H', I', rz, k, rfl, q⟩ := I.after hq
      cases rz
      exact ⟨k, rfl, .bl (!k), H', I', rfl, q⟩
    | next => exact False.elim hq
    | brk => exact False.elim hq
    | cont => exact False.elim hq
end
end L2
set_option Elab.async false
set_option linter.all false
set_option maxRecDepth 100000
set_option maxHeartbeats 4000000
/-! enumerate of a tuple. -/
namespace EnT
open PySem PySem.Spec PyProof.Rows
open AutoSeq1 (wpAny_loadPart')
section
variable {prog : Program} {w : World} {A : Around} {E : Value → Shared → Prop} {s : Shared}
/-- the inner iterator's next item -/
theorem next_of {it t : Addr} {i : Nat} {items : Array Value} {x : Value} {Q : Value → Shared → Prop} (hit : s.heap.IsTupleIter it t i) (ht : s.heap.IsTuple t items) (hx : items[i]? = some x)
    (hQ : ∀ h', h'.IsTupleIter it t (i + 1) → Heap.SameBut it s.heap h' → Q x { s with heap := h' }) : wpAny (model prog w) A (Builtin.SmallTypes.nextOf (.ref it)) Q E s := by
  obtain ⟨o, ho, hc, hd⟩ := id hit
  obtain ⟨ol, hol, _, nl, hdl⟩ := ht
  unfold Builtin.SmallTypes.nextOf
  refine wpAny_bind (wpAny_callSpecial?_slot (name := Str.ofString "__next__") hit.typeIs F.slot_tuple_iterator_next (wpAny_call_entry F.slot_tuple_iterator_next hit.typeIs F.entry_tuple_iterator_next ?_ (F.args_tuple_iterator_next_1 _)))
  show wpAny _ _ (field (.ref it) 0 >>= _) _ _ s
  refine wpAny_bind (wpAny_field ho hd (x := .ref t) rfl ?_)
  show wpAny _ _ (if (Value.ref t == Value.none) = true then _ else _) _ _ s
  rw [if_neg (show ¬ ((Value.ref t == Value.none) = true) from Bool.false_ne_true)]
  show wpAny _ _ (field (.ref it) 1 >>= _) _ _ s
  refine wpAny_bind (wpAny_field ho hd (x := .int i 0) rfl ?_)
  show wpAny _ _ (seqItems? (.ref t) >>= _) _ _ s
  refine wpAny_bind (wpAny_seqItems hol hdl ?_)
  simp only [Int.toNat_natCast, hx]
  refine wpAny_bind (wpAny_setField ho hd (by simp) (wpAny_pure ⟨x, rfl, wpAny_pure (hQ _ ?_ (Heap.SameBut.update ..))⟩))
  exact ⟨_, Heap.get?_update_self _ ho (Obj.isFreed_of_fields (Obj.data_mapFields hd _)), (Obj.cls_mapFields ..).trans hc, by rw [Obj.data_mapFields hd]; simp [rawInt]⟩
/-- .. and where there is none -/
theorem end_of {it t : Addr} {i : Nat} {items : Array Value} {Q : Value → Shared → Prop} (hh : A.handled = none) (hit : s.heap.IsTupleIter it t i) (ht : s.heap.IsTuple t items) (hx : items[i]? = none)
    (hE : ∀ h' e, Heap.ExtBut it s.heap h' → (∃ o, h'.get? e = some o ∧ o.cls = .type "StopIteration") → E (.ref e) { s with heap := h' }) : wpAny (model prog w) A (Builtin.SmallTypes.nextOf (.ref it)) Q E s := by
  obtain ⟨o, ho, hc, hd⟩ := id hit
  obtain ⟨ol, hol, _, nl, hdl⟩ := ht
  unfold Builtin.SmallTypes.nextOf
  refine wpAny_bind (wpAny_callSpecial?_slot (name := Str.ofString "__next__") hit.typeIs F.slot_tuple_iterator_next (wpAny_call_entry F.slot_tuple_iterator_next hit.typeIs F.entry_tuple_iterator_next ?_ (F.args_tuple_iterator_next_1 _)))
  show wpAny _ _ (field (.ref it) 0 >>= _) _ _ s
  refine wpAny_bind (wpAny_field ho hd (x := .ref t) rfl ?_)
  show wpAny _ _ (if (Value.ref t == Value.none) = true then _ else _) _ _ s
  rw [if_neg (show ¬ ((Value.ref t == Value.none) = true) from Bool.false_ne_true)]
  show wpAny _ _ (field (.ref it) 1 >>= _) _ _ s
  refine wpAny_bind (wpAny_field ho hd (x := .int i 0) rfl ?_)
  show wpAny _ _ (seqItems? (.ref t) >>= _) _ _ s
  refine wpAny_bind (wpAny_seqItems hol hdl ?_)
  simp only [Int.toNat_natCast, hx]
  refine wpAny_bind (wpAny_rule (wpAny_bind (wpAny_setField ho hd (by simp) ?_)))
  show wpAny _ _ (newExc (.type "StopIteration") [] >>= _) _ _ _
  refine wpAny_bind ?_
  simp only [newExc, newTuple]
  refine wpAny_bind (wpAny_newObj_type ?_ (by size_fits))
  refine wpAny_bind (m := firstArgMember _ _) (wpAny_of_eq (a := Value.none) (by first | rfl | (simp only [firstArgMember]; rfl)) ?_)
  refine wpAny_newObj_type ?_ (by size_fits)
  simp only [raiseNew]
  refine wpAny_bind (wpAny_handled ?_)
  first | rw [show A.in1.handled = none from hh] | rw [hh]
  refine wpAny_bind (wpAny_pure (wpAny_throw ?_))
  exact hE _ _ (((Heap.SameBut.update ..).extBut.push _).push _) ⟨_, Heap.get?_push_size _ rfl, rfl⟩
/-- the body of enumerate's next, over any inner iterator that has an item -/
theorem body_of {e it : Addr} {i : Nat} {x old : Value} {P : Heap → Prop} (he : IsEnum s.heap e it i old) (hne : e ≠ it)
    (hn : ∀ (Q : Value → Shared → Prop), (∀ h', P h' → Heap.SameBut it s.heap h' → Q x { s with heap := h' }) → wpAny (model prog w) A (Builtin.SmallTypes.nextOf (.ref it)) Q E s)
    (hp : ∀ h h', P h → (∀ o, h.get? it = some o → h'.get? it = some o) → P h') {Q : Value → Shared → Prop}
    (hQ : ∀ h', IsEnumOut h' e it ((i : Int) + 1) x s.heap.objs.size → P h' → h'.get? s.heap.objs.size = some { cls := .type "tuple", data := .seq #[.int i s.toks, x] } → h'.objs.size = s.heap.objs.size + 1 →
      (∀ b o, b ≠ e → b ≠ it → s.heap.get? b = some o → h'.get? b = some o) → Q (.ref s.heap.objs.size) { s with heap := h', toks := s.toks + 1 }) :
    wpAny (model prog w) A (Builtin.«enumerate.__next__» ⟨[.ref e], []⟩) (fun fin s' => ∃ v, fin = .done (.ret v) ∧ Q v s') E s := by
  have ne' : it ≠ e := Ne.symm hne
  obtain ⟨hp0, g, d, tk, os⟩ := s
  show wpAny _ _ (field (.ref e) 2 >>= _) _ _ _
  refine wpAny_bind (wpAny_field he rfl (x := .ref it) rfl ?_)
  refine wpAny_bind (hn _ fun h₁ p₁ hs₁ => ?_)
  replace hs₁ : Heap.SameBut it hp0 h₁ := hs₁
  have he₁ : IsEnum h₁ e it i old := (hs₁.2 e hne).trans he
  show wpAny _ _ (field (.ref e) 3 >>= _) _ _ ⟨h₁, g, d, tk, os⟩
  refine wpAny_bind (wpAny_field he₁ rfl (x := rawInt i) rfl ?_)
  show wpAny _ _ (field (.ref e) 4 >>= _) _ _ ⟨h₁, g, d, tk, os⟩
  refine wpAny_bind (wpAny_field he₁ rfl (x := .none) rfl ?_)
  show wpAny _ _ (mkInt i >>= _) _ _ ⟨h₁, g, d, tk, os⟩
  refine wpAny_bind (wpAny_mkInt ?_)
  show wpAny _ _ (setField (.ref e) 3 (rawInt ((i : Int) + 1)) >>= _) _ _ ⟨h₁, g, d, tk + 1, os⟩
  refine wpAny_bind (wpAny_setField_rec he₁ (by simp) fun h₂ he₂ hs₂ => ?_)
  replace hs₂ : Heap.SameBut e h₁ h₂ := hs₂
  replace he₂ : IsEnum h₂ e it ((i : Int) + 1) old := he₂
  show wpAny _ _ (setField (.ref e) 4 .none >>= _) _ _ ⟨h₂, g, d, tk + 1, os⟩
  refine wpAny_bind (wpAny_setField_rec he₂ (by simp) fun h₃ he₃ hs₃ => ?_)
  replace hs₃ : Heap.SameBut e h₂ h₃ := hs₃
  replace he₃ : IsEnum h₃ e it ((i : Int) + 1) old := he₃
  show wpAny _ _ (newTuple [.int i tk, x] >>= _) _ _ ⟨h₃, g, d, tk + 1, os⟩
  refine wpAny_bind (wpAny_newTuple ?_)
  have he₄ : IsEnum (h₃.push { cls := .type "tuple", data := .seq #[.int i tk, x] }) e it ((i : Int) + 1) old := Heap.get?_push_of_some _ he₃
  generalize hh₄ : h₃.push { cls := .type "tuple", data := .seq #[.int i tk, x] } = h₄ at he₄
  have hsz : h₃.objs.size = hp0.objs.size := by rw [hs₃.1, hs₂.1, hs₁.1]
  have hel : e < hp0.objs.size := Heap.lt_size he
  have ht₄ : h₄.get? hp0.objs.size = some { cls := .type "tuple", data := .seq #[.int i tk, x] } := by rw [← hh₄, ← hsz]; exact Heap.get?_push_size _ rfl
  have hz₄ : h₄.objs.size = hp0.objs.size + 1 := by rw [← hh₄, Heap.size_push, hsz]
  have hk₄ : ∀ b o, b ≠ e → b ≠ it → hp0.get? b = some o → h₄.get? b = some o := fun b o hbe hbi hb => by
    rw [← hh₄]
    exact Heap.get?_push_of_some _ (hs₃.extBut b o hbe (hs₂.extBut b o hbe (hs₁.extBut b o hbi hb)))
  have p₄ : P h₄ := by
    rw [← hh₄]
    exact hp h₁ _ p₁ fun o ho => Heap.get?_push_of_some _ (hs₃.extBut it o ne' (hs₂.extBut it o ne' ho))
  show wpAny _ _ (Builtin.SmallTypes.ownedTupleIsFree (.ref e) >>= _) _ _ ⟨h₄, g, d, tk + 1, os⟩
  rw [hsz]
  clear hh₄ he₃ hs₃ he₂ hs₂ he₁ hs₁ p₁ hsz h₃ h₂ h₁
  refine wpAny_bind ?_
  · unfold Builtin.SmallTypes.ownedTupleIsFree
    refine wpAny_bind (wpAny_field he₄ rfl (x := .none) rfl (wpAny_pure ?_))
    simp only [if_true]
    refine wpAny_bind (wpAny_rule ?_)
    refine wpAny_bind (wpAny_field he₄ rfl (x := old) rfl ?_)
    refine wpAny_bind (wpAny_setField_rec he₄ (by simp) fun h₅ he₅ hs₅ => ?_)
    replace hs₅ : Heap.SameBut e h₄ h₅ := hs₅
    replace he₅ : IsEnum h₅ e it ((i : Int) + 1) x := he₅
    show wpAny _ _ (Builtin.SmallTypes.ownedTupleHandOut (.ref e) (.ref hp0.objs.size) >>= _) _ _ ⟨h₅, g, d, tk + 1, os⟩
    refine wpAny_bind ?_
    · unfold Builtin.SmallTypes.ownedTupleHandOut
      refine wpAny_bind (wpAny_setField_rec he₅ (by simp) fun h₆ he₆ hs₆ => ?_)
      replace hs₆ : Heap.SameBut e h₅ h₆ := hs₆
      replace he₆ : IsEnumOut h₆ e it ((i : Int) + 1) x hp0.objs.size := he₆
      refine wpAny_setField_rec he₆ (by simp) fun h₇ he₇ hs₇ => ?_
      replace hs₇ : Heap.SameBut e h₆ h₇ := hs₇
      replace he₇ : IsEnumOut h₇ e it ((i : Int) + 1) x hp0.objs.size := he₇
      have kk : ∀ b o, b ≠ e → h₄.get? b = some o → h₇.get? b = some o := fun b o hb ho => hs₇.extBut b o hb (hs₆.extBut b o hb (hs₅.extBut b o hb ho))
      refine wpAny_bind (wpAny_letGo (wpAny_pure ⟨_, rfl, hQ h₇ he₇ ?_ ?_ ?_ ?_⟩))
      · exact hp h₄ _ p₄ fun o ho => kk it o ne' ho
      · exact kk _ _ (Nat.ne_of_gt hel) ht₄
      · rw [hs₇.1, hs₆.1, hs₅.1, hz₄]
      · exact fun b o hbe hbi hb => kk b o hbe (hk₄ b o hbe hbi hb)
theorem pyNext_item {e it l : Addr} {i : Nat} {items : Array Value} {x old : Value} {Q : Option Value → Shared → Prop}
    (he : IsEnum s.heap e it i old) (hit : s.heap.IsTupleIter it l i) (hl : s.heap.IsTuple l items) (hx : items[i]? = some x) (hne : e ≠ it)
    (hQ : ∀ h', IsEnumOut h' e it ((i : Int) + 1) x s.heap.objs.size → h'.IsTupleIter it l (i + 1) → h'.get? s.heap.objs.size = some { cls := .type "tuple", data := .seq #[.int i s.toks, x] } → h'.objs.size = s.heap.objs.size + 1 →
      (∀ b o, b ≠ e → b ≠ it → s.heap.get? b = some o → h'.get? b = some o) → Q (some (.ref s.heap.objs.size)) { s with heap := h', toks := s.toks + 1 }) :
    wpAny (model prog w) A (pyNext (.ref e)) Q E s := by
  have hT : s.TypeIs (.ref e) "enumerate" := ⟨_, he, rfl⟩
  unfold pyNext
  exact wpAny_bind (wpAny_attempt (wpAny_callSpecial?_slot (name := Str.ofString "__next__") hT F.slot_enumerate_next (wpAny_call_entry F.slot_enumerate_next hT F.entry_enumerate_next
    (body_of he hne (fun Q hq => next_of hit hl hx hq) (fun h h' p k => by obtain ⟨o, ho, r⟩ := p; exact ⟨o, k o ho, r⟩) fun h' a b c d k => wpAny_pure (hQ h' a b c d k)) (F.args_enumerate_next_1 _))))
theorem pyNext_end {e it l : Addr} {i : Nat} {items : Array Value} {old : Value} {Q : Option Value → Shared → Prop} (hh : A.handled = none)
    (he : IsEnum s.heap e it i old) (hit : s.heap.IsTupleIter it l i) (hl : s.heap.IsTuple l items) (hx : items[i]? = none) (hQ : ∀ h', Heap.ExtBut it s.heap h' → Q none { s with heap := h' }) : wpAny (model prog w) A (pyNext (.ref e)) Q E s := by
  have hT : s.TypeIs (.ref e) "enumerate" := ⟨_, he, rfl⟩
  unfold pyNext
  refine wpAny_bind (wpAny_attempt (wpAny_callSpecial?_slot (name := Str.ofString "__next__") hT F.slot_enumerate_next (wpAny_call_entry F.slot_enumerate_next hT F.entry_enumerate_next ?_ (F.args_enumerate_next_1 _))))
  show wpAny _ _ (field (.ref e) 2 >>= _) _ _ _
  refine wpAny_bind (wpAny_field he rfl (x := .ref it) rfl ?_)
  refine wpAny_bind (end_of hh hit hl hx fun h' x he' hx' => ?_)
  obtain ⟨o, ho, hc⟩ := hx'
  refine wpAny_bind (wpAny_isInstance (T := "StopIteration") (b := true) ⟨o, ho, hc⟩ isSubtype_stop ?_)
  exact wpAny_pure (hQ _ he')
theorem meets_new (l : Addr) (items : Array Value) (n : Nat) (dct : Option Addr) (sl : Array (Option Value)) :
    Meets (Builtin.«enumerate.__new__» ⟨[.type "enumerate", .ref l], []⟩) (fun _ R s => s.heap.get? l = some { cls := .type "tuple", dict := dct, data := .seq items n, slots := sl } ∧
      R (.ok (.ret (.ref (s.heap.push { cls := .type "tuple_iterator", data := .fields #[.ref l, .int 0 0] }).objs.size)))
        { s with heap := (s.heap.push { cls := .type "tuple_iterator", data := .fields #[.ref l, .int 0 0] }).push { cls := .type "enumerate", data := .fields #[.none, .bool false, .ref s.heap.objs.size, rawInt 0, .none, .none] } }) :=
  .of_wp fun prog w A R s h => by
    obtain ⟨hp, g, d, tk, os⟩ := s
    obtain ⟨hl, h⟩ := h
    have hsub := sub_enumerate
    have hL : Heap.IsTuple (Shared.heap ⟨hp, g, d, tk, os⟩) l items := ⟨_, hl, rfl, n, rfl⟩
    wp_walk using wpAny_loadPart' hl
    refine wpAny_stack_any fun st => wpAny_pure ?_
    split
    · rename_i c _ _ _ _ _
      cases (c == Value.type "enumerate")
      · wp_walk using wpAny_loadPart' hl, wpAny_pyIter_tuple hL
        exact ⟨_, rfl, h⟩
      · wp_walk using wpAny_loadPart' hl, wpAny_pyIter_tuple hL
        exact ⟨_, rfl, h⟩
    · wp_walk using wpAny_loadPart' hl, wpAny_pyIter_tuple hL
      exact ⟨_, rfl, h⟩
theorem call_new {l : Addr} {items : Array Value} {Q : Value → Shared → Prop} (hL : s.heap.IsTuple l items)
    (h : ∀ h', IsEnum h' (s.heap.objs.size + 1) s.heap.objs.size 0 .none → h'.IsTupleIter s.heap.objs.size l 0 → (∀ b o, s.heap.get? b = some o → h'.get? b = some o) → Q (.ref (s.heap.objs.size + 1)) { s with heap := h' }) :
    wpAny (model prog w) A (call (.type "enumerate") [.ref l]) Q E s := by
  obtain ⟨⟨c, dct, dt, sl⟩, hl, hc, n, hd⟩ := hL
  replace hc : c = .type "tuple" := hc
  replace hd : dt = .seq items n := hd
  subst hc hd
  refine callType_new F.called_enumerate (by decide) (F.typeCall_enumerate_1 _) (F.newCall_enumerate_1 _) (fun obj => F.args_object_init_2 obj _) F.entry_enumerate_new (meets_new l items n dct sl) ⟨hl, ?_⟩
  generalize hI : ({ cls := .type "tuple_iterator", data := .fields #[.ref l, .int 0 0] } : Obj) = oi
  have hz : (s.heap.push oi).objs.size = s.heap.objs.size + 1 := Heap.size_push ..
  show _ ∧ _
  rw [hz]
  have he : IsEnum ((s.heap.push oi).push { cls := .type "enumerate", data := .fields #[.none, .bool false, .ref s.heap.objs.size, rawInt 0, .none, .none] }) (s.heap.objs.size + 1) s.heap.objs.size 0 .none := by
    have := Heap.get?_push_size (s.heap.push oi) (o := { cls := .type "enumerate", data := .fields #[.none, .bool false, .ref s.heap.objs.size, rawInt 0, .none, .none] }) rfl
    rw [hz] at this
    exact this
  have hi : ((s.heap.push oi).push { cls := .type "enumerate", data := .fields #[.none, .bool false, .ref s.heap.objs.size, rawInt 0, .none, .none] }).IsTupleIter s.heap.objs.size l 0 := by
    subst hI
    exact ⟨_, Heap.get?_push_of_some _ (Heap.get?_push_size _ rfl), rfl, rfl⟩
  exact ⟨⟨_, he, rfl⟩, h _ he hi fun b o x => Heap.get?_push_of_some _ (Heap.get?_push_of_some _ x)⟩
end
end EnT
namespace L2
open PySem PySem.Spec PyProof.Rows
/-- the tuple at a, each item in a new pair -/
def Iet (K : PySem.W.Frag) (a : Addr) : It :=
  ⟨fun i H => ∃ (xs : List V) (x : V), SqT K H a xs ∧ xs[i]? = some x, fun i H v H' => ∃ T x, v = .ref T ∧ H T = none ∧ H' = upd H T (.tup [.int (i : Nat), x]) ∧ ∀ xs, SqT K H a xs → xs[i]? = some x, fun i H => ∃ xs : List V, SqT K H a xs ∧ xs.length ≤ i⟩
theorem turn_enumT {P : Program} {w : World} {K : PySem.W.Frag} {elts : List Expr} {kk : Nat} {tpos : Pos} (a e it : Addr) :
    Turn P w K (.Tuple elts kk tpos) (Iet K a) [e, it] e (fun i h => (∃ old, IsEnum h e it ((i : Nat) : Int) old) ∧ h.IsTupleIter it a i ∧ e ≠ it) where
  mem := by simp
  obj := fun i h st b hb => by
    obtain ⟨⟨old, he⟩, ⟨o, ho, hc, hd⟩, _⟩ := st
    have e' : b = e ∨ b = it := by simpa using hb
    rcases e' with z | z
    · rw [z]; exact ⟨_, he, fun v q => nomatch q⟩
    · rw [z]; exact ⟨o, ho, fun v q => by rw [hd] at q; cases q⟩
  keep := fun i h h' st k => let ⟨⟨old, he⟩, hi, hne⟩ := st; ⟨⟨old, k e (by simp) _ he⟩, hi.at fun o q => k it (by simp) o q, hne⟩
  item := by
    intro X hP hw hK hc i pins s σ H E I hf st hg
    subst hP hw hK
    obtain ⟨⟨old, he⟩, hit, hne⟩ := st
    obtain ⟨xs, x, hq, hx⟩ := hg
    obtain ⟨its, rv, p, hz⟩ := I.tuple hq
    obtain ⟨u, hu, ru⟩ := rv.get hx
    have hel : e < s.heap.objs.size := Heap.lt_size he
    have hil : it < s.heap.objs.size := by obtain ⟨_, q, _⟩ := hit; exact Heap.lt_size q
    refine EnT.pyNext_item he hit p (x := u) (by simpa using hu) hne fun h' ho hit' hT hsz hk => ?_
    refine ⟨_, rfl, wpAny_letOwnedTupleGo_enum (s := { s with heap := h', toks := s.toks + 1 }) ho fun h'' he' sb => ?_⟩
    have hT2 : h''.get? s.heap.objs.size = some { cls := .type "tuple", data := .seq #[.int i s.toks, u] } := (sb.2 _ (Nat.ne_of_gt hel)).trans hT
    have new : ObjOk X.prog X.w (upd H s.heap.objs.size (.tup [.int (i : Nat), x])) h'' s.heap.objs.size (.tup [.int (i : Nat), x]) :=
      ⟨by show 2 ≤ sizeLine; decide, [.int i s.toks, u], .cons ⟨_, rfl⟩ (.cons ru .nil), ⟨_, hT2, rfl, _, rfl⟩⟩
    have I1 : Inv X pins σ (upd H s.heap.objs.size (.tup [.int (i : Nat), x])) { s with heap := h'', toks := s.toks + 1 } :=
      I.turnedNew (ch := [e, it]) (fun b ob hb q => (sb.2 b (fun z => hb (by simp [z]))).trans (hk b ob (fun z => hb (by simp [z])) (fun z => hb (by simp [z])) q)) hf (Nat.le_refl _) new
    refine ⟨.ref s.heap.objs.size, _, I1, rfl, ⟨_, x, rfl, I.hok.fresh (Nat.le_refl _), rfl, fun ys hy => by rw [I.tuple_inj hy hq]; exact hx⟩, ⟨⟨u, ?_⟩, hit'.at fun o q => (sb.2 it (Ne.symm hne)).trans q, hne⟩, fun b hb => ?_⟩
    · have e1 : ((i + 1 : Nat) : Int) = (i : Int) + 1 := by omega
      rw [e1]; exact he'
    · have hb' : b < s.heap.objs.size := by
        have e' : b = e ∨ b = it := by simpa using hb
        rcases e' with z | z
        · rw [z]; exact hel
        · rw [z]; exact hil
      rw [upd_ne (Nat.ne_of_lt hb')]
      exact (hf b hb).1
  done := by
    intro X hP hw hK hc i pins s σ H E I hf st hg
    subst hP hw hK
    obtain ⟨⟨old, he⟩, hit, hne⟩ := st
    obtain ⟨xs, hq, hx⟩ := hg
    obtain ⟨its, rv, p, hz⟩ := I.tuple hq
    obtain ⟨f0, f1, f2, f3, f4, f5⟩ := hf it (by simp)
    have hl := rv.length
    exact EnT.pyNext_end (I.ok.hd hc) he hit p (by simp; omega) fun h' eb => ⟨rfl, I.turned (t' := s.toks) (fun b o hb q => eb b o hb q) f0 f1 f3 f4 f5⟩
  self := fun A i s Q E st h => let ⟨⟨_, he⟩, _⟩ := st; wpAny_pyIter_enum he h
def iEnT (K : PySem.W.Frag) (ta : TA) : TI := fun σ H R => ta σ H fun vs H1 => ∃ a xs, vs = [.ref a] ∧ SqT K H1 a xs ∧ R (Iet K a) H1
theorem pi_enumT {X : Cx} {e : Expr} {ta : TA} {p pos tpos : Pos} {elts : List Expr} {kk : Nat} (hg : Gl X "enumerate") (hm : X.mg "enumerate" = none) (ha : PA X [e] ta) (hs : starEach [e] X.env = [(false, eval e X.env)] := by rfl) :
    PI X (.Tuple elts kk tpos) (.Call (.Name "enumerate" p) [e] [] pos) (iEnT X.K ta) := by
  refine ⟨fun pins s σ H R I h => ?_⟩
  refine Call_ (ld_blt I hg hm boot_enumerate (PyProof.Rows.callWith_type1 (thn (ha.run pos pins s σ H _ I h) fun us s1 ⟨vs, H1, I1, r1, q1⟩ => ?_) hs rfl))
  obtain ⟨a, xs, ex, hq, q⟩ := q1
  subst ex
  cases r1 with
  | cons r rr =>
    cases rr
    cases r
    obtain ⟨its, rv, p', hz⟩ := I1.tuple hq
    refine EnT.call_new p' fun h' he hit hk => wpAny_pyIter_enum he ?_
    have I2 : Inv X pins σ H1 { s1 with heap := h' } := I1.kept (t' := s1.toks) hk
    refine ⟨s1.heap.objs.size + 1, [s1.heap.objs.size + 1, s1.heap.objs.size], _, _, H1, rfl, I2, turn_enumT a (s1.heap.objs.size + 1) s1.heap.objs.size, ⟨⟨.none, he⟩, hit, Nat.succ_ne_self _⟩, fun b hb => ?_, q⟩
    have e' : b = s1.heap.objs.size + 1 ∨ b = s1.heap.objs.size := by simpa using hb
    have hle : s1.heap.objs.size ≤ b := by
      rcases e' with z | z
      · rw [z]; exact Nat.le_add_right _ _
      · rw [z]; exact Nat.le_refl _
    exact I1.fpOk hle (I1.hok.fresh hle)
/-- for (i, x) in enumerate(t): the invariant by the turn -/
theorem for_enT {K : PySem.W.Frag} {a : Addr} {xs : List V} {g : TG} {tb : TS} {D : Ends} {σ : St} {H : Hp} (Pv : Nat → St → Hp → Prop) (h0 : Pv 0 σ H) (hl : ∀ i σ H, i ≤ xs.length → Pv i σ H → SqT K H a xs)
    (hs : ∀ i x σ H T, xs[i]? = some x → Pv i σ H → H T = none → g (.ref T) σ (upd H T (.tup [.int (i : Nat), x])) fun σ2 H2 => tb { D with nx := Pv (i + 1), ct := Pv (i + 1), bk := D.nx } σ2 H2) (hd : ∀ σ H, Pv xs.length σ H → D.nx σ H) :
    ∃ W : Nat → Nat → St → Hp → Prop, (∃ m, W 0 m σ H) ∧ ∀ i m σ H, W i m σ H →
      ((Iet K a).stop i H ∧ D.nx σ H) ∨ ((Iet K a).go i H ∧ ∃ N : St → Hp → Prop, (∀ σ' H', N σ' H' → ∃ m', m' < m ∧ W (i + 1) m' σ' H') ∧ ∀ x H', (Iet K a).yld i H x H' → g x σ H' fun σ2 H2 => tb { D with nx := N, ct := N, bk := D.nx } σ2 H2) := by
  refine ⟨fun i m σ H => m = xs.length - i ∧ i ≤ xs.length ∧ Pv i σ H, ⟨xs.length, by simp, Nat.zero_le _, h0⟩, ?_⟩
  rintro i m σ H ⟨rfl, hi, p⟩
  have q := hl i σ H hi p
  by_cases hlt : i < xs.length
  · refine .inr ⟨⟨xs, xs[i], q, by simp [hlt]⟩, Pv (i + 1), fun σ' H' p' => ⟨xs.length - (i + 1), by omega, rfl, hlt, p'⟩, fun v H' y => ?_⟩
    obtain ⟨T, x, rfl, nT, rfl, hx⟩ := y
    exact hs i x σ H T (hx xs q) p nT
  · have e : i = xs.length := by omega
    subst e
    exact .inl ⟨⟨xs, q, Nat.le_refl _⟩, hd σ H p⟩
end L2
set_option Elab.async false
set_option linter.all false
set_option maxRecDepth 100000
set_option maxHeartbeats 4000000
/-! A tuple times any small int, as a tuple whose methods may be called. -/
namespace L2
open PySem PySem.Spec PyProof.Rows
open AutoSeq1 (wpAny_loadPart')
theorem tuple_mul0 (l : Addr) (items : Array Value) (n : Nat) (dd : Option Addr) (sl : Array (Option Value)) (u : Tok) (c1 : items.isEmpty = false) :
    Meets (Builtin.«tuple.__mul__» ⟨[.ref l, .int 0 u], []⟩) (fun _ R s => s.heap.get? l = some { cls := .type "tuple", dict := dd, data := .seq items n, slots := sl } ∧
      R (.ok (.ret (Value.ref s.heap.objs.size))) { s with heap := s.heap.push { cls := Value.type "tuple", data := Data.seq #[] }, toks := s.toks }) :=
  .of_wp fun prog w A R s h => by
    obtain ⟨hp, g, d, tk, os⟩ := s
    obtain ⟨hl, h⟩ := h
    have f1 := AutoSeq1.idx_int
    have e1 : (items.isEmpty || (0 : Int) == 1) = false := by rw [c1] <;> rfl
    wp_walk using wpAny_loadPart' hl
    repeat (first
      | (refine wpAny_ite_false (decide_eq_false (by decide)) ?_; wp_walk using wpAny_loadPart' hl)
      | (refine wpAny_ite_false (decide_eq_false (by rw [e1]; exact Bool.false_ne_true)) ?_; wp_walk using wpAny_loadPart' hl)
      | (refine wpAny_ite_true (decide_eq_true (by rw [c1]; rfl)) ?_; wp_walk using wpAny_loadPart' hl))
    exact ⟨_, rfl, h⟩
theorem tuple_mul1 (l : Addr) (items : Array Value) (n : Nat) (dd : Option Addr) (sl : Array (Option Value)) (u : Tok) :
    Meets (Builtin.«tuple.__mul__» ⟨[.ref l, .int 1 u], []⟩) (fun _ R s => s.heap.get? l = some { cls := .type "tuple", dict := dd, data := .seq items n, slots := sl } ∧ R (.ok (.ret (Value.ref l))) s) :=
  .of_wp fun prog w A R s h => by
    obtain ⟨hp, g, d, tk, os⟩ := s
    obtain ⟨hl, h⟩ := h
    have f1 := AutoSeq1.idx_int
    have e1 : (items.isEmpty || (1 : Int) == 1) = true := by simp
    wp_walk using wpAny_loadPart' hl
    repeat (first
      | (refine wpAny_ite_false (decide_eq_false (by decide)) ?_; wp_walk using wpAny_loadPart' hl)
      | (refine wpAny_ite_true (decide_eq_true e1) ?_; wp_walk using wpAny_loadPart' hl))
    exact ⟨_, rfl, h⟩
section
variable {X : Cx} {es : List Expr} {t : TA} {pos : Pos}
/-- a tuple of written items, whose methods may be called -/
def tTupF (t : TA) : TE := fun σ H Q => t σ H fun xs H1 => xs.length ≤ sizeLine ∧ ∀ p o, H1 p = none → o.cls = .type "tuple" → o.dict = none → Q (.ref p) (upd H1 p (.frz o (.tup xs)))
theorem pe_tupF {x1} (h : PA X es t) : PE X (.Tuple es x1 pos) (tTupF t) := by
  refine ⟨fun pins s σ H Q I hq => ?_⟩
  refine wpAny_Tuple_spliced (thn (h.run pos pins s σ H _ I hq) fun us s1 ⟨xs, H1, I1, r, z, q⟩ => ⟨by rw [← r.length]; exact z, ?_⟩)
  have hf : H1 s1.heap.objs.size = none := I1.hok.fresh (Nat.le_refl _)
  exact ⟨.ref s1.heap.objs.size, _, laidF I1 r z, rfl, q _ _ hf rfl rfl⟩
/-- t * k, 0 ≤ k ≤ 5000 -/
def rRepF : R2 := fun x y H Q => ∃ l k xs, x = .ref l ∧ y = .int k ∧ FT H l xs ∧ xs ≠ [] ∧ 0 ≤ k ∧ k ≤ 5000 ∧ xs.length ≤ 1000 ∧ (k = 1 → Q (.ref l) H) ∧
  (k ≠ 1 → ∀ p o, H p = none → o.cls = .type "tuple" → o.dict = none → Q (.ref p) (upd H p (.frz o (.tup (List.replicate k.toNat xs).flatten))))
theorem op_repF : OpR X (binaryOp .Mult) rRepF := by
  intro pins s σ H x y v u Q I rx ry h
  obtain ⟨l, k, xs, rfl, rfl, hT, hne, h1, h2, hz, q1, q2⟩ := h
  cases rx
  obtain ⟨t, rfl⟩ := ry
  obtain ⟨its, r, ⟨⟨cls, dd, data, sl⟩, ho, hc, n, hd⟩, hs⟩ := I.tuple (hT.sq (K := X.K))
  simp only at hc hd
  subst hc hd
  have hle : its.length = xs.length := r.length.symm
  have hn : its ≠ [] := fun e => hne (by
    rw [e] at hle
    exact List.eq_nil_of_length_eq_zero hle.symm)
  have hi : its.toArray.isEmpty = false := by
    cases its with
    | nil => exact absurd rfl hn
    | cons a b => rfl
  have hsz0 : its.toArray.size = xs.length := by rw [List.size_toArray, hle]
  have road : ∀ {Q' : Value → Shared → Prop}, wpAny (model X.prog X.w) X.A (call (.builtin "tuple.__mul__") [.ref l, .int k t]) Q' X.xe s → wpAny (model X.prog X.w) X.A (binaryOp .Mult (.ref l) (.int k t)) Q' X.xe s := fun {Q'} hcall =>
    wpAny_binaryOp_repeat_ref (T := "tuple") (U := "int") (by decide) ⟨_, ho, rfl⟩ (fun s' => typeIs_int s' k t) noFill_tuple_mul F.fills_int_mul F.slot_int_rmul repeat_tuple F.slot_int_index.lookup
      (call_meets F.slot_int_rmul (typeIs_int s k t) F.entry_int_rmul (F.args_int_rmul_2 _ _) (int_rmul_tuple k t l its.toArray n dd sl) ⟨ho, rfl, ⟨_, ho, rfl⟩, hcall⟩)
  by_cases k1 : k = 1
  · subst k1
    exact road (call_meets F.slot_tuple_mul ⟨_, ho, rfl⟩ F.entry_tuple_mul (F.args_tuple_mul_2 _ _) (tuple_mul1 l its.toArray n dd sl t) ⟨ho, ⟨.ref l, H, I, rfl, q1 rfl⟩⟩)
  · by_cases k0 : k = 0
    · subst k0
      refine road (call_meets F.slot_tuple_mul ⟨_, ho, rfl⟩ F.entry_tuple_mul (F.args_tuple_mul_2 _ _) (tuple_mul0 l its.toArray n dd sl t hi) ⟨ho, ?_⟩)
      exact ⟨.ref s.heap.objs.size, _, laidF (ys := []) (its := []) I .nil (Nat.zero_le _), rfl, q2 k1 _ _ (I.hok.fresh (Nat.le_refl _)) rfl rfl⟩
    · have hm : ((its.toArray.size : Nat) : Int) * k ≤ 5000000 := by
        rw [hsz0]
        have a1 : ((xs.length : Nat) : Int) * k ≤ 1000 * k := Int.mul_le_mul_of_nonneg_right (by omega) (by omega)
        omega
      have flen : (List.replicate k.toNat its).flatten.length ≤ sizeLine := by
        rw [PyProof.Rows.lm_len_rep_flat, hle, sizeLine_eq]
        have a1 : k.toNat * xs.length ≤ 5000 * 1000 := Nat.mul_le_mul (by omega) hz
        omega
      have c0 : (decide (k < -(2 ^ 63)) || decide (k ≥ 2 ^ 63)) = false := by
        rw [decide_eq_false (by omega), decide_eq_false (by omega)] <;> rfl
      have c1 : (its.toArray.isEmpty || k == 1) = false := by
        rw [hi, Bool.false_or]
        exact beq_eq_false_iff_ne.mpr (by omega)
      have c2 : (decide (k ≤ 0) || its.toArray.isEmpty) = false := by
        rw [hi, Bool.or_false]
        exact decide_eq_false (by omega)
      have c4 : Builtin.Tuple.tupleTooMany (((its.toArray.size : Nat) : Int) * k) = false := by
        unfold Builtin.Tuple.tupleTooMany
        rw [sizeLine_eq]
        exact decide_eq_false (by omega)
      refine road (call_meets F.slot_tuple_mul ⟨_, ho, rfl⟩ F.entry_tuple_mul (F.args_tuple_mul_2 _ _) (tuple_mulW l its.toArray n dd sl k t c0 c1 c2 (by omega) c4 (by rw [size_rep, List.size_toArray]; exact flen)) ⟨ho, ?_⟩)
      rw [size_rep]
      exact ⟨.ref s.heap.objs.size, _, laidF I (r.rep k.toNat) (by rw [(r.rep k.toNat).length]; exact flen), rfl, q2 k1 _ _ (I.hok.fresh (Nat.le_refl _)) rfl rfl⟩
end
end L2
set_option Elab.async false
set_option linter.all false
set_option maxRecDepth 100000
set_option maxHeartbeats 4000000
/-! all(test for x in a tuple). -/
namespace GxT
open PySem PySem.Spec PyProof.Rows L2 GxR
/-- the element: a test of the item z -/
def EltT (X : Cx) (scope : Scope) (x : Str) (elt : Expr) (ok : V → Prop) (pb : V → Bool) : Prop :=
  ∀ (cenv : Env) (A' : Around) (E' : Value → Shared → Prop) (z : V) (u : Value) (s₂ : Shared) (m₂ : Str → Option Value), Mod X.K X.mg X.base → cenv.scope = scope → cenv.globals = mainGlobals → cenv.builtins = builtinsNs → (∀ b o, X.base.get? b = some o → s₂.heap.get? b = some o) →
    ok z → RelV z u → s₂.heap.Ns cenv.locals m₂ → m₂ x = some u → wpAny (model X.prog X.w) A' (eval elt cenv) (fun y s₃ => y = .bool (pb z) ∧ Keeps s₂ s₃) E' s₂
def trV (pb : V → Bool) (l : List V) (j : Nat) : Bool := match l[j]? with
  | some b => pb b
  | none => false
theorem trV_some {pb : V → Bool} {l : List V} {j : Nat} {b : V} (h : l[j]? = some b) : trV pb l j = pb b := by
  unfold trV
  rw [h]
theorem all_trV (l : List V) (pb : V → Bool) : (List.range l.length).all (trV pb l) = l.all pb := by
  rw [Bool.eq_iff_iff, List.all_eq_true, List.all_eq_true]
  constructor
  · intro h b hb
    obtain ⟨j, hj, e⟩ := List.getElem_of_mem hb
    have q := h j (List.mem_range.mpr hj)
    rw [trV_some (List.getElem?_eq_getElem hj), e] at q
    exact q
  · intro h j hj
    have hj' := List.mem_range.mp hj
    rw [trV_some (List.getElem?_eq_getElem hj')]
    exact h _ (List.getElem_mem hj')
section
variable {X : Cx} {pins : List (Addr × Obj)} {σ : L2.St} {H : Hp} {s : Shared}
def ReadyT (X : Cx) (pins : List (Addr × Obj)) (σ : L2.St) (H1 : Hp) (P : Addr) (xs : List V) (pb : V → Bool) (g : Addr) (s5 : Shared) : Prop :=
  ∃ (fp wr : List Addr) (G : Array GenState → Array GenState → Prop) (F : Nat → Value → Prop) (St : Nat → Shared → Prop),
    WalksS X.prog X.w X.A.in1 g fp wr G xs.length F St ∧ St 0 s5 ∧ TruthOf X.prog X.w X.A.in1 F (trV pb xs) ∧ ∀ s', Moved wr G s5 s' → ∃ H2, Tabbed P H1 H2 ∧ Inv X pins σ H2 s'
theorem gen_tup {c P : Addr} {elt iter : Expr} {x : Str} {px gpos : Pos} {scope : Scope} {ok : V → Prop} {pb : V → Bool} {te : TE} {k : Nat} {Q' : Value → Shared → Prop} {R : List V → Hp → Prop}
    (hr : Room k X.A) (TB : TabB X.base X.mg c P) (hcode : X.env.code = .ref c) (S : GenS X.env scope x) (hi : PE X iter te) (hel : EltT X scope x elt ok pb)
    (hs : ∀ v, genFold iter X.env v = pure v) (I : Inv X pins σ H s) (h : te σ H fun v H1 => ∃ (yl : Addr) (xs : List V), v = .ref yl ∧ SqT X.K H1 yl xs ∧ (∀ a ∈ xs, ok a) ∧ TabG H1 P ∧ R xs H1)
    (hQ : ∀ xs H1 g s5, R xs H1 → ReadyT X pins σ H1 P xs pb g s5 → Q' (.ref g) s5) :
    wpAny (model X.prog X.w) X.A (eval (.GeneratorExp elt [⟨.Name x px, iter, [], 0⟩] scope gpos) X.env) Q' X.xe s := by
  refine wpAny_GeneratorExp_walksQ hr.hd S.co (closure_ok S.free) S.cell S.dot S.loc S.kind (by have := hr.dp; omega) ?_ hs
  refine thn (hi.run pins s σ H _ I h) fun xv s1 ⟨v, H1, I1, r1, q1⟩ => ?_
  obtain ⟨yl, xs, rfl, hyl, hok, ⟨ps, hP, ht⟩, q1⟩ := q1
  obtain rfl : xv = Value.ref yl := r1
  obtain ⟨its, rv, hl, hz⟩ := I1.tuple hyl
  have hIL : s1.heap.IsTuple yl its.toArray := hl
  have hlen : its.length = xs.length := rv.length.symm
  have hat : ∀ (i : Nat) (v : Value), its.toArray[i]? = some v → ∃ z : V, xs[i]? = some z ∧ RelV z v := fun i v hv => by
    have hv2 : its[i]? = some v := by simpa using hv
    have hi2 : i < its.length := (List.getElem?_eq_some_iff.mp hv2).1
    have ha : xs[i]? = some (xs[i]'(by omega)) := List.getElem?_eq_getElem _
    obtain ⟨u, hu, ru⟩ := rv.get ha
    rw [hv2] at hu
    cases hu
    exact ⟨_, ha, ru⟩
  refine wpAny_pyIter_tuple hIL ?_
  generalize ho : ({ cls := .type "tuple_iterator", data := .fields #[.ref yl, .int 0 0] } : Obj) = o
  have hitr : (s1.heap.push o).IsTupleIter s1.heap.objs.size yl 0 := by
    subst ho
    exact ⟨_, Heap.get?_push_size _ rfl, rfl, rfl⟩
  have hylt : yl < s1.heap.objs.size := by
    obtain ⟨_, e, _⟩ := _root_.id hIL
    exact Heap.lt_size e
  have hPs : s1.heap.get? P = some { cls := .none, data := .fields ps } := I1.hok P _ hP
  have hPlt : P < s1.heap.objs.size := Heap.lt_size hPs
  have hP2 : (s1.heap.push o).get? P = some { cls := .none, data := .fields ps } := Heap.get?_push_of_some _ hPs
  have cd : PySem.W.CodeHd (s1.heap.push o) c P := TB.code.keeps fun b u e => Heap.get?_push_of_some _ (I1.bk b u e)
  have lim2 : (s1.heap.push o).NoLimit := I1.nolimit.push o
  have cont : ∀ (code : Value) (h3 : Heap) (tk : Nat) (ps' : Array Value), Heap.ExtBut P (s1.heap.push o) h3 → (s1.heap.push o).objs.size ≤ h3.objs.size → h3.get? P = some { cls := .none, data := .fields ps' } → (∃ more, ps' = ps ++ more) → TriplesOk ps'.toList →
      wpAny (model X.prog X.w) X.A (builtinsFor X.env.globals X.env.builtins) (fun bi s₄ =>
        ∃ Ia fp wr n₀ Pf St₀ pz F, Value.ref s1.heap.objs.size = .ref Ia ∧ (∀ A' : Around, A'.handled = none → Walks X.prog X.w A' Ia fp wr n₀ Pf St₀) ∧ St₀ 0 s₄.heap ∧ (∀ b ∈ fp, b < s₄.heap.objs.size) ∧ s₄.heap.NoLimit ∧ cStatics ∉ wr ∧
          (∀ href : Heap, (∀ b o, s₄.heap.get? b = some o → href.get? b = some o) →
            QuietGen X.prog X.w (genEnv scope (cloFrom X.env.cells scope.names []) s₄.heap.objs.size code bi X.env) x [] elt (List.range s₄.heap.objs.size) wr Pf pz F href) ∧
          (∀ a h₅ tk gs, gs.bare = true → s₄.heap.objs.size < a → h₅.objs.size = a + 1 → (∀ b o, s₄.heap.get? b = some o → h₅.get? b = some o) →
            WalksS X.prog X.w X.A.in4 a (a :: s₄.heap.objs.size :: List.range s₄.heap.objs.size) (s₄.heap.objs.size :: wr) (GenOnlyQ s₄.gens.size) (passing pz n₀ 0).length
              (fun j y => ∃ i, (passing pz n₀ 0)[j]? = some i ∧ F i y) (GenAt X.prog X.w X.A.in4 a s₄.gens.size s₄.heap.objs.size (List.range s₄.heap.objs.size) wr pz n₀ F) →
            GenAt X.prog X.w X.A.in4 a s₄.gens.size s₄.heap.objs.size (List.range s₄.heap.objs.size) wr pz n₀ F 0 { s₄ with gens := s₄.gens.push gs, toks := tk, heap := h₅ } →
            Q' (.ref a) { s₄ with gens := s₄.gens.push gs, toks := tk, heap := h₅ })) X.xe { s1 with heap := h3, toks := tk } := by
    intro code h3 tk ps' hx hsz hP3 hmore ht3
    obtain ⟨bm, ob, e1, e2, e3, e4, e5, e6, e7, e8⟩ := TB.bm
    have hcP : cStatics ≠ P := fun e => by
      obtain ⟨_, hns, _⟩ := I1.nolimit
      obtain ⟨o', es, ep, ho, hd, _⟩ := hns
      rw [e, hPs] at ho
      cases ho
      cases hd
    have hcl : cStatics < s1.heap.objs.size := let ⟨_, hns, _⟩ := I1.nolimit; hns.lt
    have sz2 : (s1.heap.push o).objs.size = s1.heap.objs.size + 1 := Heap.size_push ..
    have keep3 : ∀ b u, b ≠ P → s1.heap.get? b = some u → h3.get? b = some u := fun b u hb e => hx b u hb (Heap.get?_push_of_some _ e)
    have baseK : ∀ b u, X.base.get? b = some u → h3.get? b = some u ∧ b < s1.heap.objs.size := fun b u e => by
      obtain ⟨e1', e2'⟩ := I1.bs b u e
      refine ⟨keep3 b u (fun z => ?_) e1', Heap.lt_size e1'⟩
      rw [z, hP] at e2'
      cases e2'
    refine wpAny_builtinsFor (m := X.mg) (by rw [I1.ok.glob]; exact ((I1.mod.glob.keeps I1.bk).push o).extBut hx TB.gP) e1 e2 (keep3 _ _ e4 (I1.bk _ _ e5)) e6 e7 e8 ?_
    have hylP : yl ≠ P := fun z => by
      obtain ⟨ot, e, hc1, nt, hd1⟩ := _root_.id hIL
      rw [z, hPs] at e
      cases e
      cases hd1
    have hIL3 : h3.IsTuple yl its.toArray := by
      obtain ⟨ob, e, r⟩ := _root_.id hIL
      exact ⟨ob, keep3 _ _ hylP e, r⟩
    have hItr3 : h3.IsTupleIter s1.heap.objs.size yl 0 := hitr.at fun u e => hx _ u (Nat.ne_of_gt hPlt) e
    refine ⟨s1.heap.objs.size, [s1.heap.objs.size, yl], [s1.heap.objs.size], its.toArray.size, (fun i v => its.toArray[i]? = some v), (fun i h => h.IsTupleIter s1.heap.objs.size yl i ∧ h.IsTuple yl its.toArray), (fun _ => true),
      (fun i y => ∃ z : V, xs[i]? = some z ∧ y = .bool (pb z)), rfl, (fun A' hA => Walks.tuple hA _ _ (Nat.ne_of_lt hylt) _), ⟨hItr3, hIL3⟩, ?_, lim2.extBut hx hcP, ?_, ?_, ?_⟩
    · intro b hb
      rcases List.mem_cons.mp hb with z | z
      · rw [z]
        show s1.heap.objs.size < h3.objs.size
        omega
      · rcases List.mem_cons.mp z with z | z
        · rw [z]
          have e9 : s1.heap.objs.size ≤ h3.objs.size := by omega
          exact Nat.lt_of_lt_of_le hylt e9
        · cases z
    · intro z
      rcases List.mem_cons.mp z with z | z
      · exact Nat.ne_of_lt hcl z
      · cases z
    · intro href hhref
      refine ⟨fun A' E' i v s₂ m₂ hA hPv hn hm hk => ?_, fun A' E' i v s₂ m₂ hA hPv hp hn hm hk => ?_⟩
      · simp only [List.forIn_nil]
        exact wpAny_pure ⟨rfl, GxR.keeps_refl _⟩
      · obtain ⟨z, ha, rz⟩ := hat i v hPv
        refine wpAny_mono (hel _ A' E' z v s₂ m₂ I1.mod rfl I1.ok.glob rfl (fun b u e => ?_) (hok z (List.mem_of_getElem? ha)) rz hn hm) (fun y s3 r => ?_) fun _ _ e => e
        · obtain ⟨e1', e2'⟩ := baseK b u e
          refine hk b (List.mem_range.mpr (Heap.lt_size e1')) (fun z => ?_) u (hhref b u e1')
          rcases List.mem_cons.mp z with z | z
          · rw [z] at e2'
            exact Nat.lt_irrefl _ e2'
          · cases z
        · obtain ⟨e, kp⟩ := r
          exact ⟨⟨z, ha, e⟩, kp⟩
    · intro g h5 tk5 gs hgb hag hsz5 hk5 W5 hgat
      simp only [GxR.passing_true, List.length_range] at W5
      have hn5 : its.toArray.size = xs.length := by rw [List.size_toArray, hlen]
      rw [hn5] at W5 hgat
      refine hQ xs H1 g _ q1 ⟨_, _, _, _, _, W5.in4_1, hgat, ?_, fun s' hm => ?_⟩
      · intro j y sj Qj Ej hy hQj
        obtain ⟨i, hij, z, hz', rfl⟩ := hy
        obtain ⟨hj, ej⟩ := List.getElem?_eq_some_iff.mp hij
        rw [List.getElem_range] at ej
        subst ej
        have hQ2 : Qj (trV pb xs j) sj := hQj
        rw [trV_some hz'] at hQ2
        exact wpAny_truthy_bool hQ2
      · obtain ⟨more, em⟩ := hmore
        have nwr : ∀ b u, s1.heap.get? b = some u → b ∉ h3.objs.size :: [s1.heap.objs.size] := fun b u e hb => by
          have hl := Heap.lt_size e
          rcases List.mem_cons.mp hb with z | z
          · rw [z] at hl
            have h9 : (h3.objs.size : Nat) < s1.heap.objs.size := hl
            omega
          · rcases List.mem_cons.mp z with z | z
            · rw [z] at hl
              exact Nat.lt_irrefl _ hl
            · cases z
        have J := inv_tab (more := more) (h' := s'.heap) (g' := s'.gens) (d' := s'.drawn) (t' := s'.toks) I1 hP (fun b u hb e => hm.heap b u (nwr b u e) (hk5 b u (keep3 b u hb e)))
          (by rw [← em]; exact hm.heap P _ (nwr P _ hPs) (hk5 P _ hP3)) (AllBare.movedS (I1.bare.push hgb) hm)
        rw [sh_eta s1 s' hm.os] at J
        refine ⟨upd H1 P (.tbl (ps ++ more)), ⟨⟨ps ++ more, upd_same, by rw [← em]; exact ht3⟩, fun b hb => upd_ne hb⟩, J⟩
  refine ⟨lim2, ?_⟩
  cases hf : codeAmong gpos ps.toList with
  | none =>
    refine wpAny_genexprCodeX hcode (cd.code hP2 ht) (cd.tab hP2) hf fun c' h' tk hx hge hlt hco' _ htab' _ => ?_
    obtain ⟨o1, vs, f1, tf, fl, tg, inF, tx, tt, op, _, _, _, _, _, _, _, _, _, htr, _⟩ := hco'
    exact cont _ h' tk _ hx (Nat.le_trans hge (Nat.le_of_lt hlt)) htab'.2 ⟨_, rfl⟩ htr
  | some cv =>
    refine wpAny_genexprCode_hit hcode (cd.code hP2 ht) hf ?_
    exact cont cv (s1.heap.push o) s1.toks ps (Heap.ExtBut.refl _ _) (Nat.le_refl _) hP2 ⟨#[], by simp⟩ ht
/-- all(test for x in e), e a tuple; behind it the def's table may have grown -/
def tAllT (K : PySem.W.Frag) (P : Addr) (ok : V → Prop) (pb : V → Bool) (te : TE) : TE := fun σ H Q => te σ H fun v H1 => ∃ (yl : Addr) (xs : List V), v = .ref yl ∧ SqT K H1 yl xs ∧ (∀ a ∈ xs, ok a) ∧ TabG H1 P ∧ ∀ H2, Tabbed P H1 H2 → Q (.bl (xs.all pb)) H2
theorem pe_allT {c P : Addr} {elt iter : Expr} {x : Str} {px p pos gpos : Pos} {scope : Scope} {ok : V → Prop} {pb : V → Bool} {te : TE} {k : Nat}
    (hr : Room k X.A) (hg : Gl X "all") (hm : X.mg "all" = none) (hb : bootBuiltins "all" = some (.builtin "all")) (TB : TabB X.base X.mg c P) (hcode : X.env.code = .ref c) (S : GenS X.env scope x) (hi : PE X iter te) (hel : EltT X scope x elt ok pb)
    (hs : ∀ v, genFold iter X.env v = pure v)
    (he : starEach [.GeneratorExp elt [⟨.Name x px, iter, [], 0⟩] scope gpos] X.env = (false, eval (.GeneratorExp elt [⟨.Name x px, iter, [], 0⟩] scope gpos) X.env) :: starEach [] X.env := by rfl) :
    PE X (.Call (.Name "all" p) [.GeneratorExp elt [⟨.Name x px, iter, [], 0⟩] scope gpos] [] pos) (tAllT X.K P ok pb te) := by
  refine ⟨fun pins s σ H Q I h => ?_⟩
  refine wpAny_Call_Name_kw (ld_blt I hg hm hb ?_)
  refine PyProof.Rows.callWith_builtin1 ?_ he (by rfl)
  rw [he]
  show wpAny _ _ (spliced ((false, eval (.GeneratorExp elt [⟨.Name x px, iter, [], 0⟩] scope gpos) X.env) :: backTo pos (starEach [] X.env))) _ _ s
  refine Calls.spliced_cons (gen_tup (R := fun xs H1 => ∀ H2, Tabbed P H1 H2 → Q (.bl (xs.all pb)) H2) hr TB hcode S hi hel hs I h fun a H1 g s5 hR hG => ?_)
  obtain ⟨fp, wr, G, F, St, W, hst, htr, hI⟩ := hG
  refine Calls.spliced_nil ?_
  refine call_all_walkS (W.self 0 _ _ _ hst ⟨g, fp, wr, G, _, F, St, _, rfl, W, hst, htr, fun s' hmv => ?_⟩)
  obtain ⟨H2, hT, J⟩ := hI s' hmv
  refine ⟨.bl _, H2, J, rfl, ?_⟩
  rw [all_trV a pb]
  exact hR H2 hT
end
/-- a text, an int -/
def StrInt (z : V) : Prop := (∃ y, z = .str y) ∨ ∃ i, z = .int i
/-- is it one of two words -/
def isW (f a : Str) : V → Bool := fun z => decide (z = .str f) || decide (z = .str a)
/-- isinstance(x, str) and x in (F, A) -/
theorem elt_words {X : Cx} {scope : Scope} {x nF nA f a : Str} {k1 : Nat} {p1 p2 p3 p4 p5 p6 p7 p8 p9 p10 : Pos} {uF uA : Value} (hk : scope.kind = .function) (hl : scope.names.lookup x = some .local)
    (gI : scope.names.lookup ("isinstance" : Str) = some .globalImplicit) (gS : scope.names.lookup ("str" : Str) = some .globalImplicit) (gF : scope.names.lookup nF = some .globalImplicit) (gA : scope.names.lookup nA = some .globalImplicit)
    (mI : X.mg "isinstance" = none) (mS : X.mg "str" = none) (mF : X.mg nF = some uF) (mA : X.mg nA = some uA) (rF : RelV (.str f) uF) (rA : RelV (.str a) uA)
    (hd : (x == ("__debug__" : Str)) = false := by decide +kernel) (hd2 : (nF == ("__debug__" : Str)) = false := by decide +kernel) (hd3 : (nA == ("__debug__" : Str)) = false := by decide +kernel) :
    EltT X scope x (.BoolOp .And [.Call (.Name "isinstance" p1) [.Name x p2, .Name "str" p3] [] p4, .Compare (.Name x p5) [.In] [.Tuple [.Name nF p6, .Name nA p7] k1 p8] p9] p10) StrInt (isW f a) := by
  intro cenv A' E' z u s₂ m₂ M hs hgl hbl hbase hok rz hn hm
  have hkf : cenv.scope.kind = .function := by rw [hs]; exact hk
  have kx : cenv.kindOf x = some .local := by show cenv.scope.names.lookup x = _; rw [hs]; exact hl
  have hG : s₂.heap.Ns cenv.globals X.mg := by rw [hgl]; exact M.glob.keeps hbase
  obtain ⟨mb, hb1, hb2⟩ := M.blt
  have hB : s₂.heap.Ns cenv.builtins mb := by rw [hbl]; exact hb1.keeps hbase
  have kin : X.K.In s₂.heap := M.kin.keeps hbase
  have blt : ∀ {nm : Str} {v : Value} {p : Pos} {Q : Value → Shared → Prop}, cenv.scope.names.lookup nm = some .globalImplicit → X.mg nm = none → bootBuiltins nm = some v → nm ≠ "__name__" → (nm == ("__debug__" : Str)) = false → Q v s₂ → wpAny (model X.prog X.w) A' (eval (.Name nm p) cenv) Q E' s₂ :=
    fun hgk hmm hv hne hdb q => Calls.Name_function_global hkf hgk (Calls.loadGlobal_builtin hG hmm hB ((hb2 _ hne).trans hv) q) hdb
  have glo : ∀ {nm : Str} {v : Value} {p : Pos} {s₃ : Shared} {Q : Value → Shared → Prop}, s₃.heap.Ns cenv.globals X.mg → cenv.scope.names.lookup nm = some .globalImplicit → X.mg nm = some v → (nm == ("__debug__" : Str)) = false → Q v s₃ → wpAny (model X.prog X.w) A' (eval (.Name nm p) cenv) Q E' s₃ :=
    fun hG3 hgk hmm hdb q => Calls.Name_function_global hkf hgk (Calls.loadGlobal_global hG3 hmm q) hdb
  refine BoolOp_and ?_
  refine wpAny_Call_Name_kw (blt (by rw [hs]; exact gI) mI PyProof.Rows.boot_isinstance (by decide +kernel) (by decide +kernel) ?_)
  refine PyProof.Rows.callWith_builtin1 ?_ (by rfl) (by rfl)
  refine Calls.spliced_cons (wpAny_Name (wpAny_loadName_local hkf kx hn hm ?_) hd)
  refine Calls.spliced_cons (blt (by rw [hs]; exact gS) mS PyProof.Rows.boot_str (by decide +kernel) (by decide +kernel) ?_)
  refine Calls.spliced_nil ?_
  rcases hok with ⟨y, rfl⟩ | ⟨i, rfl⟩
  · obtain ⟨t, rfl⟩ := rz
    have ek : PySem.W.kitOne X.K (.type "str") (.type "str") = some true := kit_ty (by decide +kernel)
    refine PySem.W.kia_one PySem.W.kitx_str kin True.intro ek (fun z => nomatch z) fun tk => ?_
    refine wpAny_truthy_bool ?_
    show wpAny _ _ (eval (.BoolOp .And [.Compare (.Name x p5) [.In] [.Tuple [.Name nF p6, .Name nA p7] k1 p8] p9] p10) cenv) _ _ _
    refine BoolOp_one ?_
    refine wpAny_Compare1 ?_ (by with_unfolding_all rfl)
    refine wpAny_Name (wpAny_loadName_local (s := { s₂ with toks := tk }) hkf kx hn hm ?_) hd
    refine wpAny_Tuple_spliced ?_
    refine Calls.spliced_cons (glo hG (by rw [hs]; exact gF) mF hd2 ?_)
    refine Calls.spliced_cons (glo hG (by rw [hs]; exact gA) mA hd3 ?_)
    refine Calls.spliced_nil ⟨by show 2 ≤ sizeLine; decide, ?_⟩
    obtain ⟨tF, rfl⟩ := rF
    obtain ⟨tA, rfl⟩ := rA
    have hT : (s₂.heap.push { cls := .type "tuple", data := .seq [Value.str f tF, Value.str a tA].toArray }).IsTuple s₂.heap.objs.size [Value.str f tF, Value.str a tA].toArray := ⟨_, Heap.get?_push_size _ rfl, rfl, _, rfl⟩
    have rr : Vals [V.str f, V.str a] [Value.str f tF, Value.str a tA] := .cons (show RelV (.str f) _ from ⟨_, rfl⟩) (.cons (show RelV (.str a) _ from ⟨_, rfl⟩) .nil)
    refine SeqAt.in_tupleAt (s := { s₂ with toks := tk, heap := s₂.heap.push { cls := .type "tuple", data := .seq [Value.str f tF, Value.str a tA].toArray } }) (eqU (.str y)) hT (fun w hw => mem_eqAt (x := V.str y) (xs := [V.str f, V.str a]) (show RelV (.str y) (.str y t) from ⟨t, rfl⟩) rfl rr rfl w (by simpa using hw)) ⟨?_, ?_⟩
    · congr 1
      rw [show ([Value.str f tF, Value.str a tA].toArray).any (eqU (.str y)) = [Value.str f tF, Value.str a tA].any (eqU (.str y)) by simp, any_eqU rr rfl]
      show (eqV (.str f) (.str y) || (eqV (.str a) (.str y) || false)) = isW f a (.str y)
      rw [Bool.or_false]
      unfold isW
      have e1 : ∀ g : Str, eqV (.str g) (.str y) = decide (V.str y = V.str g) := fun g => by
        show decide (g = y) = _
        by_cases e : g = y
        · subst e; simp
        · rw [decide_eq_false e, decide_eq_false (fun z => e (V.str.inj z).symm)]
      rw [e1, e1]
    · exact ⟨_, _, rfl, fun b o e => Heap.get?_push_of_some _ e⟩
  · obtain ⟨t, rfl⟩ := rz
    have ek : PySem.W.kitOne X.K (.type "int") (.type "str") = some false := kit_ty (by decide +kernel)
    refine PySem.W.kia_one PySem.W.kitx_int kin True.intro ek (fun z => nomatch z) fun tk => ?_
    refine wpAny_truthy_bool ?_
    exact ⟨rfl, GxR.keeps_tok _ _⟩
end GxT
set_option Elab.async false
set_option linter.all false
set_option maxRecDepth 100000
set_option maxHeartbeats 4000000
/-! == and != of two tuples whose items are of one kind: ints, bools, texts. -/
namespace L2
open PySem PySem.Spec PyProof.Rows
def dV : V → PyData
  | .bl b => .bool b
  | .int i => .int i
  | .str x => .str x
  | _ => .none
/-- 0: ints, 1: bools, 2: texts -/
def kindV : V → Nat
  | .int _ => 0
  | .bl _ => 1
  | .str x => if PyData.strOk x = true then 2 else 3
  | _ => 3
theorem kind_str {x : Str} : kindV (.str x) = if PyData.strOk x = true then 2 else 3 := rfl
theorem dp_dV {K : PySem.W.Frag} {H : Hp} {v : V} (h : kindV v < 3) : Dp K H v (dV v) := by
  cases v with
  | int i => exact .int i
  | bl b => exact .bl b
  | str x => exact .str x
  | _ => exact absurd h (by simp [kindV])
theorem dpAll_dV {K : PySem.W.Frag} {H : Hp} : ∀ {xs : List V}, (∀ x ∈ xs, kindV x < 3) → DpAll K H xs (xs.map dV)
  | [], _ => .nil
  | x :: xs, h => .cons (dp_dV (h x List.mem_cons_self)) (dpAll_dV fun y hy => h y (List.mem_cons_of_mem _ hy))
theorem eqv_dV {x y : V} {k : Nat} (hk : k < 3) (hx : kindV x = k) (hy : kindV y = k) : PyData.eqv (dV x) (dV y) = decide (x = y) := by
  subst hx
  cases x with
  | int i =>
    cases y with
    | int j =>
      unfold dV PyData.eqv
      by_cases e : i = j <;> simp [e]
    | bl b => simp [kindV] at hy
    | str z =>
      rw [kind_str] at hy
      split at hy <;> simp [kindV] at hy
    | _ => simp [kindV] at hy
  | bl i =>
    cases y with
    | bl j =>
      unfold dV PyData.eqv
      by_cases e : i = j <;> simp [e]
    | int b => simp [kindV] at hy
    | str z =>
      rw [kind_str] at hy
      split at hy <;> simp [kindV] at hy
    | _ => simp [kindV] at hy
  | str i =>
    have h2 : kindV (.str i) = 2 := by
      rw [kind_str] at hk ⊢
      split at hk
      · rename_i e; rw [if_pos e]
      · omega
    rw [h2] at hy
    cases y with
    | str j =>
      unfold dV PyData.eqv
      by_cases e : i = j <;> simp [e]
    | _ => simp [kindV] at hy
  | _ => simp [kindV] at hk
theorem eqvAll_dV {k : Nat} (hk : k < 3) : ∀ {xs ys : List V}, (∀ x ∈ xs, kindV x = k) → (∀ y ∈ ys, kindV y = k) → PyData.eqvAll (xs.map dV) (ys.map dV) = decide (xs = ys)
  | [], [], _, _ => by unfold PyData.eqvAll; simp
  | [], y :: ys, _, _ => by
    rw [List.map_nil, List.map_cons]
    unfold PyData.eqvAll
    simp
  | x :: xs, [], _, _ => by
    rw [List.map_nil, List.map_cons]
    unfold PyData.eqvAll
    simp
  | x :: xs, y :: ys, hx, hy => by
    have ih := eqvAll_dV hk (xs := xs) (ys := ys) (fun z hz => hx z (List.mem_cons_of_mem _ hz)) fun z hz => hy z (List.mem_cons_of_mem _ hz)
    rw [List.map_cons, List.map_cons]
    unfold PyData.eqvAll
    rw [ih, eqv_dV hk (hx x List.mem_cons_self) (hy y List.mem_cons_self)]
    by_cases e : x = y <;> by_cases e2 : xs = ys <;> simp [e, e2]
theorem lay_dV {k : Nat} (hk : k < 3) : ∀ {xs : List V}, (∀ x ∈ xs, kindV x = k) → PyData.canLayAll0 (xs.map dV) = true ∧ PyData.depthAll (xs.map dV) = 0
  | [], _ => by
    rw [List.map_nil]
    unfold PyData.canLayAll0 PyData.depthAll
    exact ⟨rfl, rfl⟩
  | x :: xs, h => by
    obtain ⟨h1, h2⟩ := lay_dV hk (xs := xs) fun y hy => h y (List.mem_cons_of_mem _ hy)
    have hx := h x List.mem_cons_self
    rw [List.map_cons]
    unfold PyData.canLayAll0 PyData.depthAll
    rw [h1, h2]
    cases x with
    | int i => unfold dV PyData.canLay0 PyData.depth; exact ⟨rfl, rfl⟩
    | bl i => unfold dV PyData.canLay0 PyData.depth; exact ⟨rfl, rfl⟩
    | str i =>
      have e : PyData.strOk i = true := by
        rw [kind_str] at hx
        split at hx
        · assumption
        · omega
      unfold dV PyData.canLay0 PyData.depth
      rw [e]
      exact ⟨rfl, rfl⟩
    | _ =>
      simp [kindV] at hx
      omega
theorem shaped_dV {k : Nat} (hk : k < 3) {xs : List V} (h : ∀ x ∈ xs, kindV x = k) : SeqAt.shaped (.tuple (xs.map dV)) = true := by
  obtain ⟨h1, h2⟩ := lay_dV hk h
  unfold SeqAt.shaped PyData.canLay0 PyData.depth
  rw [h1, h2]
  rfl
/-- two tuples of one kind of items -/
def rEqT (K : PySem.W.Frag) (g : Bool → Bool) : R2 := fun x y H Q => ∃ a b xs ys k, x = .ref a ∧ y = .ref b ∧ SqT K H a xs ∧ SqT K H b ys ∧ k < 3 ∧ (∀ x ∈ xs, kindV x = k) ∧ (∀ y ∈ ys, kindV y = k) ∧ Q (.bl (g (decide (xs = ys)))) H
section
variable {X : Cx}
theorem op_eqT (hu : X.A.units + 64 < cLine) : OpR X (compareOp .Eq) (rEqT X.K id) := by
  intro pins s σ H x y v u Q I rx ry h
  obtain ⟨a, b, xs, ys, k, rfl, rfl, hx, hy, hk, kx, ky, q⟩ := h
  refine op_eqD hu pins s σ H _ _ v u Q I rx ry ⟨.tuple (xs.map dV), .tuple (ys.map dV), .tup hx (dpAll_dV fun z hz => by rw [kx z hz]; exact hk), .tup hy (dpAll_dV fun z hz => by rw [ky z hz]; exact hk), shaped_dV hk kx, shaped_dV hk ky, ?_⟩
  have e : PyData.eqv (.tuple (xs.map dV)) (.tuple (ys.map dV)) = decide (xs = ys) := by
    unfold PyData.eqv
    exact eqvAll_dV hk kx ky
  rw [e]
  exact q
theorem op_neT (hu : X.A.units + 64 < cLine) : OpR X (compareOp .NotEq) (rEqT X.K not) := by
  intro pins s σ H x y v u Q I rx ry h
  obtain ⟨a, b, xs, ys, k, rfl, rfl, hx, hy, hk, kx, ky, q⟩ := h
  refine op_neD hu pins s σ H _ _ v u Q I rx ry ⟨.tuple (xs.map dV), .tuple (ys.map dV), .tup hx (dpAll_dV fun z hz => by rw [kx z hz]; exact hk), .tup hy (dpAll_dV fun z hz => by rw [ky z hz]; exact hk), shaped_dV hk kx, shaped_dV hk ky, ?_⟩
  have e : PyData.eqv (.tuple (xs.map dV)) (.tuple (ys.map dV)) = decide (xs = ys) := by
    unfold PyData.eqv
    exact eqvAll_dV hk kx ky
  rw [e]
  exact q
end
end L2
set_option Elab.async false
set_option linter.all false
set_option maxRecDepth 100000
set_option maxHeartbeats 4000000
/-! Defs, methods, makers, properties of a text as data: what the top has written of each; what each promises; the calls. -/
namespace L2
open PySem PySem.Spec PyProof.Rows
/-- the text's def x, its function's code object with cp -/
def HasD (K : PySem.W.Frag) (mg : Str → Option Value) (x : Str) (st : Stmt) (cp : Value → Prop) : Prop :=
  ∃ f fd, mg x = some (.ref f) ∧ FunD K x x (defArgs st) (defBody st) (defScope st) [] [] f fd ∧ cp fd.code
/-- the method m of the class at C -/
def HasM (K : PySem.W.Frag) (C : Addr) (m qual : Str) (st : Stmt) : Prop :=
  ∃ f fd, Meth K C m f ∧ FunD K m qual (defArgs st) (defBody st) (defScope st) [] [] f fd
/-- the property m of the class at C -/
def HasP (K : PySem.W.Frag) (C : Addr) (m qual : Str) (st : Stmt) : Prop :=
  ∃ p g oc od kV doc pm an cdv ct osl, PropOf K C m p g ∧ K.lookup g = some ⟨oc, od, .func (PySem.W.fnOf m qual (defArgs st) (defBody st) (defScope st) .none kV doc pm an cdv ct), osl⟩ ∧ PySem.W.codeIn K cdv qual = true
section
variable (P : Program) (w : World) (K : PySem.W.Frag) (mg : Str → Option Value) (base : Heap)
/-- a def of the text and its promise -/
def Dfn (x : Str) (k : Nat) (ps : List Str) (sp : Sp) : Prop :=
  ∃ f fd, mg x = some (.ref f) ∧ PySem.W.keepIn K (.ref f) = true ∧ Binds K fd ps [] ∧ FnOk P w K mg base (L2.CX P w) k f fd ps sp
def Mth (C : Addr) (m : Str) (k : Nat) (ps : List Str) (sp : Sp) : Prop :=
  ∃ f fd, Meth K C m f ∧ Binds K fd ps [] ∧ FnOk P w K mg base (L2.CX P w) k f fd ps sp
def Mkr (C : Addr) (k : Nat) (ps : List Str) (sp : Sp) : Prop :=
  ∃ f fd, Mk K C f ∧ Binds K fd ps [] ∧ FnOk P w K mg base (L2.CX P w) k f fd ps sp
def Prp (C : Addr) (m : Str) (k : Nat) (sp : Sp) : Prop :=
  ∃ p g fd, PropOf K C m p g ∧ Binds K fd ["self"] [] ∧ FnOk P w K mg base (L2.CX P w) k g fd ["self"] sp
end
section
variable {P : Program} {w : World} {K : PySem.W.Frag} {mg : Str → Option Value} {base : Heap} {x m qual : Str} {st : Stmt} {cp : Value → Prop} {C : Addr} {N ps : List Str} {k : Nat} {sp : Sp}
/-- how a def without defaults binds -/
def BindsBy (st : Stmt) (x qual : Str) (ps : List Str) : Prop := ∀ (kV doc pm : Value) (an : Option Addr) (cdv ct : Value) (us : List Value), us.length = ps.length →
  bindArgs (PySem.W.fnOf x qual (defArgs st) (defBody st) (defScope st) .none kV doc pm an cdv ct) ⟨us, []⟩ = pure (ps.zip us)
/-- the body's context -/
abbrev bcx (P : Program) (w : World) (K : PySem.W.Frag) (mg : Str → Option Value) (base : Heap) (N : List Str) (qual : Str) (st : Stmt) (f : Addr) (cdv : Value) (A : Around) (outer : List Env) (s : Shared) (H : Hp) (E : XK) : Cx :=
  cxOf (L2.CX P w) P w K mg base N qual (defScope st) f cdv A outer s H E
theorem fnok_mk {f : Addr} {fd : FuncData} (F : FunD K x qual (defArgs st) (defBody st) (defScope st) [] [] f fd) (S : FnScope N ps (defScope st)) (len : ∀ vs H Q E, sp vs H Q E → vs.length = ps.length) (hcp : cp fd.code)
    (hbody : ∀ (cdv : Value) (A : Around) (outer : List Env) (s : Shared) (H : Hp) (vs : List V) (Q : VK) (E : XK), Room k (A.deeper (envOfC qual (defScope st) s.heap.objs.size f cdv)) → cp cdv → sp vs H Q E →
      ∃ t, PSs (bcx P w K mg base N qual st f cdv A outer s H E) (defBody st) t ∧ t { nx := fun _ H' => Q .non H', rt := Q } (start N vs) H) : FnOk P w K mg base (L2.CX P w) (k + 1) f fd ps sp := by
  obtain ⟨oc, od, dV, kV, doc, pm, an, cdv, ct, osl, rfl, lk, hcd, _, _⟩ := F.ex
  exact fn_of lk hcd S len fun A outer s H vs Q E hr hsp => hbody cdv A outer s H vs Q E hr hcp hsp
theorem dfn_mk (F : HasD K mg x st cp) (S : FnScope N ps (defScope st)) (hb : BindsBy st x x ps) (len : ∀ vs H Q E, sp vs H Q E → vs.length = ps.length)
    (hbody : ∀ (f : Addr) (cdv : Value) (A : Around) (outer : List Env) (s : Shared) (H : Hp) (vs : List V) (Q : VK) (E : XK), Room k (A.deeper (envOfC x (defScope st) s.heap.objs.size f cdv)) → cp cdv → sp vs H Q E →
      ∃ t, PSs (bcx P w K mg base N x st f cdv A outer s H E) (defBody st) t ∧ t { nx := fun _ H' => Q .non H', rt := Q } (start N vs) H) : Dfn P w K mg base x (k + 1) ps sp := by
  obtain ⟨f, fd, hm, F, hc⟩ := F
  exact ⟨f, fd, hm, F.kp, F.bindsN hb, fnok_mk F S len hc fun cdv A outer s H vs Q E => hbody f cdv A outer s H vs Q E⟩
theorem mth_mk (F : HasM K C m qual st) (S : FnScope N ps (defScope st)) (hb : BindsBy st m qual ps) (len : ∀ vs H Q E, sp vs H Q E → vs.length = ps.length)
    (hbody : ∀ (f : Addr) (cdv : Value) (A : Around) (outer : List Env) (s : Shared) (H : Hp) (vs : List V) (Q : VK) (E : XK), Room k (A.deeper (envOfC qual (defScope st) s.heap.objs.size f cdv)) → sp vs H Q E →
      ∃ t, PSs (bcx P w K mg base N qual st f cdv A outer s H E) (defBody st) t ∧ t { nx := fun _ H' => Q .non H', rt := Q } (start N vs) H) : Mth P w K mg base C m (k + 1) ps sp := by
  obtain ⟨f, fd, hm, F⟩ := F
  exact ⟨f, fd, hm, F.bindsN hb, fnok_mk (cp := fun _ => True) F S len trivial fun cdv A outer s H vs Q E hr _ => hbody f cdv A outer s H vs Q E hr⟩
theorem mkr_of (M : Mth P w K mg base C "__init__" k ps sp) (hmk : PySem.W.makesIn K C = true) (kp : PySem.W.keepIn K (.ref C) = true) : Mkr P w K mg base C k ps sp := by
  obtain ⟨f, fd, hm, hb, F⟩ := M
  exact ⟨f, fd, ⟨hmk, hm.1, hm.2, kp⟩, hb, F⟩
theorem prp_mk {fld : Str} {p1 p2 p3 : Pos} (F : HasP K C m qual st) (S : FnScope ["self"] ["self"] (defScope st)) (hb : BindsBy st m qual ["self"]) (hbody : defBody st = [.Return (some (.Attribute (.Name "self" p1) fld p2)) p3]) (c : Cls K C) (n : NoAttr K C fld) :
    Prp P w K mg base C m (k + 1) (getSp C fld) := by
  obtain ⟨p, g, oc, od, kV, doc, pm, an, cdv, ct, osl, hp, lk, hcd⟩ := F
  exact ⟨p, g, _, hp, .all (hb kV doc pm an cdv ct), fn_getter lk hcd S rfl hbody c n⟩
end
section
variable {X : Cx} {x m : Str} {k : Nat} {ps : List Str} {sp : Sp} {E : XK} {e o : Expr} {es : List Expr} {t : TA} {ta : TE} {p pos apos : Pos} {C : Addr}
theorem pe_dfn (D : Dfn X.prog X.w X.K X.mg X.base x k ps sp) (hr : Room k X.A) (hg : Gl X x) (hx : Passes (L2.CX X.prog X.w) X E) (ha : PA X (e :: es) t) (hdb : (x == ("__debug__" : Str)) = false := by decide +kernel)
    (he : starEach (e :: es) X.env = (false, eval e X.env) :: starEach es X.env := by rfl) (hpl : (backTo pos (starEach es X.env)).any (·.1) = false := by rfl) : PE X (.Call (.Name x p) (e :: es) [] pos) (tCall sp [] E t) := by
  obtain ⟨f, fd, hm, hk, hb, F⟩ := D
  exact pe_call F hr hg hm hk hb .nil hx ha hdb he hpl
theorem pe_dfn0 (D : Dfn X.prog X.w X.K X.mg X.base x k ps sp) (hr : Room k X.A) (hg : Gl X x) (hx : Passes (L2.CX X.prog X.w) X E) (hdb : (x == ("__debug__" : Str)) = false := by decide +kernel) : PE X (.Call (.Name x p) [] [] pos) (tCall sp [] E tNil) := by
  obtain ⟨f, fd, hm, hk, hb, F⟩ := D
  exact pe_call0 F hr hg hm hk hb .nil hx hdb
theorem pe_mth {pl : Sem Bool} (he : PE X o ta) (c : Cls X.K C) (M : Mth X.prog X.w X.K X.mg X.base C m k ps sp) (hr : Room k X.A) (hx : Passes (L2.CX X.prog X.w) X E) (ha : PA X (e :: es) t)
    (hst : starEach (e :: es) X.env = (false, eval e X.env) :: starEach es X.env := by rfl) (hpl : (backTo pos (starEach es X.env)).any (·.1) = false := by rfl)
    (ht : eval (.Call (.Attribute o m apos) (e :: es) [] pos) X.env = (do
      let ov ← eval o X.env
      standAt apos.atName
      let (f, first) ← holding [ov] (getMethod ov m pl)
      callWith pos f first (backTo pos (starEach (e :: es) X.env)) (backToKw pos (keywordEach [] X.env))) := by rfl) : PE X (.Call (.Attribute o m apos) (e :: es) [] pos) (tMeth C m sp [] E ta t) := by
  obtain ⟨f, fd, hm, hb, F⟩ := M
  exact pe_meth (pl := pl) he c hm F hr hb .nil hx ha hst hpl ht
theorem pe_mth0 {pl : Sem Bool} (he : PE X o ta) (c : Cls X.K C) (M : Mth X.prog X.w X.K X.mg X.base C m k ps sp) (hr : Room k X.A) (hx : Passes (L2.CX X.prog X.w) X E)
    (ht : eval (.Call (.Attribute o m apos) [] [] pos) X.env = (do
      let ov ← eval o X.env
      standAt apos.atName
      let (f, first) ← holding [ov] (getMethod ov m pl)
      callWith pos f first (backTo pos (starEach [] X.env)) (backToKw pos (keywordEach [] X.env))) := by rfl) : PE X (.Call (.Attribute o m apos) [] [] pos) (tMeth C m sp [] E ta tNil) := by
  obtain ⟨f, fd, hm, hb, F⟩ := M
  exact pe_meth0 (pl := pl) he c hm F hr hb .nil hx ht
theorem pe_mkr (M : Mkr X.prog X.w X.K X.mg X.base C k ps sp) (hr : Room (k + 1) X.A) (hg : Gl X x) (hm : X.mg x = some (.ref C)) (hx : Passes (L2.CX X.prog X.w) X E) (ha : PA X (e :: es) t) (hdb : (x == ("__debug__" : Str)) = false := by decide +kernel)
    (he : starEach (e :: es) X.env = (false, eval e X.env) :: starEach es X.env := by rfl) (hpl : (backTo pos (starEach es X.env)).any (·.1) = false := by rfl) : PE X (.Call (.Name x p) (e :: es) [] pos) (tMake C sp [] E t) := by
  obtain ⟨f, fd, hm', hb, F⟩ := M
  exact pe_make hm' F hr hg hm hb .nil hx ha hdb he hpl
theorem pe_prp (he : PE X e ta) (c : Cls X.K C) (R : Prp X.prog X.w X.K X.mg X.base C m k sp) (hr : Room (k + 1) X.A) (hab : attributeBase e m X.env (eval e X.env) = eval e X.env := by rfl) : PE X (.Attribute e m pos) (tProp C sp [] E0 ta) := by
  obtain ⟨pp, g, fd, hp, hb, F⟩ := R
  exact pe_prop he c hp F hr hb .nil passL hab
end
section
variable {P : Program} {w : World} {K : PySem.W.Frag} {mg : Str → Option Value} {base : Heap} {N : List Str} {qual : Str} {sc : Scope} {f : Addr} {cdv : Value} {A : Around} {outer : List Env} {s : Shared} {H : Hp} {E : XK}
/-- what a def's body lets out goes on to its caller -/
theorem takesE : Takes (cxOf (L2.CX P w) P w K mg base N qual sc f cdv A outer s H E) (fun cls d _ H => E cls d H) := takes_of rfl rfl rfl rfl
theorem passE : Passes (L2.CX P w) (cxOf (L2.CX P w) P w K mg base N qual sc f cdv A outer s H E) E := passes_call takesE fun _ _ _ _ h => h
theorem passO : PassesOwn (model P w) (cxOf (L2.CX P w) P w K mg base N qual sc f cdv A outer s H E).A (cxOf (L2.CX P w) P w K mg base N qual sc f cdv A outer s H E).env (cxOf (L2.CX P w) P w K mg base N qual sc f cdv A outer s H E).xe := passes_of rfl
end
end L2
set_option checkBinderAnnotations false
set_option Elab.async false
set_option linter.all false
set_option maxRecDepth 100000
set_option maxHeartbeats 4000000
/-! The readings' meanings as equations, for simp only. -/
namespace L2
open PySem PySem.Spec PyProof.Rows
def onI (x : V) [k : Int → Prop] : Prop := ∃ i, x = .int i ∧ k i
def onB (x : V) [k : Bool → Prop] : Prop := ∃ b, x = .bl b ∧ k b
def onR (x : V) [k : Addr → Prop] : Prop := ∃ a, x = .ref a ∧ k a
def onT (x : V) [k : Str → Prop] : Prop := ∃ a, x = .str a ∧ k a
def onO (o : Option HO) [k : Addr → Addr → List (Str × V) → Prop] : Prop := ∃ C dx fs, o = some (.ins C dx fs) ∧ k C dx fs
def onS (o : Option V) [k : V → Prop] : Prop := ∃ v, o = some v ∧ k v
def onLst (o : Option HO) [k : List V → Prop] : Prop := ∃ xs, o = some (.lst xs) ∧ k xs
theorem onLst_s {xs : List V} {k : List V → Prop} : @onLst (some (.lst xs)) k = k xs := propext ⟨fun ⟨_, e, q⟩ => by cases e; exact q, fun q => ⟨_, rfl, q⟩⟩
def onV (o : Option (Option V)) [k : V → Prop] : Prop := ∃ v, o = some (some v) ∧ k v
theorem onI_i {i : Int} {k : Int → Prop} : @onI (.int i) k = k i := propext ⟨fun ⟨_, e, q⟩ => by cases e; exact q, fun q => ⟨i, rfl, q⟩⟩
theorem onB_b {i : Bool} {k : Bool → Prop} : @onB (.bl i) k = k i := propext ⟨fun ⟨_, e, q⟩ => by cases e; exact q, fun q => ⟨i, rfl, q⟩⟩
theorem onR_r {i : Addr} {k : Addr → Prop} : @onR (.ref i) k = k i := propext ⟨fun ⟨_, e, q⟩ => by cases e; exact q, fun q => ⟨i, rfl, q⟩⟩
theorem onT_t {i : Str} {k : Str → Prop} : @onT (.str i) k = k i := propext ⟨fun ⟨_, e, q⟩ => by cases e; exact q, fun q => ⟨i, rfl, q⟩⟩
theorem onO_s {C dx : Addr} {fs : List (Str × V)} {k : Addr → Addr → List (Str × V) → Prop} : @onO (some (.ins C dx fs)) k = k C dx fs := propext ⟨fun ⟨_, _, _, e, q⟩ => by cases e; exact q, fun q => ⟨_, _, _, rfl, q⟩⟩
theorem onS_s {v : V} {k : V → Prop} : @onS (some v) k = k v := propext ⟨fun ⟨_, e, q⟩ => by cases e; exact q, fun q => ⟨_, rfl, q⟩⟩
theorem onV_s {v : V} {k : V → Prop} : @onV (some (some v)) k = k v := propext ⟨fun ⟨_, e, q⟩ => by cases e; exact q, fun q => ⟨_, rfl, q⟩⟩
def onD (C : Addr) (o : Option HO) [k : Addr → List (Str × V) → Prop] : Prop := ∃ dx fs, o = some (.ins C dx fs) ∧ k dx fs
theorem onD_s {C dx : Addr} {fs : List (Str × V)} {k : Addr → List (Str × V) → Prop} : @onD C (some (.ins C dx fs)) k = k dx fs := propext ⟨fun ⟨_, _, e, q⟩ => by cases e; exact q, fun q => ⟨_, _, rfl, q⟩⟩
section
variable {σ : St} {H : Hp} {Q : VK} {ta tb tc te : TE} {t u : TA} {i j : Nat} {D : Ends} {K : PySem.W.Frag} {v : V}
theorem tVar_e : tVar i σ H Q = @onV σ[i]? fun v => Q v H := rfl
theorem tC_e : tC v σ H Q = Q v H := rfl
theorem tNil_e {R : List V → Hp → Prop} : tNil σ H R = R [] H := rfl
theorem tCons_e {R : List V → Hp → Prop} : tCons ta t σ H R = ta σ H fun x H1 => t σ H1 fun xs H2 => R (x :: xs) H2 := rfl
theorem tCB_e {r : List V → Hp → VK → Prop} : tCB r t σ H Q = t σ H fun vs H1 => r vs H1 Q := rfl
theorem tOp_e {r : R2} : tOp r ta tb σ H Q = ta σ H fun x H1 => tb σ H1 fun y H2 => r x y H2 Q := rfl
theorem rI_e {C : Int → Int → Prop} {g : Int → Int → V} {x y : V} : rI C g x y H Q = @onI x fun i => @onI y fun j => C i j ∧ Q (g i j) H :=
  propext ⟨fun ⟨i, j, a, b, c⟩ => ⟨i, a, j, b, c⟩, fun ⟨i, a, j, b, c⟩ => ⟨i, j, a, b, c⟩⟩
theorem rI0_e {g : Int → Int → V} {x y : V} : rI0 g x y H Q = @onI x fun i => @onI y fun j => Q (g i j) H :=
  propext ⟨fun ⟨i, j, a, b, c⟩ => ⟨i, a, j, b, c⟩, fun ⟨i, a, j, b, c⟩ => ⟨i, j, a, b, c⟩⟩
theorem tUn_e {r : V → Hp → VK → Prop} : tUn r ta σ H Q = ta σ H fun x H1 => r x H1 Q := rfl
theorem rU_e {g : Int → V} {x : V} : rU g x H Q = @onI x fun i => Q (g i) H := rfl
theorem rEq_e {x y : V} : rEq x y H Q = (scal x y = true ∧ Q (.bl (decide (x = y))) H) := rfl
theorem rNe_e {x y : V} : rNe x y H Q = (scal x y = true ∧ Q (.bl (!decide (x = y))) H) := rfl
theorem scal_ii {i j : Int} : (scal (.int i) (.int j) = true) = True := by simp [scal]
theorem scal_ss {i j : Str} : (scal (.str i) (.str j) = true) = True := by simp [scal]
theorem scal_bb {i j : Bool} : (scal (.bl i) (.bl j) = true) = True := by simp [scal]
theorem tAndV_e : tAndV ta tb σ H Q = ta σ H fun x H1 => @onB x fun c => if c = true then tb σ H1 Q else Q (.bl false) H1 := rfl
theorem tOrV_e : tOrV ta tb σ H Q = ta σ H fun x H1 => @onB x fun c => if c = true then Q (.bl true) H1 else tb σ H1 Q := rfl
theorem tNotV_e : tNotV ta σ H Q = ta σ H fun x H1 => @onB x fun c => Q (.bl (!c)) H1 := rfl
theorem tAnd_e {t u : TT} {R : Bool → Hp → Prop} : tAnd t u σ H R = t σ H fun c H1 => if c = true then u σ H1 R else R false H1 := rfl
theorem tOr_e {t u : TT} {R : Bool → Hp → Prop} : tOr t u σ H R = t σ H fun c H1 => if c = true then R true H1 else u σ H1 R := rfl
theorem tNot_e {t : TT} {R : Bool → Hp → Prop} : tNot t σ H R = t σ H fun c H1 => R (!c) H1 := rfl
theorem tTest_e {R : Bool → Hp → Prop} : tTest te σ H R = te σ H fun x H1 => @onB x fun c => R c H1 := rfl
theorem tB_e {R : Bool → Hp → Prop} : tB te σ H R = te σ H fun x H1 => @onB x fun c => R c H1 := rfl
theorem tIf_e {c : TT} : tIf c ta tb σ H Q = c σ H fun b H1 => if b = true then ta σ H1 Q else tb σ H1 Q := rfl
theorem tChain_e {r r' : R2} : tChain r r' ta tb tc σ H Q = ta σ H fun x H1 => tb σ H1 fun y H2 => r x y H2 fun z H3 => @onB z fun k => (if k = true then tc σ H3 fun w' H4 => r' y w' H4 Q else Q (.bl false) H3) := rfl
theorem tSeq_e {t u : TS} : tSeq t u D σ H = t { D with nx := u D } σ H := rfl
theorem tNext_e : tNext D σ H = D.nx σ H := rfl
theorem tBreak_e : tBreak D σ H = D.bk σ H := rfl
theorem tCont_e : tCont D σ H = D.ct σ H := rfl
theorem tDrop_e : tDrop te D σ H = te σ H fun _ H1 => D.nx σ H1 := rfl
theorem tRet_e : tRet te D σ H = te σ H D.rt := rfl
theorem tRetN_e : tRetN D σ H = D.rt .non H := rfl
theorem tIfS_e {c : TT} {t u : TS} : tIfS c t u D σ H = c σ H fun b H1 => if b = true then t D σ H1 else u D σ H1 := rfl
theorem tAsg_e {g : TG} : tAsg te g D σ H = te σ H fun x H1 => g x σ H1 D.nx := rfl
theorem gName_e {R : St → Hp → Prop} : gName i v σ H R = R (σ.set i (some v)) H := rfl
theorem tPar_e {R : V → V → Hp → Prop} : (∃ v w, [v, v] = [v, w] ∧ R v w H) = ∃ v, R v v H := by simp
def onL2 (vs : List V) [k : V → V → Prop] : Prop := ∃ v w, vs = [v, w] ∧ k v w
theorem onL2_e {a b : V} {k : V → V → Prop} : @onL2 [a, b] k = k a b := propext ⟨fun ⟨_, _, e, q⟩ => by cases e; exact q, fun q => ⟨_, _, rfl, q⟩⟩
theorem tPar_e2 : tPar i j t D σ H = t σ H fun vs H1 => @onL2 vs fun v w => D.nx ((σ.set i (some v)).set j (some w)) H1 := rfl
def onCons (vs : List V) [k : V → List V → Prop] : Prop := ∃ v r, vs = v :: r ∧ k v r
theorem onCons_e {a : V} {r : List V} {k : V → List V → Prop} : @onCons (a :: r) k = k a r := propext ⟨fun ⟨_, _, e, q⟩ => by cases e; exact q, fun q => ⟨_, _, rfl, q⟩⟩
theorem gNil_e {vs : List V} {R : St → Hp → Prop} : gNil vs σ H R = (vs = [] ∧ R σ H) := rfl
theorem gCons_e {g : TG} {gs : TGs} {vs : List V} {R : St → Hp → Prop} : gCons g gs vs σ H R = @onCons vs fun v r => g v σ H fun σ' H' => gs r σ' H' R := rfl
theorem tTup_e : tTup t σ H Q = t σ H fun xs H1 => xs.length ≤ sizeLine ∧ ∀ p, H1 p = none → Q (.ref p) (upd H1 p (.tup xs)) := rfl
theorem tTupF_e : tTupF t σ H Q = t σ H fun xs H1 => xs.length ≤ sizeLine ∧ ∀ p o, H1 p = none → o.cls = .type "tuple" → o.dict = none → Q (.ref p) (upd H1 p (.frz o (.tup xs))) := rfl
theorem tLst_e : tLst t σ H Q = t σ H fun xs H1 => xs.length ≤ sizeLine ∧ ∀ p, H1 p = none → Q (.ref p) (upd H1 p (.lst xs)) := rfl
theorem tFld_e {f : Str} : tFld K ta f σ H Q = ta σ H fun x H1 => @onR x fun a => @onO (H1 a) fun C dx fs => Cls K C ∧ NoAttr K C f ∧ @onS (fs.lookup f) fun v => Q v H1 := by
  unfold tFld
  congr 1
  funext x H1
  exact propext ⟨fun ⟨a, C, dx, fs, v, e, h, c, n, l, q⟩ => ⟨a, e, C, dx, fs, h, c, n, v, l, q⟩, fun ⟨a, e, C, dx, fs, h, c, n, v, l, q⟩ => ⟨a, C, dx, fs, v, e, h, c, n, l, q⟩⟩
theorem sFld_e {f : Str} : sFld K ta tb f D σ H = tb σ H fun y H1 => ta σ H1 fun x H2 => @onR x fun a => @onO (H2 a) fun C dx fs => Cls K C ∧ NoAttr K C f ∧ fs.length < 1000 ∧ D.nx σ (upd H2 a (.ins C dx (putF f y fs))) := by
  unfold sFld
  congr 1
  funext y H1
  congr 1
  funext x H2
  exact propext ⟨fun ⟨a, C, dx, fs, e, h, q⟩ => ⟨a, e, C, dx, fs, h, q⟩, fun ⟨a, e, C, dx, fs, h, q⟩ => ⟨a, C, dx, fs, e, h, q⟩⟩
theorem sFldAug_e {f : Str} {rd : V → V → Hp → VK → Prop} : sFldAug K ta tb rd f D σ H = ta σ H fun x H1 => @onR x fun a => @onO (H1 a) fun C dx fs => Cls K C ∧ NoAttr K C f ∧ @onS (fs.lookup f) fun v =>
    tb σ H1 fun y H2 => rd v y H2 fun z H3 => @onD C (H3 a) fun dx' fs' => fs'.length < 1000 ∧ D.nx σ (upd H3 a (.ins C dx' (putF f z fs'))) := by
  unfold sFldAug
  congr 1
  funext x H1
  exact propext ⟨fun ⟨a, C, dx, fs, v, e, h, c, n, l, q⟩ => ⟨a, e, C, dx, fs, h, c, n, v, l, q⟩, fun ⟨a, e, C, dx, fs, h, c, n, v, l, q⟩ => ⟨a, C, dx, fs, v, e, h, c, n, l, q⟩⟩
theorem rAdd_e {x y : V} : rAdd x y H Q = @onI x fun i => @onI y fun j => Q (.int (i + j)) H := propext ⟨fun ⟨i, j, a, b, c⟩ => ⟨i, a, j, b, c⟩, fun ⟨i, a, j, b, c⟩ => ⟨i, j, a, b, c⟩⟩
theorem rSub_e {x y : V} : rSub x y H Q = @onI x fun i => @onI y fun j => Q (.int (i - j)) H := propext ⟨fun ⟨i, j, a, b, c⟩ => ⟨i, a, j, b, c⟩, fun ⟨i, a, j, b, c⟩ => ⟨i, j, a, b, c⟩⟩
theorem tCall_e {sp : Sp} {dvs : List V} {E : XK} : tCall sp dvs E t σ H Q = t σ H fun vs H1 => sp (vs ++ dvs) H1 Q E := rfl
theorem tProp_e {C : Addr} {sp : Sp} {dvs : List V} {E : XK} : tProp C sp dvs E ta σ H Q = ta σ H fun x H1 => @onR x fun a => @onD C (H1 a) fun dx fs => sp (.ref a :: dvs) H1 Q E := by
  unfold tProp
  congr 1
  funext x H1
  exact propext ⟨fun ⟨a, dx, fs, e, h, q⟩ => ⟨a, e, dx, fs, h, q⟩, fun ⟨a, e, dx, fs, h, q⟩ => ⟨a, dx, fs, e, h, q⟩⟩
theorem getSp_e {C a : Addr} {f : Str} {E : XK} : getSp C f [.ref a] H Q E = @onD C (H a) fun dx fs => @onS (fs.lookup f) fun v => Q v H :=
  propext ⟨fun ⟨a', dx, fs, v, e, h, l, q⟩ => by cases e; exact ⟨dx, fs, h, v, l, q⟩, fun ⟨dx, fs, h, v, l, q⟩ => ⟨a, dx, fs, v, rfl, h, l, q⟩⟩
theorem tRaiseAsk_e {C : Addr} {W : WX} : tRaiseAsk C W ta D σ H = ta σ H fun v H1 => ∀ d, H1 d = none → W (.ref C) (some d) σ (upd H1 d (.xd [(("value" : Str), v)])) := rfl
theorem tMeth_e {C : Addr} {m : Str} {sp : Sp} {dvs : List V} {E : XK} : tMeth C m sp dvs E ta t σ H Q = ta σ H fun x H1 => @onR x fun a => @onD C (H1 a) fun dx fs => fs.lookup m = none ∧ t σ H1 fun vs H2 => sp (x :: (vs ++ dvs)) H2 Q E := by
  unfold tMeth
  congr 1
  funext x H1
  exact propext ⟨fun ⟨a, dx, fs, e, h, q⟩ => ⟨a, e, dx, fs, h, q⟩, fun ⟨a, e, dx, fs, h, q⟩ => ⟨a, dx, fs, e, h, q⟩⟩
theorem tMake_e {C : Addr} {sp : Sp} {dvs : List V} {E : XK} : tMake C sp dvs E t σ H Q = t σ H fun vs H1 => ∀ x dx, H1 x = none → H1 dx = none → dx ≠ x → sp (.ref x :: (vs ++ dvs)) (upd (upd H1 dx (.own x)) x (.ins C dx [])) (fun v H2 => v = .non ∧ Q (.ref x) H2) E := rfl
theorem rRep_e {x y : V} : rRep x y H Q = @onR x fun l => @onI y fun k => @onLst (H l) fun xs => -(2 ^ 63) ≤ k ∧ k < 2 ^ 63 ∧ xs.length * k.toNat ≤ sizeLine ∧ ∀ p, H p = none → Q (.ref p) (upd H p (.lst (List.replicate k.toNat xs).flatten)) :=
  propext ⟨fun ⟨l, k, xs, a, b, c, d⟩ => ⟨l, a, k, b, xs, c, d⟩, fun ⟨l, a, k, b, xs, c, d⟩ => ⟨l, k, xs, a, b, c, d⟩⟩
theorem rCat_e {x y : V} : rCat x y H Q = @onR x fun l => @onR y fun b => @onLst (H l) fun xs => @onLst (H b) fun zs => xs.length + zs.length ≤ sizeLine ∧ ∀ p, H p = none → Q (.ref p) (upd H p (.lst (xs ++ zs))) :=
  propext ⟨fun ⟨l, b, xs, zs, e1, e2, h1, h2, q⟩ => ⟨l, e1, b, e2, xs, h1, zs, h2, q⟩, fun ⟨l, e1, b, e2, xs, h1, zs, h2, q⟩ => ⟨l, b, xs, zs, e1, e2, h1, h2, q⟩⟩
theorem tSl_e {r : V → Option Int → Option Int → Hp → VK → Prop} {tl th : TO} : tSl r te tl th σ H Q = te σ H fun x H1 => tl σ H1 fun l H2 => th σ H2 fun u H3 => r x l u H3 Q := rfl
theorem tNoPart_e {R : Option Int → Hp → Prop} : tNoPart σ H R = R none H := rfl
theorem tPart_e {R : Option Int → Hp → Prop} : tPart te σ H R = te σ H fun x H1 => @onI x fun i => R (some i) H1 := rfl
theorem tYes_e {R : Bool → Hp → Prop} : tYes σ H R = R true H := rfl
/-- a for over J -/
def loopP (J : It) (g : TG) (tb : TS) (D : Ends) (σ : St) (H1 : Hp) : Prop := ∃ W : Nat → Nat → St → Hp → Prop, (∃ m, W 0 m σ H1) ∧ ∀ i m σ H, W i m σ H →
  (J.stop i H ∧ D.nx σ H) ∨ (J.go i H ∧ ∃ N : St → Hp → Prop, (∀ σ' H', N σ' H' → ∃ m', m' < m ∧ W (i + 1) m' σ' H') ∧ ∀ x H', J.yld i H x H' → g x σ H' fun σ2 H2 => tb { D with nx := N, ct := N, bk := D.nx } σ2 H2)
theorem tFor_e {wi : TI} {g : TG} {tb : TS} : tFor wi g tb D σ H = wi σ H fun J H1 => loopP J g tb D σ H1 := rfl
theorem iTup_e {R : It → Hp → Prop} : iTup K ta σ H R = ta σ H fun x H1 => @onR x fun a => (∃ xs, SqT K H1 a xs) ∧ R (Itt K a) H1 := rfl
theorem iList_e {R : It → Hp → Prop} : iList K ta σ H R = ta σ H fun x H1 => @onR x fun a => (∃ xs, SqL K H1 a xs) ∧ R (Itl K a) H1 := rfl
def onL1 (vs : List V) [k : V → Prop] : Prop := ∃ v, vs = [v] ∧ k v
theorem onL1_e {a : V} {k : V → Prop} : @onL1 [a] k = k a := propext ⟨fun ⟨_, e, q⟩ => by cases e; exact q, fun q => ⟨_, rfl, q⟩⟩
theorem iRng1_e {R : It → Hp → Prop} : iRng1 t σ H R = t σ H fun vs H1 => @onL1 vs fun x => @onI x fun j => -(2 ^ 62) ≤ j ∧ j < 2 ^ 62 ∧ R (Itr 0 j.toNat) H1 := by
  unfold iRng1
  congr 1
  funext vs H1
  exact propext ⟨fun ⟨j, e, q⟩ => ⟨_, e, j, rfl, q⟩, fun ⟨_, e, j, e2, q⟩ => ⟨j, by rw [e, e2], q⟩⟩
theorem iRng2_e {R : It → Hp → Prop} : iRng2 t σ H R = t σ H fun vs H1 => @onL2 vs fun x y => @onI x fun i => @onI y fun j => (-(2 ^ 62) ≤ i ∧ i < 2 ^ 62 ∧ -(2 ^ 62) ≤ j ∧ j < 2 ^ 62) ∧ R (Itr i (j - i).toNat) H1 := by
  unfold iRng2
  congr 1
  funext vs H1
  exact propext ⟨fun ⟨i, j, e, q⟩ => ⟨_, _, e, i, rfl, j, rfl, q⟩, fun ⟨_, _, e, i, e2, j, e3, q⟩ => ⟨i, j, by rw [e, e2, e3], q⟩⟩
theorem iEnT_e {R : It → Hp → Prop} : iEnT K t σ H R = t σ H fun vs H1 => @onL1 vs fun x => @onR x fun a => ∃ xs, SqT K H1 a xs ∧ R (Iet K a) H1 := by
  unfold iEnT
  congr 1
  funext vs H1
  exact propext ⟨fun ⟨a, xs, e, q⟩ => ⟨_, e, a, rfl, xs, q⟩, fun ⟨_, e, a, e2, xs, q⟩ => ⟨a, xs, by rw [e, e2], q⟩⟩
/-- a comprehension over J -/
def lcP (J : It) (g : TG) (tt : TT) (te : TE) (vs : List Nat) (σ : St) (H1 : Hp) (Q : VK) : Prop := ∀ D, H1 D = none → ∃ W : Nat → Nat → Hp → Prop, (∃ m, W 0 m (upd H1 D (.lst []))) ∧ ∀ i m H, W i m H →
  (J.stop i H ∧ Q (.ref D) H) ∨ (J.go i H ∧ ∃ Nx : Hp → Prop, (∀ H', Nx H' → ∃ m', m' < m ∧ W (i + 1) m' H') ∧ ∀ x H', J.yld i H x H' → g x (wipe σ vs) H' fun σ2 H2 => wipe σ2 vs = wipe σ vs ∧ tt σ2 H2 fun b H3 =>
    if b = true then te σ2 H3 fun y H4 => ∃ acc, H4 D = some (.lst acc) ∧ acc.length < sizeLine ∧ Nx (upd H4 D (.lst (acc ++ [y]))) else Nx H3)
theorem tLc_e {wi : TI} {g : TG} {tt : TT} {vs : List Nat} : tLc wi g tt te vs σ H Q = wi σ H fun J H1 => lcP J g tt te vs σ H1 Q := rfl
theorem start_e {N : List Str} {vs : List V} : L2.start N vs = vs.map some ++ List.replicate (N.length - vs.length) none := rfl
section
variable {CX : CXT} {P : Program} {w : World} {mg : Str → Option Value} {base : Heap} {N : List Str} {qual : Str} {scope : Scope} {f : Addr} {cd : Value} {A : Around} {outer : List Env} {s : Shared} {E : XK}
theorem cxOf_K : (cxOf CX P w K mg base N qual scope f cd A outer s H E).K = K := rfl
end
end
end L2
set_option Elab.async false
set_option linter.all false
set_option maxRecDepth 100000
set_option maxHeartbeats 4000000
/-! What a call leaves of the abstract heap: all but what it may write; tuples and frozen things always; the tables of code objects go on being tables. -/
namespace L2
open PySem PySem.Spec PyProof.Rows
/-- the tables: of a def with a genexpr (at each of P0), of defs with lambdas -/
structure Tb where
  gs : List Addr
  ls : List (Addr × Str)
  apart : ∀ a ∈ gs, ∀ p ∈ ls, p.1 ≠ a
def Wl (T : Tb) (H : Hp) : Prop := (∀ a ∈ T.gs, GxR.TabG H a) ∧ LamX.Tabs T.ls H
def fixedO : HO → Bool
  | .tup _ => true
  | .frz _ _ => true
  | _ => false
def isTbl : HO → Bool
  | .tbl _ => true
  | _ => false
/-- what may be written -/
def isMut : HO → Bool
  | .lst _ => true
  | .ins _ _ _ => true
  | .dK _ => true
  | .set _ _ => true
  | _ => false
structure Nx (T : Tb) (ws : List Addr) (H H' : Hp) : Prop where
  kp : ∀ b o, H b = some o → isTbl o = false → (b ∈ ws → fixedO o = true) → H' b = some o
  wl : Wl T H'
  dm : ∀ b o, H b = some o → ∃ o', H' b = some o'
variable {T : Tb} {ws ws' : List Addr} {H H1 H2 : Hp} {a b p : Addr} {o u : HO} {K : PySem.W.Frag} {xs : List V}
theorem codeO_t {c : Addr} {q : Str} : isTbl (LamX.CodeO c q) = false := rfl
theorem codeO_m {c : Addr} {q : Str} : isMut (LamX.CodeO c q) = false := rfl
/-- tables and code objects stay where another thing is written -/
theorem Wl.upd (w : Wl T H) (hp : H p = none ∨ ∃ u, H p = some u ∧ isMut u = true) : Wl T (upd H p o) := by
  have ne : ∀ b u, H b = some u → isMut u = false → b ≠ p := fun b u e m z => by
    subst z
    rcases hp with h | ⟨v, h, hm⟩
    · rw [h] at e; cases e
    · rw [h] at e; cases e; rw [m] at hm; cases hm
  refine ⟨fun a ha => ?_, fun q hq => ?_⟩
  · obtain ⟨ps, h1, h2⟩ := w.1 a ha
    exact ⟨ps, by rw [upd_ne (ne _ _ h1 rfl)]; exact h1, h2⟩
  · obtain ⟨ps, h1, h2, h3⟩ := w.2 q hq
    refine ⟨ps, by rw [upd_ne (ne _ _ h1 rfl)]; exact h1, h2, fun pos cv hc => ?_⟩
    obtain ⟨c, e1, e2⟩ := h3 pos cv hc
    exact ⟨c, e1, by rw [upd_ne (ne _ _ e2 rfl)]; exact e2⟩
theorem Wl.tab (w : Wl T H) (ha : a ∈ T.gs) (t : GxR.Tabbed a H H1) : Wl T H1 := by
  refine ⟨fun b hb => ?_, fun q hq => ?_⟩
  · by_cases e : b = a
    · rw [e]; exact t.1
    · obtain ⟨ps, h1, h2⟩ := w.1 b hb
      exact ⟨ps, by rw [t.2 b e]; exact h1, h2⟩
  · obtain ⟨ps, h1, h2, h3⟩ := w.2 q hq
    obtain ⟨ps0, h0, _⟩ := w.1 a ha
    refine ⟨ps, by rw [t.2 _ (T.apart a ha q hq)]; exact h1, h2, fun pos cv hc => ?_⟩
    obtain ⟨c, e1, e2⟩ := h3 pos cv hc
    exact ⟨c, e1, by rw [t.2 c (fun z => by rw [z, h0] at e2; cases e2)]; exact e2⟩
theorem dom_upd {a : Addr} {o : HO} (h : ∃ u, H b = some u) : ∃ u, upd H a o b = some u := by
  by_cases e : b = a
  · exact ⟨o, by rw [e, upd_same]⟩
  · rw [upd_ne e]
    exact h
theorem Nx.refl (w : Wl T H) : Nx T ws H H := ⟨fun _ _ e _ _ => e, w, fun _ o e => ⟨o, e⟩⟩
theorem Nx.new (n : Nx T ws H H1) (h : H1 p = none) : Nx T ws H (upd H1 p o) := by
  refine ⟨fun b u e ht hw => ?_, n.wl.upd (.inl h), fun b v e => dom_upd (n.dm b v e)⟩
  have q := n.kp b u e ht hw
  rw [upd_ne (ne_of_none q h)]
  exact q
/-- a thing that may be written is written -/
theorem Nx.wr (n : Nx T ws H H1) (hp : p ∈ ws ∨ H p = none) (h : H1 p = some u) (hm : isMut u = true) : Nx T ws H (upd H1 p o) := by
  refine ⟨fun b v e ht hw => ?_, n.wl.upd (.inr ⟨u, h, hm⟩), fun b v e => dom_upd (n.dm b v e)⟩
  have q := n.kp b v e ht hw
  have ne : b ≠ p := fun z => by
    rcases hp with hp | hp
    · rw [z, h] at q
      cases q
      have f := hw (z ▸ hp)
      have z2 : ∀ v : HO, isMut v = true → fixedO v = true → False := fun v a c => by
        cases v <;> simp [isMut, fixedO] at a c
      exact z2 u hm f
    · rw [z, hp] at e
      cases e
  rw [upd_ne ne]
  exact q
theorem Nx.tab (n : Nx T ws H H1) (ha : a ∈ T.gs) (t : GxR.Tabbed a H1 H2) : Nx T ws H H2 := by
  refine ⟨fun b u e ht hw => ?_, n.wl.tab ha t, fun b v e => ?_⟩
  · have q := n.kp b u e ht hw
    obtain ⟨ps0, h0, _⟩ := n.wl.1 a ha
    rw [t.2 b (fun z => by rw [z, h0] at q; cases q; cases ht)]
    exact q
  · by_cases z : b = a
    · obtain ⟨ps, h1, _⟩ := t.1
      exact ⟨_, by rw [z]; exact h1⟩
    · rw [t.2 b z]
      exact n.dm b v e
theorem Nx.trans (n : Nx T ws H H1) (m : Nx T ws' H1 H2) (h : ∀ b ∈ ws', b ∈ ws ∨ H b = none) : Nx T ws H H2 := by
  refine ⟨fun b u e ht hw => m.kp b u (n.kp b u e ht hw) ht fun hb => ?_, m.wl, fun b v e => by
    obtain ⟨v', e'⟩ := n.dm b v e
    exact m.dm b v' e'⟩
  rcases h b hb with z | z
  · exact hw z
  · rw [z] at e; cases e
theorem Nx.trans0 (n : Nx T ws H H1) (m : Nx T [] H1 H2) : Nx T ws H H2 := n.trans m fun _ z => nomatch z
/-- from a call that writes less -/
theorem Nx.weak (m : Nx T ws' H H1) (h : ∀ b ∈ ws', b ∈ ws) : Nx T ws H H1 := ⟨fun b u e ht hw => m.kp b u e ht fun hb => hw (h b hb), m.wl, m.dm⟩
theorem Nx.at (n : Nx T ws H H1) (e : H a = some o) (hw : a ∉ ws) (ht : isTbl o = false := by rfl) : H1 a = some o := n.kp a o e ht fun z => absurd z hw
theorem Nx.fx (n : Nx T ws H H1) (e : H a = some o) (hf : fixedO o = true := by rfl) : H1 a = some o := n.kp a o e (by cases o <;> first | rfl | cases hf) fun _ => hf
theorem Nx.rd (n : Nx T ws H H1) (h : Rd H a (.tup xs)) : Rd H1 a (.tup xs) := by
  rcases h with h | ⟨o, h⟩
  · exact .inl (n.fx h)
  · exact .inr ⟨o, n.fx h⟩
theorem Nx.sqT (n : Nx T ws H H1) (h : SqT K H a xs) : SqT K H1 a xs := by
  rcases h with h | h
  · exact .inl (n.rd h)
  · exact .inr h
theorem Nx.ft (n : Nx T ws H H1) (h : FT H a xs) : FT H1 a xs := by
  obtain ⟨o, h1, h2⟩ := h
  exact ⟨o, n.fx h1, h2⟩
theorem Nx.none_of (n : Nx T ws H H1) (h : H1 p = none) : H p = none := by
  cases e : H p with
  | none => rfl
  | some u =>
    obtain ⟨v, q⟩ := n.dm p u e
    rw [h] at q
    cases q
theorem upd_none (h : upd H a o p = none) : H p = none ∧ p ≠ a := by
  by_cases e : p = a
  · rw [e, upd_same] at h
    cases h
  · rw [upd_ne e] at h
    exact ⟨h, e⟩
end L2
set_option checkBinderAnnotations false
set_option Elab.async false
set_option linter.all false
set_option maxRecDepth 100000
set_option maxHeartbeats 4000000
/-! l.append(e); all of a tuple of bools; a def that calls a lambda and keeps what it heard. -/
namespace L2
open PySem PySem.Spec PyProof.Rows
/-- l.append(e) -/
def tApp (to te : TE) : TE := fun σ H Q => to σ H fun x H1 => @onR x fun l => @onLst (H1 l) fun _ => te σ H1 fun y H2 => @onLst (H2 l) fun xs => xs.length < sizeLine ∧ Q .non (upd H2 l (.lst (xs ++ [y])))
theorem tApp_e {to te : TE} {σ : St} {H : Hp} {Q : VK} : tApp to te σ H Q = to σ H fun x H1 => @onR x fun l => @onLst (H1 l) fun _ => te σ H1 fun y H2 => @onLst (H2 l) fun xs => xs.length < sizeLine ∧ Q .non (upd H2 l (.lst (xs ++ [y]))) := rfl
section
variable {X : Cx}
theorem PE.imp {e : Expr} {t t' : TE} (h : PE X e t) (i : ∀ pins s σ H Q, Inv X pins σ H s → t' σ H Q → t σ H Q) : PE X e t' := ⟨fun pins s σ H Q I q => h.run pins s σ H Q I (i pins s σ H Q I q)⟩
theorem pe_app {o e : Expr} {to te : TE} {apos cpos : Pos} (ho : PE X o to) (he : PE X e te) (hbase : attributeBase o "append" X.env (eval o X.env) = eval o X.env := by rfl)
    (hfew : ((backTo cpos (starEach [e] X.env)).all (fun x => !x.1) && (backToKw cpos (keywordEach [] X.env)).all (fun x => x.1.isSome)
      && decide ([e].length + ([] : List Keyword).length + (if ([] : List Keyword).isEmpty then 0 else 1) < 30)) = true := by rfl)
    (hline : (apos.endLine == cpos.line) = true := by rfl) (hs : starEach [e] X.env = (false, eval e X.env) :: starEach [] X.env := by rfl) :
    PE X (.Call (.Attribute o "append" apos) [e] [] cpos) (tApp to te) := by
  refine ⟨fun pins s σ H Q I h => ?_⟩
  refine wpAny_Call_method_late hbase hfew hline rfl (thn (ho.run pins s σ H _ I h) fun v s1 ⟨x, H1, I1, r1, q1⟩ => ?_)
  obtain ⟨l, rfl, xs, el, q1⟩ := q1
  have ty : tyV X.K "list" (.ref l) H1 := .inl ⟨rfl, xs, SqL.of el⟩
  obtain ⟨h1, h2⟩ := tyV_is I1 r1 ty
  refine ⟨"list", _, PySem.F.plainAttrs_list, PySem.F.slot_list_append, PySem.F.type_list_append, h1, h2, ?_⟩
  rw [hs]
  refine Calls.callWith_builtin (by show (false || (backTo cpos (starEach [] X.env)).any (·.1)) = false; rfl) (Calls.evalArgs_plain ?_)
  show wpAny _ _ (spliced ((false, eval e X.env) :: backTo cpos (starEach [] X.env))) _ _ s1
  refine Calls.spliced_cons (thn (he.run pins s1 σ H1 _ I1 q1) fun u s2 ⟨y, H2, I2, r2, q2⟩ => Calls.spliced_nil ?_)
  obtain ⟨ys, e2, hz, q2⟩ := q2
  exact mt_append pins s2 σ H2 (.ref l) [y] v [u] Q I2 r1 (.cons r2 .nil) ⟨l, ys, y, rfl, rfl, e2, hz, q2⟩
/-- all(t), t a tuple of bools -/
def rAllT (K : PySem.W.Frag) : List V → Hp → VK → Prop := fun vs H Q => ∃ (a : Addr) (bs : List Bool), vs = [V.ref a] ∧ SqT K H a (bs.map V.bl) ∧ Q (.bl (bs.all id)) H
theorem cr_allT (hc : X.calm = true) : CallR X (.builtin "all") (rAllT X.K) := by
  intro pins s σ H vs us Q I r h
  obtain ⟨a, bs, rfl, hs, q⟩ := h
  obtain ⟨its, rv, hl, _⟩ := I.tuple hs
  rw [Vals.ref1 r]
  have hb := rv.bls
  have hl' : s.heap.IsTuple a its.toArray := hl
  have hlt : a < s.heap.objs.size := by obtain ⟨_, e, _⟩ := hl'; exact Heap.lt_size e
  refine call_all_walk (wpAny_pyIter_tuple hl' ?_)
  refine ⟨_, _, _, _, _, _, _, rfl, Walks.tuple (A := X.A.in1) (I.ok.hd hc) s.heap.objs.size a (Nat.ne_of_lt hlt) its.toArray, ⟨⟨_, Heap.get?_push_size _ rfl, rfl, rfl⟩, ?_⟩, truth_bools hb, fun h' tk hk => ?_⟩
  · obtain ⟨o, e, r⟩ := hl'
    exact ⟨o, Heap.get?_push_of_some _ e, r⟩
  · refine ⟨.bl _, H, I.kept fun b o eo => hk b o (fun hmem => ?_) (Heap.get?_push_of_some _ eo), ?_, q⟩
    · rcases List.mem_cons.mp hmem with e1 | hmem
      · exact absurd (e1 ▸ Heap.lt_size eo) (Nat.lt_irrefl _)
      · cases hmem
    · show Value.bool _ = Value.bool _
      rw [← all_range, hb, List.size_toArray, List.length_map]
end
end L2
namespace LamY
open PySem PySem.Spec PyProof.Rows L2 LamX
/-! as LamX.pe_act, GivesTo, pe_lamcall, the wish of an error told at the very state of the call (the names keep what they held) -/
section
variable {X : Cx} {pins : List (Addr × Obj)} {σ : L2.St} {H : Hp} {s : Shared}
/-- the lambda is made: its code object is new, or found in the table -/
theorem lam_make3 {T : List (Addr × Str)} {c P : Addr} {params : Arguments} {body : Expr} {scope : Scope} {pos : Pos} {E : Value → Shared → Prop} {Q : Value → Shared → Prop} (I : Inv X pins σ H s) (TB : TabB X.base X.mg c P) (hcode : X.env.code = .ref c)
    (hm : (P, X.env.qual ++ "<lambda>") ∈ T) (hu : ∀ p ∈ T, p.1 = P → p.2 = X.env.qual ++ "<lambda>") (hT : Tabs T H) (hdef : defaultsOf params X.env = ([], [])) (hfree : ∀ y ∈ scope.names, y.2 = .free → ∃ c, X.env.cells.lookup y.1 = some c)
    (h : ∀ (f c' : Addr) (pm ctv : Value) (H1 : Hp) (s' : Shared), Inv X pins σ H1 s' → ExtN H H1 → Tabs T H1 → (∀ b o, H b = some o → b ≠ P → H1 b = some o) →
      s'.heap.get? f = some (PySem.W.kla_obj "<lambda>" (X.env.qual ++ "<lambda>") params body scope (cloFrom X.env.cells scope.names []) pm c' ctv) → H1 f = none → f ∉ frs X.stack → H1 c' = some (CodeO c' (X.env.qual ++ "<lambda>")) → Q (.ref f) s') :
    wpAny (model X.prog X.w) X.A (eval (.Lambda params body scope pos) X.env) Q E s := by
  obtain ⟨ps, hP, ht, ha⟩ := hT _ hm
  refine PySem.W.kla_eval hdef ?_
  have bP : s.heap.BuiltinsAt X.mg P := TB.bm.keeps I.bk
  have hP' : s.heap.get? P = some { cls := .none, data := .fields ps } := I.hok P _ hP
  have nofr : ∀ f, s.heap.objs.size ≤ f → f ∉ frs X.stack := fun f hf z => by
    rcases List.mem_cons.mp (I.stkSub _ z) with e | e
    · have h1 := I.lt
      rw [← e] at h1
      exact Nat.lt_irrefl _ (Nat.lt_of_lt_of_le h1 hf)
    · exact I.nofs hf e
  cases hc : codeAmong pos ps.toList with
  | none =>
    refine PySem.W.kla_makeFunction (mg := X.mg) (c := c) (P := P) (ps := ps) (closure_ok hfree) I.ok.glob (I.mod.glob.keeps I.bk) hcode (TB.code.keeps I.bk) hP' ht hc TB.gP bP fun c' ctv h' tk hx hge hlt hrec htb => ?_
    obtain ⟨c2, oc, vs, t, e2, hoc, hd, hv⟩ := hrec
    cases e2
    have hsz : s.heap.objs.size ≤ h'.objs.size := Nat.le_trans hge (Nat.le_of_lt hlt)
    have nC : H c' = none := I.hok.fresh hge
    have I1 := inv_table (t' := tk) (more := #[rawInt pos.line, rawInt pos.col, .ref c']) (h' := h'.push (PySem.W.kla_obj "<lambda>" (X.env.qual ++ "<lambda>") params body scope (cloFrom X.env.cells scope.names []) ((X.mg "__name__").getD .none) c' ctv)) I hP
      (fun b o hb e => Heap.get?_push_of_some _ (hx b o hb e)) (Heap.get?_push_of_some _ htb) hge ⟨oc, vs, t, Heap.get?_push_of_some _ hoc, hd, hv⟩
    have hE : ExtN H (upd (upd H P (.tbl (ps ++ #[rawInt pos.line, rawInt pos.col, .ref c']))) c' (CodeO c' (X.env.qual ++ "<lambda>"))) := fun b o e n => by
      rw [upd_ne (ne_of_none e nC), upd_ne (fun z => n ps (Option.some.inj (e.symm.trans (by rw [z]; exact hP))))]
      exact e
    have eL : (ps ++ #[rawInt pos.line, rawInt pos.col, .ref c']).toList = ps.toList ++ [rawInt pos.line, rawInt pos.col, .ref c'] := by simp
    refine h h'.objs.size c' ((X.mg "__name__").getD .none) ctv _ _ I1 hE (fun p hp => ?_) (fun b o e nb => by rw [upd_ne (ne_of_none e nC), upd_ne nb]; exact e) (Heap.get?_push_size _ rfl) ?_ (nofr _ hsz) upd_same
    · by_cases hb : p.1 = P
      · rw [hu p hp hb, hb]
        refine ⟨_, by rw [upd_ne (ne_of_none hP nC), upd_same], by rw [eL]; exact PySem.TriplesOk_snoc _ _ _ _ ht, fun p' cv hcv => ?_⟩
        rw [eL] at hcv
        rcases among_app _ ht hcv with z | z
        · obtain ⟨c0, e1, e2⟩ := ha p' cv z
          exact ⟨c0, e1, hE _ _ e2 codeO_ne⟩
        · exact ⟨c', z, upd_same⟩
      · obtain ⟨ps', a1, a2, a3⟩ := hT p hp
        refine ⟨ps', by rw [upd_ne (ne_of_none a1 nC), upd_ne hb]; exact a1, a2, fun p' cv hcv => ?_⟩
        obtain ⟨c0, e1, e2⟩ := a3 p' cv hcv
        exact ⟨c0, e1, hE _ _ e2 codeO_ne⟩
    · have n1 : h'.objs.size ≠ c' := Nat.ne_of_gt hlt
      have n2 : h'.objs.size ≠ P := Nat.ne_of_gt (Nat.lt_of_lt_of_le (Heap.lt_size hP') hsz)
      rw [upd_ne n1, upd_ne n2]
      exact I.hok.fresh hsz
  | some cv =>
    obtain ⟨c', e, hco⟩ := ha pos cv hc
    subst e
    refine PySem.W.kla_makeFunctionHit (mg := X.mg) (c := c) (P := P) (ps := ps) (closure_ok hfree) I.ok.glob (I.mod.glob.keeps I.bk) hcode (TB.code.keeps I.bk) hP' ht hc bP fun ctv h' tk hx hsz => ?_
    have I1 : Inv X pins σ H { s with heap := h'.push (PySem.W.kla_obj "<lambda>" (X.env.qual ++ "<lambda>") params body scope (cloFrom X.env.cells scope.names []) ((X.mg "__name__").getD .none) c' ctv), toks := tk } := I.kept fun b o e => Heap.get?_push_of_some _ (hx b o e)
    exact h h'.objs.size c' ((X.mg "__name__").getD .none) ctv H _ I1 (ExtN.refl H) hT (fun _ _ e _ => e) (Heap.get?_push_size _ rfl) (I.hok.fresh hsz) (nofr _ hsz) hco
end
/-- what a lambda handed to a def reads -/
def tLamN (P : Addr) (T : List (Addr × Str)) (TT : (XK → Hp → VK → Prop) → Hp → VK → Prop) (t : XK → TE) : TE := fun σ H Q => Tabs T H ∧ ∀ H1, ExtN H H1 → Tabs T H1 → (∀ b o, H b = some o → b ≠ P → H1 b = some o) → TT (fun E H' Q' => t E σ H' Q') H1 Q
section
variable {X : Cx} {pins : List (Addr × Obj)} {σ : L2.St} {H HZ : Hp} {s s1 : Shared}
/-- x(), in the def that got the lambda: Z is that def's context, entered at s -/
theorem pe_actS {CXg : CXT} {Eg : XK} {Ng : List Str} {qg : Str} {sg : Scope} {g f c' : Addr} {cdg pm ctv : Value} {params : Arguments} {body : Expr} {scope : Scope} {k i : Nat} {a : Str} {pn : List (Addr × Obj)} {xe : Value → Shared → Prop} {W : WX} {E : XK} {tb : TE} {p1 p2 : Pos}
    (I : Inv X pins σ H s) (L : LamS X.env.scope scope) (hf : s.heap.get? f = some (PySem.W.kla_obj "<lambda>" (X.env.qual ++ "<lambda>") params body scope (cloFrom X.env.cells scope.names []) pm c' ctv)) (hfn : H f = none) (hfr : f ∉ frs X.stack)
    (hbind : bindArgs (PySem.W.kla_fn "<lambda>" (X.env.qual ++ "<lambda>") params body scope (cloFrom X.env.cells scope.names []) pm (.ref c') ctv) ⟨[], []⟩ = pure [])
    (tk : Takes ((cxOf CXg X.prog X.w X.K X.mg X.base Ng qg sg g cdg X.A X.stack s H Eg).tr pn xe) W) (hr : Room (k + 1) (X.A.deeper (envOfC qg sg s.heap.objs.size g cdg)))
    (hbody : ∀ (A : Around) (outer : List Env) (s : Shared) (H : Hp), Room k (A.deeper (lamEnv X scope s.heap.objs.size f c')) → PE (lamCx X A outer s H E scope f c') body tb)
    (hN : Ng[i]? = some a) (hv : Vis sg a) (hd : (a == ("__debug__" : Str)) = false := by decide) (hcd : (a == ("__classdict__" : Str)) = false := by decide) :
    PE ((cxOf CXg X.prog X.w X.K X.mg X.base Ng qg sg g cdg X.A X.stack s H Eg).tr pn xe) (.Call (.Name a p1) [] [] p2)
      (fun σZ HZ Q => σZ[i]? = some (some (.ref f)) ∧ HZ c' = some (CodeO c' (X.env.qual ++ "<lambda>")) ∧ (∀ cls d H', E cls d H' → W cls d σZ H') ∧ tb σ HZ Q) := by
  refine ⟨fun pinsZ sZ σZ HZ Q IZ h => ?_⟩
  obtain ⟨hs, hc, hW, ht⟩ := h
  refine wpAny_Call_Name_kw (thn ((pe_var (pos := p1) (i := i) hN hv hd hcd).run pinsZ sZ σZ HZ (fun v H1 => v = .ref f ∧ H1 = HZ) IZ ⟨.ref f, hs, rfl, rfl⟩) fun u s1 ⟨v, H1, I1, r1, q1⟩ => ?_)
  obtain ⟨ev, eH⟩ := q1
  subst ev
  rw [eH] at I1
  obtain rfl : u = Value.ref f := r1
  have of1 : s1.heap.get? f = some (PySem.W.kla_obj "<lambda>" (X.env.qual ++ "<lambda>") params body scope (cloFrom X.env.cells scope.names []) pm c' ctv) := I1.base.keep f _ hf hfn hfr (fun z => nomatch (show f ∈ ([] : List Addr) from z))
  refine PySem.W.callWith_F0 ⟨_, _, _, _, of1⟩ ?_
  have un : Un (frs X.stack) [] H HZ s.heap s1.heap := I1.base
  obtain ⟨⟨oc, vs, t, hoc, hdc, hvc⟩, _, _⟩ := I1.hok c' _ hc
  have rc : codeAny (model X.prog X.w) (X.A.deeper (envOfC qg sg s.heap.objs.size g cdg)) (.call (.ref f) ⟨[], []⟩) (CR (L2.CX X.prog X.w) (envOfC qg sg s.heap.objs.size g cdg :: X.stack) X.prog X.w HZ s1 Q E) s1 := by
    refine PySem.W.kla_callFunE hr.depth of1 rfl L.co L.gen rfl ⟨c', oc, vs, t, rfl, hoc, hdc, hvc⟩ ?_
    rw [hbind]
    refine wpAny_pure (wpAny_newFunctionEnv (fun y hy => (L.own y hy).2) (fun y hy => absurd hy (by simp)) (fun h₁ hns hsb => ⟨I1.nolimit.fresh _ hsb, ?_⟩) L.kind)
    show codeAny _ _ (.expr body (lamEnv X scope s1.heap.objs.size f c')) _ _
    have kp : ∀ b o, s1.heap.get? b = some o → h₁.get? b = some o := fun b o e => hsb.extBut b o (Nat.ne_of_lt (Heap.lt_size e)) (Heap.get?_push_of_some _ e)
    have J : Inv (lamCx X (X.A.deeper (envOfC qg sg s.heap.objs.size g cdg)) (envOfC qg sg s.heap.objs.size g cdg :: X.stack) s1 HZ E scope f c') [] σ HZ { s1 with heap := h₁, toks := s1.toks + ([] : List (Str × Value)).length } :=
      lam_start2 I L I1.env0 hr.hd un hns kp
    refine PySem.W.kla_codeExpr (wpAny_mono ((hbody _ _ s1 HZ (hr.deeper _)).run [] _ _ HZ Q J ht) (fun v s' hq => ?_) fun e s' hq => hq)
    obtain ⟨w', H', J', rv, q⟩ := hq
    exact ⟨w', H', J'.os, J'.bare, J'.base, J'.hok, rv, q⟩
  refine wpAny_call (codeAny_mono rc fun r s' hq => ?_)
  cases r with
  | error e => exact tk e s' (XE.of_call I1 (fun cls d H' h => hW cls d H' h) hq)
  | ok fl =>
    cases fl with
    | ret u => exact I1.after hq
    | next => exact False.elim hq
    | brk => exact False.elim hq
    | cont => exact False.elim hq
end
/-- the def that calls what it got: a calls it; TT: what it makes of the lambda's reading -/
def GivesS (X : Cx) (Ng : List Str) (x : Str) (sg : Scope) (g : Addr) (cdg : Value) (bg : List Stmt) (a : Str) (q : Str) (TT : (XK → Hp → VK → Prop) → Hp → VK → Prop) : Prop :=
  ∀ (f c' : Addr) (s : Shared) (H : Hp) (Q : VK) (tl : XK → Hp → VK → Prop),
    (∀ (W : WX) (pn : List (Addr × Obj)) (xe : Value → Shared → Prop) (E : XK) (p1 p2 : Pos), Takes ((cxOf C8.CX0 X.prog X.w X.K X.mg X.base Ng x sg g cdg X.A X.stack s H C8.E0).tr pn xe) W →
      PE ((cxOf C8.CX0 X.prog X.w X.K X.mg X.base Ng x sg g cdg X.A X.stack s H C8.E0).tr pn xe) (.Call (.Name a p1) [] [] p2) (fun σZ HZ Q => σZ[0]? = some (some (.ref f)) ∧ HZ c' = some (CodeO c' q) ∧ (∀ cls d H', E cls d H' → W cls d σZ H') ∧ tl E HZ Q)) →
    H c' = some (CodeO c' q) → TT tl H Q →
    ∃ t, PSs (cxOf C8.CX0 X.prog X.w X.K X.mg X.base Ng x sg g cdg X.A X.stack s H C8.E0).nox bg t ∧ t { nx := fun _ H' => Q .non H', rt := Q } (L2.start Ng [.ref f]) H
section
variable {X : Cx}
/-- x(lambda: body) -/
theorem pe_lamS {T : List (Addr × Str)} {TT : (XK → Hp → VK → Prop) → Hp → VK → Prop} {x a : Str} {g c P : Addr} {k : Nat} {pg : Arguments} {bg : List Stmt} {sg : Scope} {dV kV doc pm cdv ct oc : Value} {an od : Option Addr} {osl : Array (Option Value)} {Ng : List Str}
    {params : Arguments} {body : Expr} {scope : Scope} {t : XK → TE} {p lpos pos : Pos} (hg : Gl X x) (hm : X.mg x = some (.ref g)) (hk : PySem.W.keepIn X.K (.ref g) = true)
    (lk : X.K.lookup g = some ⟨oc, od, .func (PySem.W.fnOf x x pg bg sg dV kV doc pm an cdv ct), osl⟩) (hcg : PySem.W.codeIn X.K cdv x = true) (hb : L2.Binds X.K (PySem.W.fnOf x x pg bg sg dV kV doc pm an cdv ct) [a] []) (Sg : FnScope Ng [a] sg) (hNg : Ng[0]? = some a) (hva : Vis sg a)
    (hG : GivesS X Ng x sg g cdv bg a (X.env.qual ++ "<lambda>") TT)
    (TB : TabB X.base X.mg c P) (hcode : X.env.code = .ref c) (hmT : (P, X.env.qual ++ "<lambda>") ∈ T) (hu : ∀ p ∈ T, p.1 = P → p.2 = X.env.qual ++ "<lambda>") (hr : Room (k + 2) X.A) (L : LamS X.env.scope scope) (hdef : defaultsOf params X.env = ([], []))
    (hbind : ∀ (q : Str) (cl : List (Str × Addr)) (pm cv ctv : Value), bindArgs (PySem.W.kla_fn "<lambda>" q params body scope cl pm cv ctv) ⟨[], []⟩ = pure [])
    (hbody : ∀ (A : Around) (outer : List Env) (s : Shared) (H : Hp) (E : XK) (f c' : Addr), Room k (A.deeper (lamEnv X scope s.heap.objs.size f c')) → PE (lamCx X A outer s H E scope f c') body (t E))
    (hdb : (x == ("__debug__" : Str)) = false := by decide) (hd : (a == ("__debug__" : Str)) = false := by decide) (hcd : (a == ("__classdict__" : Str)) = false := by decide) :
    PE X (.Call (.Name x p) [.Lambda params body scope lpos] [] pos) (tLamN P T TT t) := by
  refine ⟨fun pins s σ H Q I h => ?_⟩
  obtain ⟨hT, h⟩ := h
  refine wpAny_Call_Name_kw (ld_glob I hg hm ?_ hdb)
  refine PySem.W.callWith_K (h₀ := X.base) I.ok.mod.kin hk ?_ (by rfl) (by rfl)
  show wpAny _ _ (spliced ((false, eval (.Lambda params body scope lpos) X.env) :: backTo pos (starEach [] X.env))) _ _ s
  refine Calls.spliced_cons (lam_make3 I TB hcode hmT hu hT hdef (L.has I.ok) fun f c' pm' ctv H1 s' I1 eN T1 eK hf hfn hfr hco => ?_)
  refine Calls.spliced_nil ⟨I1.kIn, ?_⟩
  have rc : codeAny (model X.prog X.w) X.A (.call (.ref g) ⟨[.ref f], []⟩) (CR C8.CX0 X.stack X.prog X.w H1 s' Q C8.E0) s' := by
    refine run_ofS (N := Ng) (ps := [a]) (us := [.ref f]) (vs := [.ref f]) lk hcg Sg hr I1.env0 (hb s' [.ref f] I1.kIn rfl) (.cons rfl .nil) rfl fun hr' => ?_
    obtain ⟨t', ht', hq'⟩ := hG f c' s' H1 Q (fun E H' Q' => t E σ H' Q') (fun W pn xe E p1 p2 tk => pe_actS (i := 0) I1 L hf hfn hfr (hbind _ _ _ _ _) tk hr' (fun A outer s H hr2 => hbody A outer s H E f c' hr2) hNg hva hd hcd) hco (h H1 eN T1 eK)
    exact ⟨t', ht'.nox, hq'⟩
  refine wpAny_call (codeAny_mono rc fun r s2 hq => ?_)
  cases r with
  | error e => exact (show False from hq).elim
  | ok fl =>
    cases fl with
    | ret u => exact I1.after hq
    | next => exact False.elim hq
    | brk => exact False.elim hq
    | cont => exact False.elim hq
end
end LamY
namespace L2
open PySem PySem.Spec PyProof.Rows
section
variable {X : Cx}
/-- a, b, .. = a tracked tuple -/
def onTu (o : Option HO) [k : List V → Prop] : Prop := ∃ xs, o = some (.tup xs) ∧ k xs
theorem onTu_s {xs : List V} {k : List V → Prop} : @onTu (some (.tup xs)) k = k xs := propext ⟨fun ⟨_, e, q⟩ => by cases e; exact q, fun q => ⟨_, rfl, q⟩⟩
def gTupA (n : Nat) (t : TGs) : TG := fun v σ H R => @onR v fun a => @onTu (H a) fun xs => xs.length = n ∧ t xs σ H R
theorem gTupA_e {n : Nat} {t : TGs} {v : V} {σ : St} {H : Hp} {R : St → Hp → Prop} : gTupA n t v σ H R = @onR v fun a => @onTu (H a) fun xs => xs.length = n ∧ t xs σ H R := rfl
theorem pg_tupA {es : List Expr} {k : Nat} {t : TGs} (n : Nat) {pos : Pos} (hc : X.calm = true) (h : PGs X es t) (hn : (assignEach es X.env).length = n := by rfl) (hst : (assignEach es X.env).findIdx? (·.1) = none := by rfl) : PG X (.Tuple es k pos) (gTupA n t) := by
  refine ⟨fun pins s σ H v u Q I r hw => ?_⟩
  obtain ⟨a, rfl, xs, e, hl, hw⟩ := hw
  exact (pg_tup hc h hn hst).run pins s σ H _ u Q I r ⟨a, xs, rfl, SqT.of e, hl, hw⟩
end
/-! ### heard -/
/-- told: c, b = None, None; try: b = a() / except x as e: c = e; return c, b -/
def TTheard (K : PySem.W.Frag) (CS : Addr) : (XK → Hp → VK → Prop) → Hp → VK → Prop := fun tl H Q => 2 ≤ sizeLine ∧ ∀ p0, H p0 = none → 2 = 2 ∧
  tl (fun cls d H' => ∃ b, PySem.W.exmOne K cls (.ref CS) = some b ∧ (b = true → ∀ a, H' a = none → 2 ≤ sizeLine ∧ ∀ p, (upd H' a (ExV cls d a)) p = none → Q (.ref p) (upd (upd H' a (ExV cls d a)) p (.tup [.ref a, .non]))) ∧ (b = false → False)) (upd H p0 (.tup [.non, .non]))
    (fun v H' => 2 ≤ sizeLine ∧ ∀ p, H' p = none → Q (.ref p) (upd H' p (.tup [.non, v])))
theorem heard_gives {X : Cx} {x a c b e en q : Str} {sg : Scope} {g CS : Addr} {cdg : Value} {kt k2 k3 : Nat} {p1 p2 p3 p4 p5 p6 p7 p8 p9 p10 p11 p12 p13 p14 p15 p16 p17 p18 p19 p20 p21 : Pos} {j1 j2 : Nat}
    (hN : [a, c, b, e].Nodup) (hme : X.mg en = some (.ref CS)) (hge : sg.names.lookup en = some .globalImplicit) (lc : sg.names.lookup c = some .local) (lb : sg.names.lookup b = some .local) (le : sg.names.lookup e = some .local)
    (hde : (en == ("__debug__" : Str)) = false) (d1 : (e == ("__debug__" : Str)) = false) (d2 : (e == ("__classdict__" : Str)) = false) (d3 : (c == ("__debug__" : Str)) = false) (d4 : (c == ("__classdict__" : Str)) = false) (d5 : (b == ("__debug__" : Str)) = false) (d6 : (b == ("__classdict__" : Str)) = false)
    (hsw : ∀ L f cd, swappedStores [.Tuple [.Name c p1, .Name b p2] kt p3] (.Tuple [.Constant .none j1 p4, .Constant .none j2 p5] k2 p6) (envOfC x sg L f cd) = pure none)
    (hsl : ∀ L f cd, swapsWithSole [.Tuple [.Name c p1, .Name b p2] kt p3] (.Tuple [.Constant .none j1 p4, .Constant .none j2 p5] k2 p6) p7.line (envOfC x sg L f cd) = pure false) :
    LamY.GivesS X [a, c, b, e] x sg g cdg
      [.Assign [.Tuple [.Name c p1, .Name b p2] kt p3] (.Tuple [.Constant .none j1 p4, .Constant .none j2 p5] k2 p6) p7,
       .Try [.Assign [.Name b p8] (.Call (.Name a p9) [] [] p10) p11] [.ExceptHandler (some (.Name en p12)) (some e) [.Assign [.Name c p13] (.Name e p14) p15] p16] [] [] p17,
       .Return (some (.Tuple [.Name c p18, .Name b p19] k3 p20)) p21] a q (TTheard X.K CS) := by
  intro f c' s H Q tl act hc h
  have hgl : Gl (cxOf C8.CX0 X.prog X.w X.K X.mg X.base [a, c, b, e] x sg g cdg X.A X.stack s H C8.E0).nox en := hge
  refine ⟨_, pss_cons (ps_asg (pe_tup (pa_cons pe_non (pa_cons pe_non pa_nil))) (pg_tupA 2 rfl (pgs_cons (pg_name (i := 1) hN rfl (.inl lc)) (pgs_cons (pg_name (i := 2) hN rfl (.inl lb)) pgs_nil))) (hsl _ _ _) (hsw _ _ _)) (pss_cons
    (ps_try_keep (X := (cxOf C8.CX0 X.prog X.w X.K X.mg X.base [a, c, b, e] x sg g cdg X.A X.stack s H C8.E0).nox) (cv := .ref CS) (i := 3) (ic := 1)
      (tb := fun W D σ H => ∃ Ech : XK, σ[0]? = some (some (.ref f)) ∧ H c' = some (LamX.CodeO c' q) ∧ (∀ cls d H', Ech cls d H' → W cls d σ H') ∧ tl Ech H (fun v H' => D.nx (σ.set 2 (some v)) H'))
      rfl rfl rfl hN rfl le rfl lc ⟨hgl, hde, .inl hme⟩ (by decide) LamX.takes0 (fun W pn xe tk _ => ?_) (by rfl) d1 d2) (pss_one (ps_ret (pe_tup (pa_cons (pe_var (i := 1) rfl (.inl lc) d3 d4) (pa_cons (pe_var (i := 2) rfl (.inl lb) d5 d6) pa_nil)))))), ?_⟩
  · refine ⟨fun pins s' σ H' D I h' => ?_⟩
    obtain ⟨Ech, h1, h2, hW, h3⟩ := h'
    have hp := act W pn xe Ech p9 p10 tk
    have hq := pss_one (ps_set (pos := p11) (pos' := p8) (i := 2) hN rfl (.inl lb) hp)
    exact hq.run pins s' σ H' D I ⟨h1, h2, hW, h3⟩
  · simp only [onI_i, onB_b, onR_r, onT_t, onO_s, onS_s, onV_s, ↓tVar_e, ↓tC_e, ↓tNil_e, ↓tCons_e, ↓tCB_e, ↓tOp_e, ↓rI_e, ↓rI0_e, ↓tUn_e, ↓rU_e, ↓rEq_e, ↓rNe_e, scal_ii, scal_ss, scal_bb, ↓tAndV_e, ↓tOrV_e, ↓tNotV_e, ↓tAnd_e, ↓tOr_e, ↓tNot_e, ↓tTest_e, ↓tB_e, ↓tIf_e, ↓tChain_e, ↓tSeq_e, ↓tNext_e, ↓tBreak_e, ↓tCont_e, ↓tDrop_e, ↓tRet_e, ↓tRetN_e, ↓tIfS_e, ↓tAsg_e, ↓gName_e, onL2_e, ↓tPar_e2, onCons_e, ↓gNil_e, ↓gCons_e, ↓tTup_e, ↓tTupF_e, ↓tLst_e, ↓tFld_e, ↓sFld_e, ↓sFldAug_e, ↓rAdd_e, ↓rSub_e, ↓tCall_e, ↓tProp_e, ↓tRaiseAsk_e, ↓getSp_e, ↓tMeth_e, ↓tMake_e, ↓rRep_e, ↓rCat_e, ↓tSl_e, ↓tNoPart_e, ↓tPart_e, ↓tYes_e, ↓tFor_e, ↓iTup_e, ↓iList_e, onL1_e, ↓iRng1_e, ↓iRng2_e, ↓iEnT_e, ↓tLc_e, ↓start_e, onD_s, onLst_s, ↓tApp_e, cxOf_K, upd_same, upd_upd, List.getElem?_cons_zero, List.getElem?_cons_succ, List.set_cons_zero, List.set_cons_succ, List.map_cons, List.map_nil, List.append_nil, List.cons_append, List.nil_append, List.length_cons, List.length_nil, List.replicate_succ, List.replicate_zero, Nat.reduceAdd, Nat.reduceSub, Nat.reduceLT, V.int.injEq, V.bl.injEq, V.str.injEq, V.ref.injEq, decide_eq_true_eq, Bool.not_true, Bool.not_false, Bool.false_eq_true, Bool.not_eq_true', decide_eq_false_iff_not, ↓reduceIte, true_and, and_true, and_self, decide_true, decide_false, not_false_eq_true, not_true_eq_false, eq_self, onTu_s, ↓gTupA_e]
    obtain ⟨h0, h⟩ := h
    refine ⟨h0, fun p0 hp0 => ?_⟩
    refine ⟨_, (upd_ne (ne_of_none hc hp0)).trans hc, fun cls d H' hE => ?_, (h p0 hp0).2⟩
    obtain ⟨b, e1, e2, e3⟩ := hE
    refine ⟨b, e1, fun hb a ha => ?_, e3⟩
    simp only [onI_i, onB_b, onR_r, onT_t, onO_s, onS_s, onV_s, ↓tVar_e, ↓tC_e, ↓tNil_e, ↓tCons_e, ↓tCB_e, ↓tOp_e, ↓rI_e, ↓rI0_e, ↓tUn_e, ↓rU_e, ↓rEq_e, ↓rNe_e, scal_ii, scal_ss, scal_bb, ↓tAndV_e, ↓tOrV_e, ↓tNotV_e, ↓tAnd_e, ↓tOr_e, ↓tNot_e, ↓tTest_e, ↓tB_e, ↓tIf_e, ↓tChain_e, ↓tSeq_e, ↓tNext_e, ↓tBreak_e, ↓tCont_e, ↓tDrop_e, ↓tRet_e, ↓tRetN_e, ↓tIfS_e, ↓tAsg_e, ↓gName_e, onL2_e, ↓tPar_e2, onCons_e, ↓gNil_e, ↓gCons_e, ↓tTup_e, ↓tTupF_e, ↓tLst_e, ↓tFld_e, ↓sFld_e, ↓sFldAug_e, ↓rAdd_e, ↓rSub_e, ↓tCall_e, ↓tProp_e, ↓tRaiseAsk_e, ↓getSp_e, ↓tMeth_e, ↓tMake_e, ↓rRep_e, ↓rCat_e, ↓tSl_e, ↓tNoPart_e, ↓tPart_e, ↓tYes_e, ↓tFor_e, ↓iTup_e, ↓iList_e, onL1_e, ↓iRng1_e, ↓iRng2_e, ↓iEnT_e, ↓tLc_e, ↓start_e, onD_s, onLst_s, ↓tApp_e, cxOf_K, upd_same, upd_upd, List.getElem?_cons_zero, List.getElem?_cons_succ, List.set_cons_zero, List.set_cons_succ, List.map_cons, List.map_nil, List.append_nil, List.cons_append, List.nil_append, List.length_cons, List.length_nil, List.replicate_succ, List.replicate_zero, Nat.reduceAdd, Nat.reduceSub, Nat.reduceLT, V.int.injEq, V.bl.injEq, V.str.injEq, V.ref.injEq, decide_eq_true_eq, Bool.not_true, Bool.not_false, Bool.false_eq_true, Bool.not_eq_true', decide_eq_false_iff_not, ↓reduceIte, true_and, and_true, and_self, decide_true, decide_false, not_false_eq_true, not_true_eq_false, eq_self]
    exact e2 hb a ha
end L2
set_option Elab.async false
set_option linter.all false
/-! k49's plain law: what a purse does along a row. -/
namespace K49
open PySem L2
/-- a word: true is 'first' -/
def wv (b : Bool) : V := .str (if b = true then "first" else "again")
structure S where
  c : Int
  f : Int
  a : Int
def firstC (m p c f : Int) : Int := if (f + 1) % p = 0 ∧ c < m then c + 1 else c
def stp (m p : Int) (s : S) (b : Bool) : S := if b = true then ⟨firstC m p s.c s.f, s.f + 1, s.a⟩ else if s.c = 0 then s else ⟨s.c - 1, s.f, s.a + 1⟩
def out (s : S) (b : Bool) : Bool := b || !decide (s.c = 0)
def run (m p : Int) (s : S) (ws : List Bool) : S := ws.foldl (stp m p) s
def outs (m p : Int) : S → List Bool → List Bool
  | _, [] => []
  | s, b :: r => out s b :: outs m p (stp m p s b) r
def s0 (m : Int) : S := ⟨m, 0, 0⟩
theorem take_more {α : Type} : ∀ {l : List α} {i : Nat} {x : α}, l[i]? = some x → l.take (i + 1) = l.take i ++ [x]
  | [], i, x, h => by simp at h
  | a :: l, 0, x, h => by
    have e : a = x := Option.some.inj h
    subst e
    rfl
  | a :: l, i + 1, x, h => by
    have ih := take_more (l := l) (i := i) (x := x) h
    show a :: l.take (i + 1) = a :: l.take i ++ [x]
    rw [ih]
    rfl
section
variable {m p : Int} {s : S} {ws : List Bool} {i : Nat} {b : Bool}
theorem run_app {vs : List Bool} : run m p s (ws ++ vs) = run m p (run m p s ws) vs := List.foldl_append
theorem run_more (h : ws[i]? = some b) : run m p s (ws.take (i + 1)) = stp m p (run m p s (ws.take i)) b := by
  rw [take_more h, run_app]
  rfl
theorem outs_app : ∀ {ws : List Bool} {s : S} {vs : List Bool}, outs m p s (ws ++ vs) = outs m p s ws ++ outs m p (run m p s ws) vs
  | [], s, vs => rfl
  | b :: r, s, vs => by
    show out s b :: outs m p (stp m p s b) (r ++ vs) = out s b :: (outs m p (stp m p s b) r ++ outs m p (run m p (stp m p s b) r) vs)
    rw [outs_app]
theorem outs_more (h : ws[i]? = some b) : outs m p s (ws.take (i + 1)) = outs m p s (ws.take i) ++ [out (run m p s (ws.take i)) b] := by
  rw [take_more h, outs_app]
  rfl
theorem outs_len : ∀ {ws : List Bool} {s : S}, (outs m p s ws).length = ws.length
  | [], _ => rfl
  | b :: r, s => by
    show (outs m p (stp m p s b) r).length + 1 = r.length + 1
    rw [outs_len]
theorem outs_get : ∀ {ws : List Bool} {s : S} {i : Nat} {b : Bool}, ws[i]? = some b → (outs m p s ws)[i]? = some (out (run m p s (ws.take i)) b)
  | [], s, i, b, h => by simp at h
  | a :: r, s, 0, b, h => by
    have e : a = b := Option.some.inj h
    subst e
    rfl
  | a :: r, s, i + 1, b, h => by
    have ih := outs_get (ws := r) (s := stp m p s a) (i := i) (b := b) h
    exact ih
/-- what stays true of a purse that began with m -/
structure Good (m p : Int) (s : S) : Prop where
  c0 : 0 ≤ s.c
  cm : s.c ≤ m
  f0 : 0 ≤ s.f
  a0 : 0 ≤ s.a
  sum : s.a + s.c ≤ m + s.f / p
  nul : m = 0 → s.a = 0
theorem good0 (h : 0 ≤ m) : Good m p (s0 m) := ⟨h, Int.le_refl _, Int.le_refl _, Int.le_refl _, by simp [s0], fun _ => rfl⟩
theorem div_next {f p : Int} (hp : 1 ≤ p) : (f + 1) / p = if (f + 1) % p = 0 then f / p + 1 else f / p := by
  have h1 := Int.mul_ediv_add_emod f p
  have h2 := Int.mul_ediv_add_emod (f + 1) p
  have h3 := Int.emod_nonneg f (show p ≠ 0 by omega)
  have h4 := Int.emod_lt_of_pos f (show 0 < p by omega)
  have h5 := Int.emod_nonneg (f + 1) (show p ≠ 0 by omega)
  have h6 := Int.emod_lt_of_pos (f + 1) (show 0 < p by omega)
  by_cases e : (f + 1) % p = 0
  · rw [if_pos e]
    have q : p * ((f + 1) / p - f / p - 1) = f % p + 1 - p := by
      rw [Int.mul_sub, Int.mul_sub]
      omega
    have r : (f + 1) / p - f / p - 1 = 0 := by
      generalize hx : (f + 1) / p - f / p - 1 = x at q
      have u1 : p * x ≤ 0 := by omega
      have u2 : -p < p * x := by omega
      have v1 : x ≤ 0 := by
        rcases Int.lt_or_le 0 x with z | z
        · have := Int.mul_pos (show 0 < p by omega) z
          omega
        · exact z
      have v2 : 0 ≤ x := by
        rcases Int.lt_or_le x 0 with z | z
        · have : p * x ≤ p * (-1) := Int.mul_le_mul_of_nonneg_left (by omega) (by omega)
          omega
        · exact z
      omega
    omega
  · rw [if_neg e]
    have q : p * ((f + 1) / p - f / p) = f % p + 1 - (f + 1) % p := by
      rw [Int.mul_sub]
      omega
    generalize hx : (f + 1) / p - f / p = x at q
    have v1 : x ≤ 0 := by
      rcases Int.lt_or_le 0 x with z | z
      · have : p * 1 ≤ p * x := Int.mul_le_mul_of_nonneg_left (by omega) (by omega)
        omega
      · exact z
    have v2 : 0 ≤ x := by
      rcases Int.lt_or_le x 0 with z | z
      · have : p * x ≤ p * (-1) := Int.mul_le_mul_of_nonneg_left (by omega) (by omega)
        omega
      · exact z
    omega
theorem good_stp (hm : 0 ≤ m) (hp : 1 ≤ p) (g : Good m p s) : Good m p (stp m p s b) := by
  obtain ⟨c0, cm, f0, a0, sm, nl⟩ := g
  unfold stp
  cases b with
  | true =>
    rw [if_pos rfl]
    have d := div_next (f := s.f) hp
    unfold firstC
    by_cases e : (s.f + 1) % p = 0
    · rw [if_pos e] at d
      by_cases h : s.c < m
      · rw [if_pos ⟨e, h⟩]
        exact ⟨by show 0 ≤ s.c + 1; omega, by show s.c + 1 ≤ m; omega, by show 0 ≤ s.f + 1; omega, a0, by show s.a + (s.c + 1) ≤ m + (s.f + 1) / p; omega, nl⟩
      · rw [if_neg (fun z => h z.2)]
        exact ⟨c0, cm, by show 0 ≤ s.f + 1; omega, a0, by show s.a + s.c ≤ m + (s.f + 1) / p; omega, nl⟩
    · rw [if_neg e] at d
      rw [if_neg (fun z => e z.1)]
      exact ⟨c0, cm, by show 0 ≤ s.f + 1; omega, a0, by show s.a + s.c ≤ m + (s.f + 1) / p; omega, nl⟩
  | false =>
    rw [if_neg Bool.false_ne_true]
    by_cases h : s.c = 0
    · rw [if_pos h]
      exact ⟨c0, cm, f0, a0, sm, nl⟩
    · rw [if_neg h]
      exact ⟨by show 0 ≤ s.c - 1; omega, by show s.c - 1 ≤ m; omega, f0, by show 0 ≤ s.a + 1; omega, by show s.a + 1 + (s.c - 1) ≤ m + s.f / p; omega, fun z => absurd (by omega) h⟩
theorem good_run (hm : 0 ≤ m) (hp : 1 ≤ p) : ∀ {ws : List Bool} {s : S}, Good m p s → Good m p (run m p s ws)
  | [], _, g => g
  | b :: r, s, g => good_run hm hp (ws := r) (s := stp m p s b) (good_stp hm hp g)
/-- how many firsts -/
theorem run_f : ∀ {ws : List Bool} {s : S}, (run m p s ws).f = s.f + (ws.countP id : Nat)
  | [], s => by simp [run]
  | b :: r, s => by
    have ih := run_f (ws := r) (s := stp m p s b)
    show (run m p (stp m p s b) r).f = _
    rw [ih]
    cases b with
    | true => simp [stp, List.countP_cons]; omega
    | false =>
      have e : (stp m p s false).f = s.f := by
        unfold stp
        rw [if_neg Bool.false_ne_true]
        split <;> rfl
      rw [e]
      simp [List.countP_cons]
end
/-! ### the row that lets most -/
/-- row_for's tail behind n firsts -/
def tailF (p : Int) : Nat → List Bool
  | 0 => []
  | n + 1 => tailF p n ++ (if ((n : Int) + 1) % p = 0 then [true, false] else [true])
def rowF (m p : Int) (f : Nat) : List Bool := if m = 0 then List.replicate f true else List.replicate m.toNat false ++ tailF p f
theorem tail_run {m p : Int} (hm : 0 < m) (hp : 1 ≤ p) (a : Int) : ∀ n : Nat, run m p ⟨0, 0, a⟩ (tailF p n) = ⟨0, n, a + (n : Int) / p⟩
  | 0 => by simp [tailF, run]
  | n + 1 => by
    rw [tailF, run_app, tail_run hm hp a n]
    have d := div_next (f := (n : Int)) hp
    have ec : ((n + 1 : Nat) : Int) = (n : Int) + 1 := by omega
    by_cases e : ((n : Int) + 1) % p = 0
    · rw [if_pos e] at d ⊢
      have q1 : stp m p ⟨0, (n : Int), a + (n : Int) / p⟩ true = ⟨1, (n : Int) + 1, a + (n : Int) / p⟩ := by
        unfold stp firstC
        rw [if_pos rfl, if_pos ⟨e, hm⟩]
        rfl
      have q2 : stp m p ⟨1, (n : Int) + 1, a + (n : Int) / p⟩ false = ⟨0, (n : Int) + 1, a + (n : Int) / p + 1⟩ := by
        unfold stp
        rw [if_neg Bool.false_ne_true, if_neg (by show ¬ (1 : Int) = 0; omega)]
        rfl
      show stp m p (stp m p ⟨0, (n : Int), a + (n : Int) / p⟩ true) false = _
      rw [q1, q2, ec, d, Int.add_assoc]
    · rw [if_neg e] at d ⊢
      have q1 : stp m p ⟨0, (n : Int), a + (n : Int) / p⟩ true = ⟨0, (n : Int) + 1, a + (n : Int) / p⟩ := by
        unfold stp firstC
        rw [if_pos rfl, if_neg (fun z => e z.1)]
      show stp m p ⟨0, (n : Int), a + (n : Int) / p⟩ true = _
      rw [q1, ec, d]
theorem agains_run {m p : Int} : ∀ (n : Nat) (c a : Int), (n : Int) ≤ c → run m p ⟨c, 0, a⟩ (List.replicate n false) = ⟨c - n, 0, a + n⟩
  | 0, c, a, _ => by simp [run]
  | n + 1, c, a, h => by
    have ih := agains_run (m := m) (p := p) n (c - 1) (a + 1) (by omega)
    show run m p (stp m p ⟨c, 0, a⟩ false) (List.replicate n false) = _
    have e : stp m p ⟨c, 0, a⟩ false = ⟨c - 1, 0, a + 1⟩ := by
      unfold stp
      rw [if_neg Bool.false_ne_true, if_neg (show ¬ c = 0 by omega)]
    rw [e, ih]
    have e1 : c - 1 - (n : Int) = c - ((n + 1 : Nat) : Int) := by omega
    have e2 : a + 1 + (n : Int) = a + ((n + 1 : Nat) : Int) := by omega
    rw [e1, e2]
theorem firsts_run {p : Int} : ∀ (n : Nat) (f : Int), (run 0 p ⟨0, f, 0⟩ (List.replicate n true)).a = 0
  | 0, f => rfl
  | n + 1, f => by
    have ih := firsts_run (p := p) n (f + 1)
    show (run 0 p (stp 0 p ⟨0, f, 0⟩ true) (List.replicate n true)).a = 0
    have e : stp 0 p ⟨0, f, 0⟩ true = ⟨0, f + 1, 0⟩ := by
      unfold stp firstC
      rw [if_pos rfl, if_neg (fun z => absurd z.2 (Int.lt_irrefl 0))]
    rw [e]
    exact ih
def due (m p f : Int) : Int := if 0 < m then m + f / p else 0
theorem rowF_due {m p : Int} {f : Nat} (hm : 0 ≤ m) (hp : 1 ≤ p) : (run m p (s0 m) (rowF m p f)).a = due m p f := by
  unfold rowF due
  by_cases h : m = 0
  · subst h
    rw [if_pos rfl, if_neg (by omega)]
    exact firsts_run f 0
  · rw [if_neg h, if_pos (by omega), run_app]
    unfold s0
    rw [agains_run m.toNat m 0 (by omega)]
    have e1 : m - (m.toNat : Int) = 0 := by omega
    have e2 : 0 + (m.toNat : Int) = m := by omega
    rw [e1, e2, tail_run (by omega) hp]
theorem tail_count {p : Int} : ∀ n : Nat, (tailF p n).countP id = n
  | 0 => rfl
  | n + 1 => by
    rw [tailF, List.countP_append, tail_count n]
    split <;> simp [List.countP_cons]
theorem rowF_count {m p : Int} {f : Nat} : (rowF m p f).countP id = f := by
  unfold rowF
  split
  · simp [List.countP_replicate]
  · rw [List.countP_append, tail_count]
    simp [List.countP_replicate]
theorem tail_len {p : Int} : ∀ n : Nat, (tailF p n).length ≤ 2 * n
  | 0 => by simp [tailF]
  | n + 1 => by
    have := tail_len (p := p) n
    rw [tailF, List.length_append]
    split <;> simp <;> omega
theorem rowF_len {m p : Int} {f : Nat} (hm : m ≤ 1000) (hf : f ≤ 1000) : (rowF m p f).length ≤ 3000 := by
  have := tail_len (p := p) f
  unfold rowF
  split
  · rw [List.length_replicate]; omega
  · rw [List.length_append, List.length_replicate]; omega
end K49
set_option checkBinderAnnotations false
set_option Elab.async false
set_option linter.all false
set_option maxRecDepth 100000
set_option maxHeartbeats 4000000
/-! Lists by places, int(x), as equations. -/
namespace L2
open PySem PySem.Spec PyProof.Rows
def onN (o : Option Nat) [k : Nat → Prop] : Prop := ∃ v, o = some v ∧ k v
theorem onN_s {v : Nat} {k : Nat → Prop} : @onN (some v) k = k v := propext ⟨fun ⟨_, e, q⟩ => by cases e; exact q, fun q => ⟨_, rfl, q⟩⟩
theorem int1_i {e : Int} {q : Int → Prop} {z : Bool → Prop} : ((∃ i, [V.int e] = [V.int i] ∧ q i) ∨ ∃ k, [V.int e] = [V.bl k] ∧ z k) = q e :=
  propext ⟨fun h => by rcases h with ⟨i, h, q⟩ | ⟨k, h, _⟩ <;> cases h; exact q, fun h => .inl ⟨e, rfl, h⟩⟩
theorem int1_b {e : Bool} {q : Int → Prop} {z : Bool → Prop} : ((∃ i, [V.bl e] = [V.int i] ∧ q i) ∨ ∃ k, [V.bl e] = [V.bl k] ∧ z k) = z e :=
  propext ⟨fun h => by rcases h with ⟨i, h, q⟩ | ⟨k, h, z⟩ <;> cases h; exact z, fun h => .inr ⟨e, rfl, h⟩⟩
theorem one_i {e : Int} {q : Int → Prop} : (∃ i, [V.int e] = [V.int i] ∧ q i) = q e := propext ⟨fun ⟨i, h, q⟩ => by cases h; exact q, fun h => ⟨e, rfl, h⟩⟩
theorem two_i {e f : Int} {q : Int → Int → Prop} : (∃ i j, [V.int e, V.int f] = [V.int i, V.int j] ∧ q i j) = q e f := propext ⟨fun ⟨i, j, h, q⟩ => by cases h; exact q, fun h => ⟨e, f, rfl, h⟩⟩
/-- xs[i], the list tracked -/
def rIxA : R2 := fun x y H Q => @onR x fun p => @onI y fun i => @onLst (H p) fun xs => @onS (atI xs i) fun v => Q v H
theorem rIxA_e {x y : V} {H : Hp} {Q : VK} : rIxA x y H Q = @onR x fun p => @onI y fun i => @onLst (H p) fun xs => @onS (atI xs i) fun v => Q v H := rfl
theorem gSub_e {to ti : TE} {t : TSet} {v : V} {σ : St} {H : Hp} {R : St → Hp → Prop} : gSub to ti t v σ H R = to σ H fun o H1 => ti σ H1 fun i H2 => t o i v H2 fun H3 => R σ H3 := rfl
theorem rSetL_e {o i v : V} {H : Hp} {R : Hp → Prop} : rSetL o i v H R = @onR o fun p => @onI i fun k => @onLst (H p) fun xs => @onN (ixN xs.length k) fun j => R (upd H p (.lst (xs.set j v))) :=
  propext ⟨fun ⟨p, xs, k, j, a, b, c, d, e⟩ => ⟨p, a, k, b, xs, c, j, d, e⟩, fun ⟨p, a, k, b, xs, c, j, d, e⟩ => ⟨p, xs, k, j, a, b, c, d, e⟩⟩
theorem at3_0 {a b c : V} : atI [a, b, c] 0 = some a := rfl
theorem at3_1 {a b c : V} : atI [a, b, c] 1 = some b := rfl
theorem at3_2 {a b c : V} : atI [a, b, c] 2 = some c := rfl
theorem ix3_0 : ixN 3 0 = some 0 := by decide +kernel
theorem ix3_1 : ixN 3 1 = some 1 := by decide +kernel
theorem ix3_2 : ixN 3 2 = some 2 := by decide +kernel
section
variable {X : Cx}
theorem ix_lst : IxR X rIxA := by
  intro value slice pins s σ H x y v u Q I rx ry h hs
  obtain ⟨p, rfl, i, rfl, xs, e, v', e2, q⟩ := h
  exact ix_list value slice pins s σ H _ _ v u Q I rx ry ⟨p, xs, i, v', rfl, rfl, SqL.of e, e2, q⟩ hs
/-- an int or a bool, as an int -/
def onNum (x : V) [k : Int → Prop] : Prop := (∃ i, x = .int i ∧ k i) ∨ ∃ b, x = .bl b ∧ k (if b = true then 1 else 0)
theorem onNum_i {e : Int} {k : Int → Prop} : @onNum (.int e) k = k e := propext ⟨fun h => by rcases h with ⟨i, h, q⟩ | ⟨b, h, _⟩ <;> cases h; exact q, fun h => .inl ⟨e, rfl, h⟩⟩
theorem onNum_b {e : Bool} {k : Int → Prop} : @onNum (.bl e) k = k (if e = true then 1 else 0) := propext ⟨fun h => by rcases h with ⟨i, h, q⟩ | ⟨b, h, z⟩ <;> cases h; exact z, fun h => .inr ⟨e, rfl, h⟩⟩
def rIntA : List V → Hp → VK → Prop := fun xs H Q => @onL1 xs fun x => @onNum x fun i => Q (.int i) H
theorem rIntA_e {xs : List V} {H : Hp} {Q : VK} : rIntA xs H Q = @onL1 xs fun x => @onNum x fun i => Q (.int i) H := rfl
theorem call_intA : CallR X (.type "int") rIntA := by
  intro pins s σ H xs us Q I r h
  obtain ⟨x, rfl, h⟩ := h
  refine call_int1 pins s σ H [x] us Q I r ?_
  rcases h with ⟨i, rfl, q⟩ | ⟨b, rfl, q⟩
  · exact .inl ⟨i, rfl, q⟩
  · exact .inr ⟨b, rfl, q⟩
def rMinA : List V → Hp → VK → Prop := fun xs H Q => @onL2 xs fun x y => @onI x fun i => @onI y fun j => Q (.int (if j < i then j else i)) H
theorem rMinA_e {xs : List V} {H : Hp} {Q : VK} : rMinA xs H Q = @onL2 xs fun x y => @onI x fun i => @onI y fun j => Q (.int (if j < i then j else i)) H := rfl
theorem call_minA (hc : X.calm = true) : CallR X (.builtin "min") rMinA := by
  intro pins s σ H xs us Q I r h
  obtain ⟨x, y, rfl, i, rfl, j, rfl, q⟩ := h
  exact call_min2 hc pins s σ H _ us Q I r ⟨i, j, rfl, q⟩
def rMaxA : List V → Hp → VK → Prop := fun xs H Q => @onL2 xs fun x y => @onI x fun i => @onI y fun j => Q (.int (if i < j then j else i)) H
theorem rMaxA_e {xs : List V} {H : Hp} {Q : VK} : rMaxA xs H Q = @onL2 xs fun x y => @onI x fun i => @onI y fun j => Q (.int (if i < j then j else i)) H := rfl
theorem call_maxA (hc : X.calm = true) : CallR X (.builtin "max") rMaxA := by
  intro pins s σ H xs us Q I r h
  obtain ⟨x, y, rfl, i, rfl, j, rfl, q⟩ := h
  exact call_max2 hc pins s σ H _ us Q I r ⟨i, j, rfl, q⟩
def rAbsA : List V → Hp → VK → Prop := fun xs H Q => @onL1 xs fun x => @onI x fun i => Q (.int (if i < 0 then -i else i)) H
theorem rAbsA_e {xs : List V} {H : Hp} {Q : VK} : rAbsA xs H Q = @onL1 xs fun x => @onI x fun i => Q (.int (if i < 0 then -i else i)) H := rfl
theorem call_absA : CallR X (.builtin "abs") rAbsA := by
  intro pins s σ H xs us Q I r h
  obtain ⟨x, rfl, i, rfl, q⟩ := h
  exact call_abs pins s σ H _ us Q I r ⟨i, rfl, q⟩
/-- len of a tracked list -/
def rLenL : List V → Hp → VK → Prop := fun xs H Q => @onL1 xs fun x => @onR x fun p => @onLst (H p) fun ys => Q (.int ys.length) H
theorem rLenL_e {xs : List V} {H : Hp} {Q : VK} : rLenL xs H Q = @onL1 xs fun x => @onR x fun p => @onLst (H p) fun ys => Q (.int ys.length) H := rfl
theorem call_lenL : CallR X (.builtin "len") rLenL := by
  intro pins s σ H xs us Q I r h
  obtain ⟨x, rfl, p, rfl, ys, e, q⟩ := h
  exact call_len_seq pins s σ H _ us Q I r ⟨p, ys, rfl, .inl (SqL.of e), q⟩
/-- xs[lo:hi], the list tracked -/
def rSlLst : V → Option Int → Option Int → Hp → VK → Prop := fun x lo hi H Q => @onR x fun a => @onLst (H a) fun xs => ∀ p, H p = none → Q (.ref p) (upd H p (.lst (cutV xs lo hi)))
theorem rSlLst_e {x : V} {lo hi : Option Int} {H : Hp} {Q : VK} : rSlLst x lo hi H Q = @onR x fun a => @onLst (H a) fun xs => ∀ p, H p = none → Q (.ref p) (upd H p (.lst (cutV xs lo hi))) := rfl
theorem sl_lst : SlR X rSlLst := by
  intro pins s σ H x v vl vu lo hi sl Q I rx hs pl pu h
  obtain ⟨a, rfl, xs, e, q⟩ := h
  exact sl_list pins s σ H _ v vl vu lo hi sl Q I rx hs pl pu ⟨a, xs, rfl, SqL.of e, q⟩
/-- t[i], the tuple tracked -/
def rIxTu : R2 := fun x y H Q => @onR x fun p => @onI y fun i => @onTu (H p) fun xs => @onS (atI xs i) fun v => Q v H
theorem rIxTu_e {x y : V} {H : Hp} {Q : VK} : rIxTu x y H Q = @onR x fun p => @onI y fun i => @onTu (H p) fun xs => @onS (atI xs i) fun v => Q v H := rfl
theorem ix_tu : IxR X rIxTu := by
  intro value slice pins s σ H x y v u Q I rx ry h hs
  obtain ⟨p, rfl, i, rfl, xs, e, v', e2, q⟩ := h
  exact ix_tup value slice pins s σ H _ _ v u Q I rx ry ⟨p, xs, i, v', rfl, rfl, SqT.of e, e2, q⟩ hs
end
theorem tRg1_e {te : TE} {σ : St} {H : Hp} {R : Int → Int → Hp → Prop} : tRg1 te σ H R = te σ H fun x H1 => @onI x fun n => R 0 n H1 := rfl
theorem tLstRg_e {te : St → Hp → (Int → Int → Hp → Prop) → Prop} {σ : St} {H : Hp} {Q : VK} : tLstRg te σ H Q = te σ H fun a b H1 => RgOk a b ∧ ∀ q, H1 q = none → Q (.ref q) (upd H1 q (.lst (rgV a b))) := rfl
/-- the repr of None, a bool, an int -/
def onRp (x : V) [k : Str → Prop] : Prop := (x = .non ∧ k "None") ∨ (∃ b, x = .bl b ∧ k (if b = true then "True" else "False")) ∨ ∃ i, x = .int i ∧ i.natAbs.log2 < 1920 ∧ k (toString i)
theorem onRp_n {k : Str → Prop} : @onRp .non k = k "None" := by
  refine propext ⟨fun h => ?_, fun h => .inl ⟨rfl, h⟩⟩
  rcases h with ⟨_, q⟩ | ⟨_, e, _⟩ | ⟨_, e, _⟩
  · exact q
  · cases e
  · cases e
theorem onRp_b {b : Bool} {k : Str → Prop} : @onRp (.bl b) k = k (if b = true then "True" else "False") := by
  refine propext ⟨fun h => ?_, fun h => .inr (.inl ⟨b, rfl, h⟩)⟩
  rcases h with ⟨e, _⟩ | ⟨_, e, q⟩ | ⟨_, e, _⟩
  · cases e
  · cases e; exact q
  · cases e
theorem onRp_i {i : Int} {k : Str → Prop} : @onRp (.int i) k = (i.natAbs.log2 < 1920 ∧ k (toString i)) := by
  refine propext ⟨fun h => ?_, fun h => .inr (.inr ⟨i, rfl, h⟩)⟩
  rcases h with ⟨e, _⟩ | ⟨_, e, _⟩ | ⟨_, e, q⟩
  · cases e
  · cases e
  · cases e; exact q
def rReprA : List V → Hp → VK → Prop := fun xs H Q => @onL1 xs fun x => @onRp x fun s => Q (.str s) H
theorem rReprA_e {xs : List V} {H : Hp} {Q : VK} : rReprA xs H Q = @onL1 xs fun x => @onRp x fun s => Q (.str s) H := rfl
theorem call_reprA {X : Cx} : CallR X (.builtin "repr") rReprA := by
  intro pins s σ H xs us Q I r h
  obtain ⟨x, rfl, h⟩ := h
  refine call_repr pins s σ H [x] us Q I r ?_
  rcases h with ⟨rfl, q⟩ | ⟨b, rfl, q⟩ | ⟨i, rfl, hz, q⟩
  · exact .inl ⟨rfl, q⟩
  · exact .inr (.inl ⟨b, rfl, q⟩)
  · exact .inr (.inr ⟨i, rfl, hz, q⟩)
/-- is None -/
def rIsN : R2 := fun x y H Q => y = .non ∧ Q (.bl (decide (x = .non))) H
theorem rIsN_e {x y : V} {H : Hp} {Q : VK} : rIsN x y H Q = (y = .non ∧ Q (.bl (decide (x = .non))) H) := rfl
theorem op_isNA {X : Cx} : OpR X (compareOp .Is) rIsN := op_isN
end L2
set_option Elab.async false
set_option linter.all false
set_option maxRecDepth 100000
set_option maxHeartbeats 4000000
/-! k49: the text, what the top has written, numbers checked, the purse. -/
namespace K49
open PySem PySem.Spec PyProof.Rows L2
def top (i : Nat) : Stmt := PySem.Challenge.pw_waitedandasked_k49_whole_purses_and_rows.main.body.getD i (.Pass ⟨0, 0, 0, 0⟩)
abbrev mtd (j : Nat) : Stmt := inClass (top 14) j
/-- a purse's fields -/
def pfs (m p c f a : Int) : List (Str × V) := [("own_most", .int m), ("own_per", .int p), ("own_coins", .int c), ("own_firsts", .int f), ("own_anew", .int a)]
def PAt (C : Addr) (H : Hp) (q : Addr) (m p c f a : Int) : Prop := ∃ dx, H q = some (.ins C dx (pfs m p c f a))
section
variable {m p c f a z : Int}
theorem pfs_most : (pfs m p c f a).lookup (Str.ofString "own_most") = some (.int m) := by kernel_rfl
theorem pfs_per : (pfs m p c f a).lookup (Str.ofString "own_per") = some (.int p) := by kernel_rfl
theorem pfs_coins : (pfs m p c f a).lookup (Str.ofString "own_coins") = some (.int c) := by kernel_rfl
theorem pfs_firsts : (pfs m p c f a).lookup (Str.ofString "own_firsts") = some (.int f) := by kernel_rfl
theorem pfs_anew : (pfs m p c f a).lookup (Str.ofString "own_anew") = some (.int a) := by kernel_rfl
theorem pfs_len : (pfs m p c f a).length = 5 := rfl
theorem pfs_put_coins : putF (Str.ofString "own_coins") (.int z) (pfs m p c f a) = pfs m p z f a := by kernel_rfl
theorem pfs_put_firsts : putF (Str.ofString "own_firsts") (.int z) (pfs m p c f a) = pfs m p c z a := by kernel_rfl
theorem pfs_put_anew : putF (Str.ofString "own_anew") (.int z) (pfs m p c f a) = pfs m p c f z := by kernel_rfl
theorem put1 : putF (Str.ofString "own_most") (.int m) [] = [(Str.ofString "own_most", .int m)] := by kernel_rfl
theorem put2 : putF (Str.ofString "own_per") (.int p) [(Str.ofString "own_most", .int m)] = [(Str.ofString "own_most", .int m), (Str.ofString "own_per", .int p)] := by kernel_rfl
theorem put3 : putF (Str.ofString "own_coins") (.int c) [(Str.ofString "own_most", .int m), (Str.ofString "own_per", .int p)] = [(Str.ofString "own_most", .int m), (Str.ofString "own_per", .int p), (Str.ofString "own_coins", .int c)] := by kernel_rfl
theorem put4 : putF (Str.ofString "own_firsts") (.int f) [(Str.ofString "own_most", .int m), (Str.ofString "own_per", .int p), (Str.ofString "own_coins", .int c)] = [(Str.ofString "own_most", .int m), (Str.ofString "own_per", .int p), (Str.ofString "own_coins", .int c), (Str.ofString "own_firsts", .int f)] := by kernel_rfl
theorem put5 : putF (Str.ofString "own_anew") (.int a) [(Str.ofString "own_most", .int m), (Str.ofString "own_per", .int p), (Str.ofString "own_coins", .int c), (Str.ofString "own_firsts", .int f)] = pfs m p c f a := by kernel_rfl
end
theorem pfs_no {m p c f a : Int} (x : Str) (h : ([Str.ofString "own_most", Str.ofString "own_per", Str.ofString "own_coins", Str.ofString "own_firsts", Str.ofString "own_anew"] : List Str).contains x = false) : (pfs m p c f a).lookup x = none := by
  simp only [List.contains_cons, List.contains_nil, Bool.or_false, Bool.or_eq_false_iff] at h
  obtain ⟨h1, h2, h3, h4, h5⟩ := h
  unfold pfs
  simp only [List.lookup_cons]
  simp [*]
/-- a number that is checked: an int, a bool -/
def IB (v : V) : Prop := (∃ i, v = .int i) ∨ ∃ b, v = .bl b
def okN (v : V) (lo hi : Int) : Bool := match v with
  | .int i => decide (lo ≤ i) && decide (i ≤ hi)
  | _ => false
/-- what the top has written -/
structure Txt (P : Program) (K : PySem.W.Frag) (mg : Str → Option Value) (cP AE BN BR : Addr) : Prop where
  bn : AskC P K mg "BadNumber" BN AE
  br : AskC P K mg "BadRow" BR AE
  ae : mg "AskError" = some (.ref AE)
  xn : PySem.W.exmOne K (.ref BN) (.ref AE) = some true
  xr : PySem.W.exmOne K (.ref BR) (.ref AE) = some true
  vn : ExVC K BN
  vr : ExVC K BR
  kn : PySem.W.kitOne K (.ref BN) (.ref BN) = some true
  kr : PySem.W.kitOne K (.ref BR) (.ref BR) = some true
  cl : Cls K cP
  mgP : mg "Purse" = some (.ref cP)
  mkC : PySem.W.makesIn K cP = true
  kp : PySem.W.keepIn K (.ref cP) = true
  n1 : NoAttr K cP "own_most"
  n2 : NoAttr K cP "own_per"
  n3 : NoAttr K cP "own_coins"
  n4 : NoAttr K cP "own_firsts"
  n5 : NoAttr K cP "own_anew"
  pC : PySem.W.findIn K (.ref cP) "__class__" = some (some (.builtin "object.__class__"))
  pG : PySem.W.specialIn K (.builtin "object.__class__") "__get__" = some (some (.builtin "getset_descriptor.__get__"))
  pT : PySem.W.takesIn K (.builtin "object.__class__") = some true
  pO : PySem.W.mroIn K cP (.type "object") = some true
  pN : PySem.W.findIn K (.ref cP) "__ne__" = some (some (.builtin "object.__ne__"))
  pK : PySem.W.kitOne K (.ref cP) (.ref cP) = some true
  gF : ∃ t, mg "FIRST" = some (.str "first" t)
  gA : ∃ t, mg "AGAIN" = some (.str "again" t)
  gC : ∃ t, mg "MOST_COINS" = some (.int 1000 t)
  gP : ∃ t, mg "MOST_PER" = some (.int 1000 t)
  gM : ∃ t, mg "MOST_FIRSTS" = some (.int 1000 t)
  gR : ∃ t, mg "MOST_ROW" = some (.int 4000 t)
  bI : mg "isinstance" = none
  bint : mg "int" = none
  bbool : mg "bool" = none
  bstr : mg "str" = none
  btuple : mg "tuple" = none
  blen : mg "len" = none
  ball : mg "all" = none
  bany : mg "any" = none
  brange : mg "range" = none
  bsum : mg "sum" = none
  babs : mg "abs" = none
  blist : mg "list" = none
  bmax : mg "max" = none
  bmin : mg "min" = none
  benum : mg "enumerate" = none
  brepr : mg "repr" = none
  d5 : HasD K mg "is_integer" (top 5) fun _ => True
  d6 : HasD K mg "check_number" (top 6) fun _ => True
  m0 : HasM K cP "__init__" "Purse.__init__" (mtd 0)
  p1 : HasP K cP "most" "Purse.most" (mtd 1)
  p2 : HasP K cP "per" "Purse.per" (mtd 2)
  p3 : HasP K cP "coins" "Purse.coins" (mtd 3)
  p4 : HasP K cP "firsts" "Purse.firsts" (mtd 4)
  p5 : HasP K cP "anew" "Purse.anew" (mtd 5)
  m6 : HasM K cP "first" "Purse.first" (mtd 6)
  m7 : HasM K cP "again" "Purse.again" (mtd 7)
  m8 : HasM K cP "copy" "Purse.copy" (mtd 8)
  m9 : HasM K cP "row" "Purse.row" (mtd 9)
  m10 : HasM K cP "__eq__" "Purse.__eq__" (mtd 10)
section
variable {P : Program} {w : World} {K : PySem.W.Frag} {mg : Str → Option Value} {base : Heap} {cP AE BN BR : Addr}
/-! ### is_integer, check_number -/
def spInt : Sp := fun vs H Q _ => ∃ v lo hi, vs = [v, .int lo, .int hi] ∧ IB v ∧ Q (.bl (okN v lo hi)) H
theorem sc5 : FnScope ["value", "low", "high"] ["value", "low", "high"] (defScope (top 5)) := ⟨rfl, rfl, rfl, by decide +kernel, rfl, by decide +kernel, by decide +kernel⟩
theorem isi_int {H : Hp} {i : Int} {n : String} {b : Bool} (e : kitB "int" n = some b) {Q : VK} (q : Q (.bl b) H) : rIsi K [.int i, .ty n] H Q := ⟨_, _, _, _, b, rfl, .ty n, .base (.int i), kit_ty e, q⟩
theorem isi_bl {H : Hp} {i : Bool} {n : String} {b : Bool} (e : kitB "bool" n = some b) {Q : VK} (q : Q (.bl b) H) : rIsi K [.bl i, .ty n] H Q := ⟨_, _, _, _, b, rfl, .ty n, .base (.bl i), kit_ty e, q⟩
theorem ok_int (T : Txt P K mg cP AE BN BR) : Dfn P w K mg base "is_integer" 1 ["value", "low", "high"] spInt := by
  refine dfn_mk T.d5 sc5 (fun _ _ _ _ _ _ us hl => match us, hl with | [_, _, _], _ => rfl) (fun vs H Q E h => ?_) (fun f cdv A outer s H vs Q E hr hc h => ?_)
  · obtain ⟨v, lo, hi, rfl, _⟩ := h
    rfl
  · obtain ⟨v, lo, hi, rfl, hv, q⟩ := h
    refine ⟨_, pss_one (ps_ret (pe_and (pe_callB call_isi rfl T.bI boot_isinstance (pa_cons (pv 0) (pa_cons (pe_bltn (v := .ty "int") rfl T.bint PyProof.Rows.boot_int rfl) pa_nil)))
      (pe_and (pe_not (pe_callB call_isi rfl T.bI boot_isinstance (pa_cons (pv 0) (pa_cons (pe_bltn (v := .ty "bool") rfl T.bbool PyProof.Rows.boot_bool rfl) pa_nil))))
        (pe_one (pe_chain op_le op_le (pv 1) (pv 0) (pv 2)))))), ?_⟩
    rcases hv with ⟨i, rfl⟩ | ⟨b, rfl⟩
    · simp only [onI_i, onB_b, onR_r, onT_t, onO_s, onS_s, onV_s, ↓tVar_e, ↓tC_e, ↓tNil_e, ↓tCons_e, ↓tCB_e, ↓tOp_e, ↓rI_e, ↓rI0_e, ↓tUn_e, ↓rU_e, ↓rEq_e, ↓rNe_e, scal_ii, scal_ss, scal_bb, ↓tAndV_e, ↓tOrV_e, ↓tNotV_e, ↓tAnd_e, ↓tOr_e, ↓tNot_e, ↓tTest_e, ↓tB_e, ↓tIf_e, ↓tChain_e, ↓tSeq_e, ↓tNext_e, ↓tBreak_e, ↓tCont_e, ↓tDrop_e, ↓tRet_e, ↓tRetN_e, ↓tIfS_e, ↓tAsg_e, ↓gName_e, onL2_e, ↓tPar_e2, onCons_e, ↓gNil_e, ↓gCons_e, ↓tTup_e, ↓tTupF_e, ↓tLst_e, ↓tFld_e, ↓sFld_e, ↓sFldAug_e, ↓rAdd_e, ↓rSub_e, ↓tCall_e, ↓tProp_e, ↓tRaiseAsk_e, ↓getSp_e, ↓tMeth_e, ↓tMake_e, ↓rRep_e, ↓rCat_e, ↓tSl_e, ↓tNoPart_e, ↓tPart_e, ↓tYes_e, ↓tFor_e, ↓iTup_e, ↓iList_e, onL1_e, ↓iRng1_e, ↓iRng2_e, ↓iEnT_e, ↓tLc_e, ↓start_e, onD_s, onLst_s, ↓tApp_e, cxOf_K, upd_same, upd_upd, List.getElem?_cons_zero, List.getElem?_cons_succ, List.set_cons_zero, List.set_cons_succ, List.map_cons, List.map_nil, List.append_nil, List.cons_append, List.nil_append, List.length_cons, List.length_nil, List.replicate_succ, List.replicate_zero, Nat.reduceAdd, Nat.reduceSub, Nat.reduceLT, V.int.injEq, V.bl.injEq, V.str.injEq, V.ref.injEq, decide_eq_true_eq, Bool.not_true, Bool.not_false, Bool.false_eq_true, Bool.not_eq_true', decide_eq_false_iff_not, ↓reduceIte, true_and, and_true, and_self, decide_true, decide_false, not_false_eq_true, not_true_eq_false, eq_self]
      refine isi_int (n := "int") (b := true) (by decide +kernel) ?_
      simp only [onI_i, onB_b, onR_r, onT_t, onO_s, onS_s, onV_s, ↓tVar_e, ↓tC_e, ↓tNil_e, ↓tCons_e, ↓tCB_e, ↓tOp_e, ↓rI_e, ↓rI0_e, ↓tUn_e, ↓rU_e, ↓rEq_e, ↓rNe_e, scal_ii, scal_ss, scal_bb, ↓tAndV_e, ↓tOrV_e, ↓tNotV_e, ↓tAnd_e, ↓tOr_e, ↓tNot_e, ↓tTest_e, ↓tB_e, ↓tIf_e, ↓tChain_e, ↓tSeq_e, ↓tNext_e, ↓tBreak_e, ↓tCont_e, ↓tDrop_e, ↓tRet_e, ↓tRetN_e, ↓tIfS_e, ↓tAsg_e, ↓gName_e, onL2_e, ↓tPar_e2, onCons_e, ↓gNil_e, ↓gCons_e, ↓tTup_e, ↓tTupF_e, ↓tLst_e, ↓tFld_e, ↓sFld_e, ↓sFldAug_e, ↓rAdd_e, ↓rSub_e, ↓tCall_e, ↓tProp_e, ↓tRaiseAsk_e, ↓getSp_e, ↓tMeth_e, ↓tMake_e, ↓rRep_e, ↓rCat_e, ↓tSl_e, ↓tNoPart_e, ↓tPart_e, ↓tYes_e, ↓tFor_e, ↓iTup_e, ↓iList_e, onL1_e, ↓iRng1_e, ↓iRng2_e, ↓iEnT_e, ↓tLc_e, ↓start_e, onD_s, onLst_s, ↓tApp_e, cxOf_K, upd_same, upd_upd, List.getElem?_cons_zero, List.getElem?_cons_succ, List.set_cons_zero, List.set_cons_succ, List.map_cons, List.map_nil, List.append_nil, List.cons_append, List.nil_append, List.length_cons, List.length_nil, List.replicate_succ, List.replicate_zero, Nat.reduceAdd, Nat.reduceSub, Nat.reduceLT, V.int.injEq, V.bl.injEq, V.str.injEq, V.ref.injEq, decide_eq_true_eq, Bool.not_true, Bool.not_false, Bool.false_eq_true, Bool.not_eq_true', decide_eq_false_iff_not, ↓reduceIte, true_and, and_true, and_self, decide_true, decide_false, not_false_eq_true, not_true_eq_false, eq_self]
      refine isi_int (n := "bool") (b := false) (by decide +kernel) ?_
      unfold okN at q
      by_cases h1 : lo ≤ i
      · simp only [onI_i, onB_b, onR_r, onT_t, onO_s, onS_s, onV_s, ↓tVar_e, ↓tC_e, ↓tNil_e, ↓tCons_e, ↓tCB_e, ↓tOp_e, ↓rI_e, ↓rI0_e, ↓tUn_e, ↓rU_e, ↓rEq_e, ↓rNe_e, scal_ii, scal_ss, scal_bb, ↓tAndV_e, ↓tOrV_e, ↓tNotV_e, ↓tAnd_e, ↓tOr_e, ↓tNot_e, ↓tTest_e, ↓tB_e, ↓tIf_e, ↓tChain_e, ↓tSeq_e, ↓tNext_e, ↓tBreak_e, ↓tCont_e, ↓tDrop_e, ↓tRet_e, ↓tRetN_e, ↓tIfS_e, ↓tAsg_e, ↓gName_e, onL2_e, ↓tPar_e2, onCons_e, ↓gNil_e, ↓gCons_e, ↓tTup_e, ↓tTupF_e, ↓tLst_e, ↓tFld_e, ↓sFld_e, ↓sFldAug_e, ↓rAdd_e, ↓rSub_e, ↓tCall_e, ↓tProp_e, ↓tRaiseAsk_e, ↓getSp_e, ↓tMeth_e, ↓tMake_e, ↓rRep_e, ↓rCat_e, ↓tSl_e, ↓tNoPart_e, ↓tPart_e, ↓tYes_e, ↓tFor_e, ↓iTup_e, ↓iList_e, onL1_e, ↓iRng1_e, ↓iRng2_e, ↓iEnT_e, ↓tLc_e, ↓start_e, onD_s, onLst_s, ↓tApp_e, cxOf_K, upd_same, upd_upd, List.getElem?_cons_zero, List.getElem?_cons_succ, List.set_cons_zero, List.set_cons_succ, List.map_cons, List.map_nil, List.append_nil, List.cons_append, List.nil_append, List.length_cons, List.length_nil, List.replicate_succ, List.replicate_zero, Nat.reduceAdd, Nat.reduceSub, Nat.reduceLT, V.int.injEq, V.bl.injEq, V.str.injEq, V.ref.injEq, decide_eq_true_eq, Bool.not_true, Bool.not_false, Bool.false_eq_true, Bool.not_eq_true', decide_eq_false_iff_not, ↓reduceIte, true_and, and_true, and_self, decide_true, decide_false, not_false_eq_true, not_true_eq_false, eq_self, h1, Bool.true_and] at q ⊢
        exact q
      · simp only [onI_i, onB_b, onR_r, onT_t, onO_s, onS_s, onV_s, ↓tVar_e, ↓tC_e, ↓tNil_e, ↓tCons_e, ↓tCB_e, ↓tOp_e, ↓rI_e, ↓rI0_e, ↓tUn_e, ↓rU_e, ↓rEq_e, ↓rNe_e, scal_ii, scal_ss, scal_bb, ↓tAndV_e, ↓tOrV_e, ↓tNotV_e, ↓tAnd_e, ↓tOr_e, ↓tNot_e, ↓tTest_e, ↓tB_e, ↓tIf_e, ↓tChain_e, ↓tSeq_e, ↓tNext_e, ↓tBreak_e, ↓tCont_e, ↓tDrop_e, ↓tRet_e, ↓tRetN_e, ↓tIfS_e, ↓tAsg_e, ↓gName_e, onL2_e, ↓tPar_e2, onCons_e, ↓gNil_e, ↓gCons_e, ↓tTup_e, ↓tTupF_e, ↓tLst_e, ↓tFld_e, ↓sFld_e, ↓sFldAug_e, ↓rAdd_e, ↓rSub_e, ↓tCall_e, ↓tProp_e, ↓tRaiseAsk_e, ↓getSp_e, ↓tMeth_e, ↓tMake_e, ↓rRep_e, ↓rCat_e, ↓tSl_e, ↓tNoPart_e, ↓tPart_e, ↓tYes_e, ↓tFor_e, ↓iTup_e, ↓iList_e, onL1_e, ↓iRng1_e, ↓iRng2_e, ↓iEnT_e, ↓tLc_e, ↓start_e, onD_s, onLst_s, ↓tApp_e, cxOf_K, upd_same, upd_upd, List.getElem?_cons_zero, List.getElem?_cons_succ, List.set_cons_zero, List.set_cons_succ, List.map_cons, List.map_nil, List.append_nil, List.cons_append, List.nil_append, List.length_cons, List.length_nil, List.replicate_succ, List.replicate_zero, Nat.reduceAdd, Nat.reduceSub, Nat.reduceLT, V.int.injEq, V.bl.injEq, V.str.injEq, V.ref.injEq, decide_eq_true_eq, Bool.not_true, Bool.not_false, Bool.false_eq_true, Bool.not_eq_true', decide_eq_false_iff_not, ↓reduceIte, true_and, and_true, and_self, decide_true, decide_false, not_false_eq_true, not_true_eq_false, eq_self, h1, Bool.false_and] at q ⊢
        exact q
    · simp only [onI_i, onB_b, onR_r, onT_t, onO_s, onS_s, onV_s, ↓tVar_e, ↓tC_e, ↓tNil_e, ↓tCons_e, ↓tCB_e, ↓tOp_e, ↓rI_e, ↓rI0_e, ↓tUn_e, ↓rU_e, ↓rEq_e, ↓rNe_e, scal_ii, scal_ss, scal_bb, ↓tAndV_e, ↓tOrV_e, ↓tNotV_e, ↓tAnd_e, ↓tOr_e, ↓tNot_e, ↓tTest_e, ↓tB_e, ↓tIf_e, ↓tChain_e, ↓tSeq_e, ↓tNext_e, ↓tBreak_e, ↓tCont_e, ↓tDrop_e, ↓tRet_e, ↓tRetN_e, ↓tIfS_e, ↓tAsg_e, ↓gName_e, onL2_e, ↓tPar_e2, onCons_e, ↓gNil_e, ↓gCons_e, ↓tTup_e, ↓tTupF_e, ↓tLst_e, ↓tFld_e, ↓sFld_e, ↓sFldAug_e, ↓rAdd_e, ↓rSub_e, ↓tCall_e, ↓tProp_e, ↓tRaiseAsk_e, ↓getSp_e, ↓tMeth_e, ↓tMake_e, ↓rRep_e, ↓rCat_e, ↓tSl_e, ↓tNoPart_e, ↓tPart_e, ↓tYes_e, ↓tFor_e, ↓iTup_e, ↓iList_e, onL1_e, ↓iRng1_e, ↓iRng2_e, ↓iEnT_e, ↓tLc_e, ↓start_e, onD_s, onLst_s, ↓tApp_e, cxOf_K, upd_same, upd_upd, List.getElem?_cons_zero, List.getElem?_cons_succ, List.set_cons_zero, List.set_cons_succ, List.map_cons, List.map_nil, List.append_nil, List.cons_append, List.nil_append, List.length_cons, List.length_nil, List.replicate_succ, List.replicate_zero, Nat.reduceAdd, Nat.reduceSub, Nat.reduceLT, V.int.injEq, V.bl.injEq, V.str.injEq, V.ref.injEq, decide_eq_true_eq, Bool.not_true, Bool.not_false, Bool.false_eq_true, Bool.not_eq_true', decide_eq_false_iff_not, ↓reduceIte, true_and, and_true, and_self, decide_true, decide_false, not_false_eq_true, not_true_eq_false, eq_self]
      refine isi_bl (n := "int") (b := true) (by decide +kernel) ?_
      simp only [onI_i, onB_b, onR_r, onT_t, onO_s, onS_s, onV_s, ↓tVar_e, ↓tC_e, ↓tNil_e, ↓tCons_e, ↓tCB_e, ↓tOp_e, ↓rI_e, ↓rI0_e, ↓tUn_e, ↓rU_e, ↓rEq_e, ↓rNe_e, scal_ii, scal_ss, scal_bb, ↓tAndV_e, ↓tOrV_e, ↓tNotV_e, ↓tAnd_e, ↓tOr_e, ↓tNot_e, ↓tTest_e, ↓tB_e, ↓tIf_e, ↓tChain_e, ↓tSeq_e, ↓tNext_e, ↓tBreak_e, ↓tCont_e, ↓tDrop_e, ↓tRet_e, ↓tRetN_e, ↓tIfS_e, ↓tAsg_e, ↓gName_e, onL2_e, ↓tPar_e2, onCons_e, ↓gNil_e, ↓gCons_e, ↓tTup_e, ↓tTupF_e, ↓tLst_e, ↓tFld_e, ↓sFld_e, ↓sFldAug_e, ↓rAdd_e, ↓rSub_e, ↓tCall_e, ↓tProp_e, ↓tRaiseAsk_e, ↓getSp_e, ↓tMeth_e, ↓tMake_e, ↓rRep_e, ↓rCat_e, ↓tSl_e, ↓tNoPart_e, ↓tPart_e, ↓tYes_e, ↓tFor_e, ↓iTup_e, ↓iList_e, onL1_e, ↓iRng1_e, ↓iRng2_e, ↓iEnT_e, ↓tLc_e, ↓start_e, onD_s, onLst_s, ↓tApp_e, cxOf_K, upd_same, upd_upd, List.getElem?_cons_zero, List.getElem?_cons_succ, List.set_cons_zero, List.set_cons_succ, List.map_cons, List.map_nil, List.append_nil, List.cons_append, List.nil_append, List.length_cons, List.length_nil, List.replicate_succ, List.replicate_zero, Nat.reduceAdd, Nat.reduceSub, Nat.reduceLT, V.int.injEq, V.bl.injEq, V.str.injEq, V.ref.injEq, decide_eq_true_eq, Bool.not_true, Bool.not_false, Bool.false_eq_true, Bool.not_eq_true', decide_eq_false_iff_not, ↓reduceIte, true_and, and_true, and_self, decide_true, decide_false, not_false_eq_true, not_true_eq_false, eq_self]
      refine isi_bl (n := "bool") (b := true) (by decide +kernel) ?_
      simp only [onI_i, onB_b, onR_r, onT_t, onO_s, onS_s, onV_s, ↓tVar_e, ↓tC_e, ↓tNil_e, ↓tCons_e, ↓tCB_e, ↓tOp_e, ↓rI_e, ↓rI0_e, ↓tUn_e, ↓rU_e, ↓rEq_e, ↓rNe_e, scal_ii, scal_ss, scal_bb, ↓tAndV_e, ↓tOrV_e, ↓tNotV_e, ↓tAnd_e, ↓tOr_e, ↓tNot_e, ↓tTest_e, ↓tB_e, ↓tIf_e, ↓tChain_e, ↓tSeq_e, ↓tNext_e, ↓tBreak_e, ↓tCont_e, ↓tDrop_e, ↓tRet_e, ↓tRetN_e, ↓tIfS_e, ↓tAsg_e, ↓gName_e, onL2_e, ↓tPar_e2, onCons_e, ↓gNil_e, ↓gCons_e, ↓tTup_e, ↓tTupF_e, ↓tLst_e, ↓tFld_e, ↓sFld_e, ↓sFldAug_e, ↓rAdd_e, ↓rSub_e, ↓tCall_e, ↓tProp_e, ↓tRaiseAsk_e, ↓getSp_e, ↓tMeth_e, ↓tMake_e, ↓rRep_e, ↓rCat_e, ↓tSl_e, ↓tNoPart_e, ↓tPart_e, ↓tYes_e, ↓tFor_e, ↓iTup_e, ↓iList_e, onL1_e, ↓iRng1_e, ↓iRng2_e, ↓iEnT_e, ↓tLc_e, ↓start_e, onD_s, onLst_s, ↓tApp_e, cxOf_K, upd_same, upd_upd, List.getElem?_cons_zero, List.getElem?_cons_succ, List.set_cons_zero, List.set_cons_succ, List.map_cons, List.map_nil, List.append_nil, List.cons_append, List.nil_append, List.length_cons, List.length_nil, List.replicate_succ, List.replicate_zero, Nat.reduceAdd, Nat.reduceSub, Nat.reduceLT, V.int.injEq, V.bl.injEq, V.str.injEq, V.ref.injEq, decide_eq_true_eq, Bool.not_true, Bool.not_false, Bool.false_eq_true, Bool.not_eq_true', decide_eq_false_iff_not, ↓reduceIte, true_and, and_true, and_self, decide_true, decide_false, not_false_eq_true, not_true_eq_false, eq_self]
      exact q
def spChk (BN : Addr) : Sp := fun vs H Q E => ∃ v lo hi, vs = [v, .int lo, .int hi] ∧ IB v ∧ (okN v lo hi = true → Q .non H) ∧ (okN v lo hi = false → ∀ d, H d = none → E (.ref BN) (some d) (upd H d (.xd [(("value" : Str), v)])))
theorem sc6 : FnScope ["value", "low", "high"] ["value", "low", "high"] (defScope (top 6)) := ⟨rfl, rfl, rfl, by decide +kernel, rfl, by decide +kernel, by decide +kernel⟩
theorem ok_chk (T : Txt P K mg cP AE BN BR) : Dfn P w K mg base "check_number" 3 ["value", "low", "high"] (spChk BN) := by
  have D5 : Dfn P w K mg base "is_integer" 1 _ _ := ok_int T
  refine dfn_mk T.d6 sc6 (fun _ _ _ _ _ _ us hl => match us, hl with | [_, _, _], _ => rfl) (fun vs H Q E h => ?_) (fun f cdv A outer s H vs Q E hr hc h => ?_)
  · obtain ⟨v, lo, hi, rfl, _⟩ := h
    rfl
  · obtain ⟨v, lo, hi, rfl, hv, q1, q2⟩ := h
    refine ⟨_, pss_one (ps_if (pt_not (pt_val (pe_dfn D5 (hr.mono (by decide)) rfl passL (pa_cons (pv 0) (pa_cons (pv 1) (pa_cons (pv 2) pa_nil))))))
      (pss_one (ps_raiseAsk rfl T.bn hr takesE (pv 0))) pss_nil), ?_⟩
    simp only [onI_i, onB_b, onR_r, onT_t, onO_s, onS_s, onV_s, ↓tVar_e, ↓tC_e, ↓tNil_e, ↓tCons_e, ↓tCB_e, ↓tOp_e, ↓rI_e, ↓rI0_e, ↓tUn_e, ↓rU_e, ↓rEq_e, ↓rNe_e, scal_ii, scal_ss, scal_bb, ↓tAndV_e, ↓tOrV_e, ↓tNotV_e, ↓tAnd_e, ↓tOr_e, ↓tNot_e, ↓tTest_e, ↓tB_e, ↓tIf_e, ↓tChain_e, ↓tSeq_e, ↓tNext_e, ↓tBreak_e, ↓tCont_e, ↓tDrop_e, ↓tRet_e, ↓tRetN_e, ↓tIfS_e, ↓tAsg_e, ↓gName_e, onL2_e, ↓tPar_e2, onCons_e, ↓gNil_e, ↓gCons_e, ↓tTup_e, ↓tTupF_e, ↓tLst_e, ↓tFld_e, ↓sFld_e, ↓sFldAug_e, ↓rAdd_e, ↓rSub_e, ↓tCall_e, ↓tProp_e, ↓tRaiseAsk_e, ↓getSp_e, ↓tMeth_e, ↓tMake_e, ↓rRep_e, ↓rCat_e, ↓tSl_e, ↓tNoPart_e, ↓tPart_e, ↓tYes_e, ↓tFor_e, ↓iTup_e, ↓iList_e, onL1_e, ↓iRng1_e, ↓iRng2_e, ↓iEnT_e, ↓tLc_e, ↓start_e, onD_s, onLst_s, ↓tApp_e, cxOf_K, upd_same, upd_upd, List.getElem?_cons_zero, List.getElem?_cons_succ, List.set_cons_zero, List.set_cons_succ, List.map_cons, List.map_nil, List.append_nil, List.cons_append, List.nil_append, List.length_cons, List.length_nil, List.replicate_succ, List.replicate_zero, Nat.reduceAdd, Nat.reduceSub, Nat.reduceLT, V.int.injEq, V.bl.injEq, V.str.injEq, V.ref.injEq, decide_eq_true_eq, Bool.not_true, Bool.not_false, Bool.false_eq_true, Bool.not_eq_true', decide_eq_false_iff_not, ↓reduceIte, true_and, and_true, and_self, decide_true, decide_false, not_false_eq_true, not_true_eq_false, eq_self]
    refine ⟨v, lo, hi, rfl, hv, ?_⟩
    cases e : okN v lo hi with
    | true => simp only [onI_i, onB_b, onR_r, onT_t, onO_s, onS_s, onV_s, ↓tVar_e, ↓tC_e, ↓tNil_e, ↓tCons_e, ↓tCB_e, ↓tOp_e, ↓rI_e, ↓rI0_e, ↓tUn_e, ↓rU_e, ↓rEq_e, ↓rNe_e, scal_ii, scal_ss, scal_bb, ↓tAndV_e, ↓tOrV_e, ↓tNotV_e, ↓tAnd_e, ↓tOr_e, ↓tNot_e, ↓tTest_e, ↓tB_e, ↓tIf_e, ↓tChain_e, ↓tSeq_e, ↓tNext_e, ↓tBreak_e, ↓tCont_e, ↓tDrop_e, ↓tRet_e, ↓tRetN_e, ↓tIfS_e, ↓tAsg_e, ↓gName_e, onL2_e, ↓tPar_e2, onCons_e, ↓gNil_e, ↓gCons_e, ↓tTup_e, ↓tTupF_e, ↓tLst_e, ↓tFld_e, ↓sFld_e, ↓sFldAug_e, ↓rAdd_e, ↓rSub_e, ↓tCall_e, ↓tProp_e, ↓tRaiseAsk_e, ↓getSp_e, ↓tMeth_e, ↓tMake_e, ↓rRep_e, ↓rCat_e, ↓tSl_e, ↓tNoPart_e, ↓tPart_e, ↓tYes_e, ↓tFor_e, ↓iTup_e, ↓iList_e, onL1_e, ↓iRng1_e, ↓iRng2_e, ↓iEnT_e, ↓tLc_e, ↓start_e, onD_s, onLst_s, ↓tApp_e, cxOf_K, upd_same, upd_upd, List.getElem?_cons_zero, List.getElem?_cons_succ, List.set_cons_zero, List.set_cons_succ, List.map_cons, List.map_nil, List.append_nil, List.cons_append, List.nil_append, List.length_cons, List.length_nil, List.replicate_succ, List.replicate_zero, Nat.reduceAdd, Nat.reduceSub, Nat.reduceLT, V.int.injEq, V.bl.injEq, V.str.injEq, V.ref.injEq, decide_eq_true_eq, Bool.not_true, Bool.not_false, Bool.false_eq_true, Bool.not_eq_true', decide_eq_false_iff_not, ↓reduceIte, true_and, and_true, and_self, decide_true, decide_false, not_false_eq_true, not_true_eq_false, eq_self]; exact q1 e
    | false => simp only [onI_i, onB_b, onR_r, onT_t, onO_s, onS_s, onV_s, ↓tVar_e, ↓tC_e, ↓tNil_e, ↓tCons_e, ↓tCB_e, ↓tOp_e, ↓rI_e, ↓rI0_e, ↓tUn_e, ↓rU_e, ↓rEq_e, ↓rNe_e, scal_ii, scal_ss, scal_bb, ↓tAndV_e, ↓tOrV_e, ↓tNotV_e, ↓tAnd_e, ↓tOr_e, ↓tNot_e, ↓tTest_e, ↓tB_e, ↓tIf_e, ↓tChain_e, ↓tSeq_e, ↓tNext_e, ↓tBreak_e, ↓tCont_e, ↓tDrop_e, ↓tRet_e, ↓tRetN_e, ↓tIfS_e, ↓tAsg_e, ↓gName_e, onL2_e, ↓tPar_e2, onCons_e, ↓gNil_e, ↓gCons_e, ↓tTup_e, ↓tTupF_e, ↓tLst_e, ↓tFld_e, ↓sFld_e, ↓sFldAug_e, ↓rAdd_e, ↓rSub_e, ↓tCall_e, ↓tProp_e, ↓tRaiseAsk_e, ↓getSp_e, ↓tMeth_e, ↓tMake_e, ↓rRep_e, ↓rCat_e, ↓tSl_e, ↓tNoPart_e, ↓tPart_e, ↓tYes_e, ↓tFor_e, ↓iTup_e, ↓iList_e, onL1_e, ↓iRng1_e, ↓iRng2_e, ↓iEnT_e, ↓tLc_e, ↓start_e, onD_s, onLst_s, ↓tApp_e, cxOf_K, upd_same, upd_upd, List.getElem?_cons_zero, List.getElem?_cons_succ, List.set_cons_zero, List.set_cons_succ, List.map_cons, List.map_nil, List.append_nil, List.cons_append, List.nil_append, List.length_cons, List.length_nil, List.replicate_succ, List.replicate_zero, Nat.reduceAdd, Nat.reduceSub, Nat.reduceLT, V.int.injEq, V.bl.injEq, V.str.injEq, V.ref.injEq, decide_eq_true_eq, Bool.not_true, Bool.not_false, Bool.false_eq_true, Bool.not_eq_true', decide_eq_false_iff_not, ↓reduceIte, true_and, and_true, and_self, decide_true, decide_false, not_false_eq_true, not_true_eq_false, eq_self]; exact q2 e
/-! ### the purse -/
def spInit (cP : Addr) : Sp := fun vs H Q _ => ∃ q dx m p, vs = [.ref q, .int m, .int p] ∧ H q = some (.ins cP dx []) ∧ 0 ≤ m ∧ m ≤ 1000 ∧ 1 ≤ p ∧ p ≤ 1000 ∧ Q .non (upd H q (.ins cP dx (pfs m p m 0 0)))
theorem scM0 : FnScope ["self", "most", "per"] ["self", "most", "per"] (defScope (mtd 0)) := ⟨rfl, rfl, rfl, by decide +kernel, rfl, by decide +kernel, by decide +kernel⟩
theorem ok_init (T : Txt P K mg cP AE BN BR) : Mth P w K mg base cP "__init__" 5 ["self", "most", "per"] (spInit cP) := by
  have D6 : Dfn P w K mg base "check_number" 3 _ _ := ok_chk T
  refine mth_mk T.m0 scM0 (fun _ _ _ _ _ _ us hl => match us, hl with | [_, _, _], _ => rfl) (fun vs H Q E h => ?_) (fun f cdv A outer s H vs Q E hr h => ?_)
  · obtain ⟨q, dx, m, p, rfl, _⟩ := h
    rfl
  · obtain ⟨q, dx, m, p, rfl, hq, m0, m1, p0, p1, k⟩ := h
    obtain ⟨tc, gC⟩ := T.gC
    obtain ⟨tp, gP⟩ := T.gP
    refine ⟨_, pss_cons (ps_expr (pe_dfn D6 (hr.mono (by decide)) rfl passE (pa_cons (pv 1) (pa_cons pe_int (pa_cons (pe_glob (v := .int 1000) rfl gC ⟨_, rfl⟩) pa_nil)))))
      (pss_cons (ps_expr (pe_dfn D6 (hr.mono (by decide)) rfl passE (pa_cons (pv 2) (pa_cons pe_int (pa_cons (pe_glob (v := .int 1000) rfl gP ⟨_, rfl⟩) pa_nil)))))
      (pss_cons (ps_fld (pv 0) (pv 1) rfl) (pss_cons (ps_fld (pv 0) (pv 2) rfl) (pss_cons (ps_fld (pv 0) (pv 1) rfl) (pss_cons (ps_fld (pv 0) pe_int rfl) (pss_one (ps_fld (pv 0) pe_int rfl))))))), ?_⟩
    have e1 : okN (.int m) 0 1000 = true := by simp [okN]; omega
    have e2 : okN (.int p) 1 1000 = true := by simp [okN]; omega
    simp only [onI_i, onB_b, onR_r, onT_t, onO_s, onS_s, onV_s, ↓tVar_e, ↓tC_e, ↓tNil_e, ↓tCons_e, ↓tCB_e, ↓tOp_e, ↓rI_e, ↓rI0_e, ↓tUn_e, ↓rU_e, ↓rEq_e, ↓rNe_e, scal_ii, scal_ss, scal_bb, ↓tAndV_e, ↓tOrV_e, ↓tNotV_e, ↓tAnd_e, ↓tOr_e, ↓tNot_e, ↓tTest_e, ↓tB_e, ↓tIf_e, ↓tChain_e, ↓tSeq_e, ↓tNext_e, ↓tBreak_e, ↓tCont_e, ↓tDrop_e, ↓tRet_e, ↓tRetN_e, ↓tIfS_e, ↓tAsg_e, ↓gName_e, onL2_e, ↓tPar_e2, onCons_e, ↓gNil_e, ↓gCons_e, ↓tTup_e, ↓tTupF_e, ↓tLst_e, ↓tFld_e, ↓sFld_e, ↓sFldAug_e, ↓rAdd_e, ↓rSub_e, ↓tCall_e, ↓tProp_e, ↓tRaiseAsk_e, ↓getSp_e, ↓tMeth_e, ↓tMake_e, ↓rRep_e, ↓rCat_e, ↓tSl_e, ↓tNoPart_e, ↓tPart_e, ↓tYes_e, ↓tFor_e, ↓iTup_e, ↓iList_e, onL1_e, ↓iRng1_e, ↓iRng2_e, ↓iEnT_e, ↓tLc_e, ↓start_e, onD_s, onLst_s, ↓tApp_e, cxOf_K, upd_same, upd_upd, List.getElem?_cons_zero, List.getElem?_cons_succ, List.set_cons_zero, List.set_cons_succ, List.map_cons, List.map_nil, List.append_nil, List.cons_append, List.nil_append, List.length_cons, List.length_nil, List.replicate_succ, List.replicate_zero, Nat.reduceAdd, Nat.reduceSub, Nat.reduceLT, V.int.injEq, V.bl.injEq, V.str.injEq, V.ref.injEq, decide_eq_true_eq, Bool.not_true, Bool.not_false, Bool.false_eq_true, Bool.not_eq_true', decide_eq_false_iff_not, ↓reduceIte, true_and, and_true, and_self, decide_true, decide_false, not_false_eq_true, not_true_eq_false, eq_self]
    refine ⟨_, _, _, rfl, .inl ⟨_, rfl⟩, fun _ => ?_, fun e => by rw [e1] at e; cases e⟩
    refine ⟨_, _, _, rfl, .inl ⟨_, rfl⟩, fun _ => ?_, fun e => by rw [e2] at e; cases e⟩
    simp only [onI_i, onB_b, onR_r, onT_t, onO_s, onS_s, onV_s, ↓tVar_e, ↓tC_e, ↓tNil_e, ↓tCons_e, ↓tCB_e, ↓tOp_e, ↓rI_e, ↓rI0_e, ↓tUn_e, ↓rU_e, ↓rEq_e, ↓rNe_e, scal_ii, scal_ss, scal_bb, ↓tAndV_e, ↓tOrV_e, ↓tNotV_e, ↓tAnd_e, ↓tOr_e, ↓tNot_e, ↓tTest_e, ↓tB_e, ↓tIf_e, ↓tChain_e, ↓tSeq_e, ↓tNext_e, ↓tBreak_e, ↓tCont_e, ↓tDrop_e, ↓tRet_e, ↓tRetN_e, ↓tIfS_e, ↓tAsg_e, ↓gName_e, onL2_e, ↓tPar_e2, onCons_e, ↓gNil_e, ↓gCons_e, ↓tTup_e, ↓tTupF_e, ↓tLst_e, ↓tFld_e, ↓sFld_e, ↓sFldAug_e, ↓rAdd_e, ↓rSub_e, ↓tCall_e, ↓tProp_e, ↓tRaiseAsk_e, ↓getSp_e, ↓tMeth_e, ↓tMake_e, ↓rRep_e, ↓rCat_e, ↓tSl_e, ↓tNoPart_e, ↓tPart_e, ↓tYes_e, ↓tFor_e, ↓iTup_e, ↓iList_e, onL1_e, ↓iRng1_e, ↓iRng2_e, ↓iEnT_e, ↓tLc_e, ↓start_e, onD_s, onLst_s, ↓tApp_e, cxOf_K, upd_same, upd_upd, List.getElem?_cons_zero, List.getElem?_cons_succ, List.set_cons_zero, List.set_cons_succ, List.map_cons, List.map_nil, List.append_nil, List.cons_append, List.nil_append, List.length_cons, List.length_nil, List.replicate_succ, List.replicate_zero, Nat.reduceAdd, Nat.reduceSub, Nat.reduceLT, V.int.injEq, V.bl.injEq, V.str.injEq, V.ref.injEq, decide_eq_true_eq, Bool.not_true, Bool.not_false, Bool.false_eq_true, Bool.not_eq_true', decide_eq_false_iff_not, ↓reduceIte, true_and, and_true, and_self, decide_true, decide_false, not_false_eq_true, not_true_eq_false, eq_self, hq, put1, put2, put3, put4, put5, T.cl, T.n1, T.n2, T.n3, T.n4, T.n5, (by decide : 0 < 1000), (by decide : 1 < 1000), (by decide : 2 < 1000), (by decide : 3 < 1000), (by decide : 4 < 1000)]
    exact k
/-- self.first() -/
def spFirst (cP : Addr) : Sp := fun vs H Q _ => ∃ q dx m p c f a, vs = [.ref q] ∧ H q = some (.ins cP dx (pfs m p c f a)) ∧ 1 ≤ p ∧ Q .non (upd H q (.ins cP dx (pfs m p (firstC m p c f) (f + 1) a)))
theorem scM6 : FnScope ["self"] ["self"] (defScope (mtd 6)) := ⟨rfl, rfl, rfl, by decide +kernel, rfl, by decide +kernel, by decide +kernel⟩
theorem ok_first (T : Txt P K mg cP AE BN BR) : Mth P w K mg base cP "first" 1 ["self"] (spFirst cP) := by
  refine mth_mk T.m6 scM6 (fun _ _ _ _ _ _ us hl => match us, hl with | [_], _ => rfl) (fun vs H Q E h => ?_) (fun f cdv A outer s H vs Q E hr h => ?_)
  · obtain ⟨q, dx, m, p, c, f, a, rfl, _⟩ := h
    rfl
  · obtain ⟨q, dx, m, p, c, f, a, rfl, hq, p0, k⟩ := h
    refine ⟨_, pss_cons (ps_fldaug (pv 0) pe_int in_add) (pss_one (ps_if (PW.pt (pw_and (pt_cmpR op_eq (pe_op op_mod (pe_fld (pv 0) rfl) (pe_fld (pv 0) rfl)) pe_int (nomark _))
      (pw_and1 (pt_cmpR op_lt (pe_fld (pv 0) rfl) (pe_fld (pv 0) rfl) (nomark _))))) (pss_one (ps_fldaug (pv 0) pe_int in_add)) pss_nil)), ?_⟩
    have p1 : 0 < p := by omega
    unfold firstC at k
    by_cases h1 : (f + 1) % p = 0 <;> by_cases h2 : c < m <;> simp only [h1, h2, and_self, and_false, false_and, ↓reduceIte] at k <;> simp only [onI_i, onB_b, onR_r, onT_t, onO_s, onS_s, onV_s, ↓tVar_e, ↓tC_e, ↓tNil_e, ↓tCons_e, ↓tCB_e, ↓tOp_e, ↓rI_e, ↓rI0_e, ↓tUn_e, ↓rU_e, ↓rEq_e, ↓rNe_e, scal_ii, scal_ss, scal_bb, ↓tAndV_e, ↓tOrV_e, ↓tNotV_e, ↓tAnd_e, ↓tOr_e, ↓tNot_e, ↓tTest_e, ↓tB_e, ↓tIf_e, ↓tChain_e, ↓tSeq_e, ↓tNext_e, ↓tBreak_e, ↓tCont_e, ↓tDrop_e, ↓tRet_e, ↓tRetN_e, ↓tIfS_e, ↓tAsg_e, ↓gName_e, onL2_e, ↓tPar_e2, onCons_e, ↓gNil_e, ↓gCons_e, ↓tTup_e, ↓tTupF_e, ↓tLst_e, ↓tFld_e, ↓sFld_e, ↓sFldAug_e, ↓rAdd_e, ↓rSub_e, ↓tCall_e, ↓tProp_e, ↓tRaiseAsk_e, ↓getSp_e, ↓tMeth_e, ↓tMake_e, ↓rRep_e, ↓rCat_e, ↓tSl_e, ↓tNoPart_e, ↓tPart_e, ↓tYes_e, ↓tFor_e, ↓iTup_e, ↓iList_e, onL1_e, ↓iRng1_e, ↓iRng2_e, ↓iEnT_e, ↓tLc_e, ↓start_e, onD_s, onLst_s, ↓tApp_e, cxOf_K, upd_same, upd_upd, List.getElem?_cons_zero, List.getElem?_cons_succ, List.set_cons_zero, List.set_cons_succ, List.map_cons, List.map_nil, List.append_nil, List.cons_append, List.nil_append, List.length_cons, List.length_nil, List.replicate_succ, List.replicate_zero, Nat.reduceAdd, Nat.reduceSub, Nat.reduceLT, V.int.injEq, V.bl.injEq, V.str.injEq, V.ref.injEq, decide_eq_true_eq, Bool.not_true, Bool.not_false, Bool.false_eq_true, Bool.not_eq_true', decide_eq_false_iff_not, ↓reduceIte, true_and, and_true, and_self, decide_true, decide_false, not_false_eq_true, not_true_eq_false, eq_self, hq, pfs_most, pfs_per, pfs_coins, pfs_firsts, pfs_anew, pfs_len, pfs_put_coins, pfs_put_firsts, pfs_put_anew, (by decide : 5 < 1000), T.cl, T.n1, T.n2, T.n3, T.n4, T.n5, h1, h2, p1] <;> exact k
/-- self.again() -/
def spAgain (cP : Addr) : Sp := fun vs H Q _ => ∃ q dx m p c f a, vs = [.ref q] ∧ H q = some (.ins cP dx (pfs m p c f a)) ∧ (c = 0 → Q (.bl false) H) ∧ (c ≠ 0 → Q (.bl true) (upd H q (.ins cP dx (pfs m p (c - 1) f (a + 1)))))
theorem scM7 : FnScope ["self"] ["self"] (defScope (mtd 7)) := ⟨rfl, rfl, rfl, by decide +kernel, rfl, by decide +kernel, by decide +kernel⟩
theorem ok_again (T : Txt P K mg cP AE BN BR) : Mth P w K mg base cP "again" 1 ["self"] (spAgain cP) := by
  refine mth_mk T.m7 scM7 (fun _ _ _ _ _ _ us hl => match us, hl with | [_], _ => rfl) (fun vs H Q E h => ?_) (fun f cdv A outer s H vs Q E hr h => ?_)
  · obtain ⟨q, dx, m, p, c, f, a, rfl, _⟩ := h
    rfl
  · obtain ⟨q, dx, m, p, c, f, a, rfl, hq, k1, k2⟩ := h
    refine ⟨_, pss_cons (ps_if (pt_cmpR op_eq (pe_fld (pv 0) rfl) pe_int (nomark _)) (pss_one (ps_ret pe_bl)) pss_nil) (pss_cons (ps_fldaug (pv 0) pe_int in_sub) (pss_cons (ps_fldaug (pv 0) pe_int in_add) (pss_one (ps_ret pe_bl)))), ?_⟩
    by_cases h1 : c = 0
    · simp only [onI_i, onB_b, onR_r, onT_t, onO_s, onS_s, onV_s, ↓tVar_e, ↓tC_e, ↓tNil_e, ↓tCons_e, ↓tCB_e, ↓tOp_e, ↓rI_e, ↓rI0_e, ↓tUn_e, ↓rU_e, ↓rEq_e, ↓rNe_e, scal_ii, scal_ss, scal_bb, ↓tAndV_e, ↓tOrV_e, ↓tNotV_e, ↓tAnd_e, ↓tOr_e, ↓tNot_e, ↓tTest_e, ↓tB_e, ↓tIf_e, ↓tChain_e, ↓tSeq_e, ↓tNext_e, ↓tBreak_e, ↓tCont_e, ↓tDrop_e, ↓tRet_e, ↓tRetN_e, ↓tIfS_e, ↓tAsg_e, ↓gName_e, onL2_e, ↓tPar_e2, onCons_e, ↓gNil_e, ↓gCons_e, ↓tTup_e, ↓tTupF_e, ↓tLst_e, ↓tFld_e, ↓sFld_e, ↓sFldAug_e, ↓rAdd_e, ↓rSub_e, ↓tCall_e, ↓tProp_e, ↓tRaiseAsk_e, ↓getSp_e, ↓tMeth_e, ↓tMake_e, ↓rRep_e, ↓rCat_e, ↓tSl_e, ↓tNoPart_e, ↓tPart_e, ↓tYes_e, ↓tFor_e, ↓iTup_e, ↓iList_e, onL1_e, ↓iRng1_e, ↓iRng2_e, ↓iEnT_e, ↓tLc_e, ↓start_e, onD_s, onLst_s, ↓tApp_e, cxOf_K, upd_same, upd_upd, List.getElem?_cons_zero, List.getElem?_cons_succ, List.set_cons_zero, List.set_cons_succ, List.map_cons, List.map_nil, List.append_nil, List.cons_append, List.nil_append, List.length_cons, List.length_nil, List.replicate_succ, List.replicate_zero, Nat.reduceAdd, Nat.reduceSub, Nat.reduceLT, V.int.injEq, V.bl.injEq, V.str.injEq, V.ref.injEq, decide_eq_true_eq, Bool.not_true, Bool.not_false, Bool.false_eq_true, Bool.not_eq_true', decide_eq_false_iff_not, ↓reduceIte, true_and, and_true, and_self, decide_true, decide_false, not_false_eq_true, not_true_eq_false, eq_self, hq, pfs_most, pfs_per, pfs_coins, pfs_firsts, pfs_anew, pfs_len, pfs_put_coins, pfs_put_firsts, pfs_put_anew, (by decide : 5 < 1000), T.cl, T.n1, T.n2, T.n3, T.n4, T.n5, h1]
      exact k1 h1
    · simp only [onI_i, onB_b, onR_r, onT_t, onO_s, onS_s, onV_s, ↓tVar_e, ↓tC_e, ↓tNil_e, ↓tCons_e, ↓tCB_e, ↓tOp_e, ↓rI_e, ↓rI0_e, ↓tUn_e, ↓rU_e, ↓rEq_e, ↓rNe_e, scal_ii, scal_ss, scal_bb, ↓tAndV_e, ↓tOrV_e, ↓tNotV_e, ↓tAnd_e, ↓tOr_e, ↓tNot_e, ↓tTest_e, ↓tB_e, ↓tIf_e, ↓tChain_e, ↓tSeq_e, ↓tNext_e, ↓tBreak_e, ↓tCont_e, ↓tDrop_e, ↓tRet_e, ↓tRetN_e, ↓tIfS_e, ↓tAsg_e, ↓gName_e, onL2_e, ↓tPar_e2, onCons_e, ↓gNil_e, ↓gCons_e, ↓tTup_e, ↓tTupF_e, ↓tLst_e, ↓tFld_e, ↓sFld_e, ↓sFldAug_e, ↓rAdd_e, ↓rSub_e, ↓tCall_e, ↓tProp_e, ↓tRaiseAsk_e, ↓getSp_e, ↓tMeth_e, ↓tMake_e, ↓rRep_e, ↓rCat_e, ↓tSl_e, ↓tNoPart_e, ↓tPart_e, ↓tYes_e, ↓tFor_e, ↓iTup_e, ↓iList_e, onL1_e, ↓iRng1_e, ↓iRng2_e, ↓iEnT_e, ↓tLc_e, ↓start_e, onD_s, onLst_s, ↓tApp_e, cxOf_K, upd_same, upd_upd, List.getElem?_cons_zero, List.getElem?_cons_succ, List.set_cons_zero, List.set_cons_succ, List.map_cons, List.map_nil, List.append_nil, List.cons_append, List.nil_append, List.length_cons, List.length_nil, List.replicate_succ, List.replicate_zero, Nat.reduceAdd, Nat.reduceSub, Nat.reduceLT, V.int.injEq, V.bl.injEq, V.str.injEq, V.ref.injEq, decide_eq_true_eq, Bool.not_true, Bool.not_false, Bool.false_eq_true, Bool.not_eq_true', decide_eq_false_iff_not, ↓reduceIte, true_and, and_true, and_self, decide_true, decide_false, not_false_eq_true, not_true_eq_false, eq_self, hq, pfs_most, pfs_per, pfs_coins, pfs_firsts, pfs_anew, pfs_len, pfs_put_coins, pfs_put_firsts, pfs_put_anew, (by decide : 5 < 1000), T.cl, T.n1, T.n2, T.n3, T.n4, T.n5, h1]
      exact k2 h1
/-- self.copy() -/
def spCopy (cP : Addr) : Sp := fun vs H Q _ => ∃ q dx m p c f a, vs = [.ref q] ∧ H q = some (.ins cP dx (pfs m p c f a)) ∧ 0 ≤ m ∧ m ≤ 1000 ∧ 1 ≤ p ∧ p ≤ 1000 ∧ ∀ r dr, H r = none → H dr = none → dr ≠ r → Q (.ref r) (upd (upd H dr (.own r)) r (.ins cP dr (pfs m p c f a)))
theorem scM8 : FnScope ["self", "other"] ["self"] (defScope (mtd 8)) := ⟨rfl, rfl, rfl, by decide +kernel, rfl, by decide +kernel, by decide +kernel⟩
theorem ok_copy (T : Txt P K mg cP AE BN BR) : Mth P w K mg base cP "copy" 7 ["self"] (spCopy cP) := by
  have M0 : Mkr P w K mg base cP 5 _ _ := mkr_of (ok_init T) T.mkC T.kp
  refine mth_mk T.m8 scM8 (fun _ _ _ _ _ _ us hl => match us, hl with | [_], _ => rfl) (fun vs H Q E h => ?_) (fun f cdv A outer s H vs Q E hr h => ?_)
  · obtain ⟨q, dx, m, p, c, f, a, rfl, _⟩ := h
    rfl
  · obtain ⟨q, dx, m, p, c, f, a, rfl, hq, m0, m1, p0, p1, k⟩ := h
    refine ⟨_, pss_cons (ps_set (i := 1) scM8.nd rfl (Or.inl rfl) (pe_mkr M0 hr rfl T.mgP passL (pa_cons (pe_fld (pv 0) rfl) (pa_cons (pe_fld (pv 0) rfl) pa_nil))))
      (pss_cons (ps_fld (pv 1) (pe_fld (pv 0) rfl) rfl) (pss_cons (ps_fld (pv 1) (pe_fld (pv 0) rfl) rfl) (pss_cons (ps_fld (pv 1) (pe_fld (pv 0) rfl) rfl) (pss_one (ps_ret (pv 1)))))), ?_⟩
    simp only [onI_i, onB_b, onR_r, onT_t, onO_s, onS_s, onV_s, ↓tVar_e, ↓tC_e, ↓tNil_e, ↓tCons_e, ↓tCB_e, ↓tOp_e, ↓rI_e, ↓rI0_e, ↓tUn_e, ↓rU_e, ↓rEq_e, ↓rNe_e, scal_ii, scal_ss, scal_bb, ↓tAndV_e, ↓tOrV_e, ↓tNotV_e, ↓tAnd_e, ↓tOr_e, ↓tNot_e, ↓tTest_e, ↓tB_e, ↓tIf_e, ↓tChain_e, ↓tSeq_e, ↓tNext_e, ↓tBreak_e, ↓tCont_e, ↓tDrop_e, ↓tRet_e, ↓tRetN_e, ↓tIfS_e, ↓tAsg_e, ↓gName_e, onL2_e, ↓tPar_e2, onCons_e, ↓gNil_e, ↓gCons_e, ↓tTup_e, ↓tTupF_e, ↓tLst_e, ↓tFld_e, ↓sFld_e, ↓sFldAug_e, ↓rAdd_e, ↓rSub_e, ↓tCall_e, ↓tProp_e, ↓tRaiseAsk_e, ↓getSp_e, ↓tMeth_e, ↓tMake_e, ↓rRep_e, ↓rCat_e, ↓tSl_e, ↓tNoPart_e, ↓tPart_e, ↓tYes_e, ↓tFor_e, ↓iTup_e, ↓iList_e, onL1_e, ↓iRng1_e, ↓iRng2_e, ↓iEnT_e, ↓tLc_e, ↓start_e, onD_s, onLst_s, ↓tApp_e, cxOf_K, upd_same, upd_upd, List.getElem?_cons_zero, List.getElem?_cons_succ, List.set_cons_zero, List.set_cons_succ, List.map_cons, List.map_nil, List.append_nil, List.cons_append, List.nil_append, List.length_cons, List.length_nil, List.replicate_succ, List.replicate_zero, Nat.reduceAdd, Nat.reduceSub, Nat.reduceLT, V.int.injEq, V.bl.injEq, V.str.injEq, V.ref.injEq, decide_eq_true_eq, Bool.not_true, Bool.not_false, Bool.false_eq_true, Bool.not_eq_true', decide_eq_false_iff_not, ↓reduceIte, true_and, and_true, and_self, decide_true, decide_false, not_false_eq_true, not_true_eq_false, eq_self, hq, pfs_most, pfs_per, pfs_coins, pfs_firsts, pfs_anew, pfs_len, pfs_put_coins, pfs_put_firsts, pfs_put_anew, (by decide : 5 < 1000), T.cl, T.n1, T.n2, T.n3, T.n4, T.n5]
    intro r dr hr' hdr hne
    have h1 : q ≠ r := ne_of_none hq hr'
    have h2 : q ≠ dr := ne_of_none hq hdr
    refine ⟨r, dr, m, p, rfl, upd_same, m0, m1, p0, p1, rfl, ?_⟩
    simp only [onI_i, onB_b, onR_r, onT_t, onO_s, onS_s, onV_s, ↓tVar_e, ↓tC_e, ↓tNil_e, ↓tCons_e, ↓tCB_e, ↓tOp_e, ↓rI_e, ↓rI0_e, ↓tUn_e, ↓rU_e, ↓rEq_e, ↓rNe_e, scal_ii, scal_ss, scal_bb, ↓tAndV_e, ↓tOrV_e, ↓tNotV_e, ↓tAnd_e, ↓tOr_e, ↓tNot_e, ↓tTest_e, ↓tB_e, ↓tIf_e, ↓tChain_e, ↓tSeq_e, ↓tNext_e, ↓tBreak_e, ↓tCont_e, ↓tDrop_e, ↓tRet_e, ↓tRetN_e, ↓tIfS_e, ↓tAsg_e, ↓gName_e, onL2_e, ↓tPar_e2, onCons_e, ↓gNil_e, ↓gCons_e, ↓tTup_e, ↓tTupF_e, ↓tLst_e, ↓tFld_e, ↓sFld_e, ↓sFldAug_e, ↓rAdd_e, ↓rSub_e, ↓tCall_e, ↓tProp_e, ↓tRaiseAsk_e, ↓getSp_e, ↓tMeth_e, ↓tMake_e, ↓rRep_e, ↓rCat_e, ↓tSl_e, ↓tNoPart_e, ↓tPart_e, ↓tYes_e, ↓tFor_e, ↓iTup_e, ↓iList_e, onL1_e, ↓iRng1_e, ↓iRng2_e, ↓iEnT_e, ↓tLc_e, ↓start_e, onD_s, onLst_s, ↓tApp_e, cxOf_K, upd_same, upd_upd, List.getElem?_cons_zero, List.getElem?_cons_succ, List.set_cons_zero, List.set_cons_succ, List.map_cons, List.map_nil, List.append_nil, List.cons_append, List.nil_append, List.length_cons, List.length_nil, List.replicate_succ, List.replicate_zero, Nat.reduceAdd, Nat.reduceSub, Nat.reduceLT, V.int.injEq, V.bl.injEq, V.str.injEq, V.ref.injEq, decide_eq_true_eq, Bool.not_true, Bool.not_false, Bool.false_eq_true, Bool.not_eq_true', decide_eq_false_iff_not, ↓reduceIte, true_and, and_true, and_self, decide_true, decide_false, not_false_eq_true, not_true_eq_false, eq_self, upd_ne h1, upd_ne h2, hq, pfs_most, pfs_per, pfs_coins, pfs_firsts, pfs_anew, pfs_len, pfs_put_coins, pfs_put_firsts, pfs_put_anew, (by decide : 5 < 1000), T.cl, T.n1, T.n2, T.n3, T.n4, T.n5]
    exact k r dr hr' hdr hne
/-- self.row() -/
def spRow (cP : Addr) : Sp := fun vs H Q _ => ∃ q dx m p c f a, vs = [.ref q] ∧ H q = some (.ins cP dx (pfs m p c f a)) ∧ ∀ r, H r = none → Q (.ref r) (upd H r (.tup [.int m, .int p, .int c, .int f, .int a]))
theorem scM9 : FnScope ["self"] ["self"] (defScope (mtd 9)) := ⟨rfl, rfl, rfl, by decide +kernel, rfl, by decide +kernel, by decide +kernel⟩
theorem ok_row (T : Txt P K mg cP AE BN BR) : Mth P w K mg base cP "row" 1 ["self"] (spRow cP) := by
  refine mth_mk T.m9 scM9 (fun _ _ _ _ _ _ us hl => match us, hl with | [_], _ => rfl) (fun vs H Q E h => ?_) (fun f cdv A outer s H vs Q E hr h => ?_)
  · obtain ⟨q, dx, m, p, c, f, a, rfl, _⟩ := h
    rfl
  · obtain ⟨q, dx, m, p, c, f, a, rfl, hq, k⟩ := h
    refine ⟨_, pss_one (ps_ret (pe_tup (pa_cons (pe_fld (pv 0) rfl) (pa_cons (pe_fld (pv 0) rfl) (pa_cons (pe_fld (pv 0) rfl) (pa_cons (pe_fld (pv 0) rfl) (pa_cons (pe_fld (pv 0) rfl) pa_nil))))))), ?_⟩
    simp only [onI_i, onB_b, onR_r, onT_t, onO_s, onS_s, onV_s, ↓tVar_e, ↓tC_e, ↓tNil_e, ↓tCons_e, ↓tCB_e, ↓tOp_e, ↓rI_e, ↓rI0_e, ↓tUn_e, ↓rU_e, ↓rEq_e, ↓rNe_e, scal_ii, scal_ss, scal_bb, ↓tAndV_e, ↓tOrV_e, ↓tNotV_e, ↓tAnd_e, ↓tOr_e, ↓tNot_e, ↓tTest_e, ↓tB_e, ↓tIf_e, ↓tChain_e, ↓tSeq_e, ↓tNext_e, ↓tBreak_e, ↓tCont_e, ↓tDrop_e, ↓tRet_e, ↓tRetN_e, ↓tIfS_e, ↓tAsg_e, ↓gName_e, onL2_e, ↓tPar_e2, onCons_e, ↓gNil_e, ↓gCons_e, ↓tTup_e, ↓tTupF_e, ↓tLst_e, ↓tFld_e, ↓sFld_e, ↓sFldAug_e, ↓rAdd_e, ↓rSub_e, ↓tCall_e, ↓tProp_e, ↓tRaiseAsk_e, ↓getSp_e, ↓tMeth_e, ↓tMake_e, ↓rRep_e, ↓rCat_e, ↓tSl_e, ↓tNoPart_e, ↓tPart_e, ↓tYes_e, ↓tFor_e, ↓iTup_e, ↓iList_e, onL1_e, ↓iRng1_e, ↓iRng2_e, ↓iEnT_e, ↓tLc_e, ↓start_e, onD_s, onLst_s, ↓tApp_e, cxOf_K, upd_same, upd_upd, List.getElem?_cons_zero, List.getElem?_cons_succ, List.set_cons_zero, List.set_cons_succ, List.map_cons, List.map_nil, List.append_nil, List.cons_append, List.nil_append, List.length_cons, List.length_nil, List.replicate_succ, List.replicate_zero, Nat.reduceAdd, Nat.reduceSub, Nat.reduceLT, V.int.injEq, V.bl.injEq, V.str.injEq, V.ref.injEq, decide_eq_true_eq, Bool.not_true, Bool.not_false, Bool.false_eq_true, Bool.not_eq_true', decide_eq_false_iff_not, ↓reduceIte, true_and, and_true, and_self, decide_true, decide_false, not_false_eq_true, not_true_eq_false, eq_self, hq, pfs_most, pfs_per, pfs_coins, pfs_firsts, pfs_anew, pfs_len, pfs_put_coins, pfs_put_firsts, pfs_put_anew, (by decide : 5 < 1000), T.cl, T.n1, T.n2, T.n3, T.n4, T.n5]
    exact ⟨by decide, k⟩
/-- self == other, both purses -/
def spEq (cP : Addr) : Sp := fun vs H Q _ => ∃ q r dx dr m p c f a m' p' c' f' a', vs = [.ref q, .ref r] ∧ H q = some (.ins cP dx (pfs m p c f a)) ∧ H r = some (.ins cP dr (pfs m' p' c' f' a')) ∧
  ∀ u v, H u = none → H v = none → u ≠ v → Q (.bl (decide (m = m' ∧ p = p' ∧ c = c' ∧ f = f' ∧ a = a'))) (upd (upd H u (.tup [.int m, .int p, .int c, .int f, .int a])) v (.tup [.int m', .int p', .int c', .int f', .int a']))
theorem scM10 : FnScope ["self", "other"] ["self", "other"] (defScope (mtd 10)) := ⟨rfl, rfl, rfl, by decide +kernel, rfl, by decide +kernel, by decide +kernel⟩
theorem ok_eq (T : Txt P K mg cP AE BN BR) : Mth P w K mg base cP "__eq__" 2 ["self", "other"] (spEq cP) := by
  have MR : Mth P w K mg base cP "row" 1 _ _ := ok_row T
  refine mth_mk T.m10 scM10 (fun _ _ _ _ _ _ us hl => match us, hl with | [_, _], _ => rfl) (fun vs H Q E h => ?_) (fun f cdv A outer s H vs Q E hr h => ?_)
  · obtain ⟨q, r, dx, dr, m, p, c, f, a, m', p', c', f', a', rfl, _⟩ := h
    rfl
  · obtain ⟨q, r, dx, dr, m, p, c, f, a, m', p', c', f', a', rfl, hq, hr', k⟩ := h
    refine ⟨_, pss_one (ps_ret (pe_and (pe_callB call_isi rfl T.bI boot_isinstance (pa_cons (pv 1) (pa_cons (pe_glob (v := .ref cP) rfl T.mgP rfl) pa_nil)))
      (pe_one (pe_cmpR (op_eqT hr.units) (pe_mth0 (pv 0) T.cl MR hr passL) (pe_mth0 (pv 1) T.cl MR hr passL) (nomark _))))), ?_⟩
    simp only [onI_i, onB_b, onR_r, onT_t, onO_s, onS_s, onV_s, ↓tVar_e, ↓tC_e, ↓tNil_e, ↓tCons_e, ↓tCB_e, ↓tOp_e, ↓rI_e, ↓rI0_e, ↓tUn_e, ↓rU_e, ↓rEq_e, ↓rNe_e, scal_ii, scal_ss, scal_bb, ↓tAndV_e, ↓tOrV_e, ↓tNotV_e, ↓tAnd_e, ↓tOr_e, ↓tNot_e, ↓tTest_e, ↓tB_e, ↓tIf_e, ↓tChain_e, ↓tSeq_e, ↓tNext_e, ↓tBreak_e, ↓tCont_e, ↓tDrop_e, ↓tRet_e, ↓tRetN_e, ↓tIfS_e, ↓tAsg_e, ↓gName_e, onL2_e, ↓tPar_e2, onCons_e, ↓gNil_e, ↓gCons_e, ↓tTup_e, ↓tTupF_e, ↓tLst_e, ↓tFld_e, ↓sFld_e, ↓sFldAug_e, ↓rAdd_e, ↓rSub_e, ↓tCall_e, ↓tProp_e, ↓tRaiseAsk_e, ↓getSp_e, ↓tMeth_e, ↓tMake_e, ↓rRep_e, ↓rCat_e, ↓tSl_e, ↓tNoPart_e, ↓tPart_e, ↓tYes_e, ↓tFor_e, ↓iTup_e, ↓iList_e, onL1_e, ↓iRng1_e, ↓iRng2_e, ↓iEnT_e, ↓tLc_e, ↓start_e, onD_s, onLst_s, ↓tApp_e, cxOf_K, upd_same, upd_upd, List.getElem?_cons_zero, List.getElem?_cons_succ, List.set_cons_zero, List.set_cons_succ, List.map_cons, List.map_nil, List.append_nil, List.cons_append, List.nil_append, List.length_cons, List.length_nil, List.replicate_succ, List.replicate_zero, Nat.reduceAdd, Nat.reduceSub, Nat.reduceLT, V.int.injEq, V.bl.injEq, V.str.injEq, V.ref.injEq, decide_eq_true_eq, Bool.not_true, Bool.not_false, Bool.false_eq_true, Bool.not_eq_true', decide_eq_false_iff_not, ↓reduceIte, true_and, and_true, and_self, decide_true, decide_false, not_false_eq_true, not_true_eq_false, eq_self]
    refine ⟨_, _, _, _, true, rfl, .own cP, .base (.ins hr' T.cl T.pC T.pG T.pT T.pO), T.pK, ?_⟩
    simp only [onI_i, onB_b, onR_r, onT_t, onO_s, onS_s, onV_s, ↓tVar_e, ↓tC_e, ↓tNil_e, ↓tCons_e, ↓tCB_e, ↓tOp_e, ↓rI_e, ↓rI0_e, ↓tUn_e, ↓rU_e, ↓rEq_e, ↓rNe_e, scal_ii, scal_ss, scal_bb, ↓tAndV_e, ↓tOrV_e, ↓tNotV_e, ↓tAnd_e, ↓tOr_e, ↓tNot_e, ↓tTest_e, ↓tB_e, ↓tIf_e, ↓tChain_e, ↓tSeq_e, ↓tNext_e, ↓tBreak_e, ↓tCont_e, ↓tDrop_e, ↓tRet_e, ↓tRetN_e, ↓tIfS_e, ↓tAsg_e, ↓gName_e, onL2_e, ↓tPar_e2, onCons_e, ↓gNil_e, ↓gCons_e, ↓tTup_e, ↓tTupF_e, ↓tLst_e, ↓tFld_e, ↓sFld_e, ↓sFldAug_e, ↓rAdd_e, ↓rSub_e, ↓tCall_e, ↓tProp_e, ↓tRaiseAsk_e, ↓getSp_e, ↓tMeth_e, ↓tMake_e, ↓rRep_e, ↓rCat_e, ↓tSl_e, ↓tNoPart_e, ↓tPart_e, ↓tYes_e, ↓tFor_e, ↓iTup_e, ↓iList_e, onL1_e, ↓iRng1_e, ↓iRng2_e, ↓iEnT_e, ↓tLc_e, ↓start_e, onD_s, onLst_s, ↓tApp_e, cxOf_K, upd_same, upd_upd, List.getElem?_cons_zero, List.getElem?_cons_succ, List.set_cons_zero, List.set_cons_succ, List.map_cons, List.map_nil, List.append_nil, List.cons_append, List.nil_append, List.length_cons, List.length_nil, List.replicate_succ, List.replicate_zero, Nat.reduceAdd, Nat.reduceSub, Nat.reduceLT, V.int.injEq, V.bl.injEq, V.str.injEq, V.ref.injEq, decide_eq_true_eq, Bool.not_true, Bool.not_false, Bool.false_eq_true, Bool.not_eq_true', decide_eq_false_iff_not, ↓reduceIte, true_and, and_true, and_self, decide_true, decide_false, not_false_eq_true, not_true_eq_false, eq_self, hq]
    refine ⟨pfs_no _ (by decide +kernel), q, dx, m, p, c, f, a, rfl, hq, fun u hu => ?_⟩
    have ne : r ≠ u := ne_of_none hr' hu
    simp only [onI_i, onB_b, onR_r, onT_t, onO_s, onS_s, onV_s, ↓tVar_e, ↓tC_e, ↓tNil_e, ↓tCons_e, ↓tCB_e, ↓tOp_e, ↓rI_e, ↓rI0_e, ↓tUn_e, ↓rU_e, ↓rEq_e, ↓rNe_e, scal_ii, scal_ss, scal_bb, ↓tAndV_e, ↓tOrV_e, ↓tNotV_e, ↓tAnd_e, ↓tOr_e, ↓tNot_e, ↓tTest_e, ↓tB_e, ↓tIf_e, ↓tChain_e, ↓tSeq_e, ↓tNext_e, ↓tBreak_e, ↓tCont_e, ↓tDrop_e, ↓tRet_e, ↓tRetN_e, ↓tIfS_e, ↓tAsg_e, ↓gName_e, onL2_e, ↓tPar_e2, onCons_e, ↓gNil_e, ↓gCons_e, ↓tTup_e, ↓tTupF_e, ↓tLst_e, ↓tFld_e, ↓sFld_e, ↓sFldAug_e, ↓rAdd_e, ↓rSub_e, ↓tCall_e, ↓tProp_e, ↓tRaiseAsk_e, ↓getSp_e, ↓tMeth_e, ↓tMake_e, ↓rRep_e, ↓rCat_e, ↓tSl_e, ↓tNoPart_e, ↓tPart_e, ↓tYes_e, ↓tFor_e, ↓iTup_e, ↓iList_e, onL1_e, ↓iRng1_e, ↓iRng2_e, ↓iEnT_e, ↓tLc_e, ↓start_e, onD_s, onLst_s, ↓tApp_e, cxOf_K, upd_same, upd_upd, List.getElem?_cons_zero, List.getElem?_cons_succ, List.set_cons_zero, List.set_cons_succ, List.map_cons, List.map_nil, List.append_nil, List.cons_append, List.nil_append, List.length_cons, List.length_nil, List.replicate_succ, List.replicate_zero, Nat.reduceAdd, Nat.reduceSub, Nat.reduceLT, V.int.injEq, V.bl.injEq, V.str.injEq, V.ref.injEq, decide_eq_true_eq, Bool.not_true, Bool.not_false, Bool.false_eq_true, Bool.not_eq_true', decide_eq_false_iff_not, ↓reduceIte, true_and, and_true, and_self, decide_true, decide_false, not_false_eq_true, not_true_eq_false, eq_self, upd_ne ne, hr']
    refine ⟨pfs_no _ (by decide +kernel), r, dr, m', p', c', f', a', rfl, (by rw [upd_ne ne]; exact hr'), fun v hv => ?_⟩
    have nuv : u ≠ v := fun z => by rw [z, upd_same] at hv; cases hv
    have hv' : H v = none := by rw [upd_ne nuv.symm] at hv; exact hv
    refine ⟨u, v, _, _, 0, rfl, rfl, SqT.of (by rw [upd_ne nuv]; exact upd_same), SqT.of upd_same, (by decide), (by simp [kindV]), (by simp [kindV]), ?_⟩
    have e : decide (([.int m, .int p, .int c, .int f, .int a] : List V) = [.int m', .int p', .int c', .int f', .int a']) = decide (m = m' ∧ p = p' ∧ c = c' ∧ f = f' ∧ a = a') := by
      simp
    rw [e]
    exact k u v hu hv' nuv
end
end K49
set_option Elab.async false
set_option linter.all false
set_option maxRecDepth 100000
set_option maxHeartbeats 4000000
/-! k49: rows, told_by, let, most_let, row_for, shows_row, least_most. -/
namespace K49
open PySem PySem.Spec PyProof.Rows L2
/-- .. of the defs about rows; the table of is_row's code at P0 -/
structure Tx (P : Program) (K : PySem.W.Frag) (mg : Str → Option Value) (base : Heap) (cP AE BN BR : Addr) (B : Tb) (c0 P0 : Addr) : Prop where
  t : Txt P K mg cP AE BN BR
  tab : GxR.TabB base mg c0 P0
  p0 : P0 ∈ B.gs
  d15 : HasD K mg "is_row" (top 15) fun cd => cd = .ref c0
  d16 : HasD K mg "check_row" (top 16) fun _ => True
  d17 : HasD K mg "told_by" (top 17) fun _ => True
  d18 : HasD K mg "let" (top 18) fun _ => True
  d19 : HasD K mg "check_firsts" (top 19) fun _ => True
  d20 : HasD K mg "most_of" (top 20) fun _ => True
  d21 : HasD K mg "most_let" (top 21) fun _ => True
  d22 : HasD K mg "row_for" (top 22) fun _ => True
  d23 : HasD K mg "shows_row" (top 23) fun _ => True
  d24 : HasD K mg "lets_all" (top 24) fun _ => True
  d25 : HasD K mg "least_most" (top 25) fun _ => True
/-- what may be asked whether it is a row: None, a text, a list, a tuple of texts and ints -/
inductive RL (H : Hp) : V → Option (List V) → Prop where
  | non : RL H .non none
  | str (x : Str) : RL H (.str x) none
  | lst {a : Addr} {xs : List V} (e : H a = some (.lst xs)) : RL H (.ref a) none
  | tup {a : Addr} {xs : List V} (e : Rd H a (.tup xs)) (hs : ∀ x ∈ xs, GxT.StrInt x) : RL H (.ref a) (some xs)
abbrev isWd : V → Bool := GxT.isW "first" "again"
def okR : Option (List V) → Bool
  | none => false
  | some xs => decide (xs.length ≤ 4000) && xs.all isWd
section
variable {P : Program} {w : World} {K : PySem.W.Frag} {mg : Str → Option Value} {base : Heap} {cP AE BN BR : Addr} {B : Tb} {c0 P0 : Addr}
def spIsRow (B : Tb) : Sp := fun vs H Q _ => ∃ v r, vs = [v] ∧ RL H v r ∧ Wl B H ∧ ∀ H', Nx B [] H H' → Q (.bl (okR r)) H'
theorem sc15 : FnScope ["value"] ["value"] (defScope (top 15)) := ⟨rfl, rfl, rfl, by decide +kernel, rfl, by decide +kernel, by decide +kernel⟩
theorem isi_tup {H : Hp} {v : V} {r : Option (List V)} (h : RL H v r) {Q : VK} (q : Q (.bl r.isSome) H) : rIsi K [v, .ty "tuple"] H Q := by
  cases h with
  | non => exact ⟨_, _, _, _, false, rfl, .ty _, .base .non, kit_ty (by decide +kernel), q⟩
  | str x => exact ⟨_, _, _, _, false, rfl, .ty _, .base (.str x), kit_ty (by decide +kernel), q⟩
  | lst e => exact ⟨_, _, _, _, false, rfl, .ty _, .base (.lst e), kit_ty (by decide +kernel), q⟩
  | tup e hs =>
    rcases e with e | ⟨o, e⟩
    · exact ⟨_, _, _, _, true, rfl, .ty _, .base (.tup e), kit_ty (by decide +kernel), q⟩
    · exact ⟨_, _, _, _, true, rfl, .ty _, .fTuple e, kit_ty (by decide +kernel), q⟩
theorem ok_isrow (T : Tx P K mg base cP AE BN BR B c0 P0) : Dfn P w K mg base "is_row" 1 ["value"] (spIsRow B) := by
  refine dfn_mk T.d15 sc15 (fun _ _ _ _ _ _ us hl => match us, hl with | [_], _ => rfl) (fun vs H Q E h => ?_) (fun f cdv A outer s H vs Q E hr hc h => ?_)
  · obtain ⟨v, r, rfl, _⟩ := h
    rfl
  · obtain ⟨v, r, rfl, hv, wl, k⟩ := h
    subst hc
    obtain ⟨tR, gR⟩ := T.t.gR
    obtain ⟨tF, gF⟩ := T.t.gF
    obtain ⟨tA, gA⟩ := T.t.gA
    refine ⟨_, pss_cons (ps_if (PW.pt (pw_or (pt_not (pt_val (pe_callB call_isi rfl T.t.bI boot_isinstance (pa_cons (pv 0) (pa_cons (pe_bltn (v := .ty "tuple") rfl T.t.btuple PyProof.Rows.boot_tuple rfl) pa_nil)))))
      (pw_or1 (pt_cmpR op_gt (pe_callB call_len_seq rfl T.t.blen PySem.boot_len (pa_cons (pv 0) pa_nil)) (pe_glob (v := .int 4000) rfl gR ⟨_, rfl⟩) (nomark _))))) (pss_one (ps_ret pe_bl)) pss_nil)
      (pss_one (ps_ret (GxT.pe_allT (ok := GxT.StrInt) (pb := isWd) hr rfl T.t.ball PyProof.Rows.boot_all T.tab rfl (by exact ⟨rfl, rfl, by decide +kernel, by decide +kernel, by decide +kernel, fun y hy e => absurd e ((by decide +kernel : ∀ y ∈ _, y.2 ≠ NameKind.free) y hy)⟩) (pv 0)
        (GxT.elt_words rfl (by decide +kernel) (by decide +kernel) (by decide +kernel) (by decide +kernel) (by decide +kernel) T.t.bI T.t.bstr gF gA ⟨_, rfl⟩ ⟨_, rfl⟩) (by intro v; rfl)))), ?_⟩
    simp only [onI_i, onB_b, onR_r, onT_t, onO_s, onS_s, onV_s, ↓tVar_e, ↓tC_e, ↓tNil_e, ↓tCons_e, ↓tCB_e, ↓tOp_e, ↓rI_e, ↓rI0_e, ↓tUn_e, ↓rU_e, ↓rEq_e, ↓rNe_e, scal_ii, scal_ss, scal_bb, ↓tAndV_e, ↓tOrV_e, ↓tNotV_e, ↓tAnd_e, ↓tOr_e, ↓tNot_e, ↓tTest_e, ↓tB_e, ↓tIf_e, ↓tChain_e, ↓tSeq_e, ↓tNext_e, ↓tBreak_e, ↓tCont_e, ↓tDrop_e, ↓tRet_e, ↓tRetN_e, ↓tIfS_e, ↓tAsg_e, ↓gName_e, onL2_e, ↓tPar_e2, onCons_e, ↓gNil_e, ↓gCons_e, ↓tTup_e, ↓tTupF_e, ↓tLst_e, ↓tFld_e, ↓sFld_e, ↓sFldAug_e, ↓rAdd_e, ↓rSub_e, ↓tCall_e, ↓tProp_e, ↓tRaiseAsk_e, ↓getSp_e, ↓tMeth_e, ↓tMake_e, ↓rRep_e, ↓rCat_e, ↓tSl_e, ↓tNoPart_e, ↓tPart_e, ↓tYes_e, ↓tFor_e, ↓iTup_e, ↓iList_e, onL1_e, ↓iRng1_e, ↓iRng2_e, ↓iEnT_e, ↓tLc_e, ↓start_e, onD_s, onLst_s, ↓tApp_e, cxOf_K, upd_same, upd_upd, List.getElem?_cons_zero, List.getElem?_cons_succ, List.set_cons_zero, List.set_cons_succ, List.map_cons, List.map_nil, List.append_nil, List.cons_append, List.nil_append, List.length_cons, List.length_nil, List.replicate_succ, List.replicate_zero, Nat.reduceAdd, Nat.reduceSub, Nat.reduceLT, V.int.injEq, V.bl.injEq, V.str.injEq, V.ref.injEq, decide_eq_true_eq, Bool.not_true, Bool.not_false, Bool.false_eq_true, Bool.not_eq_true', decide_eq_false_iff_not, ↓reduceIte, true_and, and_true, and_self, decide_true, decide_false, not_false_eq_true, not_true_eq_false, eq_self]
    refine isi_tup hv ?_
    cases r with
    | none =>
      simp only [onI_i, onB_b, onR_r, onT_t, onO_s, onS_s, onV_s, ↓tVar_e, ↓tC_e, ↓tNil_e, ↓tCons_e, ↓tCB_e, ↓tOp_e, ↓rI_e, ↓rI0_e, ↓tUn_e, ↓rU_e, ↓rEq_e, ↓rNe_e, scal_ii, scal_ss, scal_bb, ↓tAndV_e, ↓tOrV_e, ↓tNotV_e, ↓tAnd_e, ↓tOr_e, ↓tNot_e, ↓tTest_e, ↓tB_e, ↓tIf_e, ↓tChain_e, ↓tSeq_e, ↓tNext_e, ↓tBreak_e, ↓tCont_e, ↓tDrop_e, ↓tRet_e, ↓tRetN_e, ↓tIfS_e, ↓tAsg_e, ↓gName_e, onL2_e, ↓tPar_e2, onCons_e, ↓gNil_e, ↓gCons_e, ↓tTup_e, ↓tTupF_e, ↓tLst_e, ↓tFld_e, ↓sFld_e, ↓sFldAug_e, ↓rAdd_e, ↓rSub_e, ↓tCall_e, ↓tProp_e, ↓tRaiseAsk_e, ↓getSp_e, ↓tMeth_e, ↓tMake_e, ↓rRep_e, ↓rCat_e, ↓tSl_e, ↓tNoPart_e, ↓tPart_e, ↓tYes_e, ↓tFor_e, ↓iTup_e, ↓iList_e, onL1_e, ↓iRng1_e, ↓iRng2_e, ↓iEnT_e, ↓tLc_e, ↓start_e, onD_s, onLst_s, ↓tApp_e, cxOf_K, upd_same, upd_upd, List.getElem?_cons_zero, List.getElem?_cons_succ, List.set_cons_zero, List.set_cons_succ, List.map_cons, List.map_nil, List.append_nil, List.cons_append, List.nil_append, List.length_cons, List.length_nil, List.replicate_succ, List.replicate_zero, Nat.reduceAdd, Nat.reduceSub, Nat.reduceLT, V.int.injEq, V.bl.injEq, V.str.injEq, V.ref.injEq, decide_eq_true_eq, Bool.not_true, Bool.not_false, Bool.false_eq_true, Bool.not_eq_true', decide_eq_false_iff_not, ↓reduceIte, true_and, and_true, and_self, decide_true, decide_false, not_false_eq_true, not_true_eq_false, eq_self, Option.isSome_none]
      exact k H (Nx.refl wl)
    | some xs =>
      cases hv with
      | @tup a xs e hs =>
        simp only [onI_i, onB_b, onR_r, onT_t, onO_s, onS_s, onV_s, ↓tVar_e, ↓tC_e, ↓tNil_e, ↓tCons_e, ↓tCB_e, ↓tOp_e, ↓rI_e, ↓rI0_e, ↓tUn_e, ↓rU_e, ↓rEq_e, ↓rNe_e, scal_ii, scal_ss, scal_bb, ↓tAndV_e, ↓tOrV_e, ↓tNotV_e, ↓tAnd_e, ↓tOr_e, ↓tNot_e, ↓tTest_e, ↓tB_e, ↓tIf_e, ↓tChain_e, ↓tSeq_e, ↓tNext_e, ↓tBreak_e, ↓tCont_e, ↓tDrop_e, ↓tRet_e, ↓tRetN_e, ↓tIfS_e, ↓tAsg_e, ↓gName_e, onL2_e, ↓tPar_e2, onCons_e, ↓gNil_e, ↓gCons_e, ↓tTup_e, ↓tTupF_e, ↓tLst_e, ↓tFld_e, ↓sFld_e, ↓sFldAug_e, ↓rAdd_e, ↓rSub_e, ↓tCall_e, ↓tProp_e, ↓tRaiseAsk_e, ↓getSp_e, ↓tMeth_e, ↓tMake_e, ↓rRep_e, ↓rCat_e, ↓tSl_e, ↓tNoPart_e, ↓tPart_e, ↓tYes_e, ↓tFor_e, ↓iTup_e, ↓iList_e, onL1_e, ↓iRng1_e, ↓iRng2_e, ↓iEnT_e, ↓tLc_e, ↓start_e, onD_s, onLst_s, ↓tApp_e, cxOf_K, upd_same, upd_upd, List.getElem?_cons_zero, List.getElem?_cons_succ, List.set_cons_zero, List.set_cons_succ, List.map_cons, List.map_nil, List.append_nil, List.cons_append, List.nil_append, List.length_cons, List.length_nil, List.replicate_succ, List.replicate_zero, Nat.reduceAdd, Nat.reduceSub, Nat.reduceLT, V.int.injEq, V.bl.injEq, V.str.injEq, V.ref.injEq, decide_eq_true_eq, Bool.not_true, Bool.not_false, Bool.false_eq_true, Bool.not_eq_true', decide_eq_false_iff_not, ↓reduceIte, true_and, and_true, and_self, decide_true, decide_false, not_false_eq_true, not_true_eq_false, eq_self, Option.isSome_some]
        refine ⟨a, xs, rfl, .inr (.inl e), ?_⟩
        by_cases hl : xs.length ≤ 4000
        · have hl2 : ¬ ((4000 : Int) < (xs.length : Int)) := by omega
          simp only [onI_i, onB_b, onR_r, onT_t, onO_s, onS_s, onV_s, ↓tVar_e, ↓tC_e, ↓tNil_e, ↓tCons_e, ↓tCB_e, ↓tOp_e, ↓rI_e, ↓rI0_e, ↓tUn_e, ↓rU_e, ↓rEq_e, ↓rNe_e, scal_ii, scal_ss, scal_bb, ↓tAndV_e, ↓tOrV_e, ↓tNotV_e, ↓tAnd_e, ↓tOr_e, ↓tNot_e, ↓tTest_e, ↓tB_e, ↓tIf_e, ↓tChain_e, ↓tSeq_e, ↓tNext_e, ↓tBreak_e, ↓tCont_e, ↓tDrop_e, ↓tRet_e, ↓tRetN_e, ↓tIfS_e, ↓tAsg_e, ↓gName_e, onL2_e, ↓tPar_e2, onCons_e, ↓gNil_e, ↓gCons_e, ↓tTup_e, ↓tTupF_e, ↓tLst_e, ↓tFld_e, ↓sFld_e, ↓sFldAug_e, ↓rAdd_e, ↓rSub_e, ↓tCall_e, ↓tProp_e, ↓tRaiseAsk_e, ↓getSp_e, ↓tMeth_e, ↓tMake_e, ↓rRep_e, ↓rCat_e, ↓tSl_e, ↓tNoPart_e, ↓tPart_e, ↓tYes_e, ↓tFor_e, ↓iTup_e, ↓iList_e, onL1_e, ↓iRng1_e, ↓iRng2_e, ↓iEnT_e, ↓tLc_e, ↓start_e, onD_s, onLst_s, ↓tApp_e, cxOf_K, upd_same, upd_upd, List.getElem?_cons_zero, List.getElem?_cons_succ, List.set_cons_zero, List.set_cons_succ, List.map_cons, List.map_nil, List.append_nil, List.cons_append, List.nil_append, List.length_cons, List.length_nil, List.replicate_succ, List.replicate_zero, Nat.reduceAdd, Nat.reduceSub, Nat.reduceLT, V.int.injEq, V.bl.injEq, V.str.injEq, V.ref.injEq, decide_eq_true_eq, Bool.not_true, Bool.not_false, Bool.false_eq_true, Bool.not_eq_true', decide_eq_false_iff_not, ↓reduceIte, true_and, and_true, and_self, decide_true, decide_false, not_false_eq_true, not_true_eq_false, eq_self, hl2]
          refine ⟨_, rfl, a, xs, rfl, .inl e, hs, wl.1 P0 T.p0, fun H2 t => ?_⟩
          have q := k H2 ((Nx.refl wl).tab T.p0 t)
          have ek : okR (some xs) = xs.all isWd := by
            show (decide (xs.length ≤ 4000) && xs.all isWd) = _
            rw [decide_eq_true hl, Bool.true_and]
          rw [ek] at q
          exact q
        · have hl2 : ((4000 : Int) < (xs.length : Int)) := by omega
          simp only [onI_i, onB_b, onR_r, onT_t, onO_s, onS_s, onV_s, ↓tVar_e, ↓tC_e, ↓tNil_e, ↓tCons_e, ↓tCB_e, ↓tOp_e, ↓rI_e, ↓rI0_e, ↓tUn_e, ↓rU_e, ↓rEq_e, ↓rNe_e, scal_ii, scal_ss, scal_bb, ↓tAndV_e, ↓tOrV_e, ↓tNotV_e, ↓tAnd_e, ↓tOr_e, ↓tNot_e, ↓tTest_e, ↓tB_e, ↓tIf_e, ↓tChain_e, ↓tSeq_e, ↓tNext_e, ↓tBreak_e, ↓tCont_e, ↓tDrop_e, ↓tRet_e, ↓tRetN_e, ↓tIfS_e, ↓tAsg_e, ↓gName_e, onL2_e, ↓tPar_e2, onCons_e, ↓gNil_e, ↓gCons_e, ↓tTup_e, ↓tTupF_e, ↓tLst_e, ↓tFld_e, ↓sFld_e, ↓sFldAug_e, ↓rAdd_e, ↓rSub_e, ↓tCall_e, ↓tProp_e, ↓tRaiseAsk_e, ↓getSp_e, ↓tMeth_e, ↓tMake_e, ↓rRep_e, ↓rCat_e, ↓tSl_e, ↓tNoPart_e, ↓tPart_e, ↓tYes_e, ↓tFor_e, ↓iTup_e, ↓iList_e, onL1_e, ↓iRng1_e, ↓iRng2_e, ↓iEnT_e, ↓tLc_e, ↓start_e, onD_s, onLst_s, ↓tApp_e, cxOf_K, upd_same, upd_upd, List.getElem?_cons_zero, List.getElem?_cons_succ, List.set_cons_zero, List.set_cons_succ, List.map_cons, List.map_nil, List.append_nil, List.cons_append, List.nil_append, List.length_cons, List.length_nil, List.replicate_succ, List.replicate_zero, Nat.reduceAdd, Nat.reduceSub, Nat.reduceLT, V.int.injEq, V.bl.injEq, V.str.injEq, V.ref.injEq, decide_eq_true_eq, Bool.not_true, Bool.not_false, Bool.false_eq_true, Bool.not_eq_true', decide_eq_false_iff_not, ↓reduceIte, true_and, and_true, and_self, decide_true, decide_false, not_false_eq_true, not_true_eq_false, eq_self, hl2]
          have q := k H (Nx.refl wl)
          have ek : okR (some xs) = false := by
            show (decide (xs.length ≤ 4000) && xs.all isWd) = _
            rw [decide_eq_false hl, Bool.false_and]
          rw [ek] at q
          exact q
/-! ### check_row -/
def spCkRow (BR : Addr) (B : Tb) : Sp := fun vs H Q E => ∃ a xs, vs = [.ref a] ∧ Rd H a (.tup xs) ∧ (∀ x ∈ xs, GxT.StrInt x) ∧ Wl B H ∧ (okR (some xs) = true → ∀ H', Nx B [] H H' → Q .non H') ∧
  (okR (some xs) = false → ∀ H' d, Nx B [] H H' → H' d = none → E (.ref BR) (some d) (upd H' d (.xd [(("value" : Str), .ref a)])))
theorem sc16 : FnScope ["row"] ["row"] (defScope (top 16)) := ⟨rfl, rfl, rfl, by decide +kernel, rfl, by decide +kernel, by decide +kernel⟩
theorem ok_ckrow (T : Tx P K mg base cP AE BN BR B c0 P0) : Dfn P w K mg base "check_row" 3 ["row"] (spCkRow BR B) := by
  have D : Dfn P w K mg base "is_row" 1 _ _ := ok_isrow T
  refine dfn_mk T.d16 sc16 (fun _ _ _ _ _ _ us hl => match us, hl with | [_], _ => rfl) (fun vs H Q E h => ?_) (fun f cdv A outer s H vs Q E hr hc h => ?_)
  · obtain ⟨v, r, rfl, _⟩ := h
    rfl
  · obtain ⟨a, xs, rfl, he, hs, wl, k1, k2⟩ := h
    refine ⟨_, pss_one (ps_if (pt_not (pt_val (pe_dfn D (hr.mono (by decide)) rfl passL (pa_cons (pv 0) pa_nil)))) (pss_one (ps_raiseAsk rfl T.t.br hr takesE (pv 0))) pss_nil), ?_⟩
    simp only [onI_i, onB_b, onR_r, onT_t, onO_s, onS_s, onV_s, ↓tVar_e, ↓tC_e, ↓tNil_e, ↓tCons_e, ↓tCB_e, ↓tOp_e, ↓rI_e, ↓rI0_e, ↓tUn_e, ↓rU_e, ↓rEq_e, ↓rNe_e, scal_ii, scal_ss, scal_bb, ↓tAndV_e, ↓tOrV_e, ↓tNotV_e, ↓tAnd_e, ↓tOr_e, ↓tNot_e, ↓tTest_e, ↓tB_e, ↓tIf_e, ↓tChain_e, ↓tSeq_e, ↓tNext_e, ↓tBreak_e, ↓tCont_e, ↓tDrop_e, ↓tRet_e, ↓tRetN_e, ↓tIfS_e, ↓tAsg_e, ↓gName_e, onL2_e, ↓tPar_e2, onCons_e, ↓gNil_e, ↓gCons_e, ↓tTup_e, ↓tTupF_e, ↓tLst_e, ↓tFld_e, ↓sFld_e, ↓sFldAug_e, ↓rAdd_e, ↓rSub_e, ↓tCall_e, ↓tProp_e, ↓tRaiseAsk_e, ↓getSp_e, ↓tMeth_e, ↓tMake_e, ↓rRep_e, ↓rCat_e, ↓tSl_e, ↓tNoPart_e, ↓tPart_e, ↓tYes_e, ↓tFor_e, ↓iTup_e, ↓iList_e, onL1_e, ↓iRng1_e, ↓iRng2_e, ↓iEnT_e, ↓tLc_e, ↓start_e, onD_s, onLst_s, ↓tApp_e, cxOf_K, upd_same, upd_upd, List.getElem?_cons_zero, List.getElem?_cons_succ, List.set_cons_zero, List.set_cons_succ, List.map_cons, List.map_nil, List.append_nil, List.cons_append, List.nil_append, List.length_cons, List.length_nil, List.replicate_succ, List.replicate_zero, Nat.reduceAdd, Nat.reduceSub, Nat.reduceLT, V.int.injEq, V.bl.injEq, V.str.injEq, V.ref.injEq, decide_eq_true_eq, Bool.not_true, Bool.not_false, Bool.false_eq_true, Bool.not_eq_true', decide_eq_false_iff_not, ↓reduceIte, true_and, and_true, and_self, decide_true, decide_false, not_false_eq_true, not_true_eq_false, eq_self]
    refine ⟨_, _, rfl, .tup he hs, wl, fun H' n => ?_⟩
    cases e : okR (some xs) with
    | true => simp only [onI_i, onB_b, onR_r, onT_t, onO_s, onS_s, onV_s, ↓tVar_e, ↓tC_e, ↓tNil_e, ↓tCons_e, ↓tCB_e, ↓tOp_e, ↓rI_e, ↓rI0_e, ↓tUn_e, ↓rU_e, ↓rEq_e, ↓rNe_e, scal_ii, scal_ss, scal_bb, ↓tAndV_e, ↓tOrV_e, ↓tNotV_e, ↓tAnd_e, ↓tOr_e, ↓tNot_e, ↓tTest_e, ↓tB_e, ↓tIf_e, ↓tChain_e, ↓tSeq_e, ↓tNext_e, ↓tBreak_e, ↓tCont_e, ↓tDrop_e, ↓tRet_e, ↓tRetN_e, ↓tIfS_e, ↓tAsg_e, ↓gName_e, onL2_e, ↓tPar_e2, onCons_e, ↓gNil_e, ↓gCons_e, ↓tTup_e, ↓tTupF_e, ↓tLst_e, ↓tFld_e, ↓sFld_e, ↓sFldAug_e, ↓rAdd_e, ↓rSub_e, ↓tCall_e, ↓tProp_e, ↓tRaiseAsk_e, ↓getSp_e, ↓tMeth_e, ↓tMake_e, ↓rRep_e, ↓rCat_e, ↓tSl_e, ↓tNoPart_e, ↓tPart_e, ↓tYes_e, ↓tFor_e, ↓iTup_e, ↓iList_e, onL1_e, ↓iRng1_e, ↓iRng2_e, ↓iEnT_e, ↓tLc_e, ↓start_e, onD_s, onLst_s, ↓tApp_e, cxOf_K, upd_same, upd_upd, List.getElem?_cons_zero, List.getElem?_cons_succ, List.set_cons_zero, List.set_cons_succ, List.map_cons, List.map_nil, List.append_nil, List.cons_append, List.nil_append, List.length_cons, List.length_nil, List.replicate_succ, List.replicate_zero, Nat.reduceAdd, Nat.reduceSub, Nat.reduceLT, V.int.injEq, V.bl.injEq, V.str.injEq, V.ref.injEq, decide_eq_true_eq, Bool.not_true, Bool.not_false, Bool.false_eq_true, Bool.not_eq_true', decide_eq_false_iff_not, ↓reduceIte, true_and, and_true, and_self, decide_true, decide_false, not_false_eq_true, not_true_eq_false, eq_self]; exact k1 e H' n
    | false => simp only [onI_i, onB_b, onR_r, onT_t, onO_s, onS_s, onV_s, ↓tVar_e, ↓tC_e, ↓tNil_e, ↓tCons_e, ↓tCB_e, ↓tOp_e, ↓rI_e, ↓rI0_e, ↓tUn_e, ↓rU_e, ↓rEq_e, ↓rNe_e, scal_ii, scal_ss, scal_bb, ↓tAndV_e, ↓tOrV_e, ↓tNotV_e, ↓tAnd_e, ↓tOr_e, ↓tNot_e, ↓tTest_e, ↓tB_e, ↓tIf_e, ↓tChain_e, ↓tSeq_e, ↓tNext_e, ↓tBreak_e, ↓tCont_e, ↓tDrop_e, ↓tRet_e, ↓tRetN_e, ↓tIfS_e, ↓tAsg_e, ↓gName_e, onL2_e, ↓tPar_e2, onCons_e, ↓gNil_e, ↓gCons_e, ↓tTup_e, ↓tTupF_e, ↓tLst_e, ↓tFld_e, ↓sFld_e, ↓sFldAug_e, ↓rAdd_e, ↓rSub_e, ↓tCall_e, ↓tProp_e, ↓tRaiseAsk_e, ↓getSp_e, ↓tMeth_e, ↓tMake_e, ↓rRep_e, ↓rCat_e, ↓tSl_e, ↓tNoPart_e, ↓tPart_e, ↓tYes_e, ↓tFor_e, ↓iTup_e, ↓iList_e, onL1_e, ↓iRng1_e, ↓iRng2_e, ↓iEnT_e, ↓tLc_e, ↓start_e, onD_s, onLst_s, ↓tApp_e, cxOf_K, upd_same, upd_upd, List.getElem?_cons_zero, List.getElem?_cons_succ, List.set_cons_zero, List.set_cons_succ, List.map_cons, List.map_nil, List.append_nil, List.cons_append, List.nil_append, List.length_cons, List.length_nil, List.replicate_succ, List.replicate_zero, Nat.reduceAdd, Nat.reduceSub, Nat.reduceLT, V.int.injEq, V.bl.injEq, V.str.injEq, V.ref.injEq, decide_eq_true_eq, Bool.not_true, Bool.not_false, Bool.false_eq_true, Bool.not_eq_true', decide_eq_false_iff_not, ↓reduceIte, true_and, and_true, and_self, decide_true, decide_false, not_false_eq_true, not_true_eq_false, eq_self]; exact fun d hd => k2 e H' d n hd
/-! ### told_by -/
def pf (m p : Int) (s : S) : List (Str × V) := pfs m p s.c s.f s.a
def spTold (cP : Addr) (B : Tb) : Sp := fun vs H Q _ => ∃ q a dx m p s ws, vs = [.ref q, .ref a] ∧ H q = some (.ins cP dx (pf m p s)) ∧ 1 ≤ p ∧ SqT K H a (ws.map wv) ∧ ws.length ≤ 4000 ∧ Wl B H ∧
  ∀ H' l, Nx B [q] H H' → H l = none → H' q = some (.ins cP dx (pf m p (run m p s ws))) → H' l = some (.lst ((outs m p s ws).map .bl)) → Q (.ref l) H'
theorem sc17 : FnScope ["purse", "row", "found", "word"] ["purse", "row"] (defScope (top 17)) := ⟨rfl, rfl, rfl, by decide +kernel, rfl, by decide +kernel, by decide +kernel⟩
theorem wv_get {ws : List Bool} {i : Nat} {x : V} (h : (ws.map wv)[i]? = some x) : ∃ b, ws[i]? = some b ∧ x = wv b := by
  rw [List.getElem?_map] at h
  cases e : ws[i]? with
  | none => rw [e] at h; cases h
  | some b => rw [e] at h; exact ⟨b, rfl, (Option.some.inj h).symm⟩
theorem wv_first {b : Bool} : wv b = .str (if b = true then "first" else "again") := rfl
theorem str_fa : ((Str.ofString "again") = (Str.ofString "first")) = False := by simp only [eq_iff_iff, iff_false]; decide +kernel
theorem ok_told (T : Tx P K mg base cP AE BN BR B c0 P0) : Dfn P w K mg base "told_by" 3 ["purse", "row"] (spTold (K := K) cP B) := by
  have M1 : Mth P w K mg base cP "first" 1 _ _ := ok_first T.t
  have M2 : Mth P w K mg base cP "again" 1 _ _ := ok_again T.t
  refine dfn_mk T.d17 sc17 (fun _ _ _ _ _ _ us hl => match us, hl with | [_, _], _ => rfl) (fun vs H Q E h => ?_) (fun f cdv A outer s H vs Q E hr hc h => ?_)
  · obtain ⟨q, a, dx, m, p, s, ws, rfl, _⟩ := h
    rfl
  · obtain ⟨q, a, dx, m, p, s1, ws, rfl, hq, p0, ht, hlen, wl, k⟩ := h
    obtain ⟨tF, gF⟩ := T.t.gF
    refine ⟨_, pss_cons (ps_set (i := 2) sc17.nd rfl (Or.inl rfl) (pe_lst pa_nil))
      (pss_cons (ps_for passO rfl (pi_tup (pv 1)) (pg_name (i := 3) sc17.nd rfl (Or.inl rfl)) (pss_one (ps_if (pt_cmpR op_eq (pv 3) (pe_glob (v := .str "first") rfl gF ⟨_, rfl⟩) (nomark _))
        (pss_cons (ps_expr (pe_mth0 (pv 0) T.t.cl M1 (hr.mono (by decide)) passL)) (pss_one (ps_expr (pe_app (pv 2) pe_bl)))) (pss_one (ps_expr (pe_app (pv 2) (pe_mth0 (pv 0) T.t.cl M2 (hr.mono (by decide)) passL)))))))
      (pss_one (ps_ret (pv 2)))), ?_⟩
    simp only [onI_i, onB_b, onR_r, onT_t, onO_s, onS_s, onV_s, ↓tVar_e, ↓tC_e, ↓tNil_e, ↓tCons_e, ↓tCB_e, ↓tOp_e, ↓rI_e, ↓rI0_e, ↓tUn_e, ↓rU_e, ↓rEq_e, ↓rNe_e, scal_ii, scal_ss, scal_bb, ↓tAndV_e, ↓tOrV_e, ↓tNotV_e, ↓tAnd_e, ↓tOr_e, ↓tNot_e, ↓tTest_e, ↓tB_e, ↓tIf_e, ↓tChain_e, ↓tSeq_e, ↓tNext_e, ↓tBreak_e, ↓tCont_e, ↓tDrop_e, ↓tRet_e, ↓tRetN_e, ↓tIfS_e, ↓tAsg_e, ↓gName_e, onL2_e, ↓tPar_e2, onCons_e, ↓gNil_e, ↓gCons_e, ↓tTup_e, ↓tTupF_e, ↓tLst_e, ↓tFld_e, ↓sFld_e, ↓sFldAug_e, ↓rAdd_e, ↓rSub_e, ↓tCall_e, ↓tProp_e, ↓tRaiseAsk_e, ↓getSp_e, ↓tMeth_e, ↓tMake_e, ↓rRep_e, ↓rCat_e, ↓tSl_e, ↓tNoPart_e, ↓tPart_e, ↓tYes_e, ↓tFor_e, ↓iTup_e, ↓iList_e, onL1_e, ↓iRng1_e, ↓iRng2_e, ↓iEnT_e, ↓tLc_e, ↓start_e, onD_s, onLst_s, ↓tApp_e, cxOf_K, upd_same, upd_upd, List.getElem?_cons_zero, List.getElem?_cons_succ, List.set_cons_zero, List.set_cons_succ, List.map_cons, List.map_nil, List.append_nil, List.cons_append, List.nil_append, List.length_cons, List.length_nil, List.replicate_succ, List.replicate_zero, Nat.reduceAdd, Nat.reduceSub, Nat.reduceLT, V.int.injEq, V.bl.injEq, V.str.injEq, V.ref.injEq, decide_eq_true_eq, Bool.not_true, Bool.not_false, Bool.false_eq_true, Bool.not_eq_true', decide_eq_false_iff_not, ↓reduceIte, true_and, and_true, and_self, decide_true, decide_false, not_false_eq_true, not_true_eq_false, eq_self]
    refine ⟨Nat.zero_le _, fun l hl => ?_⟩
    refine ⟨⟨_, ((Nx.refl wl).new (ws := [q]) hl).sqT ht⟩, for_tup (K := K) (a := a) (xs := ws.map wv) (fun i σ H' => ∃ v, σ = [some (.ref q), some (.ref a), some (.ref l), v] ∧ Nx B [q] H H' ∧ H' q = some (.ins cP dx (pf m p (run m p s1 (ws.take i)))) ∧ H' l = some (.lst ((outs m p s1 (ws.take i)).map .bl)))
      ⟨none, rfl, (Nx.refl wl).new hl, by rw [upd_ne (ne_of_none hq hl)]; exact hq, upd_same⟩ (fun i σ H' _ ⟨_, _, n, _⟩ => n.sqT ht) ?_ ?_⟩
    · rintro i x σ H' hi ⟨v, rfl, n, h1, h2⟩
      obtain ⟨b, hb, rfl⟩ := wv_get hi
      have nql : q ≠ l := ne_of_none hq hl
      have er := run_more (m := m) (p := p) (s := s1) hb
      have eo := outs_more (m := m) (p := p) (s := s1) hb
      have hl2 : (outs m p s1 (ws.take i)).length < sizeLine := by
        rw [outs_len, List.length_take, sizeLine_eq]
        omega
      cases b with
      | true =>
        simp only [onI_i, onB_b, onR_r, onT_t, onO_s, onS_s, onV_s, ↓tVar_e, ↓tC_e, ↓tNil_e, ↓tCons_e, ↓tCB_e, ↓tOp_e, ↓rI_e, ↓rI0_e, ↓tUn_e, ↓rU_e, ↓rEq_e, ↓rNe_e, scal_ii, scal_ss, scal_bb, ↓tAndV_e, ↓tOrV_e, ↓tNotV_e, ↓tAnd_e, ↓tOr_e, ↓tNot_e, ↓tTest_e, ↓tB_e, ↓tIf_e, ↓tChain_e, ↓tSeq_e, ↓tNext_e, ↓tBreak_e, ↓tCont_e, ↓tDrop_e, ↓tRet_e, ↓tRetN_e, ↓tIfS_e, ↓tAsg_e, ↓gName_e, onL2_e, ↓tPar_e2, onCons_e, ↓gNil_e, ↓gCons_e, ↓tTup_e, ↓tTupF_e, ↓tLst_e, ↓tFld_e, ↓sFld_e, ↓sFldAug_e, ↓rAdd_e, ↓rSub_e, ↓tCall_e, ↓tProp_e, ↓tRaiseAsk_e, ↓getSp_e, ↓tMeth_e, ↓tMake_e, ↓rRep_e, ↓rCat_e, ↓tSl_e, ↓tNoPart_e, ↓tPart_e, ↓tYes_e, ↓tFor_e, ↓iTup_e, ↓iList_e, onL1_e, ↓iRng1_e, ↓iRng2_e, ↓iEnT_e, ↓tLc_e, ↓start_e, onD_s, onLst_s, ↓tApp_e, cxOf_K, upd_same, upd_upd, List.getElem?_cons_zero, List.getElem?_cons_succ, List.set_cons_zero, List.set_cons_succ, List.map_cons, List.map_nil, List.append_nil, List.cons_append, List.nil_append, List.length_cons, List.length_nil, List.replicate_succ, List.replicate_zero, Nat.reduceAdd, Nat.reduceSub, Nat.reduceLT, V.int.injEq, V.bl.injEq, V.str.injEq, V.ref.injEq, decide_eq_true_eq, Bool.not_true, Bool.not_false, Bool.false_eq_true, Bool.not_eq_true', decide_eq_false_iff_not, ↓reduceIte, true_and, and_true, and_self, decide_true, decide_false, not_false_eq_true, not_true_eq_false, eq_self, wv_first, h1, pf]
        refine ⟨pfs_no _ (by decide +kernel), q, dx, m, p, _, _, _, rfl, h1, p0, ?_⟩
        simp only [onI_i, onB_b, onR_r, onT_t, onO_s, onS_s, onV_s, ↓tVar_e, ↓tC_e, ↓tNil_e, ↓tCons_e, ↓tCB_e, ↓tOp_e, ↓rI_e, ↓rI0_e, ↓tUn_e, ↓rU_e, ↓rEq_e, ↓rNe_e, scal_ii, scal_ss, scal_bb, ↓tAndV_e, ↓tOrV_e, ↓tNotV_e, ↓tAnd_e, ↓tOr_e, ↓tNot_e, ↓tTest_e, ↓tB_e, ↓tIf_e, ↓tChain_e, ↓tSeq_e, ↓tNext_e, ↓tBreak_e, ↓tCont_e, ↓tDrop_e, ↓tRet_e, ↓tRetN_e, ↓tIfS_e, ↓tAsg_e, ↓gName_e, onL2_e, ↓tPar_e2, onCons_e, ↓gNil_e, ↓gCons_e, ↓tTup_e, ↓tTupF_e, ↓tLst_e, ↓tFld_e, ↓sFld_e, ↓sFldAug_e, ↓rAdd_e, ↓rSub_e, ↓tCall_e, ↓tProp_e, ↓tRaiseAsk_e, ↓getSp_e, ↓tMeth_e, ↓tMake_e, ↓rRep_e, ↓rCat_e, ↓tSl_e, ↓tNoPart_e, ↓tPart_e, ↓tYes_e, ↓tFor_e, ↓iTup_e, ↓iList_e, onL1_e, ↓iRng1_e, ↓iRng2_e, ↓iEnT_e, ↓tLc_e, ↓start_e, onD_s, onLst_s, ↓tApp_e, cxOf_K, upd_same, upd_upd, List.getElem?_cons_zero, List.getElem?_cons_succ, List.set_cons_zero, List.set_cons_succ, List.map_cons, List.map_nil, List.append_nil, List.cons_append, List.nil_append, List.length_cons, List.length_nil, List.replicate_succ, List.replicate_zero, Nat.reduceAdd, Nat.reduceSub, Nat.reduceLT, V.int.injEq, V.bl.injEq, V.str.injEq, V.ref.injEq, decide_eq_true_eq, Bool.not_true, Bool.not_false, Bool.false_eq_true, Bool.not_eq_true', decide_eq_false_iff_not, ↓reduceIte, true_and, and_true, and_self, decide_true, decide_false, not_false_eq_true, not_true_eq_false, eq_self, upd_ne nql.symm, h2, List.length_map]
        refine ⟨hl2, some (wv true), rfl, (n.wr (.inl (by simp)) h1 rfl).wr (.inr hl) (by rw [upd_ne nql.symm]; exact h2) rfl, ?_, ?_⟩
        · rw [upd_ne nql, upd_same, er]
          rfl
        · rw [eo]
          simp [out]
      | false =>
        simp only [onI_i, onB_b, onR_r, onT_t, onO_s, onS_s, onV_s, ↓tVar_e, ↓tC_e, ↓tNil_e, ↓tCons_e, ↓tCB_e, ↓tOp_e, ↓rI_e, ↓rI0_e, ↓tUn_e, ↓rU_e, ↓rEq_e, ↓rNe_e, scal_ii, scal_ss, scal_bb, ↓tAndV_e, ↓tOrV_e, ↓tNotV_e, ↓tAnd_e, ↓tOr_e, ↓tNot_e, ↓tTest_e, ↓tB_e, ↓tIf_e, ↓tChain_e, ↓tSeq_e, ↓tNext_e, ↓tBreak_e, ↓tCont_e, ↓tDrop_e, ↓tRet_e, ↓tRetN_e, ↓tIfS_e, ↓tAsg_e, ↓gName_e, onL2_e, ↓tPar_e2, onCons_e, ↓gNil_e, ↓gCons_e, ↓tTup_e, ↓tTupF_e, ↓tLst_e, ↓tFld_e, ↓sFld_e, ↓sFldAug_e, ↓rAdd_e, ↓rSub_e, ↓tCall_e, ↓tProp_e, ↓tRaiseAsk_e, ↓getSp_e, ↓tMeth_e, ↓tMake_e, ↓rRep_e, ↓rCat_e, ↓tSl_e, ↓tNoPart_e, ↓tPart_e, ↓tYes_e, ↓tFor_e, ↓iTup_e, ↓iList_e, onL1_e, ↓iRng1_e, ↓iRng2_e, ↓iEnT_e, ↓tLc_e, ↓start_e, onD_s, onLst_s, ↓tApp_e, cxOf_K, upd_same, upd_upd, List.getElem?_cons_zero, List.getElem?_cons_succ, List.set_cons_zero, List.set_cons_succ, List.map_cons, List.map_nil, List.append_nil, List.cons_append, List.nil_append, List.length_cons, List.length_nil, List.replicate_succ, List.replicate_zero, Nat.reduceAdd, Nat.reduceSub, Nat.reduceLT, V.int.injEq, V.bl.injEq, V.str.injEq, V.ref.injEq, decide_eq_true_eq, Bool.not_true, Bool.not_false, Bool.false_eq_true, Bool.not_eq_true', decide_eq_false_iff_not, ↓reduceIte, true_and, and_true, and_self, decide_true, decide_false, not_false_eq_true, not_true_eq_false, eq_self, wv_first, h1, h2, pf, str_fa]
        refine ⟨pfs_no _ (by decide +kernel), q, dx, m, p, _, _, _, rfl, h1, fun z => ?_, fun z => ?_⟩
        · simp only [onI_i, onB_b, onR_r, onT_t, onO_s, onS_s, onV_s, ↓tVar_e, ↓tC_e, ↓tNil_e, ↓tCons_e, ↓tCB_e, ↓tOp_e, ↓rI_e, ↓rI0_e, ↓tUn_e, ↓rU_e, ↓rEq_e, ↓rNe_e, scal_ii, scal_ss, scal_bb, ↓tAndV_e, ↓tOrV_e, ↓tNotV_e, ↓tAnd_e, ↓tOr_e, ↓tNot_e, ↓tTest_e, ↓tB_e, ↓tIf_e, ↓tChain_e, ↓tSeq_e, ↓tNext_e, ↓tBreak_e, ↓tCont_e, ↓tDrop_e, ↓tRet_e, ↓tRetN_e, ↓tIfS_e, ↓tAsg_e, ↓gName_e, onL2_e, ↓tPar_e2, onCons_e, ↓gNil_e, ↓gCons_e, ↓tTup_e, ↓tTupF_e, ↓tLst_e, ↓tFld_e, ↓sFld_e, ↓sFldAug_e, ↓rAdd_e, ↓rSub_e, ↓tCall_e, ↓tProp_e, ↓tRaiseAsk_e, ↓getSp_e, ↓tMeth_e, ↓tMake_e, ↓rRep_e, ↓rCat_e, ↓tSl_e, ↓tNoPart_e, ↓tPart_e, ↓tYes_e, ↓tFor_e, ↓iTup_e, ↓iList_e, onL1_e, ↓iRng1_e, ↓iRng2_e, ↓iEnT_e, ↓tLc_e, ↓start_e, onD_s, onLst_s, ↓tApp_e, cxOf_K, upd_same, upd_upd, List.getElem?_cons_zero, List.getElem?_cons_succ, List.set_cons_zero, List.set_cons_succ, List.map_cons, List.map_nil, List.append_nil, List.cons_append, List.nil_append, List.length_cons, List.length_nil, List.replicate_succ, List.replicate_zero, Nat.reduceAdd, Nat.reduceSub, Nat.reduceLT, V.int.injEq, V.bl.injEq, V.str.injEq, V.ref.injEq, decide_eq_true_eq, Bool.not_true, Bool.not_false, Bool.false_eq_true, Bool.not_eq_true', decide_eq_false_iff_not, ↓reduceIte, true_and, and_true, and_self, decide_true, decide_false, not_false_eq_true, not_true_eq_false, eq_self, h2, List.length_map]
          refine ⟨hl2, some (wv false), rfl, n.wr (.inr hl) h2 rfl, ?_, ?_⟩
          · rw [upd_ne nql, er, h1]
            unfold stp
            rw [if_neg Bool.false_ne_true, if_pos z]
            rfl
          · rw [eo]
            simp [out, z]
        · simp only [onI_i, onB_b, onR_r, onT_t, onO_s, onS_s, onV_s, ↓tVar_e, ↓tC_e, ↓tNil_e, ↓tCons_e, ↓tCB_e, ↓tOp_e, ↓rI_e, ↓rI0_e, ↓tUn_e, ↓rU_e, ↓rEq_e, ↓rNe_e, scal_ii, scal_ss, scal_bb, ↓tAndV_e, ↓tOrV_e, ↓tNotV_e, ↓tAnd_e, ↓tOr_e, ↓tNot_e, ↓tTest_e, ↓tB_e, ↓tIf_e, ↓tChain_e, ↓tSeq_e, ↓tNext_e, ↓tBreak_e, ↓tCont_e, ↓tDrop_e, ↓tRet_e, ↓tRetN_e, ↓tIfS_e, ↓tAsg_e, ↓gName_e, onL2_e, ↓tPar_e2, onCons_e, ↓gNil_e, ↓gCons_e, ↓tTup_e, ↓tTupF_e, ↓tLst_e, ↓tFld_e, ↓sFld_e, ↓sFldAug_e, ↓rAdd_e, ↓rSub_e, ↓tCall_e, ↓tProp_e, ↓tRaiseAsk_e, ↓getSp_e, ↓tMeth_e, ↓tMake_e, ↓rRep_e, ↓rCat_e, ↓tSl_e, ↓tNoPart_e, ↓tPart_e, ↓tYes_e, ↓tFor_e, ↓iTup_e, ↓iList_e, onL1_e, ↓iRng1_e, ↓iRng2_e, ↓iEnT_e, ↓tLc_e, ↓start_e, onD_s, onLst_s, ↓tApp_e, cxOf_K, upd_same, upd_upd, List.getElem?_cons_zero, List.getElem?_cons_succ, List.set_cons_zero, List.set_cons_succ, List.map_cons, List.map_nil, List.append_nil, List.cons_append, List.nil_append, List.length_cons, List.length_nil, List.replicate_succ, List.replicate_zero, Nat.reduceAdd, Nat.reduceSub, Nat.reduceLT, V.int.injEq, V.bl.injEq, V.str.injEq, V.ref.injEq, decide_eq_true_eq, Bool.not_true, Bool.not_false, Bool.false_eq_true, Bool.not_eq_true', decide_eq_false_iff_not, ↓reduceIte, true_and, and_true, and_self, decide_true, decide_false, not_false_eq_true, not_true_eq_false, eq_self, upd_ne nql.symm, h2, List.length_map]
          refine ⟨hl2, some (wv false), rfl, (n.wr (.inl (by simp)) h1 rfl).wr (.inr hl) (by rw [upd_ne nql.symm]; exact h2) rfl, ?_, ?_⟩
          · rw [upd_ne nql, upd_same, er]
            unfold stp
            rw [if_neg Bool.false_ne_true, if_neg z]
          · rw [eo]
            simp [out, z]
    · rintro σ H' ⟨v, rfl, n, h1, h2⟩
      rw [List.length_map, List.take_length] at h1 h2
      simp only [onI_i, onB_b, onR_r, onT_t, onO_s, onS_s, onV_s, ↓tVar_e, ↓tC_e, ↓tNil_e, ↓tCons_e, ↓tCB_e, ↓tOp_e, ↓rI_e, ↓rI0_e, ↓tUn_e, ↓rU_e, ↓rEq_e, ↓rNe_e, scal_ii, scal_ss, scal_bb, ↓tAndV_e, ↓tOrV_e, ↓tNotV_e, ↓tAnd_e, ↓tOr_e, ↓tNot_e, ↓tTest_e, ↓tB_e, ↓tIf_e, ↓tChain_e, ↓tSeq_e, ↓tNext_e, ↓tBreak_e, ↓tCont_e, ↓tDrop_e, ↓tRet_e, ↓tRetN_e, ↓tIfS_e, ↓tAsg_e, ↓gName_e, onL2_e, ↓tPar_e2, onCons_e, ↓gNil_e, ↓gCons_e, ↓tTup_e, ↓tTupF_e, ↓tLst_e, ↓tFld_e, ↓sFld_e, ↓sFldAug_e, ↓rAdd_e, ↓rSub_e, ↓tCall_e, ↓tProp_e, ↓tRaiseAsk_e, ↓getSp_e, ↓tMeth_e, ↓tMake_e, ↓rRep_e, ↓rCat_e, ↓tSl_e, ↓tNoPart_e, ↓tPart_e, ↓tYes_e, ↓tFor_e, ↓iTup_e, ↓iList_e, onL1_e, ↓iRng1_e, ↓iRng2_e, ↓iEnT_e, ↓tLc_e, ↓start_e, onD_s, onLst_s, ↓tApp_e, cxOf_K, upd_same, upd_upd, List.getElem?_cons_zero, List.getElem?_cons_succ, List.set_cons_zero, List.set_cons_succ, List.map_cons, List.map_nil, List.append_nil, List.cons_append, List.nil_append, List.length_cons, List.length_nil, List.replicate_succ, List.replicate_zero, Nat.reduceAdd, Nat.reduceSub, Nat.reduceLT, V.int.injEq, V.bl.injEq, V.str.injEq, V.ref.injEq, decide_eq_true_eq, Bool.not_true, Bool.not_false, Bool.false_eq_true, Bool.not_eq_true', decide_eq_false_iff_not, ↓reduceIte, true_and, and_true, and_self, decide_true, decide_false, not_false_eq_true, not_true_eq_false, eq_self]
      exact k H' l n hl h1 h2
end
end K49
set_option Elab.async false
set_option linter.all false
set_option maxRecDepth 100000
set_option maxHeartbeats 4000000
/-! k49: let, check_firsts, most_of, most_let, row_for. -/
namespace K49
open PySem PySem.Spec PyProof.Rows L2
section
variable {P : Program} {w : World} {K : PySem.W.Frag} {mg : Str → Option Value} {base : Heap} {cP AE BN BR : Addr} {B : Tb} {c0 P0 : Addr}
theorem okR_wv {ws : List Bool} (h : ws.length ≤ 4000) : okR (some (ws.map wv)) = true := by
  show (decide ((ws.map wv).length ≤ 4000) && (ws.map wv).all isWd) = true
  rw [List.length_map, decide_eq_true h, Bool.true_and, List.all_map, List.all_eq_true]
  intro b _
  cases b <;> decide +kernel
theorem strInt_wv {ws : List Bool} : ∀ x ∈ ws.map wv, GxT.StrInt x := fun x hx => by
  obtain ⟨b, _, rfl⟩ := List.mem_map.mp hx
  exact .inl ⟨_, rfl⟩
/-- a new purse, and what was before -/
theorem Nx.purse {ws : List Addr} {H H1 : Hp} {x dx C : Addr} {fs : List (Str × V)} (n : Nx B ws H H1) (hx : H1 x = none) (hd : H1 dx = none) (ne : dx ≠ x) : Nx B ws H (upd (upd H1 dx (.own x)) x (.ins C dx fs)) :=
  (n.new hd).new (by rw [upd_ne ne.symm]; exact hx)
/-! ### let -/
def spLet (K : PySem.W.Frag) (BR : Addr) (B : Tb) : Sp := fun vs H Q E => ∃ m p a xs, vs = [.int m, .int p, .ref a] ∧ 0 ≤ m ∧ m ≤ 1000 ∧ 1 ≤ p ∧ p ≤ 1000 ∧ Rd H a (.tup xs) ∧ (∀ x ∈ xs, GxT.StrInt x) ∧ Wl B H ∧
  (∀ ws : List Bool, xs = ws.map wv → ws.length ≤ 4000 → ∀ H' r, Nx B [] H H' → Rd H' r (.tup ((outs m p (s0 m) ws).map .bl)) → Q (.ref r) H') ∧
  (okR (some xs) = false ∨ ∃ ws : List Bool, xs = ws.map wv ∧ ws.length ≤ 4000) ∧ (okR (some xs) = false → ∀ H' d, Nx B [] H H' → H' d = none → E (.ref BR) (some d) (upd H' d (.xd [(("value" : Str), .ref a)])))
theorem sc18 : FnScope ["most", "per", "row", "purse"] ["most", "per", "row"] (defScope (top 18)) := ⟨rfl, rfl, rfl, by decide +kernel, rfl, by decide +kernel, by decide +kernel⟩
theorem ok_let (T : Tx P K mg base cP AE BN BR B c0 P0) : Dfn P w K mg base "let" 8 ["most", "per", "row"] (spLet K BR B) := by
  have M0 : Mkr P w K mg base cP 5 _ _ := mkr_of (ok_init T.t) T.t.mkC T.t.kp
  have D1 : Dfn P w K mg base "check_row" 3 _ _ := ok_ckrow T
  have D2 : Dfn P w K mg base "told_by" 3 _ _ := ok_told T
  refine dfn_mk T.d18 sc18 (fun _ _ _ _ _ _ us hl => match us, hl with | [_, _, _], _ => rfl) (fun vs H Q E h => ?_) (fun f cdv A outer s H vs Q E hr hc h => ?_)
  · obtain ⟨m, p, a, xs, rfl, _⟩ := h
    rfl
  · obtain ⟨m, p, a, xs, rfl, m0, m1, p0, p1, ha, hs, wl, k1, alt, k2⟩ := h
    refine ⟨_, pss_cons (ps_set (i := 3) sc18.nd rfl (Or.inl rfl) (pe_mkr M0 (hr.mono (by decide)) rfl T.t.mgP passL (pa_cons (pv 0) (pa_cons (pv 1) pa_nil))))
      (pss_cons (ps_expr (pe_dfn D1 (hr.mono (by decide)) rfl passE (pa_cons (pv 2) pa_nil)))
      (pss_one (ps_ret (pe_callTy call_tupF rfl T.t.btuple PyProof.Rows.boot_tuple (pa_cons (pe_dfn D2 (hr.mono (by decide)) rfl passL (pa_cons (pv 3) (pa_cons (pv 2) pa_nil))) pa_nil))))), ?_⟩
    simp only [onI_i, onB_b, onR_r, onT_t, onO_s, onS_s, onV_s, ↓tVar_e, ↓tC_e, ↓tNil_e, ↓tCons_e, ↓tCB_e, ↓tOp_e, ↓rI_e, ↓rI0_e, ↓tUn_e, ↓rU_e, ↓rEq_e, ↓rNe_e, scal_ii, scal_ss, scal_bb, ↓tAndV_e, ↓tOrV_e, ↓tNotV_e, ↓tAnd_e, ↓tOr_e, ↓tNot_e, ↓tTest_e, ↓tB_e, ↓tIf_e, ↓tChain_e, ↓tSeq_e, ↓tNext_e, ↓tBreak_e, ↓tCont_e, ↓tDrop_e, ↓tRet_e, ↓tRetN_e, ↓tIfS_e, ↓tAsg_e, ↓gName_e, onL2_e, ↓tPar_e2, onCons_e, ↓gNil_e, ↓gCons_e, ↓tTup_e, ↓tTupF_e, ↓tLst_e, ↓tFld_e, ↓sFld_e, ↓sFldAug_e, ↓rAdd_e, ↓rSub_e, ↓tCall_e, ↓tProp_e, ↓tRaiseAsk_e, ↓getSp_e, ↓tMeth_e, ↓tMake_e, ↓rRep_e, ↓rCat_e, ↓tSl_e, ↓tNoPart_e, ↓tPart_e, ↓tYes_e, ↓tFor_e, ↓iTup_e, ↓iList_e, onL1_e, ↓iRng1_e, ↓iRng2_e, ↓iEnT_e, ↓tLc_e, ↓start_e, onD_s, onLst_s, ↓tApp_e, cxOf_K, upd_same, upd_upd, List.getElem?_cons_zero, List.getElem?_cons_succ, List.set_cons_zero, List.set_cons_succ, List.map_cons, List.map_nil, List.append_nil, List.cons_append, List.nil_append, List.length_cons, List.length_nil, List.replicate_succ, List.replicate_zero, Nat.reduceAdd, Nat.reduceSub, Nat.reduceLT, V.int.injEq, V.bl.injEq, V.str.injEq, V.ref.injEq, decide_eq_true_eq, Bool.not_true, Bool.not_false, Bool.false_eq_true, Bool.not_eq_true', decide_eq_false_iff_not, ↓reduceIte, true_and, and_true, and_self, decide_true, decide_false, not_false_eq_true, not_true_eq_false, eq_self]
    intro x dx hx hdx hne
    refine ⟨x, dx, m, p, rfl, upd_same, m0, m1, p0, p1, ?_⟩
    simp only [onI_i, onB_b, onR_r, onT_t, onO_s, onS_s, onV_s, ↓tVar_e, ↓tC_e, ↓tNil_e, ↓tCons_e, ↓tCB_e, ↓tOp_e, ↓rI_e, ↓rI0_e, ↓tUn_e, ↓rU_e, ↓rEq_e, ↓rNe_e, scal_ii, scal_ss, scal_bb, ↓tAndV_e, ↓tOrV_e, ↓tNotV_e, ↓tAnd_e, ↓tOr_e, ↓tNot_e, ↓tTest_e, ↓tB_e, ↓tIf_e, ↓tChain_e, ↓tSeq_e, ↓tNext_e, ↓tBreak_e, ↓tCont_e, ↓tDrop_e, ↓tRet_e, ↓tRetN_e, ↓tIfS_e, ↓tAsg_e, ↓gName_e, onL2_e, ↓tPar_e2, onCons_e, ↓gNil_e, ↓gCons_e, ↓tTup_e, ↓tTupF_e, ↓tLst_e, ↓tFld_e, ↓sFld_e, ↓sFldAug_e, ↓rAdd_e, ↓rSub_e, ↓tCall_e, ↓tProp_e, ↓tRaiseAsk_e, ↓getSp_e, ↓tMeth_e, ↓tMake_e, ↓rRep_e, ↓rCat_e, ↓tSl_e, ↓tNoPart_e, ↓tPart_e, ↓tYes_e, ↓tFor_e, ↓iTup_e, ↓iList_e, onL1_e, ↓iRng1_e, ↓iRng2_e, ↓iEnT_e, ↓tLc_e, ↓start_e, onD_s, onLst_s, ↓tApp_e, cxOf_K, upd_same, upd_upd, List.getElem?_cons_zero, List.getElem?_cons_succ, List.set_cons_zero, List.set_cons_succ, List.map_cons, List.map_nil, List.append_nil, List.cons_append, List.nil_append, List.length_cons, List.length_nil, List.replicate_succ, List.replicate_zero, Nat.reduceAdd, Nat.reduceSub, Nat.reduceLT, V.int.injEq, V.bl.injEq, V.str.injEq, V.ref.injEq, decide_eq_true_eq, Bool.not_true, Bool.not_false, Bool.false_eq_true, Bool.not_eq_true', decide_eq_false_iff_not, ↓reduceIte, true_and, and_true, and_self, decide_true, decide_false, not_false_eq_true, not_true_eq_false, eq_self]
    have n1 : Nx B [] H (upd (upd H dx (.own x)) x (.ins cP dx (pfs m p m 0 0))) := Nx.purse (Nx.refl wl) hx hdx hne
    have hax := n1.rd ha
    refine ⟨a, xs, rfl, hax, hs, n1.wl, fun eo H' n2 => ?_, fun eo H' d n2 hd => k2 eo H' d (n1.trans0 n2) hd⟩
    rcases alt with e | ⟨ws, rfl, hl⟩
    · rw [e] at eo
      cases eo
    · have hx2 : H' x = some (.ins cP dx (pfs m p m 0 0)) := n2.at upd_same (by simp)
      refine ⟨x, a, dx, m, p, s0 m, ws, rfl, hx2, p0, .inl (n2.rd hax), hl, n2.wl, fun H3 l n3 hl3 hq3 hl4 => ?_⟩
      refine ⟨l, _, rfl, .inl (.inl hl4), fun r o hr' ho hd => ?_⟩
      have n4 : Nx B [] H H3 := (n1.trans0 n2).trans n3 fun b hb => .inr (by rw [List.mem_singleton.mp hb]; exact hx)
      exact k1 ws rfl hl _ r (n4.new hr') (.inr ⟨o, upd_same⟩)
/-! ### numbers checked -/
def bad (vm vp vf : V) : Option V := if okN vm 0 1000 = true then (if okN vp 1 1000 = true then (if okN vf 0 1000 = true then none else some vf) else some vp) else some vm
def spCkF (BN : Addr) : Sp := fun vs H Q E => ∃ vm vp vf, vs = [vm, vp, vf] ∧ IB vm ∧ IB vp ∧ IB vf ∧ (bad vm vp vf = none → Q .non H) ∧ (∀ v, bad vm vp vf = some v → ∀ d, H d = none → E (.ref BN) (some d) (upd H d (.xd [(("value" : Str), v)])))
theorem sc19 : FnScope ["most", "per", "firsts"] ["most", "per", "firsts"] (defScope (top 19)) := ⟨rfl, rfl, rfl, by decide +kernel, rfl, by decide +kernel, by decide +kernel⟩
theorem ok_ckf (T : Tx P K mg base cP AE BN BR B c0 P0) : Dfn P w K mg base "check_firsts" 5 ["most", "per", "firsts"] (spCkF BN) := by
  have D6 : Dfn P w K mg base "check_number" 3 _ _ := ok_chk T.t
  refine dfn_mk T.d19 sc19 (fun _ _ _ _ _ _ us hl => match us, hl with | [_, _, _], _ => rfl) (fun vs H Q E h => ?_) (fun f cdv A outer s H vs Q E hr hc h => ?_)
  · obtain ⟨a, b, c, rfl, _⟩ := h
    rfl
  · obtain ⟨vm, vp, vf, rfl, im, ip, iv, k1, k2⟩ := h
    obtain ⟨tc, gC⟩ := T.t.gC
    obtain ⟨tp, gP⟩ := T.t.gP
    obtain ⟨tm, gM⟩ := T.t.gM
    refine ⟨_, pss_cons (ps_expr (pe_dfn D6 (hr.mono (by decide)) rfl passE (pa_cons (pv 0) (pa_cons pe_int (pa_cons (pe_glob (v := .int 1000) rfl gC ⟨_, rfl⟩) pa_nil)))))
      (pss_cons (ps_expr (pe_dfn D6 (hr.mono (by decide)) rfl passE (pa_cons (pv 1) (pa_cons pe_int (pa_cons (pe_glob (v := .int 1000) rfl gP ⟨_, rfl⟩) pa_nil)))))
      (pss_one (ps_expr (pe_dfn D6 (hr.mono (by decide)) rfl passE (pa_cons (pv 2) (pa_cons pe_int (pa_cons (pe_glob (v := .int 1000) rfl gM ⟨_, rfl⟩) pa_nil))))))), ?_⟩
    simp only [onI_i, onB_b, onR_r, onT_t, onO_s, onS_s, onV_s, ↓tVar_e, ↓tC_e, ↓tNil_e, ↓tCons_e, ↓tCB_e, ↓tOp_e, ↓rI_e, ↓rI0_e, ↓tUn_e, ↓rU_e, ↓rEq_e, ↓rNe_e, scal_ii, scal_ss, scal_bb, ↓tAndV_e, ↓tOrV_e, ↓tNotV_e, ↓tAnd_e, ↓tOr_e, ↓tNot_e, ↓tTest_e, ↓tB_e, ↓tIf_e, ↓tChain_e, ↓tSeq_e, ↓tNext_e, ↓tBreak_e, ↓tCont_e, ↓tDrop_e, ↓tRet_e, ↓tRetN_e, ↓tIfS_e, ↓tAsg_e, ↓gName_e, onL2_e, ↓tPar_e2, onCons_e, ↓gNil_e, ↓gCons_e, ↓tTup_e, ↓tTupF_e, ↓tLst_e, ↓tFld_e, ↓sFld_e, ↓sFldAug_e, ↓rAdd_e, ↓rSub_e, ↓tCall_e, ↓tProp_e, ↓tRaiseAsk_e, ↓getSp_e, ↓tMeth_e, ↓tMake_e, ↓rRep_e, ↓rCat_e, ↓tSl_e, ↓tNoPart_e, ↓tPart_e, ↓tYes_e, ↓tFor_e, ↓iTup_e, ↓iList_e, onL1_e, ↓iRng1_e, ↓iRng2_e, ↓iEnT_e, ↓tLc_e, ↓start_e, onD_s, onLst_s, ↓tApp_e, cxOf_K, upd_same, upd_upd, List.getElem?_cons_zero, List.getElem?_cons_succ, List.set_cons_zero, List.set_cons_succ, List.map_cons, List.map_nil, List.append_nil, List.cons_append, List.nil_append, List.length_cons, List.length_nil, List.replicate_succ, List.replicate_zero, Nat.reduceAdd, Nat.reduceSub, Nat.reduceLT, V.int.injEq, V.bl.injEq, V.str.injEq, V.ref.injEq, decide_eq_true_eq, Bool.not_true, Bool.not_false, Bool.false_eq_true, Bool.not_eq_true', decide_eq_false_iff_not, ↓reduceIte, true_and, and_true, and_self, decide_true, decide_false, not_false_eq_true, not_true_eq_false, eq_self]
    unfold bad at k1 k2
    refine ⟨_, _, _, rfl, im, fun e1 => ?_, fun e1 => k2 vm (by simp [e1])⟩
    refine ⟨_, _, _, rfl, ip, fun e2 => ?_, fun e2 => k2 vp (by simp [e1, e2])⟩
    refine ⟨_, _, _, rfl, iv, fun e3 => k1 (by simp [e1, e2, e3]), fun e3 => k2 vf (by simp [e1, e2, e3])⟩
def spMostOf : Sp := fun vs H Q _ => ∃ m p f, vs = [.int m, .int p, .int f] ∧ 1 ≤ p ∧ p ≤ 1000 ∧ Q (.int (due m p f)) H
theorem sc20 : FnScope ["most", "per", "firsts"] ["most", "per", "firsts"] (defScope (top 20)) := ⟨rfl, rfl, rfl, by decide +kernel, rfl, by decide +kernel, by decide +kernel⟩
theorem ok_mostof (T : Tx P K mg base cP AE BN BR B c0 P0) : Dfn P w K mg base "most_of" 1 ["most", "per", "firsts"] spMostOf := by
  refine dfn_mk T.d20 sc20 (fun _ _ _ _ _ _ us hl => match us, hl with | [_, _, _], _ => rfl) (fun vs H Q E h => ?_) (fun f cdv A outer s H vs Q E hr hc h => ?_)
  · obtain ⟨a, b, c, rfl, _⟩ := h
    rfl
  · obtain ⟨m, p, f, rfl, p0, p1, k⟩ := h
    refine ⟨_, pss_one (ps_ret (pe_ifExp (pt_cmpR op_gt (pv 0) pe_int (nomark _)) (pe_op op_add (pv 0) (pe_op op_fdiv (pv 2) (pv 1))) pe_int)), ?_⟩
    have cd : CDiv f p := ⟨by omega, by omega⟩
    unfold due at k
    by_cases h : 0 < m
    · rw [if_pos h] at k
      simp only [onI_i, onB_b, onR_r, onT_t, onO_s, onS_s, onV_s, ↓tVar_e, ↓tC_e, ↓tNil_e, ↓tCons_e, ↓tCB_e, ↓tOp_e, ↓rI_e, ↓rI0_e, ↓tUn_e, ↓rU_e, ↓rEq_e, ↓rNe_e, scal_ii, scal_ss, scal_bb, ↓tAndV_e, ↓tOrV_e, ↓tNotV_e, ↓tAnd_e, ↓tOr_e, ↓tNot_e, ↓tTest_e, ↓tB_e, ↓tIf_e, ↓tChain_e, ↓tSeq_e, ↓tNext_e, ↓tBreak_e, ↓tCont_e, ↓tDrop_e, ↓tRet_e, ↓tRetN_e, ↓tIfS_e, ↓tAsg_e, ↓gName_e, onL2_e, ↓tPar_e2, onCons_e, ↓gNil_e, ↓gCons_e, ↓tTup_e, ↓tTupF_e, ↓tLst_e, ↓tFld_e, ↓sFld_e, ↓sFldAug_e, ↓rAdd_e, ↓rSub_e, ↓tCall_e, ↓tProp_e, ↓tRaiseAsk_e, ↓getSp_e, ↓tMeth_e, ↓tMake_e, ↓rRep_e, ↓rCat_e, ↓tSl_e, ↓tNoPart_e, ↓tPart_e, ↓tYes_e, ↓tFor_e, ↓iTup_e, ↓iList_e, onL1_e, ↓iRng1_e, ↓iRng2_e, ↓iEnT_e, ↓tLc_e, ↓start_e, onD_s, onLst_s, ↓tApp_e, cxOf_K, upd_same, upd_upd, List.getElem?_cons_zero, List.getElem?_cons_succ, List.set_cons_zero, List.set_cons_succ, List.map_cons, List.map_nil, List.append_nil, List.cons_append, List.nil_append, List.length_cons, List.length_nil, List.replicate_succ, List.replicate_zero, Nat.reduceAdd, Nat.reduceSub, Nat.reduceLT, V.int.injEq, V.bl.injEq, V.str.injEq, V.ref.injEq, decide_eq_true_eq, Bool.not_true, Bool.not_false, Bool.false_eq_true, Bool.not_eq_true', decide_eq_false_iff_not, ↓reduceIte, true_and, and_true, and_self, decide_true, decide_false, not_false_eq_true, not_true_eq_false, eq_self, h, cd]
      exact k
    · rw [if_neg h] at k
      simp only [onI_i, onB_b, onR_r, onT_t, onO_s, onS_s, onV_s, ↓tVar_e, ↓tC_e, ↓tNil_e, ↓tCons_e, ↓tCB_e, ↓tOp_e, ↓rI_e, ↓rI0_e, ↓tUn_e, ↓rU_e, ↓rEq_e, ↓rNe_e, scal_ii, scal_ss, scal_bb, ↓tAndV_e, ↓tOrV_e, ↓tNotV_e, ↓tAnd_e, ↓tOr_e, ↓tNot_e, ↓tTest_e, ↓tB_e, ↓tIf_e, ↓tChain_e, ↓tSeq_e, ↓tNext_e, ↓tBreak_e, ↓tCont_e, ↓tDrop_e, ↓tRet_e, ↓tRetN_e, ↓tIfS_e, ↓tAsg_e, ↓gName_e, onL2_e, ↓tPar_e2, onCons_e, ↓gNil_e, ↓gCons_e, ↓tTup_e, ↓tTupF_e, ↓tLst_e, ↓tFld_e, ↓sFld_e, ↓sFldAug_e, ↓rAdd_e, ↓rSub_e, ↓tCall_e, ↓tProp_e, ↓tRaiseAsk_e, ↓getSp_e, ↓tMeth_e, ↓tMake_e, ↓rRep_e, ↓rCat_e, ↓tSl_e, ↓tNoPart_e, ↓tPart_e, ↓tYes_e, ↓tFor_e, ↓iTup_e, ↓iList_e, onL1_e, ↓iRng1_e, ↓iRng2_e, ↓iEnT_e, ↓tLc_e, ↓start_e, onD_s, onLst_s, ↓tApp_e, cxOf_K, upd_same, upd_upd, List.getElem?_cons_zero, List.getElem?_cons_succ, List.set_cons_zero, List.set_cons_succ, List.map_cons, List.map_nil, List.append_nil, List.cons_append, List.nil_append, List.length_cons, List.length_nil, List.replicate_succ, List.replicate_zero, Nat.reduceAdd, Nat.reduceSub, Nat.reduceLT, V.int.injEq, V.bl.injEq, V.str.injEq, V.ref.injEq, decide_eq_true_eq, Bool.not_true, Bool.not_false, Bool.false_eq_true, Bool.not_eq_true', decide_eq_false_iff_not, ↓reduceIte, true_and, and_true, and_self, decide_true, decide_false, not_false_eq_true, not_true_eq_false, eq_self, h]
      exact k
def spMostLet (BN : Addr) : Sp := fun vs H Q E => ∃ vm vp vf, vs = [vm, vp, vf] ∧ IB vm ∧ IB vp ∧ IB vf ∧ (∀ m p f, vm = .int m → vp = .int p → vf = .int f → bad vm vp vf = none → Q (.int (due m p f)) H) ∧
  (∀ v, bad vm vp vf = some v → ∀ d, H d = none → E (.ref BN) (some d) (upd H d (.xd [(("value" : Str), v)])))
theorem okN_int {v : V} {lo hi : Int} (h : okN v lo hi = true) : ∃ i, v = .int i ∧ lo ≤ i ∧ i ≤ hi := by
  cases v with
  | int i =>
    unfold okN at h
    simp only [Bool.and_eq_true, decide_eq_true_eq] at h
    exact ⟨i, rfl, h⟩
  | _ => cases h
theorem bad_none {vm vp vf : V} (h : bad vm vp vf = none) : (∃ m, vm = .int m ∧ 0 ≤ m ∧ m ≤ 1000) ∧ (∃ p, vp = .int p ∧ 1 ≤ p ∧ p ≤ 1000) ∧ ∃ f, vf = .int f ∧ 0 ≤ f ∧ f ≤ 1000 := by
  unfold bad at h
  split at h
  · rename_i e1
    split at h
    · rename_i e2
      split at h
      · rename_i e3
        exact ⟨okN_int e1, okN_int e2, okN_int e3⟩
      · cases h
    · cases h
  · cases h
theorem bad_ok {m p f : Int} (m0 : 0 ≤ m) (m1 : m ≤ 1000) (p0 : 1 ≤ p) (p1 : p ≤ 1000) (f0 : 0 ≤ f) (f1 : f ≤ 1000) : bad (.int m) (.int p) (.int f) = none := by
  simp [bad, okN, m0, m1, p0, p1, f0, f1]
theorem sc21 : FnScope ["most", "per", "firsts"] ["most", "per", "firsts"] (defScope (top 21)) := ⟨rfl, rfl, rfl, by decide +kernel, rfl, by decide +kernel, by decide +kernel⟩
theorem ok_mostlet (T : Tx P K mg base cP AE BN BR B c0 P0) : Dfn P w K mg base "most_let" 7 ["most", "per", "firsts"] (spMostLet BN) := by
  have D1 : Dfn P w K mg base "check_firsts" 5 _ _ := ok_ckf T
  have D2 : Dfn P w K mg base "most_of" 1 _ _ := ok_mostof T
  refine dfn_mk T.d21 sc21 (fun _ _ _ _ _ _ us hl => match us, hl with | [_, _, _], _ => rfl) (fun vs H Q E h => ?_) (fun f cdv A outer s H vs Q E hr hc h => ?_)
  · obtain ⟨a, b, c, rfl, _⟩ := h
    rfl
  · obtain ⟨vm, vp, vf, rfl, im, ip, iv, k1, k2⟩ := h
    refine ⟨_, pss_cons (ps_expr (pe_dfn D1 (hr.mono (by decide)) rfl passE (pa_cons (pv 0) (pa_cons (pv 1) (pa_cons (pv 2) pa_nil)))))
      (pss_one (ps_ret (pe_dfn D2 (hr.mono (by decide)) rfl passL (pa_cons (pv 0) (pa_cons (pv 1) (pa_cons (pv 2) pa_nil)))))), ?_⟩
    simp only [onI_i, onB_b, onR_r, onT_t, onO_s, onS_s, onV_s, ↓tVar_e, ↓tC_e, ↓tNil_e, ↓tCons_e, ↓tCB_e, ↓tOp_e, ↓rI_e, ↓rI0_e, ↓tUn_e, ↓rU_e, ↓rEq_e, ↓rNe_e, scal_ii, scal_ss, scal_bb, ↓tAndV_e, ↓tOrV_e, ↓tNotV_e, ↓tAnd_e, ↓tOr_e, ↓tNot_e, ↓tTest_e, ↓tB_e, ↓tIf_e, ↓tChain_e, ↓tSeq_e, ↓tNext_e, ↓tBreak_e, ↓tCont_e, ↓tDrop_e, ↓tRet_e, ↓tRetN_e, ↓tIfS_e, ↓tAsg_e, ↓gName_e, onL2_e, ↓tPar_e2, onCons_e, ↓gNil_e, ↓gCons_e, ↓tTup_e, ↓tTupF_e, ↓tLst_e, ↓tFld_e, ↓sFld_e, ↓sFldAug_e, ↓rAdd_e, ↓rSub_e, ↓tCall_e, ↓tProp_e, ↓tRaiseAsk_e, ↓getSp_e, ↓tMeth_e, ↓tMake_e, ↓rRep_e, ↓rCat_e, ↓tSl_e, ↓tNoPart_e, ↓tPart_e, ↓tYes_e, ↓tFor_e, ↓iTup_e, ↓iList_e, onL1_e, ↓iRng1_e, ↓iRng2_e, ↓iEnT_e, ↓tLc_e, ↓start_e, onD_s, onLst_s, ↓tApp_e, cxOf_K, upd_same, upd_upd, List.getElem?_cons_zero, List.getElem?_cons_succ, List.set_cons_zero, List.set_cons_succ, List.map_cons, List.map_nil, List.append_nil, List.cons_append, List.nil_append, List.length_cons, List.length_nil, List.replicate_succ, List.replicate_zero, Nat.reduceAdd, Nat.reduceSub, Nat.reduceLT, V.int.injEq, V.bl.injEq, V.str.injEq, V.ref.injEq, decide_eq_true_eq, Bool.not_true, Bool.not_false, Bool.false_eq_true, Bool.not_eq_true', decide_eq_false_iff_not, ↓reduceIte, true_and, and_true, and_self, decide_true, decide_false, not_false_eq_true, not_true_eq_false, eq_self]
    refine ⟨vm, vp, vf, rfl, im, ip, iv, fun e => ?_, k2⟩
    obtain ⟨⟨m, rfl, _⟩, ⟨p, rfl, p0, p1⟩, f, rfl, _⟩ := bad_none e
    exact ⟨m, p, f, rfl, p0, p1, k1 m p f rfl rfl rfl e⟩
/-! ### row_for -/
def spRowFor (B : Tb) : Sp := fun vs H Q _ => ∃ (m p : Int) (f : Nat), vs = [.int m, .int p, .int f] ∧ 0 ≤ m ∧ m ≤ 1000 ∧ 1 ≤ p ∧ p ≤ 1000 ∧ f ≤ 1000 ∧ Wl B H ∧ ∀ H' r, Nx B [] H H' → FT H' r ((rowF m p f).map wv) → Q (.ref r) H'
theorem sc22 : FnScope ["most", "per", "firsts", "found", "number"] ["most", "per", "firsts"] (defScope (top 22)) := ⟨rfl, rfl, rfl, by decide +kernel, rfl, by decide +kernel, by decide +kernel⟩
theorem flat_one {α : Type} {x : α} : ∀ n : Nat, (List.replicate n [x]).flatten = List.replicate n x
  | 0 => rfl
  | n + 1 => by
    rw [List.replicate_succ, List.replicate_succ, List.flatten_cons, flat_one n]
    rfl
theorem ok_rowfor (T : Tx P K mg base cP AE BN BR B c0 P0) : Dfn P w K mg base "row_for" 7 ["most", "per", "firsts"] (spRowFor B) := by
  have D1 : Dfn P w K mg base "check_firsts" 5 _ _ := ok_ckf T
  refine dfn_mk T.d22 sc22 (fun _ _ _ _ _ _ us hl => match us, hl with | [_, _, _], _ => rfl) (fun vs H Q E h => ?_) (fun f cdv A outer s H vs Q E hr hc h => ?_)
  · obtain ⟨a, b, c, rfl, _⟩ := h
    rfl
  · obtain ⟨m, p, f, rfl, m0, m1, p0, p1, f1, wl, k⟩ := h
    obtain ⟨tF, gF⟩ := T.t.gF
    obtain ⟨tA, gA⟩ := T.t.gA
    refine ⟨_, pss_cons (ps_expr (pe_dfn D1 (hr.mono (by decide)) rfl passE (pa_cons (pv 0) (pa_cons (pv 1) (pa_cons (pv 2) pa_nil)))))
      (pss_cons (ps_if (pt_cmpR op_eq (pv 0) pe_int (nomark _)) (pss_one (ps_ret (pe_op op_repF (pe_tupF (pa_cons (pe_glob (v := .str "first") rfl gF ⟨_, rfl⟩) pa_nil)) (pv 2)))) pss_nil)
      (pss_cons (ps_set (i := 3) sc22.nd rfl (Or.inl rfl) (pe_op op_rep (pe_lst (pa_cons (pe_glob (v := .str "again") rfl gA ⟨_, rfl⟩) pa_nil)) (pv 0)))
      (pss_cons (ps_for passO rfl (pi_range2 rfl T.t.brange (pa_cons pe_int (pa_cons (pe_op op_add (pv 2) pe_int) pa_nil))) (pg_name (i := 4) sc22.nd rfl (Or.inl rfl))
        (pss_cons (ps_expr (pe_app (pv 3) (pe_glob (v := .str "first") rfl gF ⟨_, rfl⟩))) (pss_one (ps_if (pt_cmpR op_eq (pe_op op_mod (pv 4) (pv 1)) pe_int (nomark _)) (pss_one (ps_expr (pe_app (pv 3) (pe_glob (v := .str "again") rfl gA ⟨_, rfl⟩)))) pss_nil))))
      (pss_one (ps_ret (pe_callTy call_tupF rfl T.t.btuple PyProof.Rows.boot_tuple (pa_cons (pv 3) pa_nil))))))), ?_⟩
    simp only [onI_i, onB_b, onR_r, onT_t, onO_s, onS_s, onV_s, ↓tVar_e, ↓tC_e, ↓tNil_e, ↓tCons_e, ↓tCB_e, ↓tOp_e, ↓rI_e, ↓rI0_e, ↓tUn_e, ↓rU_e, ↓rEq_e, ↓rNe_e, scal_ii, scal_ss, scal_bb, ↓tAndV_e, ↓tOrV_e, ↓tNotV_e, ↓tAnd_e, ↓tOr_e, ↓tNot_e, ↓tTest_e, ↓tB_e, ↓tIf_e, ↓tChain_e, ↓tSeq_e, ↓tNext_e, ↓tBreak_e, ↓tCont_e, ↓tDrop_e, ↓tRet_e, ↓tRetN_e, ↓tIfS_e, ↓tAsg_e, ↓gName_e, onL2_e, ↓tPar_e2, onCons_e, ↓gNil_e, ↓gCons_e, ↓tTup_e, ↓tTupF_e, ↓tLst_e, ↓tFld_e, ↓sFld_e, ↓sFldAug_e, ↓rAdd_e, ↓rSub_e, ↓tCall_e, ↓tProp_e, ↓tRaiseAsk_e, ↓getSp_e, ↓tMeth_e, ↓tMake_e, ↓rRep_e, ↓rCat_e, ↓tSl_e, ↓tNoPart_e, ↓tPart_e, ↓tYes_e, ↓tFor_e, ↓iTup_e, ↓iList_e, onL1_e, ↓iRng1_e, ↓iRng2_e, ↓iEnT_e, ↓tLc_e, ↓start_e, onD_s, onLst_s, ↓tApp_e, cxOf_K, upd_same, upd_upd, List.getElem?_cons_zero, List.getElem?_cons_succ, List.set_cons_zero, List.set_cons_succ, List.map_cons, List.map_nil, List.append_nil, List.cons_append, List.nil_append, List.length_cons, List.length_nil, List.replicate_succ, List.replicate_zero, Nat.reduceAdd, Nat.reduceSub, Nat.reduceLT, V.int.injEq, V.bl.injEq, V.str.injEq, V.ref.injEq, decide_eq_true_eq, Bool.not_true, Bool.not_false, Bool.false_eq_true, Bool.not_eq_true', decide_eq_false_iff_not, ↓reduceIte, true_and, and_true, and_self, decide_true, decide_false, not_false_eq_true, not_true_eq_false, eq_self]
    refine ⟨_, _, _, rfl, .inl ⟨_, rfl⟩, .inl ⟨_, rfl⟩, .inl ⟨_, rfl⟩, fun _ => ?_, fun v e => by rw [bad_ok m0 m1 p0 p1 (by omega) (by omega)] at e; cases e⟩
    unfold rowF at k
    by_cases hm : m = 0
    · rw [if_pos hm] at k
      simp only [onI_i, onB_b, onR_r, onT_t, onO_s, onS_s, onV_s, ↓tVar_e, ↓tC_e, ↓tNil_e, ↓tCons_e, ↓tCB_e, ↓tOp_e, ↓rI_e, ↓rI0_e, ↓tUn_e, ↓rU_e, ↓rEq_e, ↓rNe_e, scal_ii, scal_ss, scal_bb, ↓tAndV_e, ↓tOrV_e, ↓tNotV_e, ↓tAnd_e, ↓tOr_e, ↓tNot_e, ↓tTest_e, ↓tB_e, ↓tIf_e, ↓tChain_e, ↓tSeq_e, ↓tNext_e, ↓tBreak_e, ↓tCont_e, ↓tDrop_e, ↓tRet_e, ↓tRetN_e, ↓tIfS_e, ↓tAsg_e, ↓gName_e, onL2_e, ↓tPar_e2, onCons_e, ↓gNil_e, ↓gCons_e, ↓tTup_e, ↓tTupF_e, ↓tLst_e, ↓tFld_e, ↓sFld_e, ↓sFldAug_e, ↓rAdd_e, ↓rSub_e, ↓tCall_e, ↓tProp_e, ↓tRaiseAsk_e, ↓getSp_e, ↓tMeth_e, ↓tMake_e, ↓rRep_e, ↓rCat_e, ↓tSl_e, ↓tNoPart_e, ↓tPart_e, ↓tYes_e, ↓tFor_e, ↓iTup_e, ↓iList_e, onL1_e, ↓iRng1_e, ↓iRng2_e, ↓iEnT_e, ↓tLc_e, ↓start_e, onD_s, onLst_s, ↓tApp_e, cxOf_K, upd_same, upd_upd, List.getElem?_cons_zero, List.getElem?_cons_succ, List.set_cons_zero, List.set_cons_succ, List.map_cons, List.map_nil, List.append_nil, List.cons_append, List.nil_append, List.length_cons, List.length_nil, List.replicate_succ, List.replicate_zero, Nat.reduceAdd, Nat.reduceSub, Nat.reduceLT, V.int.injEq, V.bl.injEq, V.str.injEq, V.ref.injEq, decide_eq_true_eq, Bool.not_true, Bool.not_false, Bool.false_eq_true, Bool.not_eq_true', decide_eq_false_iff_not, ↓reduceIte, true_and, and_true, and_self, decide_true, decide_false, not_false_eq_true, not_true_eq_false, eq_self, hm]
      refine ⟨by decide, fun l o hl ho hd => ?_⟩
      have ft : FT (upd H l (.frz o (.tup [.str "first"]))) l [.str "first"] := ⟨o, upd_same, ho, hd⟩
      refine ⟨l, f, _, rfl, rfl, ft, by simp, by omega, by omega, by simp, fun e1 => ?_, fun e1 r o2 hr2 ho2 hd2 => ?_⟩
      · refine k _ l ((Nx.refl wl).new hl) ?_
        have e : f = 1 := by omega
        subst e
        exact ft
      · refine k _ r (((Nx.refl wl).new hl).new hr2) ⟨o2, ?_, ho2, hd2⟩
        rw [upd_same, Int.toNat_natCast, flat_one, List.map_replicate]
        rfl
    · rw [if_neg hm] at k
      simp only [onI_i, onB_b, onR_r, onT_t, onO_s, onS_s, onV_s, ↓tVar_e, ↓tC_e, ↓tNil_e, ↓tCons_e, ↓tCB_e, ↓tOp_e, ↓rI_e, ↓rI0_e, ↓tUn_e, ↓rU_e, ↓rEq_e, ↓rNe_e, scal_ii, scal_ss, scal_bb, ↓tAndV_e, ↓tOrV_e, ↓tNotV_e, ↓tAnd_e, ↓tOr_e, ↓tNot_e, ↓tTest_e, ↓tB_e, ↓tIf_e, ↓tChain_e, ↓tSeq_e, ↓tNext_e, ↓tBreak_e, ↓tCont_e, ↓tDrop_e, ↓tRet_e, ↓tRetN_e, ↓tIfS_e, ↓tAsg_e, ↓gName_e, onL2_e, ↓tPar_e2, onCons_e, ↓gNil_e, ↓gCons_e, ↓tTup_e, ↓tTupF_e, ↓tLst_e, ↓tFld_e, ↓sFld_e, ↓sFldAug_e, ↓rAdd_e, ↓rSub_e, ↓tCall_e, ↓tProp_e, ↓tRaiseAsk_e, ↓getSp_e, ↓tMeth_e, ↓tMake_e, ↓rRep_e, ↓rCat_e, ↓tSl_e, ↓tNoPart_e, ↓tPart_e, ↓tYes_e, ↓tFor_e, ↓iTup_e, ↓iList_e, onL1_e, ↓iRng1_e, ↓iRng2_e, ↓iEnT_e, ↓tLc_e, ↓start_e, onD_s, onLst_s, ↓tApp_e, cxOf_K, upd_same, upd_upd, List.getElem?_cons_zero, List.getElem?_cons_succ, List.set_cons_zero, List.set_cons_succ, List.map_cons, List.map_nil, List.append_nil, List.cons_append, List.nil_append, List.length_cons, List.length_nil, List.replicate_succ, List.replicate_zero, Nat.reduceAdd, Nat.reduceSub, Nat.reduceLT, V.int.injEq, V.bl.injEq, V.str.injEq, V.ref.injEq, decide_eq_true_eq, Bool.not_true, Bool.not_false, Bool.false_eq_true, Bool.not_eq_true', decide_eq_false_iff_not, ↓reduceIte, true_and, and_true, and_self, decide_true, decide_false, not_false_eq_true, not_true_eq_false, eq_self, hm]
      refine ⟨by decide, fun l0 h0 => ⟨by omega, by omega, (by rw [sizeLine_eq]; show 1 * m.toNat ≤ _; omega), fun l hl => ⟨by omega, ?_⟩⟩⟩
      have e1 : ((f : Int) + 1 - 1).toNat = f := by omega
      rw [e1, flat_one]
      have hl' : H l = none := (upd_none hl).1
      refine for_range (lo := 1) (n := f) (fun i σ H' => ∃ v, σ = [some (.int m), some (.int p), some (.int f), some (.ref l), v] ∧ Nx B [] H H' ∧ H' l = some (.lst ((List.replicate m.toNat false ++ tailF p i).map wv)))
        ⟨none, rfl, ((Nx.refl wl).new h0).new hl, ?_⟩ ?_ ?_
      · rw [upd_same, tailF, List.append_nil, List.map_replicate]
        rfl
      · rintro i σ H' hi ⟨v, rfl, n, h1⟩
        have hlen : ((List.replicate m.toNat false ++ tailF p i).map wv).length + 1 < sizeLine := by
          have := tail_len (p := p) i
          rw [List.length_map, List.length_append, List.length_replicate, sizeLine_eq]
          omega
        have hp : 0 < p := by omega
        have ei : (1 : Int) + (i : Int) = (i : Int) + 1 := by omega
        have et : tailF p (i + 1) = tailF p i ++ (if ((i : Int) + 1) % p = 0 then [true, false] else [true]) := rfl
        by_cases e : ((i : Int) + 1) % p = 0
        · rw [if_pos e] at et
          simp only [onI_i, onB_b, onR_r, onT_t, onO_s, onS_s, onV_s, ↓tVar_e, ↓tC_e, ↓tNil_e, ↓tCons_e, ↓tCB_e, ↓tOp_e, ↓rI_e, ↓rI0_e, ↓tUn_e, ↓rU_e, ↓rEq_e, ↓rNe_e, scal_ii, scal_ss, scal_bb, ↓tAndV_e, ↓tOrV_e, ↓tNotV_e, ↓tAnd_e, ↓tOr_e, ↓tNot_e, ↓tTest_e, ↓tB_e, ↓tIf_e, ↓tChain_e, ↓tSeq_e, ↓tNext_e, ↓tBreak_e, ↓tCont_e, ↓tDrop_e, ↓tRet_e, ↓tRetN_e, ↓tIfS_e, ↓tAsg_e, ↓gName_e, onL2_e, ↓tPar_e2, onCons_e, ↓gNil_e, ↓gCons_e, ↓tTup_e, ↓tTupF_e, ↓tLst_e, ↓tFld_e, ↓sFld_e, ↓sFldAug_e, ↓rAdd_e, ↓rSub_e, ↓tCall_e, ↓tProp_e, ↓tRaiseAsk_e, ↓getSp_e, ↓tMeth_e, ↓tMake_e, ↓rRep_e, ↓rCat_e, ↓tSl_e, ↓tNoPart_e, ↓tPart_e, ↓tYes_e, ↓tFor_e, ↓iTup_e, ↓iList_e, onL1_e, ↓iRng1_e, ↓iRng2_e, ↓iEnT_e, ↓tLc_e, ↓start_e, onD_s, onLst_s, ↓tApp_e, cxOf_K, upd_same, upd_upd, List.getElem?_cons_zero, List.getElem?_cons_succ, List.set_cons_zero, List.set_cons_succ, List.map_cons, List.map_nil, List.append_nil, List.cons_append, List.nil_append, List.length_cons, List.length_nil, List.replicate_succ, List.replicate_zero, Nat.reduceAdd, Nat.reduceSub, Nat.reduceLT, V.int.injEq, V.bl.injEq, V.str.injEq, V.ref.injEq, decide_eq_true_eq, Bool.not_true, Bool.not_false, Bool.false_eq_true, Bool.not_eq_true', decide_eq_false_iff_not, ↓reduceIte, true_and, and_true, and_self, decide_true, decide_false, not_false_eq_true, not_true_eq_false, eq_self, h1, hp, ei, e]
          refine ⟨by omega, ?_, _, rfl, n.wr (.inr hl') h1 rfl, ?_⟩
          · rw [List.length_append]
            exact hlen
          · rw [et]
            simp [wv]
        · rw [if_neg e] at et
          simp only [onI_i, onB_b, onR_r, onT_t, onO_s, onS_s, onV_s, ↓tVar_e, ↓tC_e, ↓tNil_e, ↓tCons_e, ↓tCB_e, ↓tOp_e, ↓rI_e, ↓rI0_e, ↓tUn_e, ↓rU_e, ↓rEq_e, ↓rNe_e, scal_ii, scal_ss, scal_bb, ↓tAndV_e, ↓tOrV_e, ↓tNotV_e, ↓tAnd_e, ↓tOr_e, ↓tNot_e, ↓tTest_e, ↓tB_e, ↓tIf_e, ↓tChain_e, ↓tSeq_e, ↓tNext_e, ↓tBreak_e, ↓tCont_e, ↓tDrop_e, ↓tRet_e, ↓tRetN_e, ↓tIfS_e, ↓tAsg_e, ↓gName_e, onL2_e, ↓tPar_e2, onCons_e, ↓gNil_e, ↓gCons_e, ↓tTup_e, ↓tTupF_e, ↓tLst_e, ↓tFld_e, ↓sFld_e, ↓sFldAug_e, ↓rAdd_e, ↓rSub_e, ↓tCall_e, ↓tProp_e, ↓tRaiseAsk_e, ↓getSp_e, ↓tMeth_e, ↓tMake_e, ↓rRep_e, ↓rCat_e, ↓tSl_e, ↓tNoPart_e, ↓tPart_e, ↓tYes_e, ↓tFor_e, ↓iTup_e, ↓iList_e, onL1_e, ↓iRng1_e, ↓iRng2_e, ↓iEnT_e, ↓tLc_e, ↓start_e, onD_s, onLst_s, ↓tApp_e, cxOf_K, upd_same, upd_upd, List.getElem?_cons_zero, List.getElem?_cons_succ, List.set_cons_zero, List.set_cons_succ, List.map_cons, List.map_nil, List.append_nil, List.cons_append, List.nil_append, List.length_cons, List.length_nil, List.replicate_succ, List.replicate_zero, Nat.reduceAdd, Nat.reduceSub, Nat.reduceLT, V.int.injEq, V.bl.injEq, V.str.injEq, V.ref.injEq, decide_eq_true_eq, Bool.not_true, Bool.not_false, Bool.false_eq_true, Bool.not_eq_true', decide_eq_false_iff_not, ↓reduceIte, true_and, and_true, and_self, decide_true, decide_false, not_false_eq_true, not_true_eq_false, eq_self, h1, hp, ei, e]
          refine ⟨by omega, _, rfl, n.wr (.inr hl') h1 rfl, ?_⟩
          rw [et]
          simp [wv]
      · rintro σ H' ⟨v, rfl, n, h1⟩
        simp only [onI_i, onB_b, onR_r, onT_t, onO_s, onS_s, onV_s, ↓tVar_e, ↓tC_e, ↓tNil_e, ↓tCons_e, ↓tCB_e, ↓tOp_e, ↓rI_e, ↓rI0_e, ↓tUn_e, ↓rU_e, ↓rEq_e, ↓rNe_e, scal_ii, scal_ss, scal_bb, ↓tAndV_e, ↓tOrV_e, ↓tNotV_e, ↓tAnd_e, ↓tOr_e, ↓tNot_e, ↓tTest_e, ↓tB_e, ↓tIf_e, ↓tChain_e, ↓tSeq_e, ↓tNext_e, ↓tBreak_e, ↓tCont_e, ↓tDrop_e, ↓tRet_e, ↓tRetN_e, ↓tIfS_e, ↓tAsg_e, ↓gName_e, onL2_e, ↓tPar_e2, onCons_e, ↓gNil_e, ↓gCons_e, ↓tTup_e, ↓tTupF_e, ↓tLst_e, ↓tFld_e, ↓sFld_e, ↓sFldAug_e, ↓rAdd_e, ↓rSub_e, ↓tCall_e, ↓tProp_e, ↓tRaiseAsk_e, ↓getSp_e, ↓tMeth_e, ↓tMake_e, ↓rRep_e, ↓rCat_e, ↓tSl_e, ↓tNoPart_e, ↓tPart_e, ↓tYes_e, ↓tFor_e, ↓iTup_e, ↓iList_e, onL1_e, ↓iRng1_e, ↓iRng2_e, ↓iEnT_e, ↓tLc_e, ↓start_e, onD_s, onLst_s, ↓tApp_e, cxOf_K, upd_same, upd_upd, List.getElem?_cons_zero, List.getElem?_cons_succ, List.set_cons_zero, List.set_cons_succ, List.map_cons, List.map_nil, List.append_nil, List.cons_append, List.nil_append, List.length_cons, List.length_nil, List.replicate_succ, List.replicate_zero, Nat.reduceAdd, Nat.reduceSub, Nat.reduceLT, V.int.injEq, V.bl.injEq, V.str.injEq, V.ref.injEq, decide_eq_true_eq, Bool.not_true, Bool.not_false, Bool.false_eq_true, Bool.not_eq_true', decide_eq_false_iff_not, ↓reduceIte, true_and, and_true, and_self, decide_true, decide_false, not_false_eq_true, not_true_eq_false, eq_self]
        refine ⟨l, _, rfl, .inl (.inl h1), fun r o hr2 ho hd => ?_⟩
        exact k _ r (n.new hr2) ⟨o, upd_same, ho, hd⟩
end
end K49
set_option Elab.async false
set_option linter.all false
set_option maxRecDepth 100000
set_option maxHeartbeats 4000000
/-! k49: shows_row, lets_all, least_most. -/
namespace K49
open PySem PySem.Spec PyProof.Rows L2
section
variable {P : Program} {w : World} {K : PySem.W.Frag} {mg : Str → Option Value} {base : Heap} {cP AE BN BR : Addr} {B : Tb} {c0 P0 : Addr}
def isF (v : V) : Bool := decide (v = .str "first")
def toW (xs : List V) : List Bool := xs.map isF
theorem isF_wv {b : Bool} : isF (wv b) = b := by
  cases b <;> decide +kernel
theorem toW_wv : ∀ {ws : List Bool}, toW (ws.map wv) = ws
  | [] => rfl
  | b :: r => by
    show isF (wv b) :: toW (r.map wv) = b :: r
    rw [isF_wv, toW_wv]
theorem wv_toW : ∀ {xs : List V}, xs.all isWd = true → (toW xs).map wv = xs
  | [], _ => rfl
  | x :: r, h => by
    rw [List.all_cons, Bool.and_eq_true] at h
    have ih := wv_toW h.2
    show wv (isF x) :: (toW r).map wv = x :: r
    rw [ih]
    have e : wv (isF x) = x := by
      have h1 := h.1
      unfold isWd GxT.isW at h1
      rw [Bool.or_eq_true, decide_eq_true_eq, decide_eq_true_eq] at h1
      rcases h1 with e | e
      · rw [e]; decide +kernel
      · rw [e]; decide +kernel
    rw [e]
theorem okR_ws {xs : List V} (h : okR (some xs) = true) : ∃ ws : List Bool, xs = ws.map wv ∧ ws.length ≤ 4000 := by
  have h' : (decide (xs.length ≤ 4000) && xs.all isWd) = true := h
  rw [Bool.and_eq_true, decide_eq_true_eq] at h'
  refine ⟨toW xs, (wv_toW h'.2).symm, ?_⟩
  unfold toW
  rw [List.length_map]
  exact h'.1
def showsV (m p f : Int) : Option (List V) → Bool
  | none => false
  | some xs => okR (some xs) && decide (((toW xs).countP id : Int) = f) && decide ((run m p (s0 m) (toW xs)).a = due m p f)
def spShows (B : Tb) : Sp := fun vs H Q _ => ∃ m p f v r, vs = [.int m, .int p, .int f, v] ∧ 0 ≤ m ∧ m ≤ 1000 ∧ 1 ≤ p ∧ p ≤ 1000 ∧ 0 ≤ f ∧ f ≤ 1000 ∧ RL H v r ∧ Wl B H ∧ ∀ H', Nx B [] H H' → Q (.bl (showsV m p f r)) H'
theorem sc23 : FnScope ["most", "per", "firsts", "value", "purse", "word"] ["most", "per", "firsts", "value"] (defScope (top 23)) := ⟨rfl, rfl, rfl, by decide +kernel, rfl, by decide +kernel, by decide +kernel⟩
theorem ok_shows (T : Tx P K mg base cP AE BN BR B c0 P0) : Dfn P w K mg base "shows_row" 8 ["most", "per", "firsts", "value"] (spShows B) := by
  have D1 : Dfn P w K mg base "check_firsts" 5 _ _ := ok_ckf T
  have D2 : Dfn P w K mg base "is_row" 1 _ _ := ok_isrow T
  have M0 : Mkr P w K mg base cP 5 _ _ := mkr_of (ok_init T.t) T.t.mkC T.t.kp
  have D3 : Dfn P w K mg base "told_by" 3 _ _ := ok_told T
  have D4 : Dfn P w K mg base "most_of" 1 _ _ := ok_mostof T
  have P5 : Prp P w K mg base cP "anew" 1 _ := prp_mk T.t.p5 ⟨rfl, rfl, rfl, by decide +kernel, rfl, by decide +kernel, by decide +kernel⟩ (fun _ _ _ _ _ _ us hl => match us, hl with | [_], _ => rfl) rfl T.t.cl T.t.n5
  refine dfn_mk T.d23 sc23 (fun _ _ _ _ _ _ us hl => match us, hl with | [_, _, _, _], _ => rfl) (fun vs H Q E h => ?_) (fun f cdv A outer s H vs Q E hr hc h => ?_)
  · obtain ⟨a, b, c, d, r, rfl, _⟩ := h
    rfl
  · obtain ⟨m, p, f, v, r, rfl, m0, m1, p0, p1, f0, f1, hv, wl, k⟩ := h
    obtain ⟨tF, gF⟩ := T.t.gF
    refine ⟨_, pss_cons (ps_expr (pe_dfn D1 (hr.mono (by decide)) rfl passE (pa_cons (pv 0) (pa_cons (pv 1) (pa_cons (pv 2) pa_nil)))))
      (pss_cons (ps_if (PW.pt (pw_or (pt_not (pt_val (pe_dfn D2 (hr.mono (by decide)) rfl passL (pa_cons (pv 3) pa_nil))))
        (pw_or1 (pt_cmpR op_ne (pe_callB call_len_seq rfl T.t.blen PySem.boot_len (pa_cons (pe_lc (own := [("word", 5)]) rfl sc23.nd (pi_tup (pv 3)) (by exact blkOk_by (N := ["most", "per", "firsts", "value", "purse", "word"]) (sc := defScope (top 23)) (by decide +kernel)) (fun _ _ _ _ _ => pg_name (i := 5) sc23.nd rfl (Or.inl rfl) (.inr rfl)) (fun _ _ _ _ _ => pts_one (pt_cmpR op_eq (pv 5) (pe_glob (v := .str "first") rfl gF ⟨_, rfl⟩) (nomark _))) (fun _ _ _ _ _ => pv 5)) pa_nil)) (pv 2) (nomark _)))))
        (pss_one (ps_ret pe_bl)) pss_nil)
      (pss_cons (ps_set (i := 4) sc23.nd rfl (Or.inl rfl) (pe_mkr M0 (hr.mono (by decide)) rfl T.t.mgP passL (pa_cons (pv 0) (pa_cons (pv 1) pa_nil))))
      (pss_cons (ps_expr (pe_dfn D3 (hr.mono (by decide)) rfl passL (pa_cons (pv 4) (pa_cons (pv 3) pa_nil))))
      (pss_one (ps_ret (pe_cmpR op_eq (pe_prp (pv 4) T.t.cl P5 (hr.mono (by decide))) (pe_dfn D4 (hr.mono (by decide)) rfl passL (pa_cons (pv 0) (pa_cons (pv 1) (pa_cons (pv 2) pa_nil)))) (nomark _))))))), ?_⟩
    simp only [onI_i, onB_b, onR_r, onT_t, onO_s, onS_s, onV_s, ↓tVar_e, ↓tC_e, ↓tNil_e, ↓tCons_e, ↓tCB_e, ↓tOp_e, ↓rI_e, ↓rI0_e, ↓tUn_e, ↓rU_e, ↓rEq_e, ↓rNe_e, scal_ii, scal_ss, scal_bb, ↓tAndV_e, ↓tOrV_e, ↓tNotV_e, ↓tAnd_e, ↓tOr_e, ↓tNot_e, ↓tTest_e, ↓tB_e, ↓tIf_e, ↓tChain_e, ↓tSeq_e, ↓tNext_e, ↓tBreak_e, ↓tCont_e, ↓tDrop_e, ↓tRet_e, ↓tRetN_e, ↓tIfS_e, ↓tAsg_e, ↓gName_e, onL2_e, ↓tPar_e2, onCons_e, ↓gNil_e, ↓gCons_e, ↓tTup_e, ↓tTupF_e, ↓tLst_e, ↓tFld_e, ↓sFld_e, ↓sFldAug_e, ↓rAdd_e, ↓rSub_e, ↓tCall_e, ↓tProp_e, ↓tRaiseAsk_e, ↓getSp_e, ↓tMeth_e, ↓tMake_e, ↓rRep_e, ↓rCat_e, ↓tSl_e, ↓tNoPart_e, ↓tPart_e, ↓tYes_e, ↓tFor_e, ↓iTup_e, ↓iList_e, onL1_e, ↓iRng1_e, ↓iRng2_e, ↓iEnT_e, ↓tLc_e, ↓start_e, onD_s, onLst_s, ↓tApp_e, cxOf_K, upd_same, upd_upd, List.getElem?_cons_zero, List.getElem?_cons_succ, List.set_cons_zero, List.set_cons_succ, List.map_cons, List.map_nil, List.append_nil, List.cons_append, List.nil_append, List.length_cons, List.length_nil, List.replicate_succ, List.replicate_zero, Nat.reduceAdd, Nat.reduceSub, Nat.reduceLT, V.int.injEq, V.bl.injEq, V.str.injEq, V.ref.injEq, decide_eq_true_eq, Bool.not_true, Bool.not_false, Bool.false_eq_true, Bool.not_eq_true', decide_eq_false_iff_not, ↓reduceIte, true_and, and_true, and_self, decide_true, decide_false, not_false_eq_true, not_true_eq_false, eq_self]
    refine ⟨_, _, _, rfl, .inl ⟨_, rfl⟩, .inl ⟨_, rfl⟩, .inl ⟨_, rfl⟩, fun _ => ?_, fun v e => by rw [bad_ok m0 m1 p0 p1 f0 f1] at e; cases e⟩
    refine ⟨v, r, rfl, hv, wl, fun H1 n1 => ?_⟩
    simp only [onI_i, onB_b, onR_r, onT_t, onO_s, onS_s, onV_s, ↓tVar_e, ↓tC_e, ↓tNil_e, ↓tCons_e, ↓tCB_e, ↓tOp_e, ↓rI_e, ↓rI0_e, ↓tUn_e, ↓rU_e, ↓rEq_e, ↓rNe_e, scal_ii, scal_ss, scal_bb, ↓tAndV_e, ↓tOrV_e, ↓tNotV_e, ↓tAnd_e, ↓tOr_e, ↓tNot_e, ↓tTest_e, ↓tB_e, ↓tIf_e, ↓tChain_e, ↓tSeq_e, ↓tNext_e, ↓tBreak_e, ↓tCont_e, ↓tDrop_e, ↓tRet_e, ↓tRetN_e, ↓tIfS_e, ↓tAsg_e, ↓gName_e, onL2_e, ↓tPar_e2, onCons_e, ↓gNil_e, ↓gCons_e, ↓tTup_e, ↓tTupF_e, ↓tLst_e, ↓tFld_e, ↓sFld_e, ↓sFldAug_e, ↓rAdd_e, ↓rSub_e, ↓tCall_e, ↓tProp_e, ↓tRaiseAsk_e, ↓getSp_e, ↓tMeth_e, ↓tMake_e, ↓rRep_e, ↓rCat_e, ↓tSl_e, ↓tNoPart_e, ↓tPart_e, ↓tYes_e, ↓tFor_e, ↓iTup_e, ↓iList_e, onL1_e, ↓iRng1_e, ↓iRng2_e, ↓iEnT_e, ↓tLc_e, ↓start_e, onD_s, onLst_s, ↓tApp_e, cxOf_K, upd_same, upd_upd, List.getElem?_cons_zero, List.getElem?_cons_succ, List.set_cons_zero, List.set_cons_succ, List.map_cons, List.map_nil, List.append_nil, List.cons_append, List.nil_append, List.length_cons, List.length_nil, List.replicate_succ, List.replicate_zero, Nat.reduceAdd, Nat.reduceSub, Nat.reduceLT, V.int.injEq, V.bl.injEq, V.str.injEq, V.ref.injEq, decide_eq_true_eq, Bool.not_true, Bool.not_false, Bool.false_eq_true, Bool.not_eq_true', decide_eq_false_iff_not, ↓reduceIte, true_and, and_true, and_self, decide_true, decide_false, not_false_eq_true, not_true_eq_false, eq_self]
    by_cases ok : okR r = true
    · have e0 : ¬ okR r = false := by rw [ok]; decide
      cases r with
      | none => cases ok
      | some xs =>
        obtain ⟨ws, rfl, hl⟩ := okR_ws ok
        cases hv with
        | @tup a xs e hs =>
          have eS : showsV m p f (some (ws.map wv)) = (decide (((ws.countP id : Nat) : Int) = f) && decide ((run m p (s0 m) ws).a = due m p f)) := by
            show (okR (some (ws.map wv)) && decide (((toW (ws.map wv)).countP id : Int) = f) && decide ((run m p (s0 m) (toW (ws.map wv))).a = due m p f)) = _
            rw [ok, toW_wv, Bool.true_and]
          rw [eS] at k
          simp only [onI_i, onB_b, onR_r, onT_t, onO_s, onS_s, onV_s, ↓tVar_e, ↓tC_e, ↓tNil_e, ↓tCons_e, ↓tCB_e, ↓tOp_e, ↓rI_e, ↓rI0_e, ↓tUn_e, ↓rU_e, ↓rEq_e, ↓rNe_e, scal_ii, scal_ss, scal_bb, ↓tAndV_e, ↓tOrV_e, ↓tNotV_e, ↓tAnd_e, ↓tOr_e, ↓tNot_e, ↓tTest_e, ↓tB_e, ↓tIf_e, ↓tChain_e, ↓tSeq_e, ↓tNext_e, ↓tBreak_e, ↓tCont_e, ↓tDrop_e, ↓tRet_e, ↓tRetN_e, ↓tIfS_e, ↓tAsg_e, ↓gName_e, onL2_e, ↓tPar_e2, onCons_e, ↓gNil_e, ↓gCons_e, ↓tTup_e, ↓tTupF_e, ↓tLst_e, ↓tFld_e, ↓sFld_e, ↓sFldAug_e, ↓rAdd_e, ↓rSub_e, ↓tCall_e, ↓tProp_e, ↓tRaiseAsk_e, ↓getSp_e, ↓tMeth_e, ↓tMake_e, ↓rRep_e, ↓rCat_e, ↓tSl_e, ↓tNoPart_e, ↓tPart_e, ↓tYes_e, ↓tFor_e, ↓iTup_e, ↓iList_e, onL1_e, ↓iRng1_e, ↓iRng2_e, ↓iEnT_e, ↓tLc_e, ↓start_e, onD_s, onLst_s, ↓tApp_e, cxOf_K, upd_same, upd_upd, List.getElem?_cons_zero, List.getElem?_cons_succ, List.set_cons_zero, List.set_cons_succ, List.map_cons, List.map_nil, List.append_nil, List.cons_append, List.nil_append, List.length_cons, List.length_nil, List.replicate_succ, List.replicate_zero, Nat.reduceAdd, Nat.reduceSub, Nat.reduceLT, V.int.injEq, V.bl.injEq, V.str.injEq, V.ref.injEq, decide_eq_true_eq, Bool.not_true, Bool.not_false, Bool.false_eq_true, Bool.not_eq_true', decide_eq_false_iff_not, ↓reduceIte, true_and, and_true, and_self, decide_true, decide_false, not_false_eq_true, not_true_eq_false, eq_self, e0]
          have e1 := n1.rd e
          refine ⟨⟨_, .inl e1⟩, fun D hD => ?_⟩
          refine lc_tup (K := K) (a := a) (xs := ws.map wv) (fun i H' => Nx B [] H H' ∧ ∃ acc, H' D = some (.lst acc) ∧ acc.length = (ws.take i).countP id)
            ⟨n1.new hD, _, upd_same, rfl⟩ (fun i H' _ ⟨n, _⟩ => n.sqT (.inl e)) ?_ ?_
          · rintro i x H' hi ⟨n, acc, ha, hc⟩
            obtain ⟨b, hb, rfl⟩ := wv_get hi
            have et := take_more hb
            have hacc : acc.length < sizeLine := by
              have h1 : (ws.take i).countP id ≤ (ws.take i).length := List.countP_le_length
              rw [List.length_take] at h1
              rw [hc, sizeLine_eq]
              omega
            have hD0 : H D = none := n1.none_of hD
            cases b with
            | true =>
              simp only [onI_i, onB_b, onR_r, onT_t, onO_s, onS_s, onV_s, ↓tVar_e, ↓tC_e, ↓tNil_e, ↓tCons_e, ↓tCB_e, ↓tOp_e, ↓rI_e, ↓rI0_e, ↓tUn_e, ↓rU_e, ↓rEq_e, ↓rNe_e, scal_ii, scal_ss, scal_bb, ↓tAndV_e, ↓tOrV_e, ↓tNotV_e, ↓tAnd_e, ↓tOr_e, ↓tNot_e, ↓tTest_e, ↓tB_e, ↓tIf_e, ↓tChain_e, ↓tSeq_e, ↓tNext_e, ↓tBreak_e, ↓tCont_e, ↓tDrop_e, ↓tRet_e, ↓tRetN_e, ↓tIfS_e, ↓tAsg_e, ↓gName_e, onL2_e, ↓tPar_e2, onCons_e, ↓gNil_e, ↓gCons_e, ↓tTup_e, ↓tTupF_e, ↓tLst_e, ↓tFld_e, ↓sFld_e, ↓sFldAug_e, ↓rAdd_e, ↓rSub_e, ↓tCall_e, ↓tProp_e, ↓tRaiseAsk_e, ↓getSp_e, ↓tMeth_e, ↓tMake_e, ↓rRep_e, ↓rCat_e, ↓tSl_e, ↓tNoPart_e, ↓tPart_e, ↓tYes_e, ↓tFor_e, ↓iTup_e, ↓iList_e, onL1_e, ↓iRng1_e, ↓iRng2_e, ↓iEnT_e, ↓tLc_e, ↓start_e, onD_s, onLst_s, ↓tApp_e, cxOf_K, upd_same, upd_upd, List.getElem?_cons_zero, List.getElem?_cons_succ, List.set_cons_zero, List.set_cons_succ, List.map_cons, List.map_nil, List.append_nil, List.cons_append, List.nil_append, List.length_cons, List.length_nil, List.replicate_succ, List.replicate_zero, Nat.reduceAdd, Nat.reduceSub, Nat.reduceLT, V.int.injEq, V.bl.injEq, V.str.injEq, V.ref.injEq, decide_eq_true_eq, Bool.not_true, Bool.not_false, Bool.false_eq_true, Bool.not_eq_true', decide_eq_false_iff_not, ↓reduceIte, true_and, and_true, and_self, decide_true, decide_false, not_false_eq_true, not_true_eq_false, eq_self, wv_first, wipe]
              refine ⟨acc, ha, hacc, n.wr (.inr hD0) ha rfl, _, rfl, ?_⟩
              rw [et, List.countP_append, List.length_append, hc]
              rfl
            | false =>
              simp only [onI_i, onB_b, onR_r, onT_t, onO_s, onS_s, onV_s, ↓tVar_e, ↓tC_e, ↓tNil_e, ↓tCons_e, ↓tCB_e, ↓tOp_e, ↓rI_e, ↓rI0_e, ↓tUn_e, ↓rU_e, ↓rEq_e, ↓rNe_e, scal_ii, scal_ss, scal_bb, ↓tAndV_e, ↓tOrV_e, ↓tNotV_e, ↓tAnd_e, ↓tOr_e, ↓tNot_e, ↓tTest_e, ↓tB_e, ↓tIf_e, ↓tChain_e, ↓tSeq_e, ↓tNext_e, ↓tBreak_e, ↓tCont_e, ↓tDrop_e, ↓tRet_e, ↓tRetN_e, ↓tIfS_e, ↓tAsg_e, ↓gName_e, onL2_e, ↓tPar_e2, onCons_e, ↓gNil_e, ↓gCons_e, ↓tTup_e, ↓tTupF_e, ↓tLst_e, ↓tFld_e, ↓sFld_e, ↓sFldAug_e, ↓rAdd_e, ↓rSub_e, ↓tCall_e, ↓tProp_e, ↓tRaiseAsk_e, ↓getSp_e, ↓tMeth_e, ↓tMake_e, ↓rRep_e, ↓rCat_e, ↓tSl_e, ↓tNoPart_e, ↓tPart_e, ↓tYes_e, ↓tFor_e, ↓iTup_e, ↓iList_e, onL1_e, ↓iRng1_e, ↓iRng2_e, ↓iEnT_e, ↓tLc_e, ↓start_e, onD_s, onLst_s, ↓tApp_e, cxOf_K, upd_same, upd_upd, List.getElem?_cons_zero, List.getElem?_cons_succ, List.set_cons_zero, List.set_cons_succ, List.map_cons, List.map_nil, List.append_nil, List.cons_append, List.nil_append, List.length_cons, List.length_nil, List.replicate_succ, List.replicate_zero, Nat.reduceAdd, Nat.reduceSub, Nat.reduceLT, V.int.injEq, V.bl.injEq, V.str.injEq, V.ref.injEq, decide_eq_true_eq, Bool.not_true, Bool.not_false, Bool.false_eq_true, Bool.not_eq_true', decide_eq_false_iff_not, ↓reduceIte, true_and, and_true, and_self, decide_true, decide_false, not_false_eq_true, not_true_eq_false, eq_self, wv_first, wipe, str_fa]
              refine ⟨n, acc, ha, ?_⟩
              rw [et, List.countP_append, hc]
              rfl
          · rintro H' ⟨n, acc, ha, hc⟩
            rw [List.length_map, List.take_length] at hc
            refine ⟨D, acc, rfl, .inl (SqL.of ha), ?_⟩
            rw [hc]
            by_cases hf : ((ws.countP id : Nat) : Int) = f
            · simp only [onI_i, onB_b, onR_r, onT_t, onO_s, onS_s, onV_s, ↓tVar_e, ↓tC_e, ↓tNil_e, ↓tCons_e, ↓tCB_e, ↓tOp_e, ↓rI_e, ↓rI0_e, ↓tUn_e, ↓rU_e, ↓rEq_e, ↓rNe_e, scal_ii, scal_ss, scal_bb, ↓tAndV_e, ↓tOrV_e, ↓tNotV_e, ↓tAnd_e, ↓tOr_e, ↓tNot_e, ↓tTest_e, ↓tB_e, ↓tIf_e, ↓tChain_e, ↓tSeq_e, ↓tNext_e, ↓tBreak_e, ↓tCont_e, ↓tDrop_e, ↓tRet_e, ↓tRetN_e, ↓tIfS_e, ↓tAsg_e, ↓gName_e, onL2_e, ↓tPar_e2, onCons_e, ↓gNil_e, ↓gCons_e, ↓tTup_e, ↓tTupF_e, ↓tLst_e, ↓tFld_e, ↓sFld_e, ↓sFldAug_e, ↓rAdd_e, ↓rSub_e, ↓tCall_e, ↓tProp_e, ↓tRaiseAsk_e, ↓getSp_e, ↓tMeth_e, ↓tMake_e, ↓rRep_e, ↓rCat_e, ↓tSl_e, ↓tNoPart_e, ↓tPart_e, ↓tYes_e, ↓tFor_e, ↓iTup_e, ↓iList_e, onL1_e, ↓iRng1_e, ↓iRng2_e, ↓iEnT_e, ↓tLc_e, ↓start_e, onD_s, onLst_s, ↓tApp_e, cxOf_K, upd_same, upd_upd, List.getElem?_cons_zero, List.getElem?_cons_succ, List.set_cons_zero, List.set_cons_succ, List.map_cons, List.map_nil, List.append_nil, List.cons_append, List.nil_append, List.length_cons, List.length_nil, List.replicate_succ, List.replicate_zero, Nat.reduceAdd, Nat.reduceSub, Nat.reduceLT, V.int.injEq, V.bl.injEq, V.str.injEq, V.ref.injEq, decide_eq_true_eq, Bool.not_true, Bool.not_false, Bool.false_eq_true, Bool.not_eq_true', decide_eq_false_iff_not, ↓reduceIte, true_and, and_true, and_self, decide_true, decide_false, not_false_eq_true, not_true_eq_false, eq_self, hf]
              simp only [hf, decide_true, Bool.true_and] at k
              intro x dx hx hdx hne
              refine ⟨x, dx, m, p, rfl, upd_same, m0, m1, p0, p1, ?_⟩
              simp only [onI_i, onB_b, onR_r, onT_t, onO_s, onS_s, onV_s, ↓tVar_e, ↓tC_e, ↓tNil_e, ↓tCons_e, ↓tCB_e, ↓tOp_e, ↓rI_e, ↓rI0_e, ↓tUn_e, ↓rU_e, ↓rEq_e, ↓rNe_e, scal_ii, scal_ss, scal_bb, ↓tAndV_e, ↓tOrV_e, ↓tNotV_e, ↓tAnd_e, ↓tOr_e, ↓tNot_e, ↓tTest_e, ↓tB_e, ↓tIf_e, ↓tChain_e, ↓tSeq_e, ↓tNext_e, ↓tBreak_e, ↓tCont_e, ↓tDrop_e, ↓tRet_e, ↓tRetN_e, ↓tIfS_e, ↓tAsg_e, ↓gName_e, onL2_e, ↓tPar_e2, onCons_e, ↓gNil_e, ↓gCons_e, ↓tTup_e, ↓tTupF_e, ↓tLst_e, ↓tFld_e, ↓sFld_e, ↓sFldAug_e, ↓rAdd_e, ↓rSub_e, ↓tCall_e, ↓tProp_e, ↓tRaiseAsk_e, ↓getSp_e, ↓tMeth_e, ↓tMake_e, ↓rRep_e, ↓rCat_e, ↓tSl_e, ↓tNoPart_e, ↓tPart_e, ↓tYes_e, ↓tFor_e, ↓iTup_e, ↓iList_e, onL1_e, ↓iRng1_e, ↓iRng2_e, ↓iEnT_e, ↓tLc_e, ↓start_e, onD_s, onLst_s, ↓tApp_e, cxOf_K, upd_same, upd_upd, List.getElem?_cons_zero, List.getElem?_cons_succ, List.set_cons_zero, List.set_cons_succ, List.map_cons, List.map_nil, List.append_nil, List.cons_append, List.nil_append, List.length_cons, List.length_nil, List.replicate_succ, List.replicate_zero, Nat.reduceAdd, Nat.reduceSub, Nat.reduceLT, V.int.injEq, V.bl.injEq, V.str.injEq, V.ref.injEq, decide_eq_true_eq, Bool.not_true, Bool.not_false, Bool.false_eq_true, Bool.not_eq_true', decide_eq_false_iff_not, ↓reduceIte, true_and, and_true, and_self, decide_true, decide_false, not_false_eq_true, not_true_eq_false, eq_self]
              have n2 := Nx.purse (C := cP) (fs := pfs m p m 0 0) n hx hdx hne
              refine ⟨x, a, dx, m, p, s0 m, ws, rfl, upd_same, p0, .inl (n2.rd e), hl, n2.wl, fun H3 l n3 hl3 hq3 _ => ?_⟩
              have hx0 : H x = none := n.none_of hx
              have n4 : Nx B [] H H3 := n2.trans n3 fun b hb => .inr (by rw [List.mem_singleton.mp hb]; exact hx0)
              unfold pf at hq3
              simp only [onI_i, onB_b, onR_r, onT_t, onO_s, onS_s, onV_s, ↓tVar_e, ↓tC_e, ↓tNil_e, ↓tCons_e, ↓tCB_e, ↓tOp_e, ↓rI_e, ↓rI0_e, ↓tUn_e, ↓rU_e, ↓rEq_e, ↓rNe_e, scal_ii, scal_ss, scal_bb, ↓tAndV_e, ↓tOrV_e, ↓tNotV_e, ↓tAnd_e, ↓tOr_e, ↓tNot_e, ↓tTest_e, ↓tB_e, ↓tIf_e, ↓tChain_e, ↓tSeq_e, ↓tNext_e, ↓tBreak_e, ↓tCont_e, ↓tDrop_e, ↓tRet_e, ↓tRetN_e, ↓tIfS_e, ↓tAsg_e, ↓gName_e, onL2_e, ↓tPar_e2, onCons_e, ↓gNil_e, ↓gCons_e, ↓tTup_e, ↓tTupF_e, ↓tLst_e, ↓tFld_e, ↓sFld_e, ↓sFldAug_e, ↓rAdd_e, ↓rSub_e, ↓tCall_e, ↓tProp_e, ↓tRaiseAsk_e, ↓getSp_e, ↓tMeth_e, ↓tMake_e, ↓rRep_e, ↓rCat_e, ↓tSl_e, ↓tNoPart_e, ↓tPart_e, ↓tYes_e, ↓tFor_e, ↓iTup_e, ↓iList_e, onL1_e, ↓iRng1_e, ↓iRng2_e, ↓iEnT_e, ↓tLc_e, ↓start_e, onD_s, onLst_s, ↓tApp_e, cxOf_K, upd_same, upd_upd, List.getElem?_cons_zero, List.getElem?_cons_succ, List.set_cons_zero, List.set_cons_succ, List.map_cons, List.map_nil, List.append_nil, List.cons_append, List.nil_append, List.length_cons, List.length_nil, List.replicate_succ, List.replicate_zero, Nat.reduceAdd, Nat.reduceSub, Nat.reduceLT, V.int.injEq, V.bl.injEq, V.str.injEq, V.ref.injEq, decide_eq_true_eq, Bool.not_true, Bool.not_false, Bool.false_eq_true, Bool.not_eq_true', decide_eq_false_iff_not, ↓reduceIte, true_and, and_true, and_self, decide_true, decide_false, not_false_eq_true, not_true_eq_false, eq_self, hq3, pfs_anew]
              refine ⟨m, p, f, rfl, p0, p1, ?_⟩
              simp only [onI_i, onB_b, onR_r, onT_t, onO_s, onS_s, onV_s, ↓tVar_e, ↓tC_e, ↓tNil_e, ↓tCons_e, ↓tCB_e, ↓tOp_e, ↓rI_e, ↓rI0_e, ↓tUn_e, ↓rU_e, ↓rEq_e, ↓rNe_e, scal_ii, scal_ss, scal_bb, ↓tAndV_e, ↓tOrV_e, ↓tNotV_e, ↓tAnd_e, ↓tOr_e, ↓tNot_e, ↓tTest_e, ↓tB_e, ↓tIf_e, ↓tChain_e, ↓tSeq_e, ↓tNext_e, ↓tBreak_e, ↓tCont_e, ↓tDrop_e, ↓tRet_e, ↓tRetN_e, ↓tIfS_e, ↓tAsg_e, ↓gName_e, onL2_e, ↓tPar_e2, onCons_e, ↓gNil_e, ↓gCons_e, ↓tTup_e, ↓tTupF_e, ↓tLst_e, ↓tFld_e, ↓sFld_e, ↓sFldAug_e, ↓rAdd_e, ↓rSub_e, ↓tCall_e, ↓tProp_e, ↓tRaiseAsk_e, ↓getSp_e, ↓tMeth_e, ↓tMake_e, ↓rRep_e, ↓rCat_e, ↓tSl_e, ↓tNoPart_e, ↓tPart_e, ↓tYes_e, ↓tFor_e, ↓iTup_e, ↓iList_e, onL1_e, ↓iRng1_e, ↓iRng2_e, ↓iEnT_e, ↓tLc_e, ↓start_e, onD_s, onLst_s, ↓tApp_e, cxOf_K, upd_same, upd_upd, List.getElem?_cons_zero, List.getElem?_cons_succ, List.set_cons_zero, List.set_cons_succ, List.map_cons, List.map_nil, List.append_nil, List.cons_append, List.nil_append, List.length_cons, List.length_nil, List.replicate_succ, List.replicate_zero, Nat.reduceAdd, Nat.reduceSub, Nat.reduceLT, V.int.injEq, V.bl.injEq, V.str.injEq, V.ref.injEq, decide_eq_true_eq, Bool.not_true, Bool.not_false, Bool.false_eq_true, Bool.not_eq_true', decide_eq_false_iff_not, ↓reduceIte, true_and, and_true, and_self, decide_true, decide_false, not_false_eq_true, not_true_eq_false, eq_self]
              exact k H3 n4
            · simp only [onI_i, onB_b, onR_r, onT_t, onO_s, onS_s, onV_s, ↓tVar_e, ↓tC_e, ↓tNil_e, ↓tCons_e, ↓tCB_e, ↓tOp_e, ↓rI_e, ↓rI0_e, ↓tUn_e, ↓rU_e, ↓rEq_e, ↓rNe_e, scal_ii, scal_ss, scal_bb, ↓tAndV_e, ↓tOrV_e, ↓tNotV_e, ↓tAnd_e, ↓tOr_e, ↓tNot_e, ↓tTest_e, ↓tB_e, ↓tIf_e, ↓tChain_e, ↓tSeq_e, ↓tNext_e, ↓tBreak_e, ↓tCont_e, ↓tDrop_e, ↓tRet_e, ↓tRetN_e, ↓tIfS_e, ↓tAsg_e, ↓gName_e, onL2_e, ↓tPar_e2, onCons_e, ↓gNil_e, ↓gCons_e, ↓tTup_e, ↓tTupF_e, ↓tLst_e, ↓tFld_e, ↓sFld_e, ↓sFldAug_e, ↓rAdd_e, ↓rSub_e, ↓tCall_e, ↓tProp_e, ↓tRaiseAsk_e, ↓getSp_e, ↓tMeth_e, ↓tMake_e, ↓rRep_e, ↓rCat_e, ↓tSl_e, ↓tNoPart_e, ↓tPart_e, ↓tYes_e, ↓tFor_e, ↓iTup_e, ↓iList_e, onL1_e, ↓iRng1_e, ↓iRng2_e, ↓iEnT_e, ↓tLc_e, ↓start_e, onD_s, onLst_s, ↓tApp_e, cxOf_K, upd_same, upd_upd, List.getElem?_cons_zero, List.getElem?_cons_succ, List.set_cons_zero, List.set_cons_succ, List.map_cons, List.map_nil, List.append_nil, List.cons_append, List.nil_append, List.length_cons, List.length_nil, List.replicate_succ, List.replicate_zero, Nat.reduceAdd, Nat.reduceSub, Nat.reduceLT, V.int.injEq, V.bl.injEq, V.str.injEq, V.ref.injEq, decide_eq_true_eq, Bool.not_true, Bool.not_false, Bool.false_eq_true, Bool.not_eq_true', decide_eq_false_iff_not, ↓reduceIte, true_and, and_true, and_self, decide_true, decide_false, not_false_eq_true, not_true_eq_false, eq_self, hf]
              simp only [hf, decide_false, Bool.false_and] at k
              exact k H' n
    · have e0 : okR r = false := by
        cases q : okR r with
        | true => exact absurd q ok
        | false => rfl
      simp only [onI_i, onB_b, onR_r, onT_t, onO_s, onS_s, onV_s, ↓tVar_e, ↓tC_e, ↓tNil_e, ↓tCons_e, ↓tCB_e, ↓tOp_e, ↓rI_e, ↓rI0_e, ↓tUn_e, ↓rU_e, ↓rEq_e, ↓rNe_e, scal_ii, scal_ss, scal_bb, ↓tAndV_e, ↓tOrV_e, ↓tNotV_e, ↓tAnd_e, ↓tOr_e, ↓tNot_e, ↓tTest_e, ↓tB_e, ↓tIf_e, ↓tChain_e, ↓tSeq_e, ↓tNext_e, ↓tBreak_e, ↓tCont_e, ↓tDrop_e, ↓tRet_e, ↓tRetN_e, ↓tIfS_e, ↓tAsg_e, ↓gName_e, onL2_e, ↓tPar_e2, onCons_e, ↓gNil_e, ↓gCons_e, ↓tTup_e, ↓tTupF_e, ↓tLst_e, ↓tFld_e, ↓sFld_e, ↓sFldAug_e, ↓rAdd_e, ↓rSub_e, ↓tCall_e, ↓tProp_e, ↓tRaiseAsk_e, ↓getSp_e, ↓tMeth_e, ↓tMake_e, ↓rRep_e, ↓rCat_e, ↓tSl_e, ↓tNoPart_e, ↓tPart_e, ↓tYes_e, ↓tFor_e, ↓iTup_e, ↓iList_e, onL1_e, ↓iRng1_e, ↓iRng2_e, ↓iEnT_e, ↓tLc_e, ↓start_e, onD_s, onLst_s, ↓tApp_e, cxOf_K, upd_same, upd_upd, List.getElem?_cons_zero, List.getElem?_cons_succ, List.set_cons_zero, List.set_cons_succ, List.map_cons, List.map_nil, List.append_nil, List.cons_append, List.nil_append, List.length_cons, List.length_nil, List.replicate_succ, List.replicate_zero, Nat.reduceAdd, Nat.reduceSub, Nat.reduceLT, V.int.injEq, V.bl.injEq, V.str.injEq, V.ref.injEq, decide_eq_true_eq, Bool.not_true, Bool.not_false, Bool.false_eq_true, Bool.not_eq_true', decide_eq_false_iff_not, ↓reduceIte, true_and, and_true, and_self, decide_true, decide_false, not_false_eq_true, not_true_eq_false, eq_self, e0]
      have eS : showsV m p f r = false := by
        cases r with
        | none => rfl
        | some xs =>
          show (okR (some xs) && _ && _) = false
          rw [e0]
          rfl
      rw [eS] at k
      exact k H1 n1
/-! ### lets_all, least_most -/
def allB (m p : Int) (ws : List Bool) : Bool := (outs m p (s0 m) ws).all id
def spAll (K : PySem.W.Frag) (B : Tb) : Sp := fun vs H Q _ => ∃ m p a ws, vs = [.int m, .int p, .ref a] ∧ 0 ≤ m ∧ m ≤ 1000 ∧ 1 ≤ p ∧ p ≤ 1000 ∧ SqT K H a (ws.map wv) ∧ ws.length ≤ 4000 ∧ Wl B H ∧ ∀ H', Nx B [] H H' → Q (.bl (allB m p ws)) H'
theorem sc24 : FnScope ["most", "per", "row"] ["most", "per", "row"] (defScope (top 24)) := ⟨rfl, rfl, rfl, by decide +kernel, rfl, by decide +kernel, by decide +kernel⟩
theorem ok_all (T : Tx P K mg base cP AE BN BR B c0 P0) : Dfn P w K mg base "lets_all" 8 ["most", "per", "row"] (spAll K B) := by
  have M0 : Mkr P w K mg base cP 5 _ _ := mkr_of (ok_init T.t) T.t.mkC T.t.kp
  have D3 : Dfn P w K mg base "told_by" 3 _ _ := ok_told T
  refine dfn_mk T.d24 sc24 (fun _ _ _ _ _ _ us hl => match us, hl with | [_, _, _], _ => rfl) (fun vs H Q E h => ?_) (fun f cdv A outer s H vs Q E hr hc h => ?_)
  · obtain ⟨a, b, c, d, rfl, _⟩ := h
    rfl
  · obtain ⟨m, p, a, ws, rfl, m0, m1, p0, p1, ha, hl, wl, k⟩ := h
    refine ⟨_, pss_one (ps_ret (pe_callB (cr_all rfl) rfl T.t.ball PyProof.Rows.boot_all (pa_cons (pe_dfn D3 (hr.mono (by decide)) rfl passL (pa_cons (pe_mkr M0 (hr.mono (by decide)) rfl T.t.mgP passL (pa_cons (pv 0) (pa_cons (pv 1) pa_nil))) (pa_cons (pv 2) pa_nil))) pa_nil))), ?_⟩
    simp only [onI_i, onB_b, onR_r, onT_t, onO_s, onS_s, onV_s, ↓tVar_e, ↓tC_e, ↓tNil_e, ↓tCons_e, ↓tCB_e, ↓tOp_e, ↓rI_e, ↓rI0_e, ↓tUn_e, ↓rU_e, ↓rEq_e, ↓rNe_e, scal_ii, scal_ss, scal_bb, ↓tAndV_e, ↓tOrV_e, ↓tNotV_e, ↓tAnd_e, ↓tOr_e, ↓tNot_e, ↓tTest_e, ↓tB_e, ↓tIf_e, ↓tChain_e, ↓tSeq_e, ↓tNext_e, ↓tBreak_e, ↓tCont_e, ↓tDrop_e, ↓tRet_e, ↓tRetN_e, ↓tIfS_e, ↓tAsg_e, ↓gName_e, onL2_e, ↓tPar_e2, onCons_e, ↓gNil_e, ↓gCons_e, ↓tTup_e, ↓tTupF_e, ↓tLst_e, ↓tFld_e, ↓sFld_e, ↓sFldAug_e, ↓rAdd_e, ↓rSub_e, ↓tCall_e, ↓tProp_e, ↓tRaiseAsk_e, ↓getSp_e, ↓tMeth_e, ↓tMake_e, ↓rRep_e, ↓rCat_e, ↓tSl_e, ↓tNoPart_e, ↓tPart_e, ↓tYes_e, ↓tFor_e, ↓iTup_e, ↓iList_e, onL1_e, ↓iRng1_e, ↓iRng2_e, ↓iEnT_e, ↓tLc_e, ↓start_e, onD_s, onLst_s, ↓tApp_e, cxOf_K, upd_same, upd_upd, List.getElem?_cons_zero, List.getElem?_cons_succ, List.set_cons_zero, List.set_cons_succ, List.map_cons, List.map_nil, List.append_nil, List.cons_append, List.nil_append, List.length_cons, List.length_nil, List.replicate_succ, List.replicate_zero, Nat.reduceAdd, Nat.reduceSub, Nat.reduceLT, V.int.injEq, V.bl.injEq, V.str.injEq, V.ref.injEq, decide_eq_true_eq, Bool.not_true, Bool.not_false, Bool.false_eq_true, Bool.not_eq_true', decide_eq_false_iff_not, ↓reduceIte, true_and, and_true, and_self, decide_true, decide_false, not_false_eq_true, not_true_eq_false, eq_self]
    intro x dx hx hdx hne
    refine ⟨x, dx, m, p, rfl, upd_same, m0, m1, p0, p1, ?_⟩
    simp only [onI_i, onB_b, onR_r, onT_t, onO_s, onS_s, onV_s, ↓tVar_e, ↓tC_e, ↓tNil_e, ↓tCons_e, ↓tCB_e, ↓tOp_e, ↓rI_e, ↓rI0_e, ↓tUn_e, ↓rU_e, ↓rEq_e, ↓rNe_e, scal_ii, scal_ss, scal_bb, ↓tAndV_e, ↓tOrV_e, ↓tNotV_e, ↓tAnd_e, ↓tOr_e, ↓tNot_e, ↓tTest_e, ↓tB_e, ↓tIf_e, ↓tChain_e, ↓tSeq_e, ↓tNext_e, ↓tBreak_e, ↓tCont_e, ↓tDrop_e, ↓tRet_e, ↓tRetN_e, ↓tIfS_e, ↓tAsg_e, ↓gName_e, onL2_e, ↓tPar_e2, onCons_e, ↓gNil_e, ↓gCons_e, ↓tTup_e, ↓tTupF_e, ↓tLst_e, ↓tFld_e, ↓sFld_e, ↓sFldAug_e, ↓rAdd_e, ↓rSub_e, ↓tCall_e, ↓tProp_e, ↓tRaiseAsk_e, ↓getSp_e, ↓tMeth_e, ↓tMake_e, ↓rRep_e, ↓rCat_e, ↓tSl_e, ↓tNoPart_e, ↓tPart_e, ↓tYes_e, ↓tFor_e, ↓iTup_e, ↓iList_e, onL1_e, ↓iRng1_e, ↓iRng2_e, ↓iEnT_e, ↓tLc_e, ↓start_e, onD_s, onLst_s, ↓tApp_e, cxOf_K, upd_same, upd_upd, List.getElem?_cons_zero, List.getElem?_cons_succ, List.set_cons_zero, List.set_cons_succ, List.map_cons, List.map_nil, List.append_nil, List.cons_append, List.nil_append, List.length_cons, List.length_nil, List.replicate_succ, List.replicate_zero, Nat.reduceAdd, Nat.reduceSub, Nat.reduceLT, V.int.injEq, V.bl.injEq, V.str.injEq, V.ref.injEq, decide_eq_true_eq, Bool.not_true, Bool.not_false, Bool.false_eq_true, Bool.not_eq_true', decide_eq_false_iff_not, ↓reduceIte, true_and, and_true, and_self, decide_true, decide_false, not_false_eq_true, not_true_eq_false, eq_self]
    have n2 := Nx.purse (C := cP) (fs := pfs m p m 0 0) (Nx.refl (ws := []) wl) hx hdx hne
    refine ⟨x, a, dx, m, p, s0 m, ws, rfl, upd_same, p0, n2.sqT ha, hl, n2.wl, fun H3 l n3 hl3 hq3 hl4 => ?_⟩
    have n4 : Nx B [] H H3 := n2.trans n3 fun b hb => .inr (by rw [List.mem_singleton.mp hb]; exact hx)
    exact ⟨l, _, rfl, SqL.of hl4, k H3 n4⟩
/-- what least_most may tell -/
def LeastV (p : Int) (ws : List Bool) (v : V) : Prop := (v = .non ∧ allB 1000 p ws = false) ∨ ∃ low, v = .int low ∧ 0 ≤ low ∧ low ≤ 1000 ∧ allB low p ws = true ∧ (low = 0 ∨ allB (low - 1) p ws = false)
def spLeast (K : PySem.W.Frag) (BR : Addr) (B : Tb) : Sp := fun vs H Q E => ∃ p a xs, vs = [.int p, .ref a] ∧ 1 ≤ p ∧ p ≤ 1000 ∧ Rd H a (.tup xs) ∧ (∀ x ∈ xs, GxT.StrInt x) ∧ Wl B H ∧
  (∀ ws : List Bool, xs = ws.map wv → ws.length ≤ 4000 → ∀ H' v, Nx B [] H H' → LeastV p ws v → Q v H') ∧
  (okR (some xs) = false → ∀ H' d, Nx B [] H H' → H' d = none → E (.ref BR) (some d) (upd H' d (.xd [(("value" : Str), .ref a)])))
theorem sc25 : FnScope ["per", "row", "low", "high", "middle"] ["per", "row"] (defScope (top 25)) := ⟨rfl, rfl, rfl, by decide +kernel, rfl, by decide +kernel, by decide +kernel⟩
theorem ok_least (T : Tx P K mg base cP AE BN BR B c0 P0) : Dfn P w K mg base "least_most" 10 ["per", "row"] (spLeast K BR B) := by
  have D6 : Dfn P w K mg base "check_number" 3 _ _ := ok_chk T.t
  have D1 : Dfn P w K mg base "check_row" 3 _ _ := ok_ckrow T
  have D2 : Dfn P w K mg base "lets_all" 8 _ _ := ok_all T
  refine dfn_mk T.d25 sc25 (fun _ _ _ _ _ _ us hl => match us, hl with | [_, _], _ => rfl) (fun vs H Q E h => ?_) (fun f cdv A outer s H vs Q E hr hc h => ?_)
  · obtain ⟨a, b, c, rfl, _⟩ := h
    rfl
  · obtain ⟨p, a, xs, rfl, p0, p1, ha, hs, wl, k1, k2⟩ := h
    obtain ⟨tc, gC⟩ := T.t.gC
    obtain ⟨tp, gP⟩ := T.t.gP
    refine ⟨_, pss_cons (ps_expr (pe_dfn D6 (hr.mono (by decide)) rfl passE (pa_cons (pv 0) (pa_cons pe_int (pa_cons (pe_glob (v := .int 1000) rfl gP ⟨_, rfl⟩) pa_nil)))))
      (pss_cons (ps_expr (pe_dfn D1 (hr.mono (by decide)) rfl passE (pa_cons (pv 1) pa_nil)))
      (pss_cons (ps_if (pt_not (pt_val (pe_dfn D2 (hr.mono (by decide)) rfl passL (pa_cons (pe_glob (v := .int 1000) rfl gC ⟨_, rfl⟩) (pa_cons (pv 0) (pa_cons (pv 1) pa_nil)))))) (pss_one (ps_ret pe_non)) pss_nil)
      (pss_cons (ps_par (i := 2) (j := 3) rfl sc25.nd rfl rfl (by decide) rfl rfl (pa_cons pe_int (pa_cons (pe_glob (v := .int 1000) rfl gC ⟨_, rfl⟩) pa_nil)) (by rfl))
      (pss_cons (ps_while passO (pt_cmpR op_lt (pv 2) (pv 3) (nomark _)) (pss_cons (ps_set (i := 4) sc25.nd rfl (Or.inl rfl) (pe_op op_fdiv (pe_op op_add (pv 2) (pv 3)) pe_int))
        (pss_one (ps_if (pt_val (pe_dfn D2 (hr.mono (by decide)) rfl passL (pa_cons (pv 4) (pa_cons (pv 0) (pa_cons (pv 1) pa_nil))))) (pss_one (ps_set (i := 3) sc25.nd rfl (Or.inl rfl) (pv 4))) (pss_one (ps_set (i := 2) sc25.nd rfl (Or.inl rfl) (pe_op op_add (pv 4) pe_int)))))))
      (pss_one (ps_ret (pv 2))))))), ?_⟩
    have e1 : okN (.int p) 1 1000 = true := by simp [okN]; omega
    simp only [onI_i, onB_b, onR_r, onT_t, onO_s, onS_s, onV_s, ↓tVar_e, ↓tC_e, ↓tNil_e, ↓tCons_e, ↓tCB_e, ↓tOp_e, ↓rI_e, ↓rI0_e, ↓tUn_e, ↓rU_e, ↓rEq_e, ↓rNe_e, scal_ii, scal_ss, scal_bb, ↓tAndV_e, ↓tOrV_e, ↓tNotV_e, ↓tAnd_e, ↓tOr_e, ↓tNot_e, ↓tTest_e, ↓tB_e, ↓tIf_e, ↓tChain_e, ↓tSeq_e, ↓tNext_e, ↓tBreak_e, ↓tCont_e, ↓tDrop_e, ↓tRet_e, ↓tRetN_e, ↓tIfS_e, ↓tAsg_e, ↓gName_e, onL2_e, ↓tPar_e2, onCons_e, ↓gNil_e, ↓gCons_e, ↓tTup_e, ↓tTupF_e, ↓tLst_e, ↓tFld_e, ↓sFld_e, ↓sFldAug_e, ↓rAdd_e, ↓rSub_e, ↓tCall_e, ↓tProp_e, ↓tRaiseAsk_e, ↓getSp_e, ↓tMeth_e, ↓tMake_e, ↓rRep_e, ↓rCat_e, ↓tSl_e, ↓tNoPart_e, ↓tPart_e, ↓tYes_e, ↓tFor_e, ↓iTup_e, ↓iList_e, onL1_e, ↓iRng1_e, ↓iRng2_e, ↓iEnT_e, ↓tLc_e, ↓start_e, onD_s, onLst_s, ↓tApp_e, cxOf_K, upd_same, upd_upd, List.getElem?_cons_zero, List.getElem?_cons_succ, List.set_cons_zero, List.set_cons_succ, List.map_cons, List.map_nil, List.append_nil, List.cons_append, List.nil_append, List.length_cons, List.length_nil, List.replicate_succ, List.replicate_zero, Nat.reduceAdd, Nat.reduceSub, Nat.reduceLT, V.int.injEq, V.bl.injEq, V.str.injEq, V.ref.injEq, decide_eq_true_eq, Bool.not_true, Bool.not_false, Bool.false_eq_true, Bool.not_eq_true', decide_eq_false_iff_not, ↓reduceIte, true_and, and_true, and_self, decide_true, decide_false, not_false_eq_true, not_true_eq_false, eq_self]
    refine ⟨_, _, _, rfl, .inl ⟨_, rfl⟩, fun _ => ?_, fun e => by rw [e1] at e; cases e⟩
    refine ⟨a, xs, rfl, ha, hs, wl, fun ok H1 n1 => ?_, k2⟩
    obtain ⟨ws, rfl, hl⟩ := okR_ws ok
    have kk := k1 ws rfl hl
    refine ⟨1000, p, a, ws, rfl, by omega, by omega, p0, p1, .inl (n1.rd ha), hl, n1.wl, fun H2 n2 => ?_⟩
    have n12 := n1.trans0 n2
    cases e : allB 1000 p ws with
    | false =>
      simp only [onI_i, onB_b, onR_r, onT_t, onO_s, onS_s, onV_s, ↓tVar_e, ↓tC_e, ↓tNil_e, ↓tCons_e, ↓tCB_e, ↓tOp_e, ↓rI_e, ↓rI0_e, ↓tUn_e, ↓rU_e, ↓rEq_e, ↓rNe_e, scal_ii, scal_ss, scal_bb, ↓tAndV_e, ↓tOrV_e, ↓tNotV_e, ↓tAnd_e, ↓tOr_e, ↓tNot_e, ↓tTest_e, ↓tB_e, ↓tIf_e, ↓tChain_e, ↓tSeq_e, ↓tNext_e, ↓tBreak_e, ↓tCont_e, ↓tDrop_e, ↓tRet_e, ↓tRetN_e, ↓tIfS_e, ↓tAsg_e, ↓gName_e, onL2_e, ↓tPar_e2, onCons_e, ↓gNil_e, ↓gCons_e, ↓tTup_e, ↓tTupF_e, ↓tLst_e, ↓tFld_e, ↓sFld_e, ↓sFldAug_e, ↓rAdd_e, ↓rSub_e, ↓tCall_e, ↓tProp_e, ↓tRaiseAsk_e, ↓getSp_e, ↓tMeth_e, ↓tMake_e, ↓rRep_e, ↓rCat_e, ↓tSl_e, ↓tNoPart_e, ↓tPart_e, ↓tYes_e, ↓tFor_e, ↓iTup_e, ↓iList_e, onL1_e, ↓iRng1_e, ↓iRng2_e, ↓iEnT_e, ↓tLc_e, ↓start_e, onD_s, onLst_s, ↓tApp_e, cxOf_K, upd_same, upd_upd, List.getElem?_cons_zero, List.getElem?_cons_succ, List.set_cons_zero, List.set_cons_succ, List.map_cons, List.map_nil, List.append_nil, List.cons_append, List.nil_append, List.length_cons, List.length_nil, List.replicate_succ, List.replicate_zero, Nat.reduceAdd, Nat.reduceSub, Nat.reduceLT, V.int.injEq, V.bl.injEq, V.str.injEq, V.ref.injEq, decide_eq_true_eq, Bool.not_true, Bool.not_false, Bool.false_eq_true, Bool.not_eq_true', decide_eq_false_iff_not, ↓reduceIte, true_and, and_true, and_self, decide_true, decide_false, not_false_eq_true, not_true_eq_false, eq_self]
      exact kk H2 _ n12 (.inl ⟨rfl, e⟩)
    | true =>
      simp only [onI_i, onB_b, onR_r, onT_t, onO_s, onS_s, onV_s, ↓tVar_e, ↓tC_e, ↓tNil_e, ↓tCons_e, ↓tCB_e, ↓tOp_e, ↓rI_e, ↓rI0_e, ↓tUn_e, ↓rU_e, ↓rEq_e, ↓rNe_e, scal_ii, scal_ss, scal_bb, ↓tAndV_e, ↓tOrV_e, ↓tNotV_e, ↓tAnd_e, ↓tOr_e, ↓tNot_e, ↓tTest_e, ↓tB_e, ↓tIf_e, ↓tChain_e, ↓tSeq_e, ↓tNext_e, ↓tBreak_e, ↓tCont_e, ↓tDrop_e, ↓tRet_e, ↓tRetN_e, ↓tIfS_e, ↓tAsg_e, ↓gName_e, onL2_e, ↓tPar_e2, onCons_e, ↓gNil_e, ↓gCons_e, ↓tTup_e, ↓tTupF_e, ↓tLst_e, ↓tFld_e, ↓sFld_e, ↓sFldAug_e, ↓rAdd_e, ↓rSub_e, ↓tCall_e, ↓tProp_e, ↓tRaiseAsk_e, ↓getSp_e, ↓tMeth_e, ↓tMake_e, ↓rRep_e, ↓rCat_e, ↓tSl_e, ↓tNoPart_e, ↓tPart_e, ↓tYes_e, ↓tFor_e, ↓iTup_e, ↓iList_e, onL1_e, ↓iRng1_e, ↓iRng2_e, ↓iEnT_e, ↓tLc_e, ↓start_e, onD_s, onLst_s, ↓tApp_e, cxOf_K, upd_same, upd_upd, List.getElem?_cons_zero, List.getElem?_cons_succ, List.set_cons_zero, List.set_cons_succ, List.map_cons, List.map_nil, List.append_nil, List.cons_append, List.nil_append, List.length_cons, List.length_nil, List.replicate_succ, List.replicate_zero, Nat.reduceAdd, Nat.reduceSub, Nat.reduceLT, V.int.injEq, V.bl.injEq, V.str.injEq, V.ref.injEq, decide_eq_true_eq, Bool.not_true, Bool.not_false, Bool.false_eq_true, Bool.not_eq_true', decide_eq_false_iff_not, ↓reduceIte, true_and, and_true, and_self, decide_true, decide_false, not_false_eq_true, not_true_eq_false, eq_self]
      refine while_by (fun σ H' => ∃ low high v, σ = [some (.int p), some (.ref a), some (.int low), some (.int high), v] ∧ Nx B [] H H' ∧ 0 ≤ low ∧ low ≤ high ∧ high ≤ 1000 ∧ allB high p ws = true ∧ (low = 0 ∨ allB (low - 1) p ws = false))
        (fun σ _ => match σ with | [_, _, some (.int low), some (.int high), _] => (high - low).toNat | _ => 0) ⟨0, 1000, none, rfl, n12, by omega, by omega, by omega, e, .inl rfl⟩ ?_ ?_
      · rintro σ H' ⟨low, high, v, rfl, n, l0, lh, h1, eh, el⟩
        simp only [onI_i, onB_b, onR_r, onT_t, onO_s, onS_s, onV_s, ↓tVar_e, ↓tC_e, ↓tNil_e, ↓tCons_e, ↓tCB_e, ↓tOp_e, ↓rI_e, ↓rI0_e, ↓tUn_e, ↓rU_e, ↓rEq_e, ↓rNe_e, scal_ii, scal_ss, scal_bb, ↓tAndV_e, ↓tOrV_e, ↓tNotV_e, ↓tAnd_e, ↓tOr_e, ↓tNot_e, ↓tTest_e, ↓tB_e, ↓tIf_e, ↓tChain_e, ↓tSeq_e, ↓tNext_e, ↓tBreak_e, ↓tCont_e, ↓tDrop_e, ↓tRet_e, ↓tRetN_e, ↓tIfS_e, ↓tAsg_e, ↓gName_e, onL2_e, ↓tPar_e2, onCons_e, ↓gNil_e, ↓gCons_e, ↓tTup_e, ↓tTupF_e, ↓tLst_e, ↓tFld_e, ↓sFld_e, ↓sFldAug_e, ↓rAdd_e, ↓rSub_e, ↓tCall_e, ↓tProp_e, ↓tRaiseAsk_e, ↓getSp_e, ↓tMeth_e, ↓tMake_e, ↓rRep_e, ↓rCat_e, ↓tSl_e, ↓tNoPart_e, ↓tPart_e, ↓tYes_e, ↓tFor_e, ↓iTup_e, ↓iList_e, onL1_e, ↓iRng1_e, ↓iRng2_e, ↓iEnT_e, ↓tLc_e, ↓start_e, onD_s, onLst_s, ↓tApp_e, cxOf_K, upd_same, upd_upd, List.getElem?_cons_zero, List.getElem?_cons_succ, List.set_cons_zero, List.set_cons_succ, List.map_cons, List.map_nil, List.append_nil, List.cons_append, List.nil_append, List.length_cons, List.length_nil, List.replicate_succ, List.replicate_zero, Nat.reduceAdd, Nat.reduceSub, Nat.reduceLT, V.int.injEq, V.bl.injEq, V.str.injEq, V.ref.injEq, decide_eq_true_eq, Bool.not_true, Bool.not_false, Bool.false_eq_true, Bool.not_eq_true', decide_eq_false_iff_not, ↓reduceIte, true_and, and_true, and_self, decide_true, decide_false, not_false_eq_true, not_true_eq_false, eq_self]
        by_cases hlt : low < high
        · simp only [onI_i, onB_b, onR_r, onT_t, onO_s, onS_s, onV_s, ↓tVar_e, ↓tC_e, ↓tNil_e, ↓tCons_e, ↓tCB_e, ↓tOp_e, ↓rI_e, ↓rI0_e, ↓tUn_e, ↓rU_e, ↓rEq_e, ↓rNe_e, scal_ii, scal_ss, scal_bb, ↓tAndV_e, ↓tOrV_e, ↓tNotV_e, ↓tAnd_e, ↓tOr_e, ↓tNot_e, ↓tTest_e, ↓tB_e, ↓tIf_e, ↓tChain_e, ↓tSeq_e, ↓tNext_e, ↓tBreak_e, ↓tCont_e, ↓tDrop_e, ↓tRet_e, ↓tRetN_e, ↓tIfS_e, ↓tAsg_e, ↓gName_e, onL2_e, ↓tPar_e2, onCons_e, ↓gNil_e, ↓gCons_e, ↓tTup_e, ↓tTupF_e, ↓tLst_e, ↓tFld_e, ↓sFld_e, ↓sFldAug_e, ↓rAdd_e, ↓rSub_e, ↓tCall_e, ↓tProp_e, ↓tRaiseAsk_e, ↓getSp_e, ↓tMeth_e, ↓tMake_e, ↓rRep_e, ↓rCat_e, ↓tSl_e, ↓tNoPart_e, ↓tPart_e, ↓tYes_e, ↓tFor_e, ↓iTup_e, ↓iList_e, onL1_e, ↓iRng1_e, ↓iRng2_e, ↓iEnT_e, ↓tLc_e, ↓start_e, onD_s, onLst_s, ↓tApp_e, cxOf_K, upd_same, upd_upd, List.getElem?_cons_zero, List.getElem?_cons_succ, List.set_cons_zero, List.set_cons_succ, List.map_cons, List.map_nil, List.append_nil, List.cons_append, List.nil_append, List.length_cons, List.length_nil, List.replicate_succ, List.replicate_zero, Nat.reduceAdd, Nat.reduceSub, Nat.reduceLT, V.int.injEq, V.bl.injEq, V.str.injEq, V.ref.injEq, decide_eq_true_eq, Bool.not_true, Bool.not_false, Bool.false_eq_true, Bool.not_eq_true', decide_eq_false_iff_not, ↓reduceIte, true_and, and_true, and_self, decide_true, decide_false, not_false_eq_true, not_true_eq_false, eq_self, hlt]
          refine ⟨⟨by omega, by omega⟩, ?_⟩
          have hb : low ≤ (low + high) / 2 ∧ (low + high) / 2 < high := by omega
          generalize (low + high) / 2 = mid at hb ⊢
          refine ⟨mid, p, a, ws, rfl, by omega, by omega, p0, p1, .inl (n.rd ha), hl, n.wl, fun H3 n3 => ?_⟩
          have n4 := n.trans0 n3
          cases em : allB mid p ws with
          | true =>
            simp only [onI_i, onB_b, onR_r, onT_t, onO_s, onS_s, onV_s, ↓tVar_e, ↓tC_e, ↓tNil_e, ↓tCons_e, ↓tCB_e, ↓tOp_e, ↓rI_e, ↓rI0_e, ↓tUn_e, ↓rU_e, ↓rEq_e, ↓rNe_e, scal_ii, scal_ss, scal_bb, ↓tAndV_e, ↓tOrV_e, ↓tNotV_e, ↓tAnd_e, ↓tOr_e, ↓tNot_e, ↓tTest_e, ↓tB_e, ↓tIf_e, ↓tChain_e, ↓tSeq_e, ↓tNext_e, ↓tBreak_e, ↓tCont_e, ↓tDrop_e, ↓tRet_e, ↓tRetN_e, ↓tIfS_e, ↓tAsg_e, ↓gName_e, onL2_e, ↓tPar_e2, onCons_e, ↓gNil_e, ↓gCons_e, ↓tTup_e, ↓tTupF_e, ↓tLst_e, ↓tFld_e, ↓sFld_e, ↓sFldAug_e, ↓rAdd_e, ↓rSub_e, ↓tCall_e, ↓tProp_e, ↓tRaiseAsk_e, ↓getSp_e, ↓tMeth_e, ↓tMake_e, ↓rRep_e, ↓rCat_e, ↓tSl_e, ↓tNoPart_e, ↓tPart_e, ↓tYes_e, ↓tFor_e, ↓iTup_e, ↓iList_e, onL1_e, ↓iRng1_e, ↓iRng2_e, ↓iEnT_e, ↓tLc_e, ↓start_e, onD_s, onLst_s, ↓tApp_e, cxOf_K, upd_same, upd_upd, List.getElem?_cons_zero, List.getElem?_cons_succ, List.set_cons_zero, List.set_cons_succ, List.map_cons, List.map_nil, List.append_nil, List.cons_append, List.nil_append, List.length_cons, List.length_nil, List.replicate_succ, List.replicate_zero, Nat.reduceAdd, Nat.reduceSub, Nat.reduceLT, V.int.injEq, V.bl.injEq, V.str.injEq, V.ref.injEq, decide_eq_true_eq, Bool.not_true, Bool.not_false, Bool.false_eq_true, Bool.not_eq_true', decide_eq_false_iff_not, ↓reduceIte, true_and, and_true, and_self, decide_true, decide_false, not_false_eq_true, not_true_eq_false, eq_self]
            exact ⟨⟨low, mid, _, rfl, n4, l0, hb.1, by omega, em, el⟩, by omega⟩
          | false =>
            simp only [onI_i, onB_b, onR_r, onT_t, onO_s, onS_s, onV_s, ↓tVar_e, ↓tC_e, ↓tNil_e, ↓tCons_e, ↓tCB_e, ↓tOp_e, ↓rI_e, ↓rI0_e, ↓tUn_e, ↓rU_e, ↓rEq_e, ↓rNe_e, scal_ii, scal_ss, scal_bb, ↓tAndV_e, ↓tOrV_e, ↓tNotV_e, ↓tAnd_e, ↓tOr_e, ↓tNot_e, ↓tTest_e, ↓tB_e, ↓tIf_e, ↓tChain_e, ↓tSeq_e, ↓tNext_e, ↓tBreak_e, ↓tCont_e, ↓tDrop_e, ↓tRet_e, ↓tRetN_e, ↓tIfS_e, ↓tAsg_e, ↓gName_e, onL2_e, ↓tPar_e2, onCons_e, ↓gNil_e, ↓gCons_e, ↓tTup_e, ↓tTupF_e, ↓tLst_e, ↓tFld_e, ↓sFld_e, ↓sFldAug_e, ↓rAdd_e, ↓rSub_e, ↓tCall_e, ↓tProp_e, ↓tRaiseAsk_e, ↓getSp_e, ↓tMeth_e, ↓tMake_e, ↓rRep_e, ↓rCat_e, ↓tSl_e, ↓tNoPart_e, ↓tPart_e, ↓tYes_e, ↓tFor_e, ↓iTup_e, ↓iList_e, onL1_e, ↓iRng1_e, ↓iRng2_e, ↓iEnT_e, ↓tLc_e, ↓start_e, onD_s, onLst_s, ↓tApp_e, cxOf_K, upd_same, upd_upd, List.getElem?_cons_zero, List.getElem?_cons_succ, List.set_cons_zero, List.set_cons_succ, List.map_cons, List.map_nil, List.append_nil, List.cons_append, List.nil_append, List.length_cons, List.length_nil, List.replicate_succ, List.replicate_zero, Nat.reduceAdd, Nat.reduceSub, Nat.reduceLT, V.int.injEq, V.bl.injEq, V.str.injEq, V.ref.injEq, decide_eq_true_eq, Bool.not_true, Bool.not_false, Bool.false_eq_true, Bool.not_eq_true', decide_eq_false_iff_not, ↓reduceIte, true_and, and_true, and_self, decide_true, decide_false, not_false_eq_true, not_true_eq_false, eq_self]
            refine ⟨⟨mid + 1, high, _, rfl, n4, by omega, by omega, h1, eh, .inr ?_⟩, by omega⟩
            rw [show mid + 1 - 1 = mid by omega]
            exact em
        · simp only [onI_i, onB_b, onR_r, onT_t, onO_s, onS_s, onV_s, ↓tVar_e, ↓tC_e, ↓tNil_e, ↓tCons_e, ↓tCB_e, ↓tOp_e, ↓rI_e, ↓rI0_e, ↓tUn_e, ↓rU_e, ↓rEq_e, ↓rNe_e, scal_ii, scal_ss, scal_bb, ↓tAndV_e, ↓tOrV_e, ↓tNotV_e, ↓tAnd_e, ↓tOr_e, ↓tNot_e, ↓tTest_e, ↓tB_e, ↓tIf_e, ↓tChain_e, ↓tSeq_e, ↓tNext_e, ↓tBreak_e, ↓tCont_e, ↓tDrop_e, ↓tRet_e, ↓tRetN_e, ↓tIfS_e, ↓tAsg_e, ↓gName_e, onL2_e, ↓tPar_e2, onCons_e, ↓gNil_e, ↓gCons_e, ↓tTup_e, ↓tTupF_e, ↓tLst_e, ↓tFld_e, ↓sFld_e, ↓sFldAug_e, ↓rAdd_e, ↓rSub_e, ↓tCall_e, ↓tProp_e, ↓tRaiseAsk_e, ↓getSp_e, ↓tMeth_e, ↓tMake_e, ↓rRep_e, ↓rCat_e, ↓tSl_e, ↓tNoPart_e, ↓tPart_e, ↓tYes_e, ↓tFor_e, ↓iTup_e, ↓iList_e, onL1_e, ↓iRng1_e, ↓iRng2_e, ↓iEnT_e, ↓tLc_e, ↓start_e, onD_s, onLst_s, ↓tApp_e, cxOf_K, upd_same, upd_upd, List.getElem?_cons_zero, List.getElem?_cons_succ, List.set_cons_zero, List.set_cons_succ, List.map_cons, List.map_nil, List.append_nil, List.cons_append, List.nil_append, List.length_cons, List.length_nil, List.replicate_succ, List.replicate_zero, Nat.reduceAdd, Nat.reduceSub, Nat.reduceLT, V.int.injEq, V.bl.injEq, V.str.injEq, V.ref.injEq, decide_eq_true_eq, Bool.not_true, Bool.not_false, Bool.false_eq_true, Bool.not_eq_true', decide_eq_false_iff_not, ↓reduceIte, true_and, and_true, and_self, decide_true, decide_false, not_false_eq_true, not_true_eq_false, eq_self, hlt]
          have e9 : low = high := by omega
          subst e9
          exact kk H' _ n (.inr ⟨low, rfl, l0, h1, eh, el⟩)
      · intro σ H Q Q' hQ h
        obtain ⟨v, e1, u, e2, i, j, e3, e4, c, e5, q⟩ := h
        exact ⟨v, e1, u, e2, i, j, e3, e4, c, e5, hQ _ _ q⟩
end
end K49
set_option Elab.async false
set_option linter.all false
set_option maxRecDepth 100000
set_option maxHeartbeats 4000000
/-! k49: the law's pot. -/
namespace K49
open PySem PySem.Spec PyProof.Rows L2
/-- the name of a lambda in the def x -/
abbrev lq (x : Str) : Str := (x ++ ".<locals>.") ++ "<lambda>"
/-- .. of the law's own defs -/
structure Ty (P : Program) (K : PySem.W.Frag) (mg : Str → Option Value) (base : Heap) (cP AE BN BR : Addr) (B : Tb) (c0 P0 c1 P1 c2 P2 : Addr) : Prop where
  x : Tx P K mg base cP AE BN BR B c0 P0
  tab1 : LamX.TabB base mg c1 P1
  tab2 : LamX.TabB base mg c2 P2
  l1 : (P1, lq "_law_are_bounds_right") ∈ B.ls
  l2 : (P2, lq "_law_right") ∈ B.ls
  u1 : ∀ p ∈ B.ls, p.1 = P1 → p.2 = lq "_law_are_bounds_right"
  u2 : ∀ p ∈ B.ls, p.1 = P2 → p.2 = lq "_law_right"
  d27 : HasD K mg "_law_pot" (top 27) fun _ => True
  d28 : HasD K mg "_law_take" (top 28) fun _ => True
  d29 : HasD K mg "_law_of" (top 29) fun _ => True
  d30 : HasD K mg "_law_cells" (top 30) fun _ => True
  d31 : HasD K mg "_law_heard" (top 31) fun _ => True
  d32 : HasD K mg "_law_doing" (top 32) fun _ => True
  d33 : HasD K mg "_law_row" (top 33) fun _ => True
  d34 : HasD K mg "_law_is_row_right" (top 34) fun _ => True
  d35 : HasD K mg "_law_is_most_right" (top 35) fun _ => True
  d36 : HasD K mg "_law_is_least_right" (top 36) fun _ => True
  d37 : HasD K mg "_law_are_bounds_right" (top 37) fun cd => cd = .ref c1
  d38 : HasD K mg "_law_right" (top 38) fun cd => cd = .ref c2
  d39 : HasD K mg "law" (top 39) fun _ => True
section
variable {P : Program} {w : World} {K : PySem.W.Frag} {mg : Str → Option Value} {base : Heap} {cP AE BN BR : Addr} {B : Tb} {c0 P0 c1 P1 c2 P2 : Addr}
/-- a pot: own, small, how often asked (at most n times) -/
def PotAt (H : Hp) (q : Addr) (n : Int) : Prop := ∃ a b c : Int, H q = some (.lst [.int a, .int b, .int c]) ∧ 0 ≤ a ∧ 0 ≤ b ∧ b < 2305843009213693921 ∧ 0 ≤ c ∧ c ≤ n
theorem pot_ne {H : Hp} {q a : Addr} {n : Int} {xs : List V} (h : PotAt H q n) (e : Rd H a (.tup xs)) : a ≠ q := by
  obtain ⟨x, y, z, h, _⟩ := h
  rcases e with e | ⟨o, e⟩
  · exact ne_of e h (fun z => nomatch z)
  · exact ne_of e h (fun z => nomatch z)
theorem PotAt.new {H : Hp} {q p : Addr} {n : Int} {o : HO} (h : PotAt H q n) (hn : H p = none) : PotAt (upd H p o) q n := by
  obtain ⟨a, b, c, e, r⟩ := h
  exact ⟨a, b, c, by rw [upd_ne (ne_of_none e hn)]; exact e, r⟩
theorem PotAt.ne {H : Hp} {q p : Addr} {n : Int} (h : PotAt H q n) (hn : H p = none) : p ≠ q := by
  obtain ⟨a, b, c, e, r⟩ := h
  exact (ne_of_none e hn).symm
theorem PotAt.le {H : Hp} {q : Addr} {n m : Int} (h : PotAt H q n) (hn : n ≤ m) : PotAt H q m := by
  obtain ⟨a, b, c, e, r1, r2, r3, r4, r5⟩ := h
  exact ⟨a, b, c, e, r1, r2, r3, r4, by omega⟩
theorem PotAt.kept {B : Tb} {H H' : Hp} {q : Addr} {n : Int} {ws : List Addr} (h : PotAt H q n) (nx : Nx B ws H H') (hw : q ∉ ws) : PotAt H' q n := by
  obtain ⟨a, b, c, e, r⟩ := h
  exact ⟨a, b, c, nx.at e hw, r⟩
def spTake (B : Tb) : Sp := fun vs H Q _ => ∃ q u n, vs = [.ref q, .int u] ∧ PotAt H q n ∧ n ≤ 1000 ∧ 0 < u ∧ u ≤ 100000 ∧ Wl B H ∧ ∀ H' r, Nx B [q] H H' → PotAt H' q (n + 1) → 0 ≤ r → r < u → Q (.int r) H'
theorem sc28 : FnScope ["pot", "upto", "digit", "prime", "blend"] ["pot", "upto"] (defScope (top 28)) := ⟨rfl, rfl, rfl, by decide +kernel, rfl, by decide +kernel, by decide +kernel⟩
theorem ok_take (T : Ty P K mg base cP AE BN BR B c0 P0 c1 P1 c2 P2) : Dfn P w K mg base "_law_take" 1 ["pot", "upto"] (spTake B) := by
  have tI : mg "int" = none := T.x.t.bint
  refine dfn_mk T.d28 sc28 (fun _ _ _ _ _ _ us hl => match us, hl with | [_, _], _ => rfl) (fun vs H Q E h => ?_) (fun f cdv A outer s H vs Q E hr hc h => ?_)
  · obtain ⟨a, b, c, rfl, _⟩ := h
    rfl
  · obtain ⟨q, u, n, rfl, ⟨a, b, c, hq, a0, b0, b1, c0', c1'⟩, n1, u0, u1, wl, k⟩ := h
    refine ⟨_, pss_cons (ps_if (pt_cmpR op_gt (pe_ix ix_lst (pv 0) pe_int (by with_unfolding_all (intro _ _; rfl))) pe_int (nomark _)) (pss_cons (ps_set (i := 2) sc28.nd rfl (Or.inl rfl) (pe_op op_mod (pe_callTy call_intA rfl tI PyProof.Rows.boot_int (pa_cons (pe_ix ix_lst (pv 0) pe_int (by with_unfolding_all (intro _ _; rfl))) pa_nil)) (pv 1)))
        (pss_cons (ps_asg (pe_op op_fdiv (pe_ix ix_lst (pv 0) pe_int (by with_unfolding_all (intro _ _; rfl))) (pv 1)) (pg_sub (pv 0) pe_int set_list)) (pss_one (ps_ret (pv 2))))) pss_nil)
      (pss_cons (ps_asg (pe_op op_add (pe_ix ix_lst (pv 0) pe_int (by with_unfolding_all (intro _ _; rfl))) pe_int) (pg_sub (pv 0) pe_int set_list))
      (pss_cons (ps_set (i := 3) sc28.nd rfl (Or.inl rfl) (pe_ix ix_lst (pe_lst (pa_cons pe_int (pa_cons pe_int (pa_cons pe_int (pa_cons pe_int (pa_cons pe_int pa_nil)))))) (pe_op op_mod (pe_callTy call_intA rfl tI PyProof.Rows.boot_int (pa_cons (pe_ix ix_lst (pv 0) pe_int (by with_unfolding_all (intro _ _; rfl))) pa_nil)) pe_int) (by with_unfolding_all (intro _ _; rfl))))
      (pss_cons (ps_set (i := 4) sc28.nd rfl (Or.inl rfl) (pe_op op_mod (pe_callTy call_intA rfl tI PyProof.Rows.boot_int (pa_cons (pe_op op_powW (pe_callTy call_intA rfl tI PyProof.Rows.boot_int (pa_cons
          (pe_op op_add (pe_op op_add (pe_ix ix_lst (pv 0) pe_int (by with_unfolding_all (intro _ _; rfl))) (pe_op op_mul (pe_op op_mul pe_int (pe_ix ix_lst (pv 0) pe_int (by with_unfolding_all (intro _ _; rfl)))) (pe_ix ix_lst (pv 0) pe_int (by with_unfolding_all (intro _ _; rfl))))) pe_int) pa_nil)) pe_int) pa_nil)) (pv 3)))
      (pss_cons (ps_set (i := 4) sc28.nd rfl (Or.inl rfl) (pe_op op_mod (pe_callTy call_intA rfl tI PyProof.Rows.boot_int (pa_cons (pe_op op_mul (pv 4) (pe_op op_add (pe_op op_mod (pe_callTy call_intA rfl tI PyProof.Rows.boot_int (pa_cons (pv 4) pa_nil)) pe_int) (pe_op op_mul pe_int (pe_ix ix_lst (pv 0) pe_int (by with_unfolding_all (intro _ _; rfl)))))) pa_nil)) pe_int))
      (pss_one (ps_ret (pe_op op_mod (pe_callTy call_intA rfl tI PyProof.Rows.boot_int (pa_cons (pe_op op_fdiv (pv 4) pe_int) pa_nil)) (pv 1)))))))), ?_⟩
    have cd : CDiv a u := ⟨u0, by omega⟩
    by_cases ha : 0 < a
    · simp only [onI_i, onB_b, onR_r, onT_t, onO_s, onS_s, onV_s, ↓tVar_e, ↓tC_e, ↓tNil_e, ↓tCons_e, ↓tCB_e, ↓tOp_e, ↓rI_e, ↓rI0_e, ↓tUn_e, ↓rU_e, ↓rEq_e, ↓rNe_e, scal_ii, scal_ss, scal_bb, ↓tAndV_e, ↓tOrV_e, ↓tNotV_e, ↓tAnd_e, ↓tOr_e, ↓tNot_e, ↓tTest_e, ↓tB_e, ↓tIf_e, ↓tChain_e, ↓tSeq_e, ↓tNext_e, ↓tBreak_e, ↓tCont_e, ↓tDrop_e, ↓tRet_e, ↓tRetN_e, ↓tIfS_e, ↓tAsg_e, ↓gName_e, onL2_e, ↓tPar_e2, onCons_e, ↓gNil_e, ↓gCons_e, ↓tTup_e, ↓tTupF_e, ↓tLst_e, ↓tFld_e, ↓sFld_e, ↓sFldAug_e, ↓rAdd_e, ↓rSub_e, ↓tCall_e, ↓tProp_e, ↓tRaiseAsk_e, ↓getSp_e, ↓tMeth_e, ↓tMake_e, ↓rRep_e, ↓rCat_e, ↓tSl_e, ↓tNoPart_e, ↓tPart_e, ↓tYes_e, ↓tFor_e, ↓iTup_e, ↓iList_e, onL1_e, ↓iRng1_e, ↓iRng2_e, ↓iEnT_e, ↓tLc_e, ↓start_e, onD_s, onLst_s, ↓tApp_e, cxOf_K, upd_same, upd_upd, List.getElem?_cons_zero, List.getElem?_cons_succ, List.set_cons_zero, List.set_cons_succ, List.map_cons, List.map_nil, List.append_nil, List.cons_append, List.nil_append, List.length_cons, List.length_nil, List.replicate_succ, List.replicate_zero, Nat.reduceAdd, Nat.reduceSub, Nat.reduceLT, V.int.injEq, V.bl.injEq, V.str.injEq, V.ref.injEq, decide_eq_true_eq, Bool.not_true, Bool.not_false, Bool.false_eq_true, Bool.not_eq_true', decide_eq_false_iff_not, ↓reduceIte, true_and, and_true, and_self, decide_true, decide_false, not_false_eq_true, not_true_eq_false, eq_self, onN_s, int1_i, int1_b, one_i, two_i, ↓rIxA_e, ↓gSub_e, ↓rSetL_e, at3_0, at3_1, at3_2, ix3_0, ix3_1, ix3_2, onNum_i, onNum_b, ↓rIntA_e, ↓rMinA_e, ↓rMaxA_e, ↓rAbsA_e, ↓rLenL_e, ↓rSlLst_e, onTu_s, ↓gTupA_e, ↓rIxTu_e, ↓tRg1_e, ↓tLstRg_e, onRp_n, onRp_b, onRp_i, ↓rReprA_e, ↓rIsN_e, reduceCtorEq, hq, ha, u0, cd]
      refine k _ _ ((Nx.refl wl).wr (.inl (by simp)) hq rfl) ⟨a / u, b, c, upd_same, Int.ediv_nonneg a0 (by omega), b0, b1, c0', by omega⟩ (Int.emod_nonneg _ (by omega)) (Int.emod_lt_of_pos _ u0)
    · simp only [onI_i, onB_b, onR_r, onT_t, onO_s, onS_s, onV_s, ↓tVar_e, ↓tC_e, ↓tNil_e, ↓tCons_e, ↓tCB_e, ↓tOp_e, ↓rI_e, ↓rI0_e, ↓tUn_e, ↓rU_e, ↓rEq_e, ↓rNe_e, scal_ii, scal_ss, scal_bb, ↓tAndV_e, ↓tOrV_e, ↓tNotV_e, ↓tAnd_e, ↓tOr_e, ↓tNot_e, ↓tTest_e, ↓tB_e, ↓tIf_e, ↓tChain_e, ↓tSeq_e, ↓tNext_e, ↓tBreak_e, ↓tCont_e, ↓tDrop_e, ↓tRet_e, ↓tRetN_e, ↓tIfS_e, ↓tAsg_e, ↓gName_e, onL2_e, ↓tPar_e2, onCons_e, ↓gNil_e, ↓gCons_e, ↓tTup_e, ↓tTupF_e, ↓tLst_e, ↓tFld_e, ↓sFld_e, ↓sFldAug_e, ↓rAdd_e, ↓rSub_e, ↓tCall_e, ↓tProp_e, ↓tRaiseAsk_e, ↓getSp_e, ↓tMeth_e, ↓tMake_e, ↓rRep_e, ↓rCat_e, ↓tSl_e, ↓tNoPart_e, ↓tPart_e, ↓tYes_e, ↓tFor_e, ↓iTup_e, ↓iList_e, onL1_e, ↓iRng1_e, ↓iRng2_e, ↓iEnT_e, ↓tLc_e, ↓start_e, onD_s, onLst_s, ↓tApp_e, cxOf_K, upd_same, upd_upd, List.getElem?_cons_zero, List.getElem?_cons_succ, List.set_cons_zero, List.set_cons_succ, List.map_cons, List.map_nil, List.append_nil, List.cons_append, List.nil_append, List.length_cons, List.length_nil, List.replicate_succ, List.replicate_zero, Nat.reduceAdd, Nat.reduceSub, Nat.reduceLT, V.int.injEq, V.bl.injEq, V.str.injEq, V.ref.injEq, decide_eq_true_eq, Bool.not_true, Bool.not_false, Bool.false_eq_true, Bool.not_eq_true', decide_eq_false_iff_not, ↓reduceIte, true_and, and_true, and_self, decide_true, decide_false, not_false_eq_true, not_true_eq_false, eq_self, onN_s, int1_i, int1_b, one_i, two_i, ↓rIxA_e, ↓gSub_e, ↓rSetL_e, at3_0, at3_1, at3_2, ix3_0, ix3_1, ix3_2, onNum_i, onNum_b, ↓rIntA_e, ↓rMinA_e, ↓rMaxA_e, ↓rAbsA_e, ↓rLenL_e, ↓rSlLst_e, onTu_s, ↓gTupA_e, ↓rIxTu_e, ↓tRg1_e, ↓tLstRg_e, onRp_n, onRp_b, onRp_i, ↓rReprA_e, ↓rIsN_e, reduceCtorEq, hq, ha, u0]
      refine ⟨by decide, fun l hl => ?_⟩
      have nql : q ≠ l := ((upd_none hl).2).symm
      have hr1 : 0 ≤ (c + 1) % 5 := Int.emod_nonneg _ (by omega)
      have hr2 : (c + 1) % 5 < 5 := Int.emod_lt_of_pos _ (by omega)
      simp only [onI_i, onB_b, onR_r, onT_t, onO_s, onS_s, onV_s, ↓tVar_e, ↓tC_e, ↓tNil_e, ↓tCons_e, ↓tCB_e, ↓tOp_e, ↓rI_e, ↓rI0_e, ↓tUn_e, ↓rU_e, ↓rEq_e, ↓rNe_e, scal_ii, scal_ss, scal_bb, ↓tAndV_e, ↓tOrV_e, ↓tNotV_e, ↓tAnd_e, ↓tOr_e, ↓tNot_e, ↓tTest_e, ↓tB_e, ↓tIf_e, ↓tChain_e, ↓tSeq_e, ↓tNext_e, ↓tBreak_e, ↓tCont_e, ↓tDrop_e, ↓tRet_e, ↓tRetN_e, ↓tIfS_e, ↓tAsg_e, ↓gName_e, onL2_e, ↓tPar_e2, onCons_e, ↓gNil_e, ↓gCons_e, ↓tTup_e, ↓tTupF_e, ↓tLst_e, ↓tFld_e, ↓sFld_e, ↓sFldAug_e, ↓rAdd_e, ↓rSub_e, ↓tCall_e, ↓tProp_e, ↓tRaiseAsk_e, ↓getSp_e, ↓tMeth_e, ↓tMake_e, ↓rRep_e, ↓rCat_e, ↓tSl_e, ↓tNoPart_e, ↓tPart_e, ↓tYes_e, ↓tFor_e, ↓iTup_e, ↓iList_e, onL1_e, ↓iRng1_e, ↓iRng2_e, ↓iEnT_e, ↓tLc_e, ↓start_e, onD_s, onLst_s, ↓tApp_e, cxOf_K, upd_same, upd_upd, List.getElem?_cons_zero, List.getElem?_cons_succ, List.set_cons_zero, List.set_cons_succ, List.map_cons, List.map_nil, List.append_nil, List.cons_append, List.nil_append, List.length_cons, List.length_nil, List.replicate_succ, List.replicate_zero, Nat.reduceAdd, Nat.reduceSub, Nat.reduceLT, V.int.injEq, V.bl.injEq, V.str.injEq, V.ref.injEq, decide_eq_true_eq, Bool.not_true, Bool.not_false, Bool.false_eq_true, Bool.not_eq_true', decide_eq_false_iff_not, ↓reduceIte, true_and, and_true, and_self, decide_true, decide_false, not_false_eq_true, not_true_eq_false, eq_self, onN_s, int1_i, int1_b, one_i, two_i, ↓rIxA_e, ↓gSub_e, ↓rSetL_e, at3_0, at3_1, at3_2, ix3_0, ix3_1, ix3_2, onNum_i, onNum_b, ↓rIntA_e, ↓rMinA_e, ↓rMaxA_e, ↓rAbsA_e, ↓rLenL_e, ↓rSlLst_e, onTu_s, ↓gTupA_e, ↓rIxTu_e, ↓tRg1_e, ↓tLstRg_e, onRp_n, onRp_b, onRp_i, ↓rReprA_e, ↓rIsN_e, reduceCtorEq, upd_ne nql, (by omega : (0 : Int) < 5)]
      obtain ⟨pr, hp, hp1, hp2⟩ : ∃ pr : Int, atI [V.int 2147483647, V.int 2147483629, V.int 2147483587, V.int 2147483579, V.int 2147483563] ((c + 1) % 5) = some (.int pr) ∧ 1000 < pr ∧ pr < 2147483648 := by
        generalize (c + 1) % 5 = x at hr1 hr2
        have : x = 0 ∨ x = 1 ∨ x = 2 ∨ x = 3 ∨ x = 4 := by omega
        rcases this with e | e | e | e | e <;> subst e <;> exact ⟨_, rfl, by omega, by omega⟩
      simp only [onI_i, onB_b, onR_r, onT_t, onO_s, onS_s, onV_s, ↓tVar_e, ↓tC_e, ↓tNil_e, ↓tCons_e, ↓tCB_e, ↓tOp_e, ↓rI_e, ↓rI0_e, ↓tUn_e, ↓rU_e, ↓rEq_e, ↓rNe_e, scal_ii, scal_ss, scal_bb, ↓tAndV_e, ↓tOrV_e, ↓tNotV_e, ↓tAnd_e, ↓tOr_e, ↓tNot_e, ↓tTest_e, ↓tB_e, ↓tIf_e, ↓tChain_e, ↓tSeq_e, ↓tNext_e, ↓tBreak_e, ↓tCont_e, ↓tDrop_e, ↓tRet_e, ↓tRetN_e, ↓tIfS_e, ↓tAsg_e, ↓gName_e, onL2_e, ↓tPar_e2, onCons_e, ↓gNil_e, ↓gCons_e, ↓tTup_e, ↓tTupF_e, ↓tLst_e, ↓tFld_e, ↓sFld_e, ↓sFldAug_e, ↓rAdd_e, ↓rSub_e, ↓tCall_e, ↓tProp_e, ↓tRaiseAsk_e, ↓getSp_e, ↓tMeth_e, ↓tMake_e, ↓rRep_e, ↓rCat_e, ↓tSl_e, ↓tNoPart_e, ↓tPart_e, ↓tYes_e, ↓tFor_e, ↓iTup_e, ↓iList_e, onL1_e, ↓iRng1_e, ↓iRng2_e, ↓iEnT_e, ↓tLc_e, ↓start_e, onD_s, onLst_s, ↓tApp_e, cxOf_K, upd_same, upd_upd, List.getElem?_cons_zero, List.getElem?_cons_succ, List.set_cons_zero, List.set_cons_succ, List.map_cons, List.map_nil, List.append_nil, List.cons_append, List.nil_append, List.length_cons, List.length_nil, List.replicate_succ, List.replicate_zero, Nat.reduceAdd, Nat.reduceSub, Nat.reduceLT, V.int.injEq, V.bl.injEq, V.str.injEq, V.ref.injEq, decide_eq_true_eq, Bool.not_true, Bool.not_false, Bool.false_eq_true, Bool.not_eq_true', decide_eq_false_iff_not, ↓reduceIte, true_and, and_true, and_self, decide_true, decide_false, not_false_eq_true, not_true_eq_false, eq_self, onN_s, int1_i, int1_b, one_i, two_i, ↓rIxA_e, ↓gSub_e, ↓rSetL_e, at3_0, at3_1, at3_2, ix3_0, ix3_1, ix3_2, onNum_i, onNum_b, ↓rIntA_e, ↓rMinA_e, ↓rMaxA_e, ↓rAbsA_e, ↓rLenL_e, ↓rSlLst_e, onTu_s, ↓gTupA_e, ↓rIxTu_e, ↓tRg1_e, ↓tLstRg_e, onRp_n, onRp_b, onRp_i, ↓rReprA_e, ↓rIsN_e, reduceCtorEq, hp, upd_ne nql, u0]
      have hcc : 0 ≤ 161524 * (c + 1) * (c + 1) ∧ 161524 * (c + 1) * (c + 1) ≤ 161524 * 1001 * 1001 := by
        refine ⟨Int.mul_nonneg (by omega) (by omega), ?_⟩
        exact Int.mul_le_mul (by omega) (by omega) (by omega) (by omega)
      have pr0 : 0 < pr := by omega
      generalize hX : b + 161524 * (c + 1) * (c + 1) + 7512 = X
      have hX0 : 0 ≤ X ∧ X < 2 ^ 64 := by omega
      have hY0 : 0 ≤ X ^ Int.toNat 3 % pr := Int.emod_nonneg _ (by omega)
      have hY1 : X ^ Int.toNat 3 % pr < pr := Int.emod_lt_of_pos _ pr0
      generalize hY : X ^ Int.toNat 3 % pr = Y at hY0 hY1
      have hb64 := intBits_le_64 (k := X) (by omega) (by omega)
      refine ⟨.inl ⟨by omega, by omega⟩, .inl ⟨by omega, by omega⟩, ⟨by omega, by omega⟩, pr0, by omega, .inl ⟨by omega, by omega⟩, .inl ⟨by omega, by omega⟩, by omega, ⟨by omega, by omega⟩, ?_⟩
      refine k _ _ (((Nx.refl wl).wr (.inl (by simp)) hq rfl).new hl) ⟨a, b, c + 1, by rw [upd_ne nql, upd_same], a0, b0, b1, by omega, by omega⟩ (Int.emod_nonneg _ (by omega)) (Int.emod_lt_of_pos _ u0)
/-! ### _law_of -/
def spOf (K : PySem.W.Frag) (B : Tb) : Sp := fun vs H Q _ => ∃ q l n xs, vs = [.ref q, .ref l] ∧ PotAt H q n ∧ n ≤ 1000 ∧ H l = some (.lst xs) ∧ l ≠ q ∧ 0 < xs.length ∧ xs.length ≤ 1000 ∧ Wl B H ∧ ∀ H' v, Nx B [q] H H' → PotAt H' q (n + 1) → v ∈ xs → Q v H'
theorem sc29 : FnScope ["pot", "some"] ["pot", "some"] (defScope (top 29)) := ⟨rfl, rfl, rfl, by decide +kernel, rfl, by decide +kernel, by decide +kernel⟩
theorem at_mem {xs : List V} {i : Int} (h0 : 0 ≤ i) (h1 : i < xs.length) : ∃ v, atI xs i = some v ∧ v ∈ xs := by
  have hn : i.toNat < xs.length := by omega
  refine ⟨xs[i.toNat], ?_, List.getElem_mem hn⟩
  unfold atI ixN
  rw [if_pos h0, if_pos h1]
  exact List.getElem?_eq_getElem hn
theorem ok_of (T : Ty P K mg base cP AE BN BR B c0 P0 c1 P1 c2 P2) : Dfn P w K mg base "_law_of" 3 ["pot", "some"] (spOf K B) := by
  have D : Dfn P w K mg base "_law_take" 1 _ _ := ok_take T
  refine dfn_mk T.d29 sc29 (fun _ _ _ _ _ _ us hl => match us, hl with | [_, _], _ => rfl) (fun vs H Q E h => ?_) (fun f cdv A outer s H vs Q E hr hc h => ?_)
  · obtain ⟨a, b, c, d, rfl, _⟩ := h
    rfl
  · obtain ⟨q, l, n, xs, rfl, hp, n1, hl, ne, l0, l1, wl, k⟩ := h
    refine ⟨_, pss_one (ps_ret (pe_ix ix_lst (pv 1) (pe_dfn D (hr.mono (by decide)) rfl passL (pa_cons (pv 0) (pa_cons (pe_callB call_lenL rfl T.x.t.blen PySem.boot_len (pa_cons (pv 1) pa_nil)) pa_nil))) (by with_unfolding_all (intro _ _; rfl)))), ?_⟩
    simp only [onI_i, onB_b, onR_r, onT_t, onO_s, onS_s, onV_s, ↓tVar_e, ↓tC_e, ↓tNil_e, ↓tCons_e, ↓tCB_e, ↓tOp_e, ↓rI_e, ↓rI0_e, ↓tUn_e, ↓rU_e, ↓rEq_e, ↓rNe_e, scal_ii, scal_ss, scal_bb, ↓tAndV_e, ↓tOrV_e, ↓tNotV_e, ↓tAnd_e, ↓tOr_e, ↓tNot_e, ↓tTest_e, ↓tB_e, ↓tIf_e, ↓tChain_e, ↓tSeq_e, ↓tNext_e, ↓tBreak_e, ↓tCont_e, ↓tDrop_e, ↓tRet_e, ↓tRetN_e, ↓tIfS_e, ↓tAsg_e, ↓gName_e, onL2_e, ↓tPar_e2, onCons_e, ↓gNil_e, ↓gCons_e, ↓tTup_e, ↓tTupF_e, ↓tLst_e, ↓tFld_e, ↓sFld_e, ↓sFldAug_e, ↓rAdd_e, ↓rSub_e, ↓tCall_e, ↓tProp_e, ↓tRaiseAsk_e, ↓getSp_e, ↓tMeth_e, ↓tMake_e, ↓rRep_e, ↓rCat_e, ↓tSl_e, ↓tNoPart_e, ↓tPart_e, ↓tYes_e, ↓tFor_e, ↓iTup_e, ↓iList_e, onL1_e, ↓iRng1_e, ↓iRng2_e, ↓iEnT_e, ↓tLc_e, ↓start_e, onD_s, onLst_s, ↓tApp_e, cxOf_K, upd_same, upd_upd, List.getElem?_cons_zero, List.getElem?_cons_succ, List.set_cons_zero, List.set_cons_succ, List.map_cons, List.map_nil, List.append_nil, List.cons_append, List.nil_append, List.length_cons, List.length_nil, List.replicate_succ, List.replicate_zero, Nat.reduceAdd, Nat.reduceSub, Nat.reduceLT, V.int.injEq, V.bl.injEq, V.str.injEq, V.ref.injEq, decide_eq_true_eq, Bool.not_true, Bool.not_false, Bool.false_eq_true, Bool.not_eq_true', decide_eq_false_iff_not, ↓reduceIte, true_and, and_true, and_self, decide_true, decide_false, not_false_eq_true, not_true_eq_false, eq_self, onN_s, int1_i, int1_b, one_i, two_i, ↓rIxA_e, ↓gSub_e, ↓rSetL_e, at3_0, at3_1, at3_2, ix3_0, ix3_1, ix3_2, onNum_i, onNum_b, ↓rIntA_e, ↓rMinA_e, ↓rMaxA_e, ↓rAbsA_e, ↓rLenL_e, ↓rSlLst_e, onTu_s, ↓gTupA_e, ↓rIxTu_e, ↓tRg1_e, ↓tLstRg_e, onRp_n, onRp_b, onRp_i, ↓rReprA_e, ↓rIsN_e, reduceCtorEq, hl]
    refine ⟨q, xs.length, n, rfl, hp, n1, by omega, by omega, wl, fun H' r nx hp' r0 r1 => ?_⟩
    obtain ⟨v, e, hv⟩ := at_mem r0 r1
    have hl' : H' l = some (.lst xs) := nx.at hl (by simpa using ne)
    simp only [onI_i, onB_b, onR_r, onT_t, onO_s, onS_s, onV_s, ↓tVar_e, ↓tC_e, ↓tNil_e, ↓tCons_e, ↓tCB_e, ↓tOp_e, ↓rI_e, ↓rI0_e, ↓tUn_e, ↓rU_e, ↓rEq_e, ↓rNe_e, scal_ii, scal_ss, scal_bb, ↓tAndV_e, ↓tOrV_e, ↓tNotV_e, ↓tAnd_e, ↓tOr_e, ↓tNot_e, ↓tTest_e, ↓tB_e, ↓tIf_e, ↓tChain_e, ↓tSeq_e, ↓tNext_e, ↓tBreak_e, ↓tCont_e, ↓tDrop_e, ↓tRet_e, ↓tRetN_e, ↓tIfS_e, ↓tAsg_e, ↓gName_e, onL2_e, ↓tPar_e2, onCons_e, ↓gNil_e, ↓gCons_e, ↓tTup_e, ↓tTupF_e, ↓tLst_e, ↓tFld_e, ↓sFld_e, ↓sFldAug_e, ↓rAdd_e, ↓rSub_e, ↓tCall_e, ↓tProp_e, ↓tRaiseAsk_e, ↓getSp_e, ↓tMeth_e, ↓tMake_e, ↓rRep_e, ↓rCat_e, ↓tSl_e, ↓tNoPart_e, ↓tPart_e, ↓tYes_e, ↓tFor_e, ↓iTup_e, ↓iList_e, onL1_e, ↓iRng1_e, ↓iRng2_e, ↓iEnT_e, ↓tLc_e, ↓start_e, onD_s, onLst_s, ↓tApp_e, cxOf_K, upd_same, upd_upd, List.getElem?_cons_zero, List.getElem?_cons_succ, List.set_cons_zero, List.set_cons_succ, List.map_cons, List.map_nil, List.append_nil, List.cons_append, List.nil_append, List.length_cons, List.length_nil, List.replicate_succ, List.replicate_zero, Nat.reduceAdd, Nat.reduceSub, Nat.reduceLT, V.int.injEq, V.bl.injEq, V.str.injEq, V.ref.injEq, decide_eq_true_eq, Bool.not_true, Bool.not_false, Bool.false_eq_true, Bool.not_eq_true', decide_eq_false_iff_not, ↓reduceIte, true_and, and_true, and_self, decide_true, decide_false, not_false_eq_true, not_true_eq_false, eq_self, onN_s, int1_i, int1_b, one_i, two_i, ↓rIxA_e, ↓gSub_e, ↓rSetL_e, at3_0, at3_1, at3_2, ix3_0, ix3_1, ix3_2, onNum_i, onNum_b, ↓rIntA_e, ↓rMinA_e, ↓rMaxA_e, ↓rAbsA_e, ↓rLenL_e, ↓rSlLst_e, onTu_s, ↓gTupA_e, ↓rIxTu_e, ↓tRg1_e, ↓tLstRg_e, onRp_n, onRp_b, onRp_i, ↓rReprA_e, ↓rIsN_e, reduceCtorEq, hl', e]
    exact k H' v nx hp' hv
/-! ### _law_row -/
def spRowL (K : PySem.W.Frag) (B : Tb) : Sp := fun vs H Q _ => ∃ q u n, vs = [.ref q, .int u] ∧ PotAt H q n ∧ n ≤ 900 ∧ 0 ≤ u ∧ u ≤ 400 ∧ Wl B H ∧ ∀ H' r (ws : List Bool), Nx B [q] H H' → PotAt H' q (n + 36) → ws.length ≤ 4000 → FT H' r (ws.map wv) → Q (.ref r) H'
theorem sc33 : FnScope ["pot", "long", "row", "lap", "many"] ["pot", "long"] (defScope (top 33)) := ⟨rfl, rfl, rfl, by decide +kernel, rfl, by decide +kernel, by decide +kernel⟩
theorem ok_rowl (T : Ty P K mg base cP AE BN BR B c0 P0 c1 P1 c2 P2) : Dfn P w K mg base "_law_row" 5 ["pot", "long"] (spRowL K B) := by
  have D1 : Dfn P w K mg base "_law_take" 1 _ _ := ok_take T
  have D2 : Dfn P w K mg base "_law_of" 3 _ _ := ok_of T
  refine dfn_mk T.d33 sc33 (fun _ _ _ _ _ _ us hl => match us, hl with | [_, _], _ => rfl) (fun vs H Q E h => ?_) (fun f cdv A outer s H vs Q E hr hc h => ?_)
  · obtain ⟨a, b, c, rfl, _⟩ := h
    rfl
  · obtain ⟨q, u, n, rfl, hp, n1, u0, u1, wl, k⟩ := h
    refine ⟨_, pss_cons (ps_set (i := 2) sc33.nd rfl (Or.inl rfl) (pe_lst pa_nil))
      (pss_cons (ps_for passO rfl (pi_range1 rfl T.x.t.brange (pa_cons pe_int pa_nil)) (pg_name (i := 3) sc33.nd rfl (Or.inl rfl))
        (pss_cons (ps_set (i := 4) sc33.nd rfl (Or.inl rfl) (pe_dfn D1 (hr.mono (by decide)) rfl passL (pa_cons (pv 0) (pa_cons (pe_op op_add (pe_dfn D2 (hr.mono (by decide)) rfl passL (pa_cons (pv 0) (pa_cons (pe_lst (pa_cons pe_int (pa_cons pe_int (pa_cons pe_int (pa_cons (pv 1) pa_nil))))) pa_nil))) pe_int) pa_nil))))
        (pss_one (ps_set (i := 2) sc33.nd rfl (Or.inl rfl) (pe_op op_cat (pv 2) (pe_op op_rep (pe_lst (pa_cons (pe_dfn D2 (hr.mono (by decide)) rfl passL (pa_cons (pv 0) (pa_cons (pe_lst (pa_cons pe_str (pa_cons pe_str pa_nil))) pa_nil))) pa_nil)) (pv 4)))))))
      (pss_one (ps_ret (pe_callTy call_tupF rfl T.x.t.btuple PyProof.Rows.boot_tuple (pa_cons (pe_slice sl_lst (pv 2) po_none (po_some pe_int)) pa_nil))))), ?_⟩
    simp only [onI_i, onB_b, onR_r, onT_t, onO_s, onS_s, onV_s, ↓tVar_e, ↓tC_e, ↓tNil_e, ↓tCons_e, ↓tCB_e, ↓tOp_e, ↓rI_e, ↓rI0_e, ↓tUn_e, ↓rU_e, ↓rEq_e, ↓rNe_e, scal_ii, scal_ss, scal_bb, ↓tAndV_e, ↓tOrV_e, ↓tNotV_e, ↓tAnd_e, ↓tOr_e, ↓tNot_e, ↓tTest_e, ↓tB_e, ↓tIf_e, ↓tChain_e, ↓tSeq_e, ↓tNext_e, ↓tBreak_e, ↓tCont_e, ↓tDrop_e, ↓tRet_e, ↓tRetN_e, ↓tIfS_e, ↓tAsg_e, ↓gName_e, onL2_e, ↓tPar_e2, onCons_e, ↓gNil_e, ↓gCons_e, ↓tTup_e, ↓tTupF_e, ↓tLst_e, ↓tFld_e, ↓sFld_e, ↓sFldAug_e, ↓rAdd_e, ↓rSub_e, ↓tCall_e, ↓tProp_e, ↓tRaiseAsk_e, ↓getSp_e, ↓tMeth_e, ↓tMake_e, ↓rRep_e, ↓rCat_e, ↓tSl_e, ↓tNoPart_e, ↓tPart_e, ↓tYes_e, ↓tFor_e, ↓iTup_e, ↓iList_e, onL1_e, ↓iRng1_e, ↓iRng2_e, ↓iEnT_e, ↓tLc_e, ↓start_e, onD_s, onLst_s, ↓tApp_e, cxOf_K, upd_same, upd_upd, List.getElem?_cons_zero, List.getElem?_cons_succ, List.set_cons_zero, List.set_cons_succ, List.map_cons, List.map_nil, List.append_nil, List.cons_append, List.nil_append, List.length_cons, List.length_nil, List.replicate_succ, List.replicate_zero, Nat.reduceAdd, Nat.reduceSub, Nat.reduceLT, V.int.injEq, V.bl.injEq, V.str.injEq, V.ref.injEq, decide_eq_true_eq, Bool.not_true, Bool.not_false, Bool.false_eq_true, Bool.not_eq_true', decide_eq_false_iff_not, ↓reduceIte, true_and, and_true, and_self, decide_true, decide_false, not_false_eq_true, not_true_eq_false, eq_self, onN_s, int1_i, int1_b, one_i, two_i, ↓rIxA_e, ↓gSub_e, ↓rSetL_e, at3_0, at3_1, at3_2, ix3_0, ix3_1, ix3_2, onNum_i, onNum_b, ↓rIntA_e, ↓rMinA_e, ↓rMaxA_e, ↓rAbsA_e, ↓rLenL_e, ↓rSlLst_e, onTu_s, ↓gTupA_e, ↓rIxTu_e, ↓tRg1_e, ↓tLstRg_e, onRp_n, onRp_b, onRp_i, ↓rReprA_e, ↓rIsN_e, reduceCtorEq]
    refine ⟨Nat.zero_le _, fun l0 hl0 => ⟨by omega, by omega, ?_⟩⟩
    refine for_range (lo := 0) (n := 12) (fun i σ H' => ∃ l ws v3 v4, σ = [some (.ref q), some (.int u), some (.ref l), v3, v4] ∧ Nx B [q] H H' ∧ PotAt H' q (n + 3 * i) ∧ H' l = some (.lst (ws.map wv)) ∧ ws.length ≤ 400 * i)
      ⟨l0, [], none, none, rfl, (Nx.refl wl).new hl0, (hp.new hl0).le (by omega), upd_same, by simp⟩ ?_ ?_
    · rintro i σ H1 hi ⟨l, ws, v3, v4, rfl, n1', hp1, h1, hlen⟩
      simp only [onI_i, onB_b, onR_r, onT_t, onO_s, onS_s, onV_s, ↓tVar_e, ↓tC_e, ↓tNil_e, ↓tCons_e, ↓tCB_e, ↓tOp_e, ↓rI_e, ↓rI0_e, ↓tUn_e, ↓rU_e, ↓rEq_e, ↓rNe_e, scal_ii, scal_ss, scal_bb, ↓tAndV_e, ↓tOrV_e, ↓tNotV_e, ↓tAnd_e, ↓tOr_e, ↓tNot_e, ↓tTest_e, ↓tB_e, ↓tIf_e, ↓tChain_e, ↓tSeq_e, ↓tNext_e, ↓tBreak_e, ↓tCont_e, ↓tDrop_e, ↓tRet_e, ↓tRetN_e, ↓tIfS_e, ↓tAsg_e, ↓gName_e, onL2_e, ↓tPar_e2, onCons_e, ↓gNil_e, ↓gCons_e, ↓tTup_e, ↓tTupF_e, ↓tLst_e, ↓tFld_e, ↓sFld_e, ↓sFldAug_e, ↓rAdd_e, ↓rSub_e, ↓tCall_e, ↓tProp_e, ↓tRaiseAsk_e, ↓getSp_e, ↓tMeth_e, ↓tMake_e, ↓rRep_e, ↓rCat_e, ↓tSl_e, ↓tNoPart_e, ↓tPart_e, ↓tYes_e, ↓tFor_e, ↓iTup_e, ↓iList_e, onL1_e, ↓iRng1_e, ↓iRng2_e, ↓iEnT_e, ↓tLc_e, ↓start_e, onD_s, onLst_s, ↓tApp_e, cxOf_K, upd_same, upd_upd, List.getElem?_cons_zero, List.getElem?_cons_succ, List.set_cons_zero, List.set_cons_succ, List.map_cons, List.map_nil, List.append_nil, List.cons_append, List.nil_append, List.length_cons, List.length_nil, List.replicate_succ, List.replicate_zero, Nat.reduceAdd, Nat.reduceSub, Nat.reduceLT, V.int.injEq, V.bl.injEq, V.str.injEq, V.ref.injEq, decide_eq_true_eq, Bool.not_true, Bool.not_false, Bool.false_eq_true, Bool.not_eq_true', decide_eq_false_iff_not, ↓reduceIte, true_and, and_true, and_self, decide_true, decide_false, not_false_eq_true, not_true_eq_false, eq_self, onN_s, int1_i, int1_b, one_i, two_i, ↓rIxA_e, ↓gSub_e, ↓rSetL_e, at3_0, at3_1, at3_2, ix3_0, ix3_1, ix3_2, onNum_i, onNum_b, ↓rIntA_e, ↓rMinA_e, ↓rMaxA_e, ↓rAbsA_e, ↓rLenL_e, ↓rSlLst_e, onTu_s, ↓gTupA_e, ↓rIxTu_e, ↓tRg1_e, ↓tLstRg_e, onRp_n, onRp_b, onRp_i, ↓rReprA_e, ↓rIsN_e, reduceCtorEq]
      refine ⟨by decide, fun a1 ha1 => ?_⟩
      have hq1 : a1 ≠ q := hp1.ne ha1
      have hp2 := hp1.new (o := .lst [.int 3, .int 3, .int 20, .int u]) ha1
      refine ⟨q, a1, _, _, rfl, hp2, by omega, upd_same, hq1, by simp, by simp, (n1'.new ha1).wl, fun H2 v n2 hp3 hv => ?_⟩
      have n12 : Nx B [q] H H2 := (n1'.new ha1).trans n2 fun b hb => .inl hb
      obtain ⟨z, rfl, z0, z1⟩ : ∃ z : Int, v = .int z ∧ 0 ≤ z ∧ z ≤ 400 := by
        simp only [List.mem_cons, List.not_mem_nil, or_false] at hv
        rcases hv with e | e | e | e <;> exact ⟨_, e, by omega, by omega⟩
      simp only [onI_i, onB_b, onR_r, onT_t, onO_s, onS_s, onV_s, ↓tVar_e, ↓tC_e, ↓tNil_e, ↓tCons_e, ↓tCB_e, ↓tOp_e, ↓rI_e, ↓rI0_e, ↓tUn_e, ↓rU_e, ↓rEq_e, ↓rNe_e, scal_ii, scal_ss, scal_bb, ↓tAndV_e, ↓tOrV_e, ↓tNotV_e, ↓tAnd_e, ↓tOr_e, ↓tNot_e, ↓tTest_e, ↓tB_e, ↓tIf_e, ↓tChain_e, ↓tSeq_e, ↓tNext_e, ↓tBreak_e, ↓tCont_e, ↓tDrop_e, ↓tRet_e, ↓tRetN_e, ↓tIfS_e, ↓tAsg_e, ↓gName_e, onL2_e, ↓tPar_e2, onCons_e, ↓gNil_e, ↓gCons_e, ↓tTup_e, ↓tTupF_e, ↓tLst_e, ↓tFld_e, ↓sFld_e, ↓sFldAug_e, ↓rAdd_e, ↓rSub_e, ↓tCall_e, ↓tProp_e, ↓tRaiseAsk_e, ↓getSp_e, ↓tMeth_e, ↓tMake_e, ↓rRep_e, ↓rCat_e, ↓tSl_e, ↓tNoPart_e, ↓tPart_e, ↓tYes_e, ↓tFor_e, ↓iTup_e, ↓iList_e, onL1_e, ↓iRng1_e, ↓iRng2_e, ↓iEnT_e, ↓tLc_e, ↓start_e, onD_s, onLst_s, ↓tApp_e, cxOf_K, upd_same, upd_upd, List.getElem?_cons_zero, List.getElem?_cons_succ, List.set_cons_zero, List.set_cons_succ, List.map_cons, List.map_nil, List.append_nil, List.cons_append, List.nil_append, List.length_cons, List.length_nil, List.replicate_succ, List.replicate_zero, Nat.reduceAdd, Nat.reduceSub, Nat.reduceLT, V.int.injEq, V.bl.injEq, V.str.injEq, V.ref.injEq, decide_eq_true_eq, Bool.not_true, Bool.not_false, Bool.false_eq_true, Bool.not_eq_true', decide_eq_false_iff_not, ↓reduceIte, true_and, and_true, and_self, decide_true, decide_false, not_false_eq_true, not_true_eq_false, eq_self, onN_s, int1_i, int1_b, one_i, two_i, ↓rIxA_e, ↓gSub_e, ↓rSetL_e, at3_0, at3_1, at3_2, ix3_0, ix3_1, ix3_2, onNum_i, onNum_b, ↓rIntA_e, ↓rMinA_e, ↓rMaxA_e, ↓rAbsA_e, ↓rLenL_e, ↓rSlLst_e, onTu_s, ↓gTupA_e, ↓rIxTu_e, ↓tRg1_e, ↓tLstRg_e, onRp_n, onRp_b, onRp_i, ↓rReprA_e, ↓rIsN_e, reduceCtorEq]
      refine ⟨q, z + 1, _, rfl, hp3, by omega, by omega, by omega, n2.wl, fun H3 many n3 hp4 m0 m1 => ?_⟩
      have n13 : Nx B [q] H H3 := n12.trans n3 fun b hb => .inl hb
      simp only [onI_i, onB_b, onR_r, onT_t, onO_s, onS_s, onV_s, ↓tVar_e, ↓tC_e, ↓tNil_e, ↓tCons_e, ↓tCB_e, ↓tOp_e, ↓rI_e, ↓rI0_e, ↓tUn_e, ↓rU_e, ↓rEq_e, ↓rNe_e, scal_ii, scal_ss, scal_bb, ↓tAndV_e, ↓tOrV_e, ↓tNotV_e, ↓tAnd_e, ↓tOr_e, ↓tNot_e, ↓tTest_e, ↓tB_e, ↓tIf_e, ↓tChain_e, ↓tSeq_e, ↓tNext_e, ↓tBreak_e, ↓tCont_e, ↓tDrop_e, ↓tRet_e, ↓tRetN_e, ↓tIfS_e, ↓tAsg_e, ↓gName_e, onL2_e, ↓tPar_e2, onCons_e, ↓gNil_e, ↓gCons_e, ↓tTup_e, ↓tTupF_e, ↓tLst_e, ↓tFld_e, ↓sFld_e, ↓sFldAug_e, ↓rAdd_e, ↓rSub_e, ↓tCall_e, ↓tProp_e, ↓tRaiseAsk_e, ↓getSp_e, ↓tMeth_e, ↓tMake_e, ↓rRep_e, ↓rCat_e, ↓tSl_e, ↓tNoPart_e, ↓tPart_e, ↓tYes_e, ↓tFor_e, ↓iTup_e, ↓iList_e, onL1_e, ↓iRng1_e, ↓iRng2_e, ↓iEnT_e, ↓tLc_e, ↓start_e, onD_s, onLst_s, ↓tApp_e, cxOf_K, upd_same, upd_upd, List.getElem?_cons_zero, List.getElem?_cons_succ, List.set_cons_zero, List.set_cons_succ, List.map_cons, List.map_nil, List.append_nil, List.cons_append, List.nil_append, List.length_cons, List.length_nil, List.replicate_succ, List.replicate_zero, Nat.reduceAdd, Nat.reduceSub, Nat.reduceLT, V.int.injEq, V.bl.injEq, V.str.injEq, V.ref.injEq, decide_eq_true_eq, Bool.not_true, Bool.not_false, Bool.false_eq_true, Bool.not_eq_true', decide_eq_false_iff_not, ↓reduceIte, true_and, and_true, and_self, decide_true, decide_false, not_false_eq_true, not_true_eq_false, eq_self, onN_s, int1_i, int1_b, one_i, two_i, ↓rIxA_e, ↓gSub_e, ↓rSetL_e, at3_0, at3_1, at3_2, ix3_0, ix3_1, ix3_2, onNum_i, onNum_b, ↓rIntA_e, ↓rMinA_e, ↓rMaxA_e, ↓rAbsA_e, ↓rLenL_e, ↓rSlLst_e, onTu_s, ↓gTupA_e, ↓rIxTu_e, ↓tRg1_e, ↓tLstRg_e, onRp_n, onRp_b, onRp_i, ↓rReprA_e, ↓rIsN_e, reduceCtorEq]
      refine ⟨by decide, fun a2 ha2 => ?_⟩
      have hq2 : a2 ≠ q := hp4.ne ha2
      have hp5 := hp4.new (o := .lst [.str "first", .str "again"]) ha2
      refine ⟨q, a2, _, _, rfl, hp5, by omega, upd_same, hq2, by simp, by simp, (n13.new ha2).wl, fun H4 v n4 hp6 hv => ?_⟩
      have n14 : Nx B [q] H H4 := (n13.new ha2).trans n4 fun b hb => .inl hb
      obtain ⟨bb, rfl⟩ : ∃ b : Bool, v = wv b := by
        simp only [List.mem_cons, List.not_mem_nil, or_false] at hv
        rcases hv with e | e
        · exact ⟨true, by rw [e]; rfl⟩
        · exact ⟨false, by rw [e]; rfl⟩
      have hlq : l ≠ q := fun z => by
        obtain ⟨a, b, c, e, _⟩ := hp1
        rw [z, e] at h1
        have h2 : ([V.int a, V.int b, V.int c] : List V) = ws.map wv := by
          have := Option.some.inj h1
          injection this
        cases ws with
        | nil => cases h2
        | cons x r => cases h2
      have h4 : H4 l = some (.lst (ws.map wv)) := n4.at (by rw [upd_ne (ne_of_none (n3.at (n2.at (by rw [upd_ne (ne_of_none h1 ha1)]; exact h1) (by simpa using hlq)) (by simpa using hlq)) ha2)]; exact n3.at (n2.at (by rw [upd_ne (ne_of_none h1 ha1)]; exact h1) (by simpa using hlq)) (by simpa using hlq)) (by simpa using hlq)
      simp only [onI_i, onB_b, onR_r, onT_t, onO_s, onS_s, onV_s, ↓tVar_e, ↓tC_e, ↓tNil_e, ↓tCons_e, ↓tCB_e, ↓tOp_e, ↓rI_e, ↓rI0_e, ↓tUn_e, ↓rU_e, ↓rEq_e, ↓rNe_e, scal_ii, scal_ss, scal_bb, ↓tAndV_e, ↓tOrV_e, ↓tNotV_e, ↓tAnd_e, ↓tOr_e, ↓tNot_e, ↓tTest_e, ↓tB_e, ↓tIf_e, ↓tChain_e, ↓tSeq_e, ↓tNext_e, ↓tBreak_e, ↓tCont_e, ↓tDrop_e, ↓tRet_e, ↓tRetN_e, ↓tIfS_e, ↓tAsg_e, ↓gName_e, onL2_e, ↓tPar_e2, onCons_e, ↓gNil_e, ↓gCons_e, ↓tTup_e, ↓tTupF_e, ↓tLst_e, ↓tFld_e, ↓sFld_e, ↓sFldAug_e, ↓rAdd_e, ↓rSub_e, ↓tCall_e, ↓tProp_e, ↓tRaiseAsk_e, ↓getSp_e, ↓tMeth_e, ↓tMake_e, ↓rRep_e, ↓rCat_e, ↓tSl_e, ↓tNoPart_e, ↓tPart_e, ↓tYes_e, ↓tFor_e, ↓iTup_e, ↓iList_e, onL1_e, ↓iRng1_e, ↓iRng2_e, ↓iEnT_e, ↓tLc_e, ↓start_e, onD_s, onLst_s, ↓tApp_e, cxOf_K, upd_same, upd_upd, List.getElem?_cons_zero, List.getElem?_cons_succ, List.set_cons_zero, List.set_cons_succ, List.map_cons, List.map_nil, List.append_nil, List.cons_append, List.nil_append, List.length_cons, List.length_nil, List.replicate_succ, List.replicate_zero, Nat.reduceAdd, Nat.reduceSub, Nat.reduceLT, V.int.injEq, V.bl.injEq, V.str.injEq, V.ref.injEq, decide_eq_true_eq, Bool.not_true, Bool.not_false, Bool.false_eq_true, Bool.not_eq_true', decide_eq_false_iff_not, ↓reduceIte, true_and, and_true, and_self, decide_true, decide_false, not_false_eq_true, not_true_eq_false, eq_self, onN_s, int1_i, int1_b, one_i, two_i, ↓rIxA_e, ↓gSub_e, ↓rSetL_e, at3_0, at3_1, at3_2, ix3_0, ix3_1, ix3_2, onNum_i, onNum_b, ↓rIntA_e, ↓rMinA_e, ↓rMaxA_e, ↓rAbsA_e, ↓rLenL_e, ↓rSlLst_e, onTu_s, ↓gTupA_e, ↓rIxTu_e, ↓tRg1_e, ↓tLstRg_e, onRp_n, onRp_b, onRp_i, ↓rReprA_e, ↓rIsN_e, reduceCtorEq]
      refine ⟨by decide, fun a3 ha3 => ?_⟩
      have hmn : many.toNat ≤ 400 := by omega
      have hsz : sizeLine = 16777216 := sizeLine_eq
      refine ⟨by omega, by omega, (by show 1 * many.toNat ≤ _; omega), fun a4 ha4 => ?_⟩
      have e4 := (upd_none ha4)
      simp only [onI_i, onB_b, onR_r, onT_t, onO_s, onS_s, onV_s, ↓tVar_e, ↓tC_e, ↓tNil_e, ↓tCons_e, ↓tCB_e, ↓tOp_e, ↓rI_e, ↓rI0_e, ↓tUn_e, ↓rU_e, ↓rEq_e, ↓rNe_e, scal_ii, scal_ss, scal_bb, ↓tAndV_e, ↓tOrV_e, ↓tNotV_e, ↓tAnd_e, ↓tOr_e, ↓tNot_e, ↓tTest_e, ↓tB_e, ↓tIf_e, ↓tChain_e, ↓tSeq_e, ↓tNext_e, ↓tBreak_e, ↓tCont_e, ↓tDrop_e, ↓tRet_e, ↓tRetN_e, ↓tIfS_e, ↓tAsg_e, ↓gName_e, onL2_e, ↓tPar_e2, onCons_e, ↓gNil_e, ↓gCons_e, ↓tTup_e, ↓tTupF_e, ↓tLst_e, ↓tFld_e, ↓sFld_e, ↓sFldAug_e, ↓rAdd_e, ↓rSub_e, ↓tCall_e, ↓tProp_e, ↓tRaiseAsk_e, ↓getSp_e, ↓tMeth_e, ↓tMake_e, ↓rRep_e, ↓rCat_e, ↓tSl_e, ↓tNoPart_e, ↓tPart_e, ↓tYes_e, ↓tFor_e, ↓iTup_e, ↓iList_e, onL1_e, ↓iRng1_e, ↓iRng2_e, ↓iEnT_e, ↓tLc_e, ↓start_e, onD_s, onLst_s, ↓tApp_e, cxOf_K, upd_same, upd_upd, List.getElem?_cons_zero, List.getElem?_cons_succ, List.set_cons_zero, List.set_cons_succ, List.map_cons, List.map_nil, List.append_nil, List.cons_append, List.nil_append, List.length_cons, List.length_nil, List.replicate_succ, List.replicate_zero, Nat.reduceAdd, Nat.reduceSub, Nat.reduceLT, V.int.injEq, V.bl.injEq, V.str.injEq, V.ref.injEq, decide_eq_true_eq, Bool.not_true, Bool.not_false, Bool.false_eq_true, Bool.not_eq_true', decide_eq_false_iff_not, ↓reduceIte, true_and, and_true, and_self, decide_true, decide_false, not_false_eq_true, not_true_eq_false, eq_self, onN_s, int1_i, int1_b, one_i, two_i, ↓rIxA_e, ↓gSub_e, ↓rSetL_e, at3_0, at3_1, at3_2, ix3_0, ix3_1, ix3_2, onNum_i, onNum_b, ↓rIntA_e, ↓rMinA_e, ↓rMaxA_e, ↓rAbsA_e, ↓rLenL_e, ↓rSlLst_e, onTu_s, ↓gTupA_e, ↓rIxTu_e, ↓tRg1_e, ↓tLstRg_e, onRp_n, onRp_b, onRp_i, ↓rReprA_e, ↓rIsN_e, reduceCtorEq, upd_ne (ne_of_none h4 e4.1), upd_ne (ne_of_none h4 ha3), h4, flat_one]
      refine ⟨(by rw [List.length_map, List.length_replicate]; omega), fun a5 ha5 => ?_⟩
      refine ⟨a5, ws ++ List.replicate many.toNat bb, _, _, rfl, ((n14.new ha3).new ha4).new ha5, (((hp6.new ha3).new ha4).new ha5).le (by omega), ?_, ?_⟩
      · rw [upd_same, List.map_append, List.map_replicate]
      · rw [List.length_append, List.length_replicate]
        omega
    · rintro σ H1 ⟨l, ws, v3, v4, rfl, n1', hp1, h1, hlen⟩
      simp only [onI_i, onB_b, onR_r, onT_t, onO_s, onS_s, onV_s, ↓tVar_e, ↓tC_e, ↓tNil_e, ↓tCons_e, ↓tCB_e, ↓tOp_e, ↓rI_e, ↓rI0_e, ↓tUn_e, ↓rU_e, ↓rEq_e, ↓rNe_e, scal_ii, scal_ss, scal_bb, ↓tAndV_e, ↓tOrV_e, ↓tNotV_e, ↓tAnd_e, ↓tOr_e, ↓tNot_e, ↓tTest_e, ↓tB_e, ↓tIf_e, ↓tChain_e, ↓tSeq_e, ↓tNext_e, ↓tBreak_e, ↓tCont_e, ↓tDrop_e, ↓tRet_e, ↓tRetN_e, ↓tIfS_e, ↓tAsg_e, ↓gName_e, onL2_e, ↓tPar_e2, onCons_e, ↓gNil_e, ↓gCons_e, ↓tTup_e, ↓tTupF_e, ↓tLst_e, ↓tFld_e, ↓sFld_e, ↓sFldAug_e, ↓rAdd_e, ↓rSub_e, ↓tCall_e, ↓tProp_e, ↓tRaiseAsk_e, ↓getSp_e, ↓tMeth_e, ↓tMake_e, ↓rRep_e, ↓rCat_e, ↓tSl_e, ↓tNoPart_e, ↓tPart_e, ↓tYes_e, ↓tFor_e, ↓iTup_e, ↓iList_e, onL1_e, ↓iRng1_e, ↓iRng2_e, ↓iEnT_e, ↓tLc_e, ↓start_e, onD_s, onLst_s, ↓tApp_e, cxOf_K, upd_same, upd_upd, List.getElem?_cons_zero, List.getElem?_cons_succ, List.set_cons_zero, List.set_cons_succ, List.map_cons, List.map_nil, List.append_nil, List.cons_append, List.nil_append, List.length_cons, List.length_nil, List.replicate_succ, List.replicate_zero, Nat.reduceAdd, Nat.reduceSub, Nat.reduceLT, V.int.injEq, V.bl.injEq, V.str.injEq, V.ref.injEq, decide_eq_true_eq, Bool.not_true, Bool.not_false, Bool.false_eq_true, Bool.not_eq_true', decide_eq_false_iff_not, ↓reduceIte, true_and, and_true, and_self, decide_true, decide_false, not_false_eq_true, not_true_eq_false, eq_self, onN_s, int1_i, int1_b, one_i, two_i, ↓rIxA_e, ↓gSub_e, ↓rSetL_e, at3_0, at3_1, at3_2, ix3_0, ix3_1, ix3_2, onNum_i, onNum_b, ↓rIntA_e, ↓rMinA_e, ↓rMaxA_e, ↓rAbsA_e, ↓rLenL_e, ↓rSlLst_e, onTu_s, ↓gTupA_e, ↓rIxTu_e, ↓tRg1_e, ↓tLstRg_e, onRp_n, onRp_b, onRp_i, ↓rReprA_e, ↓rIsN_e, reduceCtorEq, h1]
      intro a1 ha1
      have ec : cutV (ws.map wv) none (some 4000) = (ws.take 4000).map wv := by
        unfold cutV
        rw [HT.sIx_none, show (4000 : Int) = ((4000 : Nat) : Int) from rfl, HT.sIx_nat, List.drop_zero, Nat.sub_zero, List.length_map, ← List.map_take]
        congr 1
        rw [List.take_eq_take_iff]
        omega
      refine ⟨a1, _, rfl, .inl (.inl upd_same), fun r o hr2 ho hd => ?_⟩
      rw [ec]
      exact k _ r (ws.take 4000) ((n1'.new ha1).new (by rw [← ec]; exact hr2)) (((hp1.new ha1).new (by rw [← ec]; exact hr2)).le (by omega)) (by rw [List.length_take]; omega) ⟨o, upd_same, ho, hd⟩
end
end K49
set_option Elab.async false
set_option linter.all false
set_option maxRecDepth 100000
set_option maxHeartbeats 4000000
/-! k49: the law's pot made, its cells, its own account of a row. -/
namespace K49
open PySem PySem.Spec PyProof.Rows L2
section
variable {P : Program} {w : World} {K : PySem.W.Frag} {mg : Str → Option Value} {base : Heap} {cP AE BN BR : Addr} {B : Tb} {c0 P0 c1 P1 c2 P2 : Addr}
/-! ### _law_doing -/
def spDoing (K : PySem.W.Frag) (B : Tb) : Sp := fun vs H Q _ => ∃ m p a ws, vs = [.int m, .int p, .ref a] ∧ 0 ≤ m ∧ 1 ≤ p ∧ SqT K H a (ws.map wv) ∧ ws.length ≤ 4000 ∧ Wl B H ∧
  ∀ H' t r, Nx B [] H H' → Rd H' t (.tup ((outs m p (s0 m) ws).map .bl)) → H' r = some (.tup [.ref t, .int (run m p (s0 m) ws).c, .int (run m p (s0 m) ws).f, .int (run m p (s0 m) ws).a]) → Q (.ref r) H'
theorem sc32 : FnScope ["most", "per", "row", "told", "coins", "firsts", "anew", "word"] ["most", "per", "row"] (defScope (top 32)) := ⟨rfl, rfl, rfl, by decide +kernel, rfl, by decide +kernel, by decide +kernel⟩
theorem ok_doing (T : Ty P K mg base cP AE BN BR B c0 P0 c1 P1 c2 P2) : Dfn P w K mg base "_law_doing" 1 ["most", "per", "row"] (spDoing K B) := by
  have tI : mg "int" = none := T.x.t.bint
  refine dfn_mk T.d32 sc32 (fun _ _ _ _ _ _ us hl => match us, hl with | [_, _, _], _ => rfl) (fun vs H Q E h => ?_) (fun f cdv A outer s H vs Q E hr hc h => ?_)
  · obtain ⟨a, b, c, d, rfl, _⟩ := h
    rfl
  · obtain ⟨m, p, a, ws, rfl, m0, p0, ha, hl, wl, k⟩ := h
    refine ⟨_, pss_cons (ps_asg (pe_tup (pa_cons (pe_lst pa_nil) (pa_cons (pv 0) (pa_cons pe_int (pa_cons pe_int pa_nil))))) (pg_tupA 4 rfl (pgs_cons (pg_name (i := 3) sc32.nd rfl (Or.inl rfl)) (pgs_cons (pg_name (i := 4) sc32.nd rfl (Or.inl rfl)) (pgs_cons (pg_name (i := 5) sc32.nd rfl (Or.inl rfl)) (pgs_cons (pg_name (i := 6) sc32.nd rfl (Or.inl rfl)) pgs_nil))))))
      (pss_cons (ps_for passO rfl (pi_tup (pv 2)) (pg_name (i := 7) sc32.nd rfl (Or.inl rfl)) (pss_one (ps_if (pt_cmpR op_eq (pv 7) pe_str (nomark _))
        (pss_cons (ps_set (i := 5) sc32.nd rfl (Or.inl rfl) (pe_op op_add (pv 5) pe_int)) (pss_cons (ps_set (i := 4) sc32.nd rfl (Or.inl rfl) (pe_ifExp (pt_cmpR op_eq (pe_op op_mod (pe_callTy call_intA rfl tI PyProof.Rows.boot_int (pa_cons (pv 5) pa_nil)) (pv 1)) pe_int (nomark _)) (pe_callB (call_minA rfl) rfl T.x.t.bmin PyProof.Rows.boot_min (pa_cons (pv 0) (pa_cons (pe_op op_add (pv 4) pe_int) pa_nil))) (pv 4)))
          (pss_one (ps_expr (pe_app (pv 3) pe_bl)))))
        (pss_cons (ps_expr (pe_app (pv 3) (pe_cmpR op_gt (pv 4) pe_int (nomark _)))) (pss_one (ps_par (i := 6) (j := 4) rfl sc32.nd rfl rfl (by decide) rfl rfl (pa_cons (pe_op op_add (pv 6) (pe_callTy call_intA rfl tI PyProof.Rows.boot_int (pa_cons (pe_cmpR op_gt (pv 4) pe_int (nomark _)) pa_nil))) (pa_cons (pe_callB (call_maxA rfl) rfl T.x.t.bmax PyProof.Rows.boot_max (pa_cons pe_int (pa_cons (pe_op op_sub (pv 4) pe_int) pa_nil))) pa_nil)) (by rfl)))))))
      (pss_one (ps_ret (pe_tup (pa_cons (pe_callTy call_tupF rfl T.x.t.btuple PyProof.Rows.boot_tuple (pa_cons (pv 3) pa_nil)) (pa_cons (pv 4) (pa_cons (pv 5) (pa_cons (pv 6) pa_nil)))))))), ?_⟩
    simp only [onI_i, onB_b, onR_r, onT_t, onO_s, onS_s, onV_s, ↓tVar_e, ↓tC_e, ↓tNil_e, ↓tCons_e, ↓tCB_e, ↓tOp_e, ↓rI_e, ↓rI0_e, ↓tUn_e, ↓rU_e, ↓rEq_e, ↓rNe_e, scal_ii, scal_ss, scal_bb, ↓tAndV_e, ↓tOrV_e, ↓tNotV_e, ↓tAnd_e, ↓tOr_e, ↓tNot_e, ↓tTest_e, ↓tB_e, ↓tIf_e, ↓tChain_e, ↓tSeq_e, ↓tNext_e, ↓tBreak_e, ↓tCont_e, ↓tDrop_e, ↓tRet_e, ↓tRetN_e, ↓tIfS_e, ↓tAsg_e, ↓gName_e, onL2_e, ↓tPar_e2, onCons_e, ↓gNil_e, ↓gCons_e, ↓tTup_e, ↓tTupF_e, ↓tLst_e, ↓tFld_e, ↓sFld_e, ↓sFldAug_e, ↓rAdd_e, ↓rSub_e, ↓tCall_e, ↓tProp_e, ↓tRaiseAsk_e, ↓getSp_e, ↓tMeth_e, ↓tMake_e, ↓rRep_e, ↓rCat_e, ↓tSl_e, ↓tNoPart_e, ↓tPart_e, ↓tYes_e, ↓tFor_e, ↓iTup_e, ↓iList_e, onL1_e, ↓iRng1_e, ↓iRng2_e, ↓iEnT_e, ↓tLc_e, ↓start_e, onD_s, onLst_s, ↓tApp_e, cxOf_K, upd_same, upd_upd, List.getElem?_cons_zero, List.getElem?_cons_succ, List.set_cons_zero, List.set_cons_succ, List.map_cons, List.map_nil, List.append_nil, List.cons_append, List.nil_append, List.length_cons, List.length_nil, List.replicate_succ, List.replicate_zero, Nat.reduceAdd, Nat.reduceSub, Nat.reduceLT, V.int.injEq, V.bl.injEq, V.str.injEq, V.ref.injEq, decide_eq_true_eq, Bool.not_true, Bool.not_false, Bool.false_eq_true, Bool.not_eq_true', decide_eq_false_iff_not, ↓reduceIte, true_and, and_true, and_self, decide_true, decide_false, not_false_eq_true, not_true_eq_false, eq_self, onN_s, int1_i, int1_b, one_i, two_i, ↓rIxA_e, ↓gSub_e, ↓rSetL_e, at3_0, at3_1, at3_2, ix3_0, ix3_1, ix3_2, onNum_i, onNum_b, ↓rIntA_e, ↓rMinA_e, ↓rMaxA_e, ↓rAbsA_e, ↓rLenL_e, ↓rSlLst_e, onTu_s, ↓gTupA_e, ↓rIxTu_e, ↓tRg1_e, ↓tLstRg_e, onRp_n, onRp_b, onRp_i, ↓rReprA_e, ↓rIsN_e, reduceCtorEq]
    refine ⟨Nat.zero_le _, fun l hl0 => ⟨by decide, fun pr hpr => ?_⟩⟩
    have npl : pr ≠ l := (upd_none hpr).2
    have hpr0 : H pr = none := (upd_none hpr).1
    have n0 : Nx B [] H (upd (upd H l (.lst [])) pr (.tup [.ref l, .int m, .int 0, .int 0])) := ((Nx.refl wl).new hl0).new hpr
    refine ⟨⟨_, n0.sqT ha⟩, for_tup (K := K) (a := a) (xs := ws.map wv) (fun i σ H' => ∃ v, σ = [some (.int m), some (.int p), some (.ref a), some (.ref l), some (.int (run m p (s0 m) (ws.take i)).c), some (.int (run m p (s0 m) (ws.take i)).f), some (.int (run m p (s0 m) (ws.take i)).a), v] ∧ Nx B [] H H' ∧ H' l = some (.lst ((outs m p (s0 m) (ws.take i)).map .bl)))
      ⟨none, rfl, n0, by rw [upd_ne npl.symm, upd_same]; rfl⟩ (fun i σ H' _ ⟨_, _, n, _⟩ => n.sqT ha) ?_ ?_⟩
    · rintro i x σ H' hi ⟨v, rfl, n, h1⟩
      obtain ⟨b, hb, rfl⟩ := wv_get hi
      have g := good_run m0 p0 (ws := ws.take i) (good0 (p := p) m0)
      have er := run_more (m := m) (p := p) (s := s0 m) hb
      have eo := outs_more (m := m) (p := p) (s := s0 m) hb
      have hl2 : (outs m p (s0 m) (ws.take i)).length < sizeLine := by
        rw [outs_len, List.length_take, sizeLine_eq]
        omega
      rw [er, eo]
      generalize run m p (s0 m) (ws.take i) = s1 at g
      obtain ⟨c0', cm, f0, a0, _, _⟩ := g
      have hp : 0 < p := by omega
      cases b with
      | true =>
        have es : stp m p s1 true = ⟨firstC m p s1.c s1.f, s1.f + 1, s1.a⟩ := rfl
        rw [es]
        unfold firstC
        by_cases e1 : (s1.f + 1) % p = 0
        · by_cases e2 : s1.c < m
          · have e3 : ¬ (s1.c + 1 < m) ∨ s1.c + 1 < m := by omega
            have e4 : (if s1.c + 1 < m then s1.c + 1 else m) = s1.c + 1 := by split <;> omega
            simp only [onI_i, onB_b, onR_r, onT_t, onO_s, onS_s, onV_s, ↓tVar_e, ↓tC_e, ↓tNil_e, ↓tCons_e, ↓tCB_e, ↓tOp_e, ↓rI_e, ↓rI0_e, ↓tUn_e, ↓rU_e, ↓rEq_e, ↓rNe_e, scal_ii, scal_ss, scal_bb, ↓tAndV_e, ↓tOrV_e, ↓tNotV_e, ↓tAnd_e, ↓tOr_e, ↓tNot_e, ↓tTest_e, ↓tB_e, ↓tIf_e, ↓tChain_e, ↓tSeq_e, ↓tNext_e, ↓tBreak_e, ↓tCont_e, ↓tDrop_e, ↓tRet_e, ↓tRetN_e, ↓tIfS_e, ↓tAsg_e, ↓gName_e, onL2_e, ↓tPar_e2, onCons_e, ↓gNil_e, ↓gCons_e, ↓tTup_e, ↓tTupF_e, ↓tLst_e, ↓tFld_e, ↓sFld_e, ↓sFldAug_e, ↓rAdd_e, ↓rSub_e, ↓tCall_e, ↓tProp_e, ↓tRaiseAsk_e, ↓getSp_e, ↓tMeth_e, ↓tMake_e, ↓rRep_e, ↓rCat_e, ↓tSl_e, ↓tNoPart_e, ↓tPart_e, ↓tYes_e, ↓tFor_e, ↓iTup_e, ↓iList_e, onL1_e, ↓iRng1_e, ↓iRng2_e, ↓iEnT_e, ↓tLc_e, ↓start_e, onD_s, onLst_s, ↓tApp_e, cxOf_K, upd_same, upd_upd, List.getElem?_cons_zero, List.getElem?_cons_succ, List.set_cons_zero, List.set_cons_succ, List.map_cons, List.map_nil, List.append_nil, List.cons_append, List.nil_append, List.length_cons, List.length_nil, List.replicate_succ, List.replicate_zero, Nat.reduceAdd, Nat.reduceSub, Nat.reduceLT, V.int.injEq, V.bl.injEq, V.str.injEq, V.ref.injEq, decide_eq_true_eq, Bool.not_true, Bool.not_false, Bool.false_eq_true, Bool.not_eq_true', decide_eq_false_iff_not, ↓reduceIte, true_and, and_true, and_self, decide_true, decide_false, not_false_eq_true, not_true_eq_false, eq_self, onN_s, int1_i, int1_b, one_i, two_i, ↓rIxA_e, ↓gSub_e, ↓rSetL_e, at3_0, at3_1, at3_2, ix3_0, ix3_1, ix3_2, onNum_i, onNum_b, ↓rIntA_e, ↓rMinA_e, ↓rMaxA_e, ↓rAbsA_e, ↓rLenL_e, ↓rSlLst_e, onTu_s, ↓gTupA_e, ↓rIxTu_e, ↓tRg1_e, ↓tLstRg_e, onRp_n, onRp_b, onRp_i, ↓rReprA_e, ↓rIsN_e, reduceCtorEq, wv_first, h1, e1, hp, e2, e4, List.length_map, and_self]
            exact ⟨hl2, _, rfl, n.wr (.inr hl0) h1 rfl, by simp [out]⟩
          · have e4 : (if s1.c + 1 < m then s1.c + 1 else m) = s1.c := by split <;> omega
            simp only [onI_i, onB_b, onR_r, onT_t, onO_s, onS_s, onV_s, ↓tVar_e, ↓tC_e, ↓tNil_e, ↓tCons_e, ↓tCB_e, ↓tOp_e, ↓rI_e, ↓rI0_e, ↓tUn_e, ↓rU_e, ↓rEq_e, ↓rNe_e, scal_ii, scal_ss, scal_bb, ↓tAndV_e, ↓tOrV_e, ↓tNotV_e, ↓tAnd_e, ↓tOr_e, ↓tNot_e, ↓tTest_e, ↓tB_e, ↓tIf_e, ↓tChain_e, ↓tSeq_e, ↓tNext_e, ↓tBreak_e, ↓tCont_e, ↓tDrop_e, ↓tRet_e, ↓tRetN_e, ↓tIfS_e, ↓tAsg_e, ↓gName_e, onL2_e, ↓tPar_e2, onCons_e, ↓gNil_e, ↓gCons_e, ↓tTup_e, ↓tTupF_e, ↓tLst_e, ↓tFld_e, ↓sFld_e, ↓sFldAug_e, ↓rAdd_e, ↓rSub_e, ↓tCall_e, ↓tProp_e, ↓tRaiseAsk_e, ↓getSp_e, ↓tMeth_e, ↓tMake_e, ↓rRep_e, ↓rCat_e, ↓tSl_e, ↓tNoPart_e, ↓tPart_e, ↓tYes_e, ↓tFor_e, ↓iTup_e, ↓iList_e, onL1_e, ↓iRng1_e, ↓iRng2_e, ↓iEnT_e, ↓tLc_e, ↓start_e, onD_s, onLst_s, ↓tApp_e, cxOf_K, upd_same, upd_upd, List.getElem?_cons_zero, List.getElem?_cons_succ, List.set_cons_zero, List.set_cons_succ, List.map_cons, List.map_nil, List.append_nil, List.cons_append, List.nil_append, List.length_cons, List.length_nil, List.replicate_succ, List.replicate_zero, Nat.reduceAdd, Nat.reduceSub, Nat.reduceLT, V.int.injEq, V.bl.injEq, V.str.injEq, V.ref.injEq, decide_eq_true_eq, Bool.not_true, Bool.not_false, Bool.false_eq_true, Bool.not_eq_true', decide_eq_false_iff_not, ↓reduceIte, true_and, and_true, and_self, decide_true, decide_false, not_false_eq_true, not_true_eq_false, eq_self, onN_s, int1_i, int1_b, one_i, two_i, ↓rIxA_e, ↓gSub_e, ↓rSetL_e, at3_0, at3_1, at3_2, ix3_0, ix3_1, ix3_2, onNum_i, onNum_b, ↓rIntA_e, ↓rMinA_e, ↓rMaxA_e, ↓rAbsA_e, ↓rLenL_e, ↓rSlLst_e, onTu_s, ↓gTupA_e, ↓rIxTu_e, ↓tRg1_e, ↓tLstRg_e, onRp_n, onRp_b, onRp_i, ↓rReprA_e, ↓rIsN_e, reduceCtorEq, wv_first, h1, e1, hp, e2, e4, List.length_map, and_false]
            exact ⟨hl2, _, rfl, n.wr (.inr hl0) h1 rfl, by simp [out]⟩
        · simp only [onI_i, onB_b, onR_r, onT_t, onO_s, onS_s, onV_s, ↓tVar_e, ↓tC_e, ↓tNil_e, ↓tCons_e, ↓tCB_e, ↓tOp_e, ↓rI_e, ↓rI0_e, ↓tUn_e, ↓rU_e, ↓rEq_e, ↓rNe_e, scal_ii, scal_ss, scal_bb, ↓tAndV_e, ↓tOrV_e, ↓tNotV_e, ↓tAnd_e, ↓tOr_e, ↓tNot_e, ↓tTest_e, ↓tB_e, ↓tIf_e, ↓tChain_e, ↓tSeq_e, ↓tNext_e, ↓tBreak_e, ↓tCont_e, ↓tDrop_e, ↓tRet_e, ↓tRetN_e, ↓tIfS_e, ↓tAsg_e, ↓gName_e, onL2_e, ↓tPar_e2, onCons_e, ↓gNil_e, ↓gCons_e, ↓tTup_e, ↓tTupF_e, ↓tLst_e, ↓tFld_e, ↓sFld_e, ↓sFldAug_e, ↓rAdd_e, ↓rSub_e, ↓tCall_e, ↓tProp_e, ↓tRaiseAsk_e, ↓getSp_e, ↓tMeth_e, ↓tMake_e, ↓rRep_e, ↓rCat_e, ↓tSl_e, ↓tNoPart_e, ↓tPart_e, ↓tYes_e, ↓tFor_e, ↓iTup_e, ↓iList_e, onL1_e, ↓iRng1_e, ↓iRng2_e, ↓iEnT_e, ↓tLc_e, ↓start_e, onD_s, onLst_s, ↓tApp_e, cxOf_K, upd_same, upd_upd, List.getElem?_cons_zero, List.getElem?_cons_succ, List.set_cons_zero, List.set_cons_succ, List.map_cons, List.map_nil, List.append_nil, List.cons_append, List.nil_append, List.length_cons, List.length_nil, List.replicate_succ, List.replicate_zero, Nat.reduceAdd, Nat.reduceSub, Nat.reduceLT, V.int.injEq, V.bl.injEq, V.str.injEq, V.ref.injEq, decide_eq_true_eq, Bool.not_true, Bool.not_false, Bool.false_eq_true, Bool.not_eq_true', decide_eq_false_iff_not, ↓reduceIte, true_and, and_true, and_self, decide_true, decide_false, not_false_eq_true, not_true_eq_false, eq_self, onN_s, int1_i, int1_b, one_i, two_i, ↓rIxA_e, ↓gSub_e, ↓rSetL_e, at3_0, at3_1, at3_2, ix3_0, ix3_1, ix3_2, onNum_i, onNum_b, ↓rIntA_e, ↓rMinA_e, ↓rMaxA_e, ↓rAbsA_e, ↓rLenL_e, ↓rSlLst_e, onTu_s, ↓gTupA_e, ↓rIxTu_e, ↓tRg1_e, ↓tLstRg_e, onRp_n, onRp_b, onRp_i, ↓rReprA_e, ↓rIsN_e, reduceCtorEq, wv_first, h1, e1, hp, List.length_map, false_and]
          exact ⟨hl2, _, rfl, n.wr (.inr hl0) h1 rfl, by simp [out]⟩
      | false =>
        by_cases e1 : s1.c = 0
        · have es : stp m p s1 false = s1 := by
            unfold stp
            rw [if_neg Bool.false_ne_true, if_pos e1]
          have e2 : ¬ (0 < s1.c) := by omega
          have e4 : (if 0 < s1.c - 1 then s1.c - 1 else 0) = s1.c := by split <;> omega
          rw [es]
          simp only [onI_i, onB_b, onR_r, onT_t, onO_s, onS_s, onV_s, ↓tVar_e, ↓tC_e, ↓tNil_e, ↓tCons_e, ↓tCB_e, ↓tOp_e, ↓rI_e, ↓rI0_e, ↓tUn_e, ↓rU_e, ↓rEq_e, ↓rNe_e, scal_ii, scal_ss, scal_bb, ↓tAndV_e, ↓tOrV_e, ↓tNotV_e, ↓tAnd_e, ↓tOr_e, ↓tNot_e, ↓tTest_e, ↓tB_e, ↓tIf_e, ↓tChain_e, ↓tSeq_e, ↓tNext_e, ↓tBreak_e, ↓tCont_e, ↓tDrop_e, ↓tRet_e, ↓tRetN_e, ↓tIfS_e, ↓tAsg_e, ↓gName_e, onL2_e, ↓tPar_e2, onCons_e, ↓gNil_e, ↓gCons_e, ↓tTup_e, ↓tTupF_e, ↓tLst_e, ↓tFld_e, ↓sFld_e, ↓sFldAug_e, ↓rAdd_e, ↓rSub_e, ↓tCall_e, ↓tProp_e, ↓tRaiseAsk_e, ↓getSp_e, ↓tMeth_e, ↓tMake_e, ↓rRep_e, ↓rCat_e, ↓tSl_e, ↓tNoPart_e, ↓tPart_e, ↓tYes_e, ↓tFor_e, ↓iTup_e, ↓iList_e, onL1_e, ↓iRng1_e, ↓iRng2_e, ↓iEnT_e, ↓tLc_e, ↓start_e, onD_s, onLst_s, ↓tApp_e, cxOf_K, upd_same, upd_upd, List.getElem?_cons_zero, List.getElem?_cons_succ, List.set_cons_zero, List.set_cons_succ, List.map_cons, List.map_nil, List.append_nil, List.cons_append, List.nil_append, List.length_cons, List.length_nil, List.replicate_succ, List.replicate_zero, Nat.reduceAdd, Nat.reduceSub, Nat.reduceLT, V.int.injEq, V.bl.injEq, V.str.injEq, V.ref.injEq, decide_eq_true_eq, Bool.not_true, Bool.not_false, Bool.false_eq_true, Bool.not_eq_true', decide_eq_false_iff_not, ↓reduceIte, true_and, and_true, and_self, decide_true, decide_false, not_false_eq_true, not_true_eq_false, eq_self, onN_s, int1_i, int1_b, one_i, two_i, ↓rIxA_e, ↓gSub_e, ↓rSetL_e, at3_0, at3_1, at3_2, ix3_0, ix3_1, ix3_2, onNum_i, onNum_b, ↓rIntA_e, ↓rMinA_e, ↓rMaxA_e, ↓rAbsA_e, ↓rLenL_e, ↓rSlLst_e, onTu_s, ↓gTupA_e, ↓rIxTu_e, ↓tRg1_e, ↓tLstRg_e, onRp_n, onRp_b, onRp_i, ↓rReprA_e, ↓rIsN_e, reduceCtorEq, wv_first, h1, str_fa, e2, e4, List.length_map, Int.add_zero]
          exact ⟨hl2, _, rfl, n.wr (.inr hl0) h1 rfl, by simp [out, e1]⟩
        · have es : stp m p s1 false = ⟨s1.c - 1, s1.f, s1.a + 1⟩ := by
            unfold stp
            rw [if_neg Bool.false_ne_true, if_neg e1]
          have e2 : 0 < s1.c := by omega
          have e4 : (if 0 < s1.c - 1 then s1.c - 1 else 0) = s1.c - 1 := by split <;> omega
          rw [es]
          simp only [onI_i, onB_b, onR_r, onT_t, onO_s, onS_s, onV_s, ↓tVar_e, ↓tC_e, ↓tNil_e, ↓tCons_e, ↓tCB_e, ↓tOp_e, ↓rI_e, ↓rI0_e, ↓tUn_e, ↓rU_e, ↓rEq_e, ↓rNe_e, scal_ii, scal_ss, scal_bb, ↓tAndV_e, ↓tOrV_e, ↓tNotV_e, ↓tAnd_e, ↓tOr_e, ↓tNot_e, ↓tTest_e, ↓tB_e, ↓tIf_e, ↓tChain_e, ↓tSeq_e, ↓tNext_e, ↓tBreak_e, ↓tCont_e, ↓tDrop_e, ↓tRet_e, ↓tRetN_e, ↓tIfS_e, ↓tAsg_e, ↓gName_e, onL2_e, ↓tPar_e2, onCons_e, ↓gNil_e, ↓gCons_e, ↓tTup_e, ↓tTupF_e, ↓tLst_e, ↓tFld_e, ↓sFld_e, ↓sFldAug_e, ↓rAdd_e, ↓rSub_e, ↓tCall_e, ↓tProp_e, ↓tRaiseAsk_e, ↓getSp_e, ↓tMeth_e, ↓tMake_e, ↓rRep_e, ↓rCat_e, ↓tSl_e, ↓tNoPart_e, ↓tPart_e, ↓tYes_e, ↓tFor_e, ↓iTup_e, ↓iList_e, onL1_e, ↓iRng1_e, ↓iRng2_e, ↓iEnT_e, ↓tLc_e, ↓start_e, onD_s, onLst_s, ↓tApp_e, cxOf_K, upd_same, upd_upd, List.getElem?_cons_zero, List.getElem?_cons_succ, List.set_cons_zero, List.set_cons_succ, List.map_cons, List.map_nil, List.append_nil, List.cons_append, List.nil_append, List.length_cons, List.length_nil, List.replicate_succ, List.replicate_zero, Nat.reduceAdd, Nat.reduceSub, Nat.reduceLT, V.int.injEq, V.bl.injEq, V.str.injEq, V.ref.injEq, decide_eq_true_eq, Bool.not_true, Bool.not_false, Bool.false_eq_true, Bool.not_eq_true', decide_eq_false_iff_not, ↓reduceIte, true_and, and_true, and_self, decide_true, decide_false, not_false_eq_true, not_true_eq_false, eq_self, onN_s, int1_i, int1_b, one_i, two_i, ↓rIxA_e, ↓gSub_e, ↓rSetL_e, at3_0, at3_1, at3_2, ix3_0, ix3_1, ix3_2, onNum_i, onNum_b, ↓rIntA_e, ↓rMinA_e, ↓rMaxA_e, ↓rAbsA_e, ↓rLenL_e, ↓rSlLst_e, onTu_s, ↓gTupA_e, ↓rIxTu_e, ↓tRg1_e, ↓tLstRg_e, onRp_n, onRp_b, onRp_i, ↓rReprA_e, ↓rIsN_e, reduceCtorEq, wv_first, h1, str_fa, e2, e4, List.length_map]
          exact ⟨hl2, _, rfl, n.wr (.inr hl0) h1 rfl, by simp [out, e1]⟩
    · rintro σ H' ⟨v, rfl, n, h1⟩
      rw [List.length_map, List.take_length] at *
      simp only [onI_i, onB_b, onR_r, onT_t, onO_s, onS_s, onV_s, ↓tVar_e, ↓tC_e, ↓tNil_e, ↓tCons_e, ↓tCB_e, ↓tOp_e, ↓rI_e, ↓rI0_e, ↓tUn_e, ↓rU_e, ↓rEq_e, ↓rNe_e, scal_ii, scal_ss, scal_bb, ↓tAndV_e, ↓tOrV_e, ↓tNotV_e, ↓tAnd_e, ↓tOr_e, ↓tNot_e, ↓tTest_e, ↓tB_e, ↓tIf_e, ↓tChain_e, ↓tSeq_e, ↓tNext_e, ↓tBreak_e, ↓tCont_e, ↓tDrop_e, ↓tRet_e, ↓tRetN_e, ↓tIfS_e, ↓tAsg_e, ↓gName_e, onL2_e, ↓tPar_e2, onCons_e, ↓gNil_e, ↓gCons_e, ↓tTup_e, ↓tTupF_e, ↓tLst_e, ↓tFld_e, ↓sFld_e, ↓sFldAug_e, ↓rAdd_e, ↓rSub_e, ↓tCall_e, ↓tProp_e, ↓tRaiseAsk_e, ↓getSp_e, ↓tMeth_e, ↓tMake_e, ↓rRep_e, ↓rCat_e, ↓tSl_e, ↓tNoPart_e, ↓tPart_e, ↓tYes_e, ↓tFor_e, ↓iTup_e, ↓iList_e, onL1_e, ↓iRng1_e, ↓iRng2_e, ↓iEnT_e, ↓tLc_e, ↓start_e, onD_s, onLst_s, ↓tApp_e, cxOf_K, upd_same, upd_upd, List.getElem?_cons_zero, List.getElem?_cons_succ, List.set_cons_zero, List.set_cons_succ, List.map_cons, List.map_nil, List.append_nil, List.cons_append, List.nil_append, List.length_cons, List.length_nil, List.replicate_succ, List.replicate_zero, Nat.reduceAdd, Nat.reduceSub, Nat.reduceLT, V.int.injEq, V.bl.injEq, V.str.injEq, V.ref.injEq, decide_eq_true_eq, Bool.not_true, Bool.not_false, Bool.false_eq_true, Bool.not_eq_true', decide_eq_false_iff_not, ↓reduceIte, true_and, and_true, and_self, decide_true, decide_false, not_false_eq_true, not_true_eq_false, eq_self, onN_s, int1_i, int1_b, one_i, two_i, ↓rIxA_e, ↓gSub_e, ↓rSetL_e, at3_0, at3_1, at3_2, ix3_0, ix3_1, ix3_2, onNum_i, onNum_b, ↓rIntA_e, ↓rMinA_e, ↓rMaxA_e, ↓rAbsA_e, ↓rLenL_e, ↓rSlLst_e, onTu_s, ↓gTupA_e, ↓rIxTu_e, ↓tRg1_e, ↓tLstRg_e, onRp_n, onRp_b, onRp_i, ↓rReprA_e, ↓rIsN_e, reduceCtorEq]
      refine ⟨l, _, rfl, .inl (.inl h1), fun t o ht ho hd => ⟨by decide, fun r hr2 => ?_⟩⟩
      exact k _ t r ((n.new ht).new hr2) (.inr ⟨o, by rw [upd_ne (upd_none hr2).2.symm, upd_same]⟩) upd_same
/-! ### _law_pot, _law_cells -/
def spPot (K : PySem.W.Frag) (B : Tb) : Sp := fun vs H Q _ => ∃ a pl ns, vs = [.ref a, .int pl] ∧ SqL K H a (ns.map .int) ∧ 0 ≤ pl ∧ pl ≤ 1 ∧ (pl < (ns.length : Int) ∨ ns = []) ∧ ns.length ≤ 100 ∧ Wl B H ∧ ∀ H' q, Nx B [] H H' → H q = none → PotAt H' q 0 → Q (.ref q) H'
theorem sc27 : FnScope ["script", "place", "cell", "own", "small"] ["script", "place"] (defScope (top 27)) := ⟨rfl, rfl, rfl, by decide +kernel, rfl, by decide +kernel, by decide +kernel⟩
theorem p60 : CPowW 10 60 := ⟨by decide, by decide +kernel⟩
theorem p300 : CPowW (10 ^ Int.toNat 60) 5 := ⟨by decide, by decide +kernel⟩
theorem p18 : CPowW 10 18 := ⟨by decide, by decide +kernel⟩
theorem iteY {c : Bool} {A B : Prop} (hc : c = true) (h : A) : if c = true then A else B := by
  rw [if_pos hc]
  exact h
theorem iteN {c : Bool} {A B : Prop} (hc : c = false) (h : B) : if c = true then A else B := by
  rw [hc, if_neg Bool.false_ne_true]
  exact h
theorem ite01 {p : Prop} [Decidable p] : (if p then (1 : Int) else 0) = 0 ∨ (if p then (1 : Int) else 0) = 1 := by
  split <;> simp
theorem ok_pot (T : Ty P K mg base cP AE BN BR B c0 P0 c1 P1 c2 P2) : Dfn P w K mg base "_law_pot" 1 ["script", "place"] (spPot K B) := by
  have tI : mg "int" = none := T.x.t.bint
  refine dfn_mk T.d27 sc27 (fun _ _ _ _ _ _ us hl => match us, hl with | [_, _], _ => rfl) (fun vs H Q E h => ?_) (fun f cdv A outer s H vs Q E hr hc h => ?_)
  · obtain ⟨a, b, c, rfl, _⟩ := h
    rfl
  · obtain ⟨a, pl, ns, rfl, ha, q0, q1, hpl, hlen, wl, k⟩ := h
    refine ⟨_, pss_cons (ps_set (i := 2) sc27.nd rfl (Or.inl rfl) (pe_ifExp (pt_cmpR op_lt (pv 1) (pe_callB call_len_seq rfl T.x.t.blen PySem.boot_len (pa_cons (pv 0) pa_nil)) (nomark _)) (pe_ix ix_list (pv 0) (pv 1) (by with_unfolding_all (intro _ _; rfl)))
        (pe_op op_add (pe_op op_add (pe_op op_mod (pe_callB (cr_sum rfl) rfl T.x.t.bsum PyProof.Rows.boot_sum (pa_cons (pe_slice sl_list (pv 0) po_none (po_some pe_int)) pa_nil)) pe_int) (pe_op op_mul pe_int (pv 1))) pe_int)))
      (pss_cons (ps_set (i := 3) sc27.nd rfl (Or.inl rfl) (pe_op op_mul (pe_op op_mod (pe_callTy call_intA rfl tI PyProof.Rows.boot_int (pa_cons (pe_callB call_absA rfl T.x.t.babs PyProof.Rows.boot_abs (pa_cons (pv 2) pa_nil)) pa_nil)) (pe_op op_powW (pe_op op_powW pe_int pe_int) pe_int))
        (pe_callTy call_intA rfl tI PyProof.Rows.boot_int (pa_cons (pe_cmpR op_ge (pe_callB call_absA rfl T.x.t.babs PyProof.Rows.boot_abs (pa_cons (pv 2) pa_nil)) (pe_op op_powW pe_int pe_int) (nomark _)) pa_nil))))
      (pss_cons (ps_set (i := 4) sc27.nd rfl (Or.inl rfl) (pe_op op_mod (pe_callTy call_intA rfl tI PyProof.Rows.boot_int (pa_cons (pv 2) pa_nil)) pe_int))
      (pss_one (ps_ret (pe_lst (pa_cons (pv 3) (pa_cons (pe_op op_mod (pe_callTy call_intA rfl tI PyProof.Rows.boot_int (pa_cons (pe_op op_add (pe_op op_add (pe_op op_mul (pv 4) pe_int) (pe_op op_mul (pe_op op_mul pe_int (pv 1)) (pv 1))) pe_int) pa_nil)) pe_int) (pa_cons pe_int pa_nil)))))))), ?_⟩
    -- what follows once the cell is known
    have fin : ∀ (cell : Int) (H1 : Hp), Nx B [] H H1 → tSeq (tAsg (tOp (rI CMul fun i j => .int (i * j)) (tOp (rI (fun _ j => 0 < j) fun i j => .int (i % j)) (tCB rIntA (tCons (tCB rAbsA (tCons (tVar 2) tNil)) tNil)) (tOp (rI CPowW fun i j => .int (i ^ j.toNat)) (tOp (rI CPowW fun i j => .int (i ^ j.toNat)) (tC (.int 10)) (tC (.int 60))) (tC (.int 5))))
        (tCB rIntA (tCons (tOp (rI0 fun i j => .bl (decide (j ≤ i))) (tCB rAbsA (tCons (tVar 2) tNil)) (tOp (rI CPowW fun i j => .int (i ^ j.toNat)) (tC (.int 10)) (tC (.int 18)))) tNil))) (gName 3))
        (tSeq (tAsg (tOp (rI (fun _ j => 0 < j) fun i j => .int (i % j)) (tCB rIntA (tCons (tVar 2) tNil)) (tC (.int 2305843009213693951))) (gName 4))
        (tRet (tLst (tCons (tVar 3) (tCons (tOp (rI (fun _ j => 0 < j) fun i j => .int (i % j)) (tCB rIntA (tCons (tOp (rI0 fun i j => .int (i + j)) (tOp (rI0 fun i j => .int (i + j)) (tOp (rI CMul fun i j => .int (i * j)) (tVar 4) (tC (.int 161942))) (tOp (rI CMul fun i j => .int (i * j)) (tOp (rI CMul fun i j => .int (i * j)) (tC (.int 36664)) (tVar 1)) (tVar 1))) (tC (.int 4926))) tNil)) (tC (.int 2305843009213693921))) (tCons (tC (.int 0)) tNil))))))
        { nx := fun _ H' => Q .non H', rt := Q } [some (.ref a), some (.int pl), some (.int cell), none, none] H1 := fun cell H1 n1 => by
      simp only [onI_i, onB_b, onR_r, onT_t, onO_s, onS_s, onV_s, ↓tVar_e, ↓tC_e, ↓tNil_e, ↓tCons_e, ↓tCB_e, ↓tOp_e, ↓rI_e, ↓rI0_e, ↓tUn_e, ↓rU_e, ↓rEq_e, ↓rNe_e, scal_ii, scal_ss, scal_bb, ↓tAndV_e, ↓tOrV_e, ↓tNotV_e, ↓tAnd_e, ↓tOr_e, ↓tNot_e, ↓tTest_e, ↓tB_e, ↓tIf_e, ↓tChain_e, ↓tSeq_e, ↓tNext_e, ↓tBreak_e, ↓tCont_e, ↓tDrop_e, ↓tRet_e, ↓tRetN_e, ↓tIfS_e, ↓tAsg_e, ↓gName_e, onL2_e, ↓tPar_e2, onCons_e, ↓gNil_e, ↓gCons_e, ↓tTup_e, ↓tTupF_e, ↓tLst_e, ↓tFld_e, ↓sFld_e, ↓sFldAug_e, ↓rAdd_e, ↓rSub_e, ↓tCall_e, ↓tProp_e, ↓tRaiseAsk_e, ↓getSp_e, ↓tMeth_e, ↓tMake_e, ↓rRep_e, ↓rCat_e, ↓tSl_e, ↓tNoPart_e, ↓tPart_e, ↓tYes_e, ↓tFor_e, ↓iTup_e, ↓iList_e, onL1_e, ↓iRng1_e, ↓iRng2_e, ↓iEnT_e, ↓tLc_e, ↓start_e, onD_s, onLst_s, ↓tApp_e, cxOf_K, upd_same, upd_upd, List.getElem?_cons_zero, List.getElem?_cons_succ, List.set_cons_zero, List.set_cons_succ, List.map_cons, List.map_nil, List.append_nil, List.cons_append, List.nil_append, List.length_cons, List.length_nil, List.replicate_succ, List.replicate_zero, Nat.reduceAdd, Nat.reduceSub, Nat.reduceLT, V.int.injEq, V.bl.injEq, V.str.injEq, V.ref.injEq, decide_eq_true_eq, Bool.not_true, Bool.not_false, Bool.false_eq_true, Bool.not_eq_true', decide_eq_false_iff_not, ↓reduceIte, true_and, and_true, and_self, decide_true, decide_false, not_false_eq_true, not_true_eq_false, eq_self, onN_s, int1_i, int1_b, one_i, two_i, ↓rIxA_e, ↓gSub_e, ↓rSetL_e, at3_0, at3_1, at3_2, ix3_0, ix3_1, ix3_2, onNum_i, onNum_b, ↓rIntA_e, ↓rMinA_e, ↓rMaxA_e, ↓rAbsA_e, ↓rLenL_e, ↓rSlLst_e, onTu_s, ↓gTupA_e, ↓rIxTu_e, ↓tRg1_e, ↓tLstRg_e, onRp_n, onRp_b, onRp_i, ↓rReprA_e, ↓rIsN_e, reduceCtorEq]
      have hM : (0 : Int) < (10 ^ Int.toNat 60) ^ Int.toNat 5 := by decide +kernel
      generalize (10 ^ Int.toNat 60 : Int) ^ Int.toNat 5 = M at hM
      have hx0 : 0 ≤ (if cell < 0 then -cell else cell) % M := Int.emod_nonneg _ (by omega)
      have hs0 : 0 ≤ cell % 2305843009213693951 := Int.emod_nonneg _ (by omega)
      have hs1 : cell % 2305843009213693951 < 2305843009213693951 := Int.emod_lt_of_pos _ (by omega)
      generalize (if cell < 0 then -cell else cell) % M = X at hx0
      generalize hb : (if (10 : Int) ^ Int.toNat 18 ≤ (if cell < 0 then -cell else cell) then (1 : Int) else 0) = b
      have hb2 : b = 0 ∨ b = 1 := by
        rw [← hb]
        exact ite01
      refine ⟨p60, p300, hM, p18, .inr ⟨by omega, by omega⟩, by omega, .inl ⟨by omega, by omega⟩, .inl ⟨by omega, by omega⟩, .inl ⟨by omega, by omega⟩, by omega, by decide, fun q hq => ?_⟩
      refine k _ q (n1.new hq) (n1.none_of hq) ⟨_, _, _, upd_same, ?_, Int.emod_nonneg _ (by omega), Int.emod_lt_of_pos _ (by omega), by omega, by omega⟩
      rcases hb2 with e | e <;> rw [e] <;> omega
    refine ⟨_, rfl, _, rfl, a, _, rfl, .inl ha, _, _, rfl, rfl, _, rfl, ?_⟩
    by_cases h : pl < ((ns.map V.int).length : Int)
    · refine iteY (decide_eq_true h) ?_
      have hn : pl.toNat < ns.length := by rw [List.length_map] at h; omega
      have e : atI (ns.map V.int) pl = some (.int ns[pl.toNat]) := by
        unfold atI ixN
        rw [if_pos q0, if_pos h]
        show (ns.map V.int)[pl.toNat]? = _
        rw [List.getElem?_map, List.getElem?_eq_getElem hn]
        rfl
      exact ⟨_, rfl, _, rfl, a, _, pl, _, rfl, rfl, ha, e, fin _ H (Nx.refl wl)⟩
    · refine iteN (decide_eq_false h) ?_
      rw [List.length_map] at h
      have en : ns = [] := by
        rcases hpl with z | z
        · exact absurd z h
        · exact z
      subst en
      refine ⟨_, rfl, 1, rfl, a, [], rfl, ha, fun l hl => ?_⟩
      have ec : cutV ([] : List V) none (some 1) = ([] : List Int).map V.int := rfl
      refine ⟨l, [], rfl, SqL.of (by rw [upd_same, ec]), _, _, rfl, rfl, by omega, _, rfl, _, _, rfl, rfl, .inl ⟨by omega, by omega⟩, _, _, rfl, rfl, _, _, rfl, rfl, fin _ _ ((Nx.refl wl).new hl)⟩
def spCells (K : PySem.W.Frag) : Sp := fun vs H Q _ => ∃ a xs, vs = [.ref a, .int 2] ∧ SqL K H a xs ∧ xs.length ≤ 100 ∧ ∀ l n, H l = none → (n = 1 ∨ n = 2 ∧ 2 ≤ xs.length) → Q (.ref l) (upd H l (.lst (rgV 0 n)))
theorem sc30 : FnScope ["script", "limit"] ["script", "limit"] (defScope (top 30)) := ⟨rfl, rfl, rfl, by decide +kernel, rfl, by decide +kernel, by decide +kernel⟩
theorem ok_cells (T : Ty P K mg base cP AE BN BR B c0 P0 c1 P1 c2 P2) : Dfn P w K mg base "_law_cells" 1 ["script", "limit"] (spCells K) := by
  refine dfn_mk T.d30 sc30 (fun _ _ _ _ _ _ us hl => match us, hl with | [_, _], _ => rfl) (fun vs H Q E h => ?_) (fun f cdv A outer s H vs Q E hr hc h => ?_)
  · obtain ⟨a, b, rfl, _⟩ := h
    rfl
  · obtain ⟨a, xs, rfl, ha, hl, k⟩ := h
    refine ⟨_, pss_one (ps_ret (pe_listRg rfl rfl T.x.t.blist (prg_1 rfl T.x.t.brange (pe_callB (call_maxA rfl) rfl T.x.t.bmax PyProof.Rows.boot_max (pa_cons pe_int (pa_cons (pe_callB (call_minA rfl) rfl T.x.t.bmin PyProof.Rows.boot_min (pa_cons (pv 1) (pa_cons (pe_callB call_len_seq rfl T.x.t.blen PySem.boot_len (pa_cons (pv 0) pa_nil)) pa_nil))) pa_nil)))))), ?_⟩
    simp only [onI_i, onB_b, onR_r, onT_t, onO_s, onS_s, onV_s, ↓tVar_e, ↓tC_e, ↓tNil_e, ↓tCons_e, ↓tCB_e, ↓tOp_e, ↓rI_e, ↓rI0_e, ↓tUn_e, ↓rU_e, ↓rEq_e, ↓rNe_e, scal_ii, scal_ss, scal_bb, ↓tAndV_e, ↓tOrV_e, ↓tNotV_e, ↓tAnd_e, ↓tOr_e, ↓tNot_e, ↓tTest_e, ↓tB_e, ↓tIf_e, ↓tChain_e, ↓tSeq_e, ↓tNext_e, ↓tBreak_e, ↓tCont_e, ↓tDrop_e, ↓tRet_e, ↓tRetN_e, ↓tIfS_e, ↓tAsg_e, ↓gName_e, onL2_e, ↓tPar_e2, onCons_e, ↓gNil_e, ↓gCons_e, ↓tTup_e, ↓tTupF_e, ↓tLst_e, ↓tFld_e, ↓sFld_e, ↓sFldAug_e, ↓rAdd_e, ↓rSub_e, ↓tCall_e, ↓tProp_e, ↓tRaiseAsk_e, ↓getSp_e, ↓tMeth_e, ↓tMake_e, ↓rRep_e, ↓rCat_e, ↓tSl_e, ↓tNoPart_e, ↓tPart_e, ↓tYes_e, ↓tFor_e, ↓iTup_e, ↓iList_e, onL1_e, ↓iRng1_e, ↓iRng2_e, ↓iEnT_e, ↓tLc_e, ↓start_e, onD_s, onLst_s, ↓tApp_e, cxOf_K, upd_same, upd_upd, List.getElem?_cons_zero, List.getElem?_cons_succ, List.set_cons_zero, List.set_cons_succ, List.map_cons, List.map_nil, List.append_nil, List.cons_append, List.nil_append, List.length_cons, List.length_nil, List.replicate_succ, List.replicate_zero, Nat.reduceAdd, Nat.reduceSub, Nat.reduceLT, V.int.injEq, V.bl.injEq, V.str.injEq, V.ref.injEq, decide_eq_true_eq, Bool.not_true, Bool.not_false, Bool.false_eq_true, Bool.not_eq_true', decide_eq_false_iff_not, ↓reduceIte, true_and, and_true, and_self, decide_true, decide_false, not_false_eq_true, not_true_eq_false, eq_self, onN_s, int1_i, int1_b, one_i, two_i, ↓rIxA_e, ↓gSub_e, ↓rSetL_e, at3_0, at3_1, at3_2, ix3_0, ix3_1, ix3_2, onNum_i, onNum_b, ↓rIntA_e, ↓rMinA_e, ↓rMaxA_e, ↓rAbsA_e, ↓rLenL_e, ↓rSlLst_e, onTu_s, ↓gTupA_e, ↓rIxTu_e, ↓tRg1_e, ↓tLstRg_e, onRp_n, onRp_b, onRp_i, ↓rReprA_e, ↓rIsN_e, reduceCtorEq]
    refine ⟨a, xs, rfl, .inl ha, ?_⟩
    by_cases h : xs.length ≤ 1
    · have e : (if 1 < (if (xs.length : Int) < 2 then (xs.length : Int) else 2) then (if (xs.length : Int) < 2 then (xs.length : Int) else 2) else 1) = 1 := by
        rw [if_pos (show (xs.length : Int) < 2 by omega)]
        exact if_neg (by omega)
      simp only [onI_i, onB_b, onR_r, onT_t, onO_s, onS_s, onV_s, ↓tVar_e, ↓tC_e, ↓tNil_e, ↓tCons_e, ↓tCB_e, ↓tOp_e, ↓rI_e, ↓rI0_e, ↓tUn_e, ↓rU_e, ↓rEq_e, ↓rNe_e, scal_ii, scal_ss, scal_bb, ↓tAndV_e, ↓tOrV_e, ↓tNotV_e, ↓tAnd_e, ↓tOr_e, ↓tNot_e, ↓tTest_e, ↓tB_e, ↓tIf_e, ↓tChain_e, ↓tSeq_e, ↓tNext_e, ↓tBreak_e, ↓tCont_e, ↓tDrop_e, ↓tRet_e, ↓tRetN_e, ↓tIfS_e, ↓tAsg_e, ↓gName_e, onL2_e, ↓tPar_e2, onCons_e, ↓gNil_e, ↓gCons_e, ↓tTup_e, ↓tTupF_e, ↓tLst_e, ↓tFld_e, ↓sFld_e, ↓sFldAug_e, ↓rAdd_e, ↓rSub_e, ↓tCall_e, ↓tProp_e, ↓tRaiseAsk_e, ↓getSp_e, ↓tMeth_e, ↓tMake_e, ↓rRep_e, ↓rCat_e, ↓tSl_e, ↓tNoPart_e, ↓tPart_e, ↓tYes_e, ↓tFor_e, ↓iTup_e, ↓iList_e, onL1_e, ↓iRng1_e, ↓iRng2_e, ↓iEnT_e, ↓tLc_e, ↓start_e, onD_s, onLst_s, ↓tApp_e, cxOf_K, upd_same, upd_upd, List.getElem?_cons_zero, List.getElem?_cons_succ, List.set_cons_zero, List.set_cons_succ, List.map_cons, List.map_nil, List.append_nil, List.cons_append, List.nil_append, List.length_cons, List.length_nil, List.replicate_succ, List.replicate_zero, Nat.reduceAdd, Nat.reduceSub, Nat.reduceLT, V.int.injEq, V.bl.injEq, V.str.injEq, V.ref.injEq, decide_eq_true_eq, Bool.not_true, Bool.not_false, Bool.false_eq_true, Bool.not_eq_true', decide_eq_false_iff_not, ↓reduceIte, true_and, and_true, and_self, decide_true, decide_false, not_false_eq_true, not_true_eq_false, eq_self, onN_s, int1_i, int1_b, one_i, two_i, ↓rIxA_e, ↓gSub_e, ↓rSetL_e, at3_0, at3_1, at3_2, ix3_0, ix3_1, ix3_2, onNum_i, onNum_b, ↓rIntA_e, ↓rMinA_e, ↓rMaxA_e, ↓rAbsA_e, ↓rLenL_e, ↓rSlLst_e, onTu_s, ↓gTupA_e, ↓rIxTu_e, ↓tRg1_e, ↓tLstRg_e, onRp_n, onRp_b, onRp_i, ↓rReprA_e, ↓rIsN_e, reduceCtorEq, e]
      exact ⟨⟨by omega, by omega, by omega, by omega, by decide⟩, fun l hl => k l 1 hl (.inl rfl)⟩
    · have e : (if 1 < (if (xs.length : Int) < 2 then (xs.length : Int) else 2) then (if (xs.length : Int) < 2 then (xs.length : Int) else 2) else 1) = 2 := by
        rw [if_neg (show ¬ (xs.length : Int) < 2 by omega)]
        exact if_pos (by omega)
      simp only [onI_i, onB_b, onR_r, onT_t, onO_s, onS_s, onV_s, ↓tVar_e, ↓tC_e, ↓tNil_e, ↓tCons_e, ↓tCB_e, ↓tOp_e, ↓rI_e, ↓rI0_e, ↓tUn_e, ↓rU_e, ↓rEq_e, ↓rNe_e, scal_ii, scal_ss, scal_bb, ↓tAndV_e, ↓tOrV_e, ↓tNotV_e, ↓tAnd_e, ↓tOr_e, ↓tNot_e, ↓tTest_e, ↓tB_e, ↓tIf_e, ↓tChain_e, ↓tSeq_e, ↓tNext_e, ↓tBreak_e, ↓tCont_e, ↓tDrop_e, ↓tRet_e, ↓tRetN_e, ↓tIfS_e, ↓tAsg_e, ↓gName_e, onL2_e, ↓tPar_e2, onCons_e, ↓gNil_e, ↓gCons_e, ↓tTup_e, ↓tTupF_e, ↓tLst_e, ↓tFld_e, ↓sFld_e, ↓sFldAug_e, ↓rAdd_e, ↓rSub_e, ↓tCall_e, ↓tProp_e, ↓tRaiseAsk_e, ↓getSp_e, ↓tMeth_e, ↓tMake_e, ↓rRep_e, ↓rCat_e, ↓tSl_e, ↓tNoPart_e, ↓tPart_e, ↓tYes_e, ↓tFor_e, ↓iTup_e, ↓iList_e, onL1_e, ↓iRng1_e, ↓iRng2_e, ↓iEnT_e, ↓tLc_e, ↓start_e, onD_s, onLst_s, ↓tApp_e, cxOf_K, upd_same, upd_upd, List.getElem?_cons_zero, List.getElem?_cons_succ, List.set_cons_zero, List.set_cons_succ, List.map_cons, List.map_nil, List.append_nil, List.cons_append, List.nil_append, List.length_cons, List.length_nil, List.replicate_succ, List.replicate_zero, Nat.reduceAdd, Nat.reduceSub, Nat.reduceLT, V.int.injEq, V.bl.injEq, V.str.injEq, V.ref.injEq, decide_eq_true_eq, Bool.not_true, Bool.not_false, Bool.false_eq_true, Bool.not_eq_true', decide_eq_false_iff_not, ↓reduceIte, true_and, and_true, and_self, decide_true, decide_false, not_false_eq_true, not_true_eq_false, eq_self, onN_s, int1_i, int1_b, one_i, two_i, ↓rIxA_e, ↓gSub_e, ↓rSetL_e, at3_0, at3_1, at3_2, ix3_0, ix3_1, ix3_2, onNum_i, onNum_b, ↓rIntA_e, ↓rMinA_e, ↓rMaxA_e, ↓rAbsA_e, ↓rLenL_e, ↓rSlLst_e, onTu_s, ↓gTupA_e, ↓rIxTu_e, ↓tRg1_e, ↓tLstRg_e, onRp_n, onRp_b, onRp_i, ↓rReprA_e, ↓rIsN_e, reduceCtorEq, e]
      exact ⟨⟨by omega, by omega, by omega, by omega, by decide⟩, fun l hl => k l 2 hl (.inr ⟨rfl, by omega⟩)⟩
end
end K49
set_option Elab.async false
set_option linter.all false
set_option maxRecDepth 100000
set_option maxHeartbeats 4000000
/-! k49: the law about one row. -/
namespace K49
open PySem PySem.Spec PyProof.Rows L2
section
variable {P : Program} {w : World} {K : PySem.W.Frag} {mg : Str → Option Value} {base : Heap} {cP AE BN BR : Addr} {B : Tb} {c0 P0 c1 P1 c2 P2 : Addr}
def spRR (K : PySem.W.Frag) (B : Tb) : Sp := fun vs H Q _ => ∃ m p a, ∃ ws : List Bool, vs = [.int m, .int p, .ref a] ∧ 0 ≤ m ∧ m ≤ 1000 ∧ 1 ≤ p ∧ p ≤ 1000 ∧ Rd H a (.tup (ws.map wv)) ∧ ws.length ≤ 4000 ∧ Wl B H ∧ ∀ H', Nx B [] H H' → Q (.bl true) H'
theorem sc34 : FnScope ["most", "per", "row", "told", "coins", "firsts", "anew", "purse", "cut", "number", "word", "other", "back"] ["most", "per", "row"] (defScope (top 34)) := ⟨rfl, rfl, rfl, by decide +kernel, rfl, by decide +kernel, by decide +kernel⟩
theorem bl_kind {bs : List Bool} : ∀ x ∈ bs.map V.bl, kindV x = 1 := fun x hx => by
  obtain ⟨b, _, rfl⟩ := List.mem_map.mp hx
  rfl
theorem sg : FnScope ["self"] ["self"] (defScope (mtd 1)) := ⟨rfl, rfl, rfl, by decide +kernel, rfl, by decide +kernel, by decide +kernel⟩
theorem ok_p1 (T : Txt P K mg cP AE BN BR) : Prp P w K mg base cP "most" 1 (getSp cP "own_most") := prp_mk T.p1 ⟨rfl, rfl, rfl, by decide +kernel, rfl, by decide +kernel, by decide +kernel⟩ (fun _ _ _ _ _ _ us hl => match us, hl with | [_], _ => rfl) rfl T.cl T.n1
theorem ok_p2 (T : Txt P K mg cP AE BN BR) : Prp P w K mg base cP "per" 1 (getSp cP "own_per") := prp_mk T.p2 ⟨rfl, rfl, rfl, by decide +kernel, rfl, by decide +kernel, by decide +kernel⟩ (fun _ _ _ _ _ _ us hl => match us, hl with | [_], _ => rfl) rfl T.cl T.n2
theorem ok_p3 (T : Txt P K mg cP AE BN BR) : Prp P w K mg base cP "coins" 1 (getSp cP "own_coins") := prp_mk T.p3 ⟨rfl, rfl, rfl, by decide +kernel, rfl, by decide +kernel, by decide +kernel⟩ (fun _ _ _ _ _ _ us hl => match us, hl with | [_], _ => rfl) rfl T.cl T.n3
theorem ok_p4 (T : Txt P K mg cP AE BN BR) : Prp P w K mg base cP "firsts" 1 (getSp cP "own_firsts") := prp_mk T.p4 ⟨rfl, rfl, rfl, by decide +kernel, rfl, by decide +kernel, by decide +kernel⟩ (fun _ _ _ _ _ _ us hl => match us, hl with | [_], _ => rfl) rfl T.cl T.n4
theorem ok_p5 (T : Txt P K mg cP AE BN BR) : Prp P w K mg base cP "anew" 1 (getSp cP "own_anew") := prp_mk T.p5 ⟨rfl, rfl, rfl, by decide +kernel, rfl, by decide +kernel, by decide +kernel⟩ (fun _ _ _ _ _ _ us hl => match us, hl with | [_], _ => rfl) rfl T.cl T.n5
theorem ok_rr (T : Ty P K mg base cP AE BN BR B c0 P0 c1 P1 c2 P2) : Dfn P w K mg base "_law_is_row_right" 12 ["most", "per", "row"] (spRR K B) := by
  have TT := T.x.t
  have D1 : Dfn P w K mg base "_law_doing" 1 _ _ := ok_doing T
  have D2 : Dfn P w K mg base "let" 8 _ _ := ok_let T.x
  have M0 : Mkr P w K mg base cP 5 _ _ := mkr_of (ok_init TT) TT.mkC TT.kp
  have M1 : Mth P w K mg base cP "first" 1 _ _ := ok_first TT
  have M2 : Mth P w K mg base cP "again" 1 _ _ := ok_again TT
  have M3 : Mth P w K mg base cP "copy" 7 _ _ := ok_copy TT
  have p1' : Prp P w K mg base cP "most" 1 _ := ok_p1 TT
  have p2' : Prp P w K mg base cP "per" 1 _ := ok_p2 TT
  have p3' : Prp P w K mg base cP "coins" 1 _ := ok_p3 TT
  have p4' : Prp P w K mg base cP "firsts" 1 _ := ok_p4 TT
  have p5' : Prp P w K mg base cP "anew" 1 _ := ok_p5 TT
  have D3 : Dfn P w K mg base "most_let" 7 _ _ := ok_mostlet T.x
  obtain ⟨fe, fde, hme, hbe, Fe⟩ := (ok_eq TT : Mth P w K mg base cP "__eq__" 2 _ _)
  refine dfn_mk T.d34 sc34 (fun _ _ _ _ _ _ us hl => match us, hl with | [_, _, _], _ => rfl) (fun vs H Q E h => ?_) (fun f cdv A outer s H vs Q E hr hc h => ?_)
  · obtain ⟨a, b, c, d, rfl, _⟩ := h
    rfl
  · obtain ⟨m, p, a, ws, rfl, m0, m1, p0, p1, ha, hl, wl, k⟩ := h
    have r2 : Room 2 (A.deeper (envOfC "_law_is_row_right" (defScope (top 34)) s.heap.objs.size f cdv)) := hr.mono (by decide)
    refine ⟨_, pss_cons (ps_asg (pe_dfn D1 (hr.mono (by decide)) rfl passL (pa_cons (pv 0) (pa_cons (pv 1) (pa_cons (pv 2) pa_nil)))) (pg_tupA 4 rfl (pgs_cons (pg_name (i := 3) sc34.nd rfl (Or.inl rfl)) (pgs_cons (pg_name (i := 4) sc34.nd rfl (Or.inl rfl)) (pgs_cons (pg_name (i := 5) sc34.nd rfl (Or.inl rfl)) (pgs_cons (pg_name (i := 6) sc34.nd rfl (Or.inl rfl)) pgs_nil))))))
      (pss_cons (ps_if (pt_cmpR (op_neT hr.units) (pe_dfn D2 (hr.mono (by decide)) rfl passL (pa_cons (pv 0) (pa_cons (pv 1) (pa_cons (pv 2) pa_nil)))) (pv 3) (nomark _)) (pss_one (ps_ret pe_bl)) pss_nil)
      (pss_cons (ps_par (i := 7) (j := 8) rfl sc34.nd rfl rfl (by decide) rfl rfl (pa_cons (pe_mkr M0 (hr.mono (by decide)) rfl TT.mgP passL (pa_cons (pv 0) (pa_cons (pv 1) pa_nil))) (pa_cons (pe_op op_fdiv (pe_callB call_len_seq rfl TT.blen PySem.boot_len (pa_cons (pv 2) pa_nil)) pe_int) pa_nil)) (by rfl))
      (pss_cons (ps_for passO rfl (pi_enumT rfl TT.benum (pa_cons (pv 2) pa_nil)) (pg_tupA 2 rfl (pgs_cons (pg_name (i := 9) sc34.nd rfl (Or.inl rfl)) (pgs_cons (pg_name (i := 10) sc34.nd rfl (Or.inl rfl)) pgs_nil)))
        (pss_cons (ps_if (pt_cmpR op_eq (pv 9) (pv 8) (nomark _))
          (pss_cons (ps_set (i := 11) sc34.nd rfl (Or.inl rfl) (pe_mth0 (pv 7) TT.cl M3 (hr.mono (by decide)) passL))
          (pss_cons (ps_if (PW.pt (pw_or (pt_cmpR (op_ownNe Fe (hr.mono (by decide)) hme.1 TT.pN TT.pO hme.2 hbe passL) (pv 11) (pv 7) (nomark _)) (pw_or (pt_not (pt_cmpR (op_ownEq Fe r2 hme.1 hme.2 hbe passL) (pv 11) (pv 7) (nomark _)))
              (pw_or1 (pt_cmpR (op_neT hr.units) (pe_tup (pa_cons (pe_prp (pv 11) TT.cl p3' r2) (pa_cons (pe_prp (pv 11) TT.cl p5' r2) pa_nil))) (pe_tup (pa_cons (pe_prp (pv 7) TT.cl p3' r2) (pa_cons (pe_prp (pv 7) TT.cl p5' r2) pa_nil))) (nomark _)))))) (pss_one (ps_ret pe_bl)) pss_nil)
          (pss_cons (ps_expr (pe_mth0 (pv 11) TT.cl M1 (hr.mono (by decide)) passL))
          (pss_one (ps_if (PW.pt (pw_or (pt_cmpR (op_ownEq Fe r2 hme.1 hme.2 hbe passL) (pv 11) (pv 7) (nomark _)) (pw_or1 (pt_cmpR op_ne (pe_prp (pv 11) TT.cl p4' r2) (pe_op op_add (pe_prp (pv 7) TT.cl p4' r2) pe_int) (nomark _))))) (pss_one (ps_ret pe_bl)) pss_nil))))) pss_nil)
        (pss_cons (ps_set (i := 12) sc34.nd rfl (Or.inl rfl) (pe_ifExp (pt_cmpR op_eq (pv 10) pe_str (nomark _)) (pe_mth0 (pv 7) TT.cl M1 (hr.mono (by decide)) passL) (pe_mth0 (pv 7) TT.cl M2 (hr.mono (by decide)) passL)))
        (pss_one (ps_if (pt_cmpR op_ne (pe_callB call_reprA rfl TT.brepr PyProof.Rows.boot_repr (pa_cons (pv 12) pa_nil)) (pe_callB call_reprA rfl TT.brepr PyProof.Rows.boot_repr (pa_cons (pe_ifExp (pt_cmpR op_eq (pv 10) pe_str (nomark _)) pe_non (pe_ix ix_tup (pv 3) (pv 9) (by with_unfolding_all (intro _ _; rfl)))) pa_nil)) (nomark _)) (pss_one (ps_ret pe_bl)) pss_nil)))))
      (pss_cons (ps_if (pt_cmpR (op_neT hr.units) (pe_tup (pa_cons (pe_prp (pv 7) TT.cl p1' r2) (pa_cons (pe_prp (pv 7) TT.cl p2' r2) (pa_cons (pe_prp (pv 7) TT.cl p3' r2) (pa_cons (pe_prp (pv 7) TT.cl p4' r2) (pa_cons (pe_prp (pv 7) TT.cl p5' r2) pa_nil)))))) (pe_tup (pa_cons (pv 0) (pa_cons (pv 1) (pa_cons (pv 4) (pa_cons (pv 5) (pa_cons (pv 6) pa_nil)))))) (nomark _)) (pss_one (ps_ret pe_bl)) pss_nil)
      (pss_one (ps_ret (pe_and (pe_cmpR op_le (pv 6) (pe_op op_add (pv 0) (pe_op op_fdiv (pv 5) (pv 1))) (nomark _)) (pe_one (pe_or (pe_cmpR op_gt (pv 5) pe_int (nomark _)) (pe_one (pe_cmpR op_le (pv 6) (pe_dfn D3 (hr.mono (by decide)) rfl passL (pa_cons (pv 0) (pa_cons (pv 1) (pa_cons (pv 5) pa_nil)))) (nomark _)))))))))))), ?_⟩
    simp only [onI_i, onB_b, onR_r, onT_t, onO_s, onS_s, onV_s, ↓tVar_e, ↓tC_e, ↓tNil_e, ↓tCons_e, ↓tCB_e, ↓tOp_e, ↓rI_e, ↓rI0_e, ↓tUn_e, ↓rU_e, ↓rEq_e, ↓rNe_e, scal_ii, scal_ss, scal_bb, ↓tAndV_e, ↓tOrV_e, ↓tNotV_e, ↓tAnd_e, ↓tOr_e, ↓tNot_e, ↓tTest_e, ↓tB_e, ↓tIf_e, ↓tChain_e, ↓tSeq_e, ↓tNext_e, ↓tBreak_e, ↓tCont_e, ↓tDrop_e, ↓tRet_e, ↓tRetN_e, ↓tIfS_e, ↓tAsg_e, ↓gName_e, onL2_e, ↓tPar_e2, onCons_e, ↓gNil_e, ↓gCons_e, ↓tTup_e, ↓tTupF_e, ↓tLst_e, ↓tFld_e, ↓sFld_e, ↓sFldAug_e, ↓rAdd_e, ↓rSub_e, ↓tCall_e, ↓tProp_e, ↓tRaiseAsk_e, ↓getSp_e, ↓tMeth_e, ↓tMake_e, ↓rRep_e, ↓rCat_e, ↓tSl_e, ↓tNoPart_e, ↓tPart_e, ↓tYes_e, ↓tFor_e, ↓iTup_e, ↓iList_e, onL1_e, ↓iRng1_e, ↓iRng2_e, ↓iEnT_e, ↓tLc_e, ↓start_e, onD_s, onLst_s, ↓tApp_e, cxOf_K, upd_same, upd_upd, List.getElem?_cons_zero, List.getElem?_cons_succ, List.set_cons_zero, List.set_cons_succ, List.map_cons, List.map_nil, List.append_nil, List.cons_append, List.nil_append, List.length_cons, List.length_nil, List.replicate_succ, List.replicate_zero, Nat.reduceAdd, Nat.reduceSub, Nat.reduceLT, V.int.injEq, V.bl.injEq, V.str.injEq, V.ref.injEq, decide_eq_true_eq, Bool.not_true, Bool.not_false, Bool.false_eq_true, Bool.not_eq_true', decide_eq_false_iff_not, ↓reduceIte, true_and, and_true, and_self, decide_true, decide_false, not_false_eq_true, not_true_eq_false, eq_self, onN_s, int1_i, int1_b, one_i, two_i, ↓rIxA_e, ↓gSub_e, ↓rSetL_e, at3_0, at3_1, at3_2, ix3_0, ix3_1, ix3_2, onNum_i, onNum_b, ↓rIntA_e, ↓rMinA_e, ↓rMaxA_e, ↓rAbsA_e, ↓rLenL_e, ↓rSlLst_e, onTu_s, ↓gTupA_e, ↓rIxTu_e, ↓tRg1_e, ↓tLstRg_e, onRp_n, onRp_b, onRp_i, ↓rReprA_e, ↓rIsN_e, reduceCtorEq]
    refine ⟨m, p, a, ws, rfl, m0, p0, .inl ha, hl, wl, fun H1 t r n1 ht hr1 => ?_⟩
    simp only [onI_i, onB_b, onR_r, onT_t, onO_s, onS_s, onV_s, ↓tVar_e, ↓tC_e, ↓tNil_e, ↓tCons_e, ↓tCB_e, ↓tOp_e, ↓rI_e, ↓rI0_e, ↓tUn_e, ↓rU_e, ↓rEq_e, ↓rNe_e, scal_ii, scal_ss, scal_bb, ↓tAndV_e, ↓tOrV_e, ↓tNotV_e, ↓tAnd_e, ↓tOr_e, ↓tNot_e, ↓tTest_e, ↓tB_e, ↓tIf_e, ↓tChain_e, ↓tSeq_e, ↓tNext_e, ↓tBreak_e, ↓tCont_e, ↓tDrop_e, ↓tRet_e, ↓tRetN_e, ↓tIfS_e, ↓tAsg_e, ↓gName_e, onL2_e, ↓tPar_e2, onCons_e, ↓gNil_e, ↓gCons_e, ↓tTup_e, ↓tTupF_e, ↓tLst_e, ↓tFld_e, ↓sFld_e, ↓sFldAug_e, ↓rAdd_e, ↓rSub_e, ↓tCall_e, ↓tProp_e, ↓tRaiseAsk_e, ↓getSp_e, ↓tMeth_e, ↓tMake_e, ↓rRep_e, ↓rCat_e, ↓tSl_e, ↓tNoPart_e, ↓tPart_e, ↓tYes_e, ↓tFor_e, ↓iTup_e, ↓iList_e, onL1_e, ↓iRng1_e, ↓iRng2_e, ↓iEnT_e, ↓tLc_e, ↓start_e, onD_s, onLst_s, ↓tApp_e, cxOf_K, upd_same, upd_upd, List.getElem?_cons_zero, List.getElem?_cons_succ, List.set_cons_zero, List.set_cons_succ, List.map_cons, List.map_nil, List.append_nil, List.cons_append, List.nil_append, List.length_cons, List.length_nil, List.replicate_succ, List.replicate_zero, Nat.reduceAdd, Nat.reduceSub, Nat.reduceLT, V.int.injEq, V.bl.injEq, V.str.injEq, V.ref.injEq, decide_eq_true_eq, Bool.not_true, Bool.not_false, Bool.false_eq_true, Bool.not_eq_true', decide_eq_false_iff_not, ↓reduceIte, true_and, and_true, and_self, decide_true, decide_false, not_false_eq_true, not_true_eq_false, eq_self, onN_s, int1_i, int1_b, one_i, two_i, ↓rIxA_e, ↓gSub_e, ↓rSetL_e, at3_0, at3_1, at3_2, ix3_0, ix3_1, ix3_2, onNum_i, onNum_b, ↓rIntA_e, ↓rMinA_e, ↓rMaxA_e, ↓rAbsA_e, ↓rLenL_e, ↓rSlLst_e, onTu_s, ↓gTupA_e, ↓rIxTu_e, ↓tRg1_e, ↓tLstRg_e, onRp_n, onRp_b, onRp_i, ↓rReprA_e, ↓rIsN_e, reduceCtorEq, hr1]
    have g := good_run m0 p0 (ws := ws) (good0 (p := p) m0)
    have hl4 : ∀ {H' : Hp}, Nx B [] H H' → SqT K H' a (ws.map wv) := fun n => n.sqT (.inl ha)
    refine ⟨m, p, a, _, rfl, m0, m1, p0, p1, n1.rd ha, strInt_wv, n1.wl, fun ws' e' hl' H2 u n2 hu => ?_, .inr ⟨ws, rfl, hl⟩, fun e => by rw [okR_wv hl] at e; cases e⟩
    have ew : ws' = ws := by
      have := congrArg toW e'
      rw [toW_wv, toW_wv] at this
      exact this.symm
    subst ew
    have n12 := n1.trans0 n2
    refine ⟨u, t, _, _, 1, rfl, rfl, .inl hu, .inl (n2.rd ht), by decide, bl_kind, bl_kind, ?_⟩
    simp only [onI_i, onB_b, onR_r, onT_t, onO_s, onS_s, onV_s, ↓tVar_e, ↓tC_e, ↓tNil_e, ↓tCons_e, ↓tCB_e, ↓tOp_e, ↓rI_e, ↓rI0_e, ↓tUn_e, ↓rU_e, ↓rEq_e, ↓rNe_e, scal_ii, scal_ss, scal_bb, ↓tAndV_e, ↓tOrV_e, ↓tNotV_e, ↓tAnd_e, ↓tOr_e, ↓tNot_e, ↓tTest_e, ↓tB_e, ↓tIf_e, ↓tChain_e, ↓tSeq_e, ↓tNext_e, ↓tBreak_e, ↓tCont_e, ↓tDrop_e, ↓tRet_e, ↓tRetN_e, ↓tIfS_e, ↓tAsg_e, ↓gName_e, onL2_e, ↓tPar_e2, onCons_e, ↓gNil_e, ↓gCons_e, ↓tTup_e, ↓tTupF_e, ↓tLst_e, ↓tFld_e, ↓sFld_e, ↓sFldAug_e, ↓rAdd_e, ↓rSub_e, ↓tCall_e, ↓tProp_e, ↓tRaiseAsk_e, ↓getSp_e, ↓tMeth_e, ↓tMake_e, ↓rRep_e, ↓rCat_e, ↓tSl_e, ↓tNoPart_e, ↓tPart_e, ↓tYes_e, ↓tFor_e, ↓iTup_e, ↓iList_e, onL1_e, ↓iRng1_e, ↓iRng2_e, ↓iEnT_e, ↓tLc_e, ↓start_e, onD_s, onLst_s, ↓tApp_e, cxOf_K, upd_same, upd_upd, List.getElem?_cons_zero, List.getElem?_cons_succ, List.set_cons_zero, List.set_cons_succ, List.map_cons, List.map_nil, List.append_nil, List.cons_append, List.nil_append, List.length_cons, List.length_nil, List.replicate_succ, List.replicate_zero, Nat.reduceAdd, Nat.reduceSub, Nat.reduceLT, V.int.injEq, V.bl.injEq, V.str.injEq, V.ref.injEq, decide_eq_true_eq, Bool.not_true, Bool.not_false, Bool.false_eq_true, Bool.not_eq_true', decide_eq_false_iff_not, ↓reduceIte, true_and, and_true, and_self, decide_true, decide_false, not_false_eq_true, not_true_eq_false, eq_self, onN_s, int1_i, int1_b, one_i, two_i, ↓rIxA_e, ↓gSub_e, ↓rSetL_e, at3_0, at3_1, at3_2, ix3_0, ix3_1, ix3_2, onNum_i, onNum_b, ↓rIntA_e, ↓rMinA_e, ↓rMaxA_e, ↓rAbsA_e, ↓rLenL_e, ↓rSlLst_e, onTu_s, ↓gTupA_e, ↓rIxTu_e, ↓tRg1_e, ↓tLstRg_e, onRp_n, onRp_b, onRp_i, ↓rReprA_e, ↓rIsN_e, reduceCtorEq]
    intro x dx hx hdx hne
    refine ⟨x, dx, m, p, rfl, upd_same, m0, m1, p0, p1, ?_⟩
    simp only [onI_i, onB_b, onR_r, onT_t, onO_s, onS_s, onV_s, ↓tVar_e, ↓tC_e, ↓tNil_e, ↓tCons_e, ↓tCB_e, ↓tOp_e, ↓rI_e, ↓rI0_e, ↓tUn_e, ↓rU_e, ↓rEq_e, ↓rNe_e, scal_ii, scal_ss, scal_bb, ↓tAndV_e, ↓tOrV_e, ↓tNotV_e, ↓tAnd_e, ↓tOr_e, ↓tNot_e, ↓tTest_e, ↓tB_e, ↓tIf_e, ↓tChain_e, ↓tSeq_e, ↓tNext_e, ↓tBreak_e, ↓tCont_e, ↓tDrop_e, ↓tRet_e, ↓tRetN_e, ↓tIfS_e, ↓tAsg_e, ↓gName_e, onL2_e, ↓tPar_e2, onCons_e, ↓gNil_e, ↓gCons_e, ↓tTup_e, ↓tTupF_e, ↓tLst_e, ↓tFld_e, ↓sFld_e, ↓sFldAug_e, ↓rAdd_e, ↓rSub_e, ↓tCall_e, ↓tProp_e, ↓tRaiseAsk_e, ↓getSp_e, ↓tMeth_e, ↓tMake_e, ↓rRep_e, ↓rCat_e, ↓tSl_e, ↓tNoPart_e, ↓tPart_e, ↓tYes_e, ↓tFor_e, ↓iTup_e, ↓iList_e, onL1_e, ↓iRng1_e, ↓iRng2_e, ↓iEnT_e, ↓tLc_e, ↓start_e, onD_s, onLst_s, ↓tApp_e, cxOf_K, upd_same, upd_upd, List.getElem?_cons_zero, List.getElem?_cons_succ, List.set_cons_zero, List.set_cons_succ, List.map_cons, List.map_nil, List.append_nil, List.cons_append, List.nil_append, List.length_cons, List.length_nil, List.replicate_succ, List.replicate_zero, Nat.reduceAdd, Nat.reduceSub, Nat.reduceLT, V.int.injEq, V.bl.injEq, V.str.injEq, V.ref.injEq, decide_eq_true_eq, Bool.not_true, Bool.not_false, Bool.false_eq_true, Bool.not_eq_true', decide_eq_false_iff_not, ↓reduceIte, true_and, and_true, and_self, decide_true, decide_false, not_false_eq_true, not_true_eq_false, eq_self, onN_s, int1_i, int1_b, one_i, two_i, ↓rIxA_e, ↓gSub_e, ↓rSetL_e, at3_0, at3_1, at3_2, ix3_0, ix3_1, ix3_2, onNum_i, onNum_b, ↓rIntA_e, ↓rMinA_e, ↓rMaxA_e, ↓rAbsA_e, ↓rLenL_e, ↓rSlLst_e, onTu_s, ↓gTupA_e, ↓rIxTu_e, ↓tRg1_e, ↓tLstRg_e, onRp_n, onRp_b, onRp_i, ↓rReprA_e, ↓rIsN_e, reduceCtorEq]
    have n3 : Nx B [] H (upd (upd H2 dx (.own x)) x (.ins cP dx (pfs m p m 0 0))) := Nx.purse n12 hx hdx hne
    have hx0 : H x = none := n12.none_of hx
    have ht3 : Rd (upd (upd H2 dx (.own x)) x (.ins cP dx (pfs m p m 0 0))) t (.tup ((outs m p (s0 m) ws').map .bl)) := (Nx.purse (n2.trans0 (Nx.refl n2.wl)) hx hdx hne).rd ht
    refine ⟨a, _, rfl, .inr (hl4 n3), ⟨by omega, by omega⟩, _, hl4 n3, ?_⟩
    generalize hH3 : upd (upd H2 dx (.own x)) x (.ins cP dx (pfs m p m 0 0)) = H3 at n3 ht3 ⊢
    have hx3 : H3 x = some (.ins cP dx (pf m p (s0 m))) := by rw [← hH3, upd_same]; rfl
    refine for_enT (K := K) (a := a) (xs := ws'.map wv) (fun i σ H' => ∃ v9 v10 v11 v12, σ = [some (.int m), some (.int p), some (.ref a), some (.ref t), some (.int (run m p (s0 m) ws').c), some (.int (run m p (s0 m) ws').f), some (.int (run m p (s0 m) ws').a), some (.ref x), some (.int (((ws'.map wv).length : Int) / 2)), v9, v10, v11, v12] ∧ Nx B [x] H3 H' ∧ H' x = some (.ins cP dx (pf m p (run m p (s0 m) (ws'.take i)))))
      ⟨none, none, none, none, rfl, Nx.refl n3.wl, hx3⟩ (fun i σ H' _ ⟨_, _, _, _, _, n, _⟩ => n.sqT (hl4 n3)) ?_ ?_
    · rintro i y σ H4 T0 hi ⟨v9, v10, v11, v12, rfl, n4, hx4⟩ hT0
      obtain ⟨b, hb, rfl⟩ := wv_get hi
      have er := run_more (m := m) (p := p) (s := s0 m) hb
      unfold pf at hx4
      have hx5 : upd H4 T0 (.tup [.int (i : Nat), wv b]) x = some (.ins cP dx (pfs m p (run m p (s0 m) (ws'.take i)).c (run m p (s0 m) (ws'.take i)).f (run m p (s0 m) (ws'.take i)).a)) := by
        rw [upd_ne (ne_of_none hx4 hT0)]
        exact hx4
      have n6 : Nx B [x] H3 (upd H4 T0 (.tup [.int (i : Nat), wv b])) := n4.new hT0
      have hT5 : upd H4 T0 (.tup [.int (i : Nat), wv b]) T0 = some (.tup [.int (i : Nat), wv b]) := upd_same
      generalize upd H4 T0 (.tup [.int (i : Nat), wv b]) = H5 at hx5 n6 hT5 ⊢
      by_cases hcut : (i : Int) = ((ws'.map wv).length : Int) / 2
      · simp only [onI_i, onB_b, onR_r, onT_t, onO_s, onS_s, onV_s, ↓tVar_e, ↓tC_e, ↓tNil_e, ↓tCons_e, ↓tCB_e, ↓tOp_e, ↓rI_e, ↓rI0_e, ↓tUn_e, ↓rU_e, ↓rEq_e, ↓rNe_e, scal_ii, scal_ss, scal_bb, ↓tAndV_e, ↓tOrV_e, ↓tNotV_e, ↓tAnd_e, ↓tOr_e, ↓tNot_e, ↓tTest_e, ↓tB_e, ↓tIf_e, ↓tChain_e, ↓tSeq_e, ↓tNext_e, ↓tBreak_e, ↓tCont_e, ↓tDrop_e, ↓tRet_e, ↓tRetN_e, ↓tIfS_e, ↓tAsg_e, ↓gName_e, onL2_e, ↓tPar_e2, onCons_e, ↓gNil_e, ↓gCons_e, ↓tTup_e, ↓tTupF_e, ↓tLst_e, ↓tFld_e, ↓sFld_e, ↓sFldAug_e, ↓rAdd_e, ↓rSub_e, ↓tCall_e, ↓tProp_e, ↓tRaiseAsk_e, ↓getSp_e, ↓tMeth_e, ↓tMake_e, ↓rRep_e, ↓rCat_e, ↓tSl_e, ↓tNoPart_e, ↓tPart_e, ↓tYes_e, ↓tFor_e, ↓iTup_e, ↓iList_e, onL1_e, ↓iRng1_e, ↓iRng2_e, ↓iEnT_e, ↓tLc_e, ↓start_e, onD_s, onLst_s, ↓tApp_e, cxOf_K, upd_same, upd_upd, List.getElem?_cons_zero, List.getElem?_cons_succ, List.set_cons_zero, List.set_cons_succ, List.map_cons, List.map_nil, List.append_nil, List.cons_append, List.nil_append, List.length_cons, List.length_nil, List.replicate_succ, List.replicate_zero, Nat.reduceAdd, Nat.reduceSub, Nat.reduceLT, V.int.injEq, V.bl.injEq, V.str.injEq, V.ref.injEq, decide_eq_true_eq, Bool.not_true, Bool.not_false, Bool.false_eq_true, Bool.not_eq_true', decide_eq_false_iff_not, ↓reduceIte, true_and, and_true, and_self, decide_true, decide_false, not_false_eq_true, not_true_eq_false, eq_self, onN_s, int1_i, int1_b, one_i, two_i, ↓rIxA_e, ↓gSub_e, ↓rSetL_e, at3_0, at3_1, at3_2, ix3_0, ix3_1, ix3_2, onNum_i, onNum_b, ↓rIntA_e, ↓rMinA_e, ↓rMaxA_e, ↓rAbsA_e, ↓rLenL_e, ↓rSlLst_e, onTu_s, ↓gTupA_e, ↓rIxTu_e, ↓tRg1_e, ↓tLstRg_e, onRp_n, onRp_b, onRp_i, ↓rReprA_e, ↓rIsN_e, reduceCtorEq, hT5, hcut, hx5]
        refine ⟨pfs_no _ (by decide +kernel), x, dx, m, p, _, _, _, rfl, hx5, m0, m1, p0, p1, fun r dr hr' hdr hne => ?_⟩
        have nxr : x ≠ r := ne_of_none hx5 hr'
        have hr6 : upd (upd H5 dr (.own r)) r (.ins cP dr (pfs m p (run m p (s0 m) (ws'.take i)).c (run m p (s0 m) (ws'.take i)).f (run m p (s0 m) (ws'.take i)).a)) r = some (.ins cP dr (pfs m p (run m p (s0 m) (ws'.take i)).c (run m p (s0 m) (ws'.take i)).f (run m p (s0 m) (ws'.take i)).a)) := upd_same
        have hx6 : upd (upd H5 dr (.own r)) r (.ins cP dr (pfs m p (run m p (s0 m) (ws'.take i)).c (run m p (s0 m) (ws'.take i)).f (run m p (s0 m) (ws'.take i)).a)) x = some (.ins cP dx (pfs m p (run m p (s0 m) (ws'.take i)).c (run m p (s0 m) (ws'.take i)).f (run m p (s0 m) (ws'.take i)).a)) := by
          rw [upd_ne nxr, upd_ne (ne_of_none hx5 hdr)]
          exact hx5
        have n7 : Nx B [x] H3 (upd (upd H5 dr (.own r)) r (.ins cP dr (pfs m p (run m p (s0 m) (ws'.take i)).c (run m p (s0 m) (ws'.take i)).f (run m p (s0 m) (ws'.take i)).a))) := Nx.purse n6 hr' hdr hne
        have hr3 : H3 r = none := n6.none_of hr'
        generalize upd (upd H5 dr (.own r)) r (.ins cP dr (pfs m p (run m p (s0 m) (ws'.take i)).c (run m p (s0 m) (ws'.take i)).f (run m p (s0 m) (ws'.take i)).a)) = H6 at hr6 hx6 n7 ⊢
        refine ⟨r, x, dr, dx, _, _, rfl, rfl, hr6, hx6, r, x, dr, dx, m, p, _, _, _, m, p, _, _, _, rfl, hr6, hx6, fun u1 v1 hu1 hv1 huv1 => ⟨_, rfl, ?_⟩⟩
        rw [decide_eq_true ⟨rfl, rfl, rfl, rfl, rfl⟩]
        simp only [onI_i, onB_b, onR_r, onT_t, onO_s, onS_s, onV_s, ↓tVar_e, ↓tC_e, ↓tNil_e, ↓tCons_e, ↓tCB_e, ↓tOp_e, ↓rI_e, ↓rI0_e, ↓tUn_e, ↓rU_e, ↓rEq_e, ↓rNe_e, scal_ii, scal_ss, scal_bb, ↓tAndV_e, ↓tOrV_e, ↓tNotV_e, ↓tAnd_e, ↓tOr_e, ↓tNot_e, ↓tTest_e, ↓tB_e, ↓tIf_e, ↓tChain_e, ↓tSeq_e, ↓tNext_e, ↓tBreak_e, ↓tCont_e, ↓tDrop_e, ↓tRet_e, ↓tRetN_e, ↓tIfS_e, ↓tAsg_e, ↓gName_e, onL2_e, ↓tPar_e2, onCons_e, ↓gNil_e, ↓gCons_e, ↓tTup_e, ↓tTupF_e, ↓tLst_e, ↓tFld_e, ↓sFld_e, ↓sFldAug_e, ↓rAdd_e, ↓rSub_e, ↓tCall_e, ↓tProp_e, ↓tRaiseAsk_e, ↓getSp_e, ↓tMeth_e, ↓tMake_e, ↓rRep_e, ↓rCat_e, ↓tSl_e, ↓tNoPart_e, ↓tPart_e, ↓tYes_e, ↓tFor_e, ↓iTup_e, ↓iList_e, onL1_e, ↓iRng1_e, ↓iRng2_e, ↓iEnT_e, ↓tLc_e, ↓start_e, onD_s, onLst_s, ↓tApp_e, cxOf_K, upd_same, upd_upd, List.getElem?_cons_zero, List.getElem?_cons_succ, List.set_cons_zero, List.set_cons_succ, List.map_cons, List.map_nil, List.append_nil, List.cons_append, List.nil_append, List.length_cons, List.length_nil, List.replicate_succ, List.replicate_zero, Nat.reduceAdd, Nat.reduceSub, Nat.reduceLT, V.int.injEq, V.bl.injEq, V.str.injEq, V.ref.injEq, decide_eq_true_eq, Bool.not_true, Bool.not_false, Bool.false_eq_true, Bool.not_eq_true', decide_eq_false_iff_not, ↓reduceIte, true_and, and_true, and_self, decide_true, decide_false, not_false_eq_true, not_true_eq_false, eq_self, onN_s, int1_i, int1_b, one_i, two_i, ↓rIxA_e, ↓gSub_e, ↓rSetL_e, at3_0, at3_1, at3_2, ix3_0, ix3_1, ix3_2, onNum_i, onNum_b, ↓rIntA_e, ↓rMinA_e, ↓rMaxA_e, ↓rAbsA_e, ↓rLenL_e, ↓rSlLst_e, onTu_s, ↓gTupA_e, ↓rIxTu_e, ↓tRg1_e, ↓tLstRg_e, onRp_n, onRp_b, onRp_i, ↓rReprA_e, ↓rIsN_e, reduceCtorEq]
        have e7 : ∀ b o, H6 b = some o → upd (upd H6 u1 (.tup [.int m, .int p, .int (run m p (s0 m) (ws'.take i)).c, .int (run m p (s0 m) (ws'.take i)).f, .int (run m p (s0 m) (ws'.take i)).a])) v1 (.tup [.int m, .int p, .int (run m p (s0 m) (ws'.take i)).c, .int (run m p (s0 m) (ws'.take i)).f, .int (run m p (s0 m) (ws'.take i)).a]) b = some o := fun b o e => by
          rw [upd_ne (ne_of_none e hv1), upd_ne (ne_of_none e hu1)]
          exact e
        have n8 := (n7.new (o := .tup [.int m, .int p, .int (run m p (s0 m) (ws'.take i)).c, .int (run m p (s0 m) (ws'.take i)).f, .int (run m p (s0 m) (ws'.take i)).a]) hu1).new (o := .tup [.int m, .int p, .int (run m p (s0 m) (ws'.take i)).c, .int (run m p (s0 m) (ws'.take i)).f, .int (run m p (s0 m) (ws'.take i)).a]) (p := v1) (by rw [upd_ne huv1.symm]; exact hv1)
        have hr7 := e7 _ _ hr6
        have hx7 := e7 _ _ hx6
        generalize upd (upd H6 u1 (.tup [.int m, .int p, .int (run m p (s0 m) (ws'.take i)).c, .int (run m p (s0 m) (ws'.take i)).f, .int (run m p (s0 m) (ws'.take i)).a])) v1 (.tup [.int m, .int p, .int (run m p (s0 m) (ws'.take i)).c, .int (run m p (s0 m) (ws'.take i)).f, .int (run m p (s0 m) (ws'.take i)).a]) = H7 at hr7 hx7 n8 ⊢
        refine ⟨r, x, dr, dx, _, _, rfl, rfl, hr7, hx7, r, x, dr, dx, m, p, _, _, _, m, p, _, _, _, rfl, hr7, hx7, fun u2 v2 hu2 hv2 huv2 => ⟨_, rfl, ?_⟩⟩
        rw [decide_eq_true ⟨rfl, rfl, rfl, rfl, rfl⟩]
        have e8 : ∀ b o, H7 b = some o → upd (upd H7 u2 (.tup [.int m, .int p, .int (run m p (s0 m) (ws'.take i)).c, .int (run m p (s0 m) (ws'.take i)).f, .int (run m p (s0 m) (ws'.take i)).a])) v2 (.tup [.int m, .int p, .int (run m p (s0 m) (ws'.take i)).c, .int (run m p (s0 m) (ws'.take i)).f, .int (run m p (s0 m) (ws'.take i)).a]) b = some o := fun b o e => by
          rw [upd_ne (ne_of_none e hv2), upd_ne (ne_of_none e hu2)]
          exact e
        have n9 := (n8.new (o := .tup [.int m, .int p, .int (run m p (s0 m) (ws'.take i)).c, .int (run m p (s0 m) (ws'.take i)).f, .int (run m p (s0 m) (ws'.take i)).a]) hu2).new (o := .tup [.int m, .int p, .int (run m p (s0 m) (ws'.take i)).c, .int (run m p (s0 m) (ws'.take i)).f, .int (run m p (s0 m) (ws'.take i)).a]) (p := v2) (by rw [upd_ne huv2.symm]; exact hv2)
        have hr8 := e8 _ _ hr7
        have hx8 := e8 _ _ hx7
        generalize upd (upd H7 u2 (.tup [.int m, .int p, .int (run m p (s0 m) (ws'.take i)).c, .int (run m p (s0 m) (ws'.take i)).f, .int (run m p (s0 m) (ws'.take i)).a])) v2 (.tup [.int m, .int p, .int (run m p (s0 m) (ws'.take i)).c, .int (run m p (s0 m) (ws'.take i)).f, .int (run m p (s0 m) (ws'.take i)).a]) = H8 at hr8 hx8 n9 ⊢
        simp only [onI_i, onB_b, onR_r, onT_t, onO_s, onS_s, onV_s, ↓tVar_e, ↓tC_e, ↓tNil_e, ↓tCons_e, ↓tCB_e, ↓tOp_e, ↓rI_e, ↓rI0_e, ↓tUn_e, ↓rU_e, ↓rEq_e, ↓rNe_e, scal_ii, scal_ss, scal_bb, ↓tAndV_e, ↓tOrV_e, ↓tNotV_e, ↓tAnd_e, ↓tOr_e, ↓tNot_e, ↓tTest_e, ↓tB_e, ↓tIf_e, ↓tChain_e, ↓tSeq_e, ↓tNext_e, ↓tBreak_e, ↓tCont_e, ↓tDrop_e, ↓tRet_e, ↓tRetN_e, ↓tIfS_e, ↓tAsg_e, ↓gName_e, onL2_e, ↓tPar_e2, onCons_e, ↓gNil_e, ↓gCons_e, ↓tTup_e, ↓tTupF_e, ↓tLst_e, ↓tFld_e, ↓sFld_e, ↓sFldAug_e, ↓rAdd_e, ↓rSub_e, ↓tCall_e, ↓tProp_e, ↓tRaiseAsk_e, ↓getSp_e, ↓tMeth_e, ↓tMake_e, ↓rRep_e, ↓rCat_e, ↓tSl_e, ↓tNoPart_e, ↓tPart_e, ↓tYes_e, ↓tFor_e, ↓iTup_e, ↓iList_e, onL1_e, ↓iRng1_e, ↓iRng2_e, ↓iEnT_e, ↓tLc_e, ↓start_e, onD_s, onLst_s, ↓tApp_e, cxOf_K, upd_same, upd_upd, List.getElem?_cons_zero, List.getElem?_cons_succ, List.set_cons_zero, List.set_cons_succ, List.map_cons, List.map_nil, List.append_nil, List.cons_append, List.nil_append, List.length_cons, List.length_nil, List.replicate_succ, List.replicate_zero, Nat.reduceAdd, Nat.reduceSub, Nat.reduceLT, V.int.injEq, V.bl.injEq, V.str.injEq, V.ref.injEq, decide_eq_true_eq, Bool.not_true, Bool.not_false, Bool.false_eq_true, Bool.not_eq_true', decide_eq_false_iff_not, ↓reduceIte, true_and, and_true, and_self, decide_true, decide_false, not_false_eq_true, not_true_eq_false, eq_self, onN_s, int1_i, int1_b, one_i, two_i, ↓rIxA_e, ↓gSub_e, ↓rSetL_e, at3_0, at3_1, at3_2, ix3_0, ix3_1, ix3_2, onNum_i, onNum_b, ↓rIntA_e, ↓rMinA_e, ↓rMaxA_e, ↓rAbsA_e, ↓rLenL_e, ↓rSlLst_e, onTu_s, ↓gTupA_e, ↓rIxTu_e, ↓tRg1_e, ↓tLstRg_e, onRp_n, onRp_b, onRp_i, ↓rReprA_e, ↓rIsN_e, reduceCtorEq, hr8, hx8, pfs_coins, pfs_anew, id]
        refine ⟨by decide, fun q1 h1 => ?_⟩
        have nr1 : r ≠ q1 := ne_of_none hr8 h1
        have nx1 : x ≠ q1 := ne_of_none hx8 h1
        simp only [onI_i, onB_b, onR_r, onT_t, onO_s, onS_s, onV_s, ↓tVar_e, ↓tC_e, ↓tNil_e, ↓tCons_e, ↓tCB_e, ↓tOp_e, ↓rI_e, ↓rI0_e, ↓tUn_e, ↓rU_e, ↓rEq_e, ↓rNe_e, scal_ii, scal_ss, scal_bb, ↓tAndV_e, ↓tOrV_e, ↓tNotV_e, ↓tAnd_e, ↓tOr_e, ↓tNot_e, ↓tTest_e, ↓tB_e, ↓tIf_e, ↓tChain_e, ↓tSeq_e, ↓tNext_e, ↓tBreak_e, ↓tCont_e, ↓tDrop_e, ↓tRet_e, ↓tRetN_e, ↓tIfS_e, ↓tAsg_e, ↓gName_e, onL2_e, ↓tPar_e2, onCons_e, ↓gNil_e, ↓gCons_e, ↓tTup_e, ↓tTupF_e, ↓tLst_e, ↓tFld_e, ↓sFld_e, ↓sFldAug_e, ↓rAdd_e, ↓rSub_e, ↓tCall_e, ↓tProp_e, ↓tRaiseAsk_e, ↓getSp_e, ↓tMeth_e, ↓tMake_e, ↓rRep_e, ↓rCat_e, ↓tSl_e, ↓tNoPart_e, ↓tPart_e, ↓tYes_e, ↓tFor_e, ↓iTup_e, ↓iList_e, onL1_e, ↓iRng1_e, ↓iRng2_e, ↓iEnT_e, ↓tLc_e, ↓start_e, onD_s, onLst_s, ↓tApp_e, cxOf_K, upd_same, upd_upd, List.getElem?_cons_zero, List.getElem?_cons_succ, List.set_cons_zero, List.set_cons_succ, List.map_cons, List.map_nil, List.append_nil, List.cons_append, List.nil_append, List.length_cons, List.length_nil, List.replicate_succ, List.replicate_zero, Nat.reduceAdd, Nat.reduceSub, Nat.reduceLT, V.int.injEq, V.bl.injEq, V.str.injEq, V.ref.injEq, decide_eq_true_eq, Bool.not_true, Bool.not_false, Bool.false_eq_true, Bool.not_eq_true', decide_eq_false_iff_not, ↓reduceIte, true_and, and_true, and_self, decide_true, decide_false, not_false_eq_true, not_true_eq_false, eq_self, onN_s, int1_i, int1_b, one_i, two_i, ↓rIxA_e, ↓gSub_e, ↓rSetL_e, at3_0, at3_1, at3_2, ix3_0, ix3_1, ix3_2, onNum_i, onNum_b, ↓rIntA_e, ↓rMinA_e, ↓rMaxA_e, ↓rAbsA_e, ↓rLenL_e, ↓rSlLst_e, onTu_s, ↓gTupA_e, ↓rIxTu_e, ↓tRg1_e, ↓tLstRg_e, onRp_n, onRp_b, onRp_i, ↓rReprA_e, ↓rIsN_e, reduceCtorEq, upd_ne nx1, hx8, pfs_coins, pfs_anew]
        refine ⟨by decide, fun q2 h2 => ⟨q1, q2, _, _, 0, rfl, rfl, SqT.of (by rw [upd_ne (upd_none h2).2.symm, upd_same]), SqT.of upd_same, by decide, by simp [kindV], by simp [kindV], ?_⟩⟩
        rw [decide_eq_true rfl]
        have nr2 : r ≠ q2 := ne_of_none (by rw [upd_ne nr1]; exact hr8) h2
        have nx2 : x ≠ q2 := ne_of_none (by rw [upd_ne nx1]; exact hx8) h2
        have hr10 : upd (upd H8 q1 (.tup [.int (run m p (s0 m) (ws'.take i)).c, .int (run m p (s0 m) (ws'.take i)).a])) q2 (.tup [.int (run m p (s0 m) (ws'.take i)).c, .int (run m p (s0 m) (ws'.take i)).a]) r = _ := (upd_ne nr2).trans ((upd_ne nr1).trans hr8)
        have hx10 : upd (upd H8 q1 (.tup [.int (run m p (s0 m) (ws'.take i)).c, .int (run m p (s0 m) (ws'.take i)).a])) q2 (.tup [.int (run m p (s0 m) (ws'.take i)).c, .int (run m p (s0 m) (ws'.take i)).a]) x = _ := (upd_ne nx2).trans ((upd_ne nx1).trans hx8)
        have n10 := (n9.new (o := .tup [.int (run m p (s0 m) (ws'.take i)).c, .int (run m p (s0 m) (ws'.take i)).a]) h1).new (o := .tup [.int (run m p (s0 m) (ws'.take i)).c, .int (run m p (s0 m) (ws'.take i)).a]) h2
        generalize upd (upd H8 q1 (.tup [.int (run m p (s0 m) (ws'.take i)).c, .int (run m p (s0 m) (ws'.take i)).a])) q2 (.tup [.int (run m p (s0 m) (ws'.take i)).c, .int (run m p (s0 m) (ws'.take i)).a]) = H10 at hr10 hx10 n10 ⊢
        simp only [onI_i, onB_b, onR_r, onT_t, onO_s, onS_s, onV_s, ↓tVar_e, ↓tC_e, ↓tNil_e, ↓tCons_e, ↓tCB_e, ↓tOp_e, ↓rI_e, ↓rI0_e, ↓tUn_e, ↓rU_e, ↓rEq_e, ↓rNe_e, scal_ii, scal_ss, scal_bb, ↓tAndV_e, ↓tOrV_e, ↓tNotV_e, ↓tAnd_e, ↓tOr_e, ↓tNot_e, ↓tTest_e, ↓tB_e, ↓tIf_e, ↓tChain_e, ↓tSeq_e, ↓tNext_e, ↓tBreak_e, ↓tCont_e, ↓tDrop_e, ↓tRet_e, ↓tRetN_e, ↓tIfS_e, ↓tAsg_e, ↓gName_e, onL2_e, ↓tPar_e2, onCons_e, ↓gNil_e, ↓gCons_e, ↓tTup_e, ↓tTupF_e, ↓tLst_e, ↓tFld_e, ↓sFld_e, ↓sFldAug_e, ↓rAdd_e, ↓rSub_e, ↓tCall_e, ↓tProp_e, ↓tRaiseAsk_e, ↓getSp_e, ↓tMeth_e, ↓tMake_e, ↓rRep_e, ↓rCat_e, ↓tSl_e, ↓tNoPart_e, ↓tPart_e, ↓tYes_e, ↓tFor_e, ↓iTup_e, ↓iList_e, onL1_e, ↓iRng1_e, ↓iRng2_e, ↓iEnT_e, ↓tLc_e, ↓start_e, onD_s, onLst_s, ↓tApp_e, cxOf_K, upd_same, upd_upd, List.getElem?_cons_zero, List.getElem?_cons_succ, List.set_cons_zero, List.set_cons_succ, List.map_cons, List.map_nil, List.append_nil, List.cons_append, List.nil_append, List.length_cons, List.length_nil, List.replicate_succ, List.replicate_zero, Nat.reduceAdd, Nat.reduceSub, Nat.reduceLT, V.int.injEq, V.bl.injEq, V.str.injEq, V.ref.injEq, decide_eq_true_eq, Bool.not_true, Bool.not_false, Bool.false_eq_true, Bool.not_eq_true', decide_eq_false_iff_not, ↓reduceIte, true_and, and_true, and_self, decide_true, decide_false, not_false_eq_true, not_true_eq_false, eq_self, onN_s, int1_i, int1_b, one_i, two_i, ↓rIxA_e, ↓gSub_e, ↓rSetL_e, at3_0, at3_1, at3_2, ix3_0, ix3_1, ix3_2, onNum_i, onNum_b, ↓rIntA_e, ↓rMinA_e, ↓rMaxA_e, ↓rAbsA_e, ↓rLenL_e, ↓rSlLst_e, onTu_s, ↓gTupA_e, ↓rIxTu_e, ↓tRg1_e, ↓tLstRg_e, onRp_n, onRp_b, onRp_i, ↓rReprA_e, ↓rIsN_e, reduceCtorEq, hr10]
        refine ⟨pfs_no _ (by decide +kernel), r, dr, m, p, _, _, _, rfl, hr10, p0, ?_⟩
        have hr11 : upd H10 r (.ins cP dr (pfs m p (firstC m p (run m p (s0 m) (ws'.take i)).c (run m p (s0 m) (ws'.take i)).f) ((run m p (s0 m) (ws'.take i)).f + 1) (run m p (s0 m) (ws'.take i)).a)) r = _ := upd_same
        have hx11 : upd H10 r (.ins cP dr (pfs m p (firstC m p (run m p (s0 m) (ws'.take i)).c (run m p (s0 m) (ws'.take i)).f) ((run m p (s0 m) (ws'.take i)).f + 1) (run m p (s0 m) (ws'.take i)).a)) x = _ := (upd_ne nxr).trans hx10
        have n11 := n10.wr (o := .ins cP dr (pfs m p (firstC m p (run m p (s0 m) (ws'.take i)).c (run m p (s0 m) (ws'.take i)).f) ((run m p (s0 m) (ws'.take i)).f + 1) (run m p (s0 m) (ws'.take i)).a)) (.inr hr3) hr10 rfl
        generalize upd H10 r (.ins cP dr (pfs m p (firstC m p (run m p (s0 m) (ws'.take i)).c (run m p (s0 m) (ws'.take i)).f) ((run m p (s0 m) (ws'.take i)).f + 1) (run m p (s0 m) (ws'.take i)).a)) = H11 at hr11 hx11 n11 ⊢
        simp only [onI_i, onB_b, onR_r, onT_t, onO_s, onS_s, onV_s, ↓tVar_e, ↓tC_e, ↓tNil_e, ↓tCons_e, ↓tCB_e, ↓tOp_e, ↓rI_e, ↓rI0_e, ↓tUn_e, ↓rU_e, ↓rEq_e, ↓rNe_e, scal_ii, scal_ss, scal_bb, ↓tAndV_e, ↓tOrV_e, ↓tNotV_e, ↓tAnd_e, ↓tOr_e, ↓tNot_e, ↓tTest_e, ↓tB_e, ↓tIf_e, ↓tChain_e, ↓tSeq_e, ↓tNext_e, ↓tBreak_e, ↓tCont_e, ↓tDrop_e, ↓tRet_e, ↓tRetN_e, ↓tIfS_e, ↓tAsg_e, ↓gName_e, onL2_e, ↓tPar_e2, onCons_e, ↓gNil_e, ↓gCons_e, ↓tTup_e, ↓tTupF_e, ↓tLst_e, ↓tFld_e, ↓sFld_e, ↓sFldAug_e, ↓rAdd_e, ↓rSub_e, ↓tCall_e, ↓tProp_e, ↓tRaiseAsk_e, ↓getSp_e, ↓tMeth_e, ↓tMake_e, ↓rRep_e, ↓rCat_e, ↓tSl_e, ↓tNoPart_e, ↓tPart_e, ↓tYes_e, ↓tFor_e, ↓iTup_e, ↓iList_e, onL1_e, ↓iRng1_e, ↓iRng2_e, ↓iEnT_e, ↓tLc_e, ↓start_e, onD_s, onLst_s, ↓tApp_e, cxOf_K, upd_same, upd_upd, List.getElem?_cons_zero, List.getElem?_cons_succ, List.set_cons_zero, List.set_cons_succ, List.map_cons, List.map_nil, List.append_nil, List.cons_append, List.nil_append, List.length_cons, List.length_nil, List.replicate_succ, List.replicate_zero, Nat.reduceAdd, Nat.reduceSub, Nat.reduceLT, V.int.injEq, V.bl.injEq, V.str.injEq, V.ref.injEq, decide_eq_true_eq, Bool.not_true, Bool.not_false, Bool.false_eq_true, Bool.not_eq_true', decide_eq_false_iff_not, ↓reduceIte, true_and, and_true, and_self, decide_true, decide_false, not_false_eq_true, not_true_eq_false, eq_self, onN_s, int1_i, int1_b, one_i, two_i, ↓rIxA_e, ↓gSub_e, ↓rSetL_e, at3_0, at3_1, at3_2, ix3_0, ix3_1, ix3_2, onNum_i, onNum_b, ↓rIntA_e, ↓rMinA_e, ↓rMaxA_e, ↓rAbsA_e, ↓rLenL_e, ↓rSlLst_e, onTu_s, ↓gTupA_e, ↓rIxTu_e, ↓tRg1_e, ↓tLstRg_e, onRp_n, onRp_b, onRp_i, ↓rReprA_e, ↓rIsN_e, reduceCtorEq]
        refine ⟨r, x, dr, dx, _, _, rfl, rfl, hr11, hx11, r, x, dr, dx, m, p, _, _, _, m, p, _, _, _, rfl, hr11, hx11, fun u3 v3 hu3 hv3 huv3 => ⟨_, rfl, ?_⟩⟩
        rw [decide_eq_false (fun z => absurd z.2.2.2.1 (by omega))]
        have e12 : ∀ b o, H11 b = some o → upd (upd H11 u3 (.tup [.int m, .int p, .int (firstC m p (run m p (s0 m) (ws'.take i)).c (run m p (s0 m) (ws'.take i)).f), .int ((run m p (s0 m) (ws'.take i)).f + 1), .int (run m p (s0 m) (ws'.take i)).a])) v3 (.tup [.int m, .int p, .int (run m p (s0 m) (ws'.take i)).c, .int (run m p (s0 m) (ws'.take i)).f, .int (run m p (s0 m) (ws'.take i)).a]) b = some o := fun b o e => by
          rw [upd_ne (ne_of_none e hv3), upd_ne (ne_of_none e hu3)]
          exact e
        have n12' := (n11.new (o := .tup [.int m, .int p, .int (firstC m p (run m p (s0 m) (ws'.take i)).c (run m p (s0 m) (ws'.take i)).f), .int ((run m p (s0 m) (ws'.take i)).f + 1), .int (run m p (s0 m) (ws'.take i)).a]) hu3).new (o := .tup [.int m, .int p, .int (run m p (s0 m) (ws'.take i)).c, .int (run m p (s0 m) (ws'.take i)).f, .int (run m p (s0 m) (ws'.take i)).a]) (p := v3) (by rw [upd_ne huv3.symm]; exact hv3)
        have hr12 := e12 _ _ hr11
        have hx12 := e12 _ _ hx11
        generalize upd (upd H11 u3 (.tup [.int m, .int p, .int (firstC m p (run m p (s0 m) (ws'.take i)).c (run m p (s0 m) (ws'.take i)).f), .int ((run m p (s0 m) (ws'.take i)).f + 1), .int (run m p (s0 m) (ws'.take i)).a])) v3 (.tup [.int m, .int p, .int (run m p (s0 m) (ws'.take i)).c, .int (run m p (s0 m) (ws'.take i)).f, .int (run m p (s0 m) (ws'.take i)).a]) = H12 at hr12 hx12 n12' ⊢
        simp only [onI_i, onB_b, onR_r, onT_t, onO_s, onS_s, onV_s, ↓tVar_e, ↓tC_e, ↓tNil_e, ↓tCons_e, ↓tCB_e, ↓tOp_e, ↓rI_e, ↓rI0_e, ↓tUn_e, ↓rU_e, ↓rEq_e, ↓rNe_e, scal_ii, scal_ss, scal_bb, ↓tAndV_e, ↓tOrV_e, ↓tNotV_e, ↓tAnd_e, ↓tOr_e, ↓tNot_e, ↓tTest_e, ↓tB_e, ↓tIf_e, ↓tChain_e, ↓tSeq_e, ↓tNext_e, ↓tBreak_e, ↓tCont_e, ↓tDrop_e, ↓tRet_e, ↓tRetN_e, ↓tIfS_e, ↓tAsg_e, ↓gName_e, onL2_e, ↓tPar_e2, onCons_e, ↓gNil_e, ↓gCons_e, ↓tTup_e, ↓tTupF_e, ↓tLst_e, ↓tFld_e, ↓sFld_e, ↓sFldAug_e, ↓rAdd_e, ↓rSub_e, ↓tCall_e, ↓tProp_e, ↓tRaiseAsk_e, ↓getSp_e, ↓tMeth_e, ↓tMake_e, ↓rRep_e, ↓rCat_e, ↓tSl_e, ↓tNoPart_e, ↓tPart_e, ↓tYes_e, ↓tFor_e, ↓iTup_e, ↓iList_e, onL1_e, ↓iRng1_e, ↓iRng2_e, ↓iEnT_e, ↓tLc_e, ↓start_e, onD_s, onLst_s, ↓tApp_e, cxOf_K, upd_same, upd_upd, List.getElem?_cons_zero, List.getElem?_cons_succ, List.set_cons_zero, List.set_cons_succ, List.map_cons, List.map_nil, List.append_nil, List.cons_append, List.nil_append, List.length_cons, List.length_nil, List.replicate_succ, List.replicate_zero, Nat.reduceAdd, Nat.reduceSub, Nat.reduceLT, V.int.injEq, V.bl.injEq, V.str.injEq, V.ref.injEq, decide_eq_true_eq, Bool.not_true, Bool.not_false, Bool.false_eq_true, Bool.not_eq_true', decide_eq_false_iff_not, ↓reduceIte, true_and, and_true, and_self, decide_true, decide_false, not_false_eq_true, not_true_eq_false, eq_self, onN_s, int1_i, int1_b, one_i, two_i, ↓rIxA_e, ↓gSub_e, ↓rSetL_e, at3_0, at3_1, at3_2, ix3_0, ix3_1, ix3_2, onNum_i, onNum_b, ↓rIntA_e, ↓rMinA_e, ↓rMaxA_e, ↓rAbsA_e, ↓rLenL_e, ↓rSlLst_e, onTu_s, ↓gTupA_e, ↓rIxTu_e, ↓tRg1_e, ↓tLstRg_e, onRp_n, onRp_b, onRp_i, ↓rReprA_e, ↓rIsN_e, reduceCtorEq, hr12, hx12, pfs_firsts, id]
        cases b with
        | true =>
          simp only [onI_i, onB_b, onR_r, onT_t, onO_s, onS_s, onV_s, ↓tVar_e, ↓tC_e, ↓tNil_e, ↓tCons_e, ↓tCB_e, ↓tOp_e, ↓rI_e, ↓rI0_e, ↓tUn_e, ↓rU_e, ↓rEq_e, ↓rNe_e, scal_ii, scal_ss, scal_bb, ↓tAndV_e, ↓tOrV_e, ↓tNotV_e, ↓tAnd_e, ↓tOr_e, ↓tNot_e, ↓tTest_e, ↓tB_e, ↓tIf_e, ↓tChain_e, ↓tSeq_e, ↓tNext_e, ↓tBreak_e, ↓tCont_e, ↓tDrop_e, ↓tRet_e, ↓tRetN_e, ↓tIfS_e, ↓tAsg_e, ↓gName_e, onL2_e, ↓tPar_e2, onCons_e, ↓gNil_e, ↓gCons_e, ↓tTup_e, ↓tTupF_e, ↓tLst_e, ↓tFld_e, ↓sFld_e, ↓sFldAug_e, ↓rAdd_e, ↓rSub_e, ↓tCall_e, ↓tProp_e, ↓tRaiseAsk_e, ↓getSp_e, ↓tMeth_e, ↓tMake_e, ↓rRep_e, ↓rCat_e, ↓tSl_e, ↓tNoPart_e, ↓tPart_e, ↓tYes_e, ↓tFor_e, ↓iTup_e, ↓iList_e, onL1_e, ↓iRng1_e, ↓iRng2_e, ↓iEnT_e, ↓tLc_e, ↓start_e, onD_s, onLst_s, ↓tApp_e, cxOf_K, upd_same, upd_upd, List.getElem?_cons_zero, List.getElem?_cons_succ, List.set_cons_zero, List.set_cons_succ, List.map_cons, List.map_nil, List.append_nil, List.cons_append, List.nil_append, List.length_cons, List.length_nil, List.replicate_succ, List.replicate_zero, Nat.reduceAdd, Nat.reduceSub, Nat.reduceLT, V.int.injEq, V.bl.injEq, V.str.injEq, V.ref.injEq, decide_eq_true_eq, Bool.not_true, Bool.not_false, Bool.false_eq_true, Bool.not_eq_true', decide_eq_false_iff_not, ↓reduceIte, true_and, and_true, and_self, decide_true, decide_false, not_false_eq_true, not_true_eq_false, eq_self, onN_s, int1_i, int1_b, one_i, two_i, ↓rIxA_e, ↓gSub_e, ↓rSetL_e, at3_0, at3_1, at3_2, ix3_0, ix3_1, ix3_2, onNum_i, onNum_b, ↓rIntA_e, ↓rMinA_e, ↓rMaxA_e, ↓rAbsA_e, ↓rLenL_e, ↓rSlLst_e, onTu_s, ↓gTupA_e, ↓rIxTu_e, ↓tRg1_e, ↓tLstRg_e, onRp_n, onRp_b, onRp_i, ↓rReprA_e, ↓rIsN_e, reduceCtorEq, wv_first, hx12]
          refine ⟨pfs_no _ (by decide +kernel), x, dx, m, p, _, _, _, rfl, hx12, p0, ?_⟩
          simp only [onI_i, onB_b, onR_r, onT_t, onO_s, onS_s, onV_s, ↓tVar_e, ↓tC_e, ↓tNil_e, ↓tCons_e, ↓tCB_e, ↓tOp_e, ↓rI_e, ↓rI0_e, ↓tUn_e, ↓rU_e, ↓rEq_e, ↓rNe_e, scal_ii, scal_ss, scal_bb, ↓tAndV_e, ↓tOrV_e, ↓tNotV_e, ↓tAnd_e, ↓tOr_e, ↓tNot_e, ↓tTest_e, ↓tB_e, ↓tIf_e, ↓tChain_e, ↓tSeq_e, ↓tNext_e, ↓tBreak_e, ↓tCont_e, ↓tDrop_e, ↓tRet_e, ↓tRetN_e, ↓tIfS_e, ↓tAsg_e, ↓gName_e, onL2_e, ↓tPar_e2, onCons_e, ↓gNil_e, ↓gCons_e, ↓tTup_e, ↓tTupF_e, ↓tLst_e, ↓tFld_e, ↓sFld_e, ↓sFldAug_e, ↓rAdd_e, ↓rSub_e, ↓tCall_e, ↓tProp_e, ↓tRaiseAsk_e, ↓getSp_e, ↓tMeth_e, ↓tMake_e, ↓rRep_e, ↓rCat_e, ↓tSl_e, ↓tNoPart_e, ↓tPart_e, ↓tYes_e, ↓tFor_e, ↓iTup_e, ↓iList_e, onL1_e, ↓iRng1_e, ↓iRng2_e, ↓iEnT_e, ↓tLc_e, ↓start_e, onD_s, onLst_s, ↓tApp_e, cxOf_K, upd_same, upd_upd, List.getElem?_cons_zero, List.getElem?_cons_succ, List.set_cons_zero, List.set_cons_succ, List.map_cons, List.map_nil, List.append_nil, List.cons_append, List.nil_append, List.length_cons, List.length_nil, List.replicate_succ, List.replicate_zero, Nat.reduceAdd, Nat.reduceSub, Nat.reduceLT, V.int.injEq, V.bl.injEq, V.str.injEq, V.ref.injEq, decide_eq_true_eq, Bool.not_true, Bool.not_false, Bool.false_eq_true, Bool.not_eq_true', decide_eq_false_iff_not, ↓reduceIte, true_and, and_true, and_self, decide_true, decide_false, not_false_eq_true, not_true_eq_false, eq_self, onN_s, int1_i, int1_b, one_i, two_i, ↓rIxA_e, ↓gSub_e, ↓rSetL_e, at3_0, at3_1, at3_2, ix3_0, ix3_1, ix3_2, onNum_i, onNum_b, ↓rIntA_e, ↓rMinA_e, ↓rMaxA_e, ↓rAbsA_e, ↓rLenL_e, ↓rSlLst_e, onTu_s, ↓gTupA_e, ↓rIxTu_e, ↓tRg1_e, ↓tLstRg_e, onRp_n, onRp_b, onRp_i, ↓rReprA_e, ↓rIsN_e, reduceCtorEq]
          refine ⟨_, _, _, _, rfl, n12'.wr (.inl (by simp)) hx12 rfl, ?_⟩
          rw [er]
          rfl
        | false =>
          simp only [onI_i, onB_b, onR_r, onT_t, onO_s, onS_s, onV_s, ↓tVar_e, ↓tC_e, ↓tNil_e, ↓tCons_e, ↓tCB_e, ↓tOp_e, ↓rI_e, ↓rI0_e, ↓tUn_e, ↓rU_e, ↓rEq_e, ↓rNe_e, scal_ii, scal_ss, scal_bb, ↓tAndV_e, ↓tOrV_e, ↓tNotV_e, ↓tAnd_e, ↓tOr_e, ↓tNot_e, ↓tTest_e, ↓tB_e, ↓tIf_e, ↓tChain_e, ↓tSeq_e, ↓tNext_e, ↓tBreak_e, ↓tCont_e, ↓tDrop_e, ↓tRet_e, ↓tRetN_e, ↓tIfS_e, ↓tAsg_e, ↓gName_e, onL2_e, ↓tPar_e2, onCons_e, ↓gNil_e, ↓gCons_e, ↓tTup_e, ↓tTupF_e, ↓tLst_e, ↓tFld_e, ↓sFld_e, ↓sFldAug_e, ↓rAdd_e, ↓rSub_e, ↓tCall_e, ↓tProp_e, ↓tRaiseAsk_e, ↓getSp_e, ↓tMeth_e, ↓tMake_e, ↓rRep_e, ↓rCat_e, ↓tSl_e, ↓tNoPart_e, ↓tPart_e, ↓tYes_e, ↓tFor_e, ↓iTup_e, ↓iList_e, onL1_e, ↓iRng1_e, ↓iRng2_e, ↓iEnT_e, ↓tLc_e, ↓start_e, onD_s, onLst_s, ↓tApp_e, cxOf_K, upd_same, upd_upd, List.getElem?_cons_zero, List.getElem?_cons_succ, List.set_cons_zero, List.set_cons_succ, List.map_cons, List.map_nil, List.append_nil, List.cons_append, List.nil_append, List.length_cons, List.length_nil, List.replicate_succ, List.replicate_zero, Nat.reduceAdd, Nat.reduceSub, Nat.reduceLT, V.int.injEq, V.bl.injEq, V.str.injEq, V.ref.injEq, decide_eq_true_eq, Bool.not_true, Bool.not_false, Bool.false_eq_true, Bool.not_eq_true', decide_eq_false_iff_not, ↓reduceIte, true_and, and_true, and_self, decide_true, decide_false, not_false_eq_true, not_true_eq_false, eq_self, onN_s, int1_i, int1_b, one_i, two_i, ↓rIxA_e, ↓gSub_e, ↓rSetL_e, at3_0, at3_1, at3_2, ix3_0, ix3_1, ix3_2, onNum_i, onNum_b, ↓rIntA_e, ↓rMinA_e, ↓rMaxA_e, ↓rAbsA_e, ↓rLenL_e, ↓rSlLst_e, onTu_s, ↓gTupA_e, ↓rIxTu_e, ↓tRg1_e, ↓tLstRg_e, onRp_n, onRp_b, onRp_i, ↓rReprA_e, ↓rIsN_e, reduceCtorEq, wv_first, hx12, str_fa]
          have eo := outs_get (m := m) (p := p) (s := s0 m) hb
          have ea : atI ((outs m p (s0 m) ws').map V.bl) (i : Int) = some (.bl (out (run m p (s0 m) (ws'.take i)) false)) := by
            have hlt : i < (outs m p (s0 m) ws').length := (List.getElem?_eq_some_iff.mp eo).1
            unfold atI ixN
            rw [if_pos (by omega), List.length_map, if_pos (by omega), Int.toNat_natCast]
            show ((outs m p (s0 m) ws').map V.bl)[i]? = _
            rw [List.getElem?_map, eo]
            rfl
          refine ⟨pfs_no _ (by decide +kernel), x, dx, m, p, _, _, _, rfl, hx12, fun z => ?_, fun z => ?_⟩
          · have eout : out (run m p (s0 m) (ws'.take i)) false = false := by simp [out, z]
            rw [eout] at ea
            simp only [onI_i, onB_b, onR_r, onT_t, onO_s, onS_s, onV_s, ↓tVar_e, ↓tC_e, ↓tNil_e, ↓tCons_e, ↓tCB_e, ↓tOp_e, ↓rI_e, ↓rI0_e, ↓tUn_e, ↓rU_e, ↓rEq_e, ↓rNe_e, scal_ii, scal_ss, scal_bb, ↓tAndV_e, ↓tOrV_e, ↓tNotV_e, ↓tAnd_e, ↓tOr_e, ↓tNot_e, ↓tTest_e, ↓tB_e, ↓tIf_e, ↓tChain_e, ↓tSeq_e, ↓tNext_e, ↓tBreak_e, ↓tCont_e, ↓tDrop_e, ↓tRet_e, ↓tRetN_e, ↓tIfS_e, ↓tAsg_e, ↓gName_e, onL2_e, ↓tPar_e2, onCons_e, ↓gNil_e, ↓gCons_e, ↓tTup_e, ↓tTupF_e, ↓tLst_e, ↓tFld_e, ↓sFld_e, ↓sFldAug_e, ↓rAdd_e, ↓rSub_e, ↓tCall_e, ↓tProp_e, ↓tRaiseAsk_e, ↓getSp_e, ↓tMeth_e, ↓tMake_e, ↓rRep_e, ↓rCat_e, ↓tSl_e, ↓tNoPart_e, ↓tPart_e, ↓tYes_e, ↓tFor_e, ↓iTup_e, ↓iList_e, onL1_e, ↓iRng1_e, ↓iRng2_e, ↓iEnT_e, ↓tLc_e, ↓start_e, onD_s, onLst_s, ↓tApp_e, cxOf_K, upd_same, upd_upd, List.getElem?_cons_zero, List.getElem?_cons_succ, List.set_cons_zero, List.set_cons_succ, List.map_cons, List.map_nil, List.append_nil, List.cons_append, List.nil_append, List.length_cons, List.length_nil, List.replicate_succ, List.replicate_zero, Nat.reduceAdd, Nat.reduceSub, Nat.reduceLT, V.int.injEq, V.bl.injEq, V.str.injEq, V.ref.injEq, decide_eq_true_eq, Bool.not_true, Bool.not_false, Bool.false_eq_true, Bool.not_eq_true', decide_eq_false_iff_not, ↓reduceIte, true_and, and_true, and_self, decide_true, decide_false, not_false_eq_true, not_true_eq_false, eq_self, onN_s, int1_i, int1_b, one_i, two_i, ↓rIxA_e, ↓gSub_e, ↓rSetL_e, at3_0, at3_1, at3_2, ix3_0, ix3_1, ix3_2, onNum_i, onNum_b, ↓rIntA_e, ↓rMinA_e, ↓rMaxA_e, ↓rAbsA_e, ↓rLenL_e, ↓rSlLst_e, onTu_s, ↓gTupA_e, ↓rIxTu_e, ↓tRg1_e, ↓tLstRg_e, onRp_n, onRp_b, onRp_i, ↓rReprA_e, ↓rIsN_e, reduceCtorEq]
            refine ⟨t, _, _, _, rfl, rfl, .inl (n12'.rd ht3), (by rw [← hcut]; exact ea), ?_⟩
            simp only [onI_i, onB_b, onR_r, onT_t, onO_s, onS_s, onV_s, ↓tVar_e, ↓tC_e, ↓tNil_e, ↓tCons_e, ↓tCB_e, ↓tOp_e, ↓rI_e, ↓rI0_e, ↓tUn_e, ↓rU_e, ↓rEq_e, ↓rNe_e, scal_ii, scal_ss, scal_bb, ↓tAndV_e, ↓tOrV_e, ↓tNotV_e, ↓tAnd_e, ↓tOr_e, ↓tNot_e, ↓tTest_e, ↓tB_e, ↓tIf_e, ↓tChain_e, ↓tSeq_e, ↓tNext_e, ↓tBreak_e, ↓tCont_e, ↓tDrop_e, ↓tRet_e, ↓tRetN_e, ↓tIfS_e, ↓tAsg_e, ↓gName_e, onL2_e, ↓tPar_e2, onCons_e, ↓gNil_e, ↓gCons_e, ↓tTup_e, ↓tTupF_e, ↓tLst_e, ↓tFld_e, ↓sFld_e, ↓sFldAug_e, ↓rAdd_e, ↓rSub_e, ↓tCall_e, ↓tProp_e, ↓tRaiseAsk_e, ↓getSp_e, ↓tMeth_e, ↓tMake_e, ↓rRep_e, ↓rCat_e, ↓tSl_e, ↓tNoPart_e, ↓tPart_e, ↓tYes_e, ↓tFor_e, ↓iTup_e, ↓iList_e, onL1_e, ↓iRng1_e, ↓iRng2_e, ↓iEnT_e, ↓tLc_e, ↓start_e, onD_s, onLst_s, ↓tApp_e, cxOf_K, upd_same, upd_upd, List.getElem?_cons_zero, List.getElem?_cons_succ, List.set_cons_zero, List.set_cons_succ, List.map_cons, List.map_nil, List.append_nil, List.cons_append, List.nil_append, List.length_cons, List.length_nil, List.replicate_succ, List.replicate_zero, Nat.reduceAdd, Nat.reduceSub, Nat.reduceLT, V.int.injEq, V.bl.injEq, V.str.injEq, V.ref.injEq, decide_eq_true_eq, Bool.not_true, Bool.not_false, Bool.false_eq_true, Bool.not_eq_true', decide_eq_false_iff_not, ↓reduceIte, true_and, and_true, and_self, decide_true, decide_false, not_false_eq_true, not_true_eq_false, eq_self, onN_s, int1_i, int1_b, one_i, two_i, ↓rIxA_e, ↓gSub_e, ↓rSetL_e, at3_0, at3_1, at3_2, ix3_0, ix3_1, ix3_2, onNum_i, onNum_b, ↓rIntA_e, ↓rMinA_e, ↓rMaxA_e, ↓rAbsA_e, ↓rLenL_e, ↓rSlLst_e, onTu_s, ↓gTupA_e, ↓rIxTu_e, ↓tRg1_e, ↓tLstRg_e, onRp_n, onRp_b, onRp_i, ↓rReprA_e, ↓rIsN_e, reduceCtorEq]
            refine ⟨_, _, _, _, rfl, n12', ?_⟩
            rw [er]
            unfold stp
            rw [if_neg Bool.false_ne_true, if_pos z]
            exact hx12
          · have eout : out (run m p (s0 m) (ws'.take i)) false = true := by simp [out, z]
            rw [eout] at ea
            simp only [onI_i, onB_b, onR_r, onT_t, onO_s, onS_s, onV_s, ↓tVar_e, ↓tC_e, ↓tNil_e, ↓tCons_e, ↓tCB_e, ↓tOp_e, ↓rI_e, ↓rI0_e, ↓tUn_e, ↓rU_e, ↓rEq_e, ↓rNe_e, scal_ii, scal_ss, scal_bb, ↓tAndV_e, ↓tOrV_e, ↓tNotV_e, ↓tAnd_e, ↓tOr_e, ↓tNot_e, ↓tTest_e, ↓tB_e, ↓tIf_e, ↓tChain_e, ↓tSeq_e, ↓tNext_e, ↓tBreak_e, ↓tCont_e, ↓tDrop_e, ↓tRet_e, ↓tRetN_e, ↓tIfS_e, ↓tAsg_e, ↓gName_e, onL2_e, ↓tPar_e2, onCons_e, ↓gNil_e, ↓gCons_e, ↓tTup_e, ↓tTupF_e, ↓tLst_e, ↓tFld_e, ↓sFld_e, ↓sFldAug_e, ↓rAdd_e, ↓rSub_e, ↓tCall_e, ↓tProp_e, ↓tRaiseAsk_e, ↓getSp_e, ↓tMeth_e, ↓tMake_e, ↓rRep_e, ↓rCat_e, ↓tSl_e, ↓tNoPart_e, ↓tPart_e, ↓tYes_e, ↓tFor_e, ↓iTup_e, ↓iList_e, onL1_e, ↓iRng1_e, ↓iRng2_e, ↓iEnT_e, ↓tLc_e, ↓start_e, onD_s, onLst_s, ↓tApp_e, cxOf_K, upd_same, upd_upd, List.getElem?_cons_zero, List.getElem?_cons_succ, List.set_cons_zero, List.set_cons_succ, List.map_cons, List.map_nil, List.append_nil, List.cons_append, List.nil_append, List.length_cons, List.length_nil, List.replicate_succ, List.replicate_zero, Nat.reduceAdd, Nat.reduceSub, Nat.reduceLT, V.int.injEq, V.bl.injEq, V.str.injEq, V.ref.injEq, decide_eq_true_eq, Bool.not_true, Bool.not_false, Bool.false_eq_true, Bool.not_eq_true', decide_eq_false_iff_not, ↓reduceIte, true_and, and_true, and_self, decide_true, decide_false, not_false_eq_true, not_true_eq_false, eq_self, onN_s, int1_i, int1_b, one_i, two_i, ↓rIxA_e, ↓gSub_e, ↓rSetL_e, at3_0, at3_1, at3_2, ix3_0, ix3_1, ix3_2, onNum_i, onNum_b, ↓rIntA_e, ↓rMinA_e, ↓rMaxA_e, ↓rAbsA_e, ↓rLenL_e, ↓rSlLst_e, onTu_s, ↓gTupA_e, ↓rIxTu_e, ↓tRg1_e, ↓tLstRg_e, onRp_n, onRp_b, onRp_i, ↓rReprA_e, ↓rIsN_e, reduceCtorEq]
            have nn := n12'.wr (o := .ins cP dx (pfs m p ((run m p (s0 m) (ws'.take i)).c - 1) (run m p (s0 m) (ws'.take i)).f ((run m p (s0 m) (ws'.take i)).a + 1))) (.inl (by simp)) hx12 rfl
            refine ⟨t, _, _, _, rfl, rfl, .inl (nn.rd ht3), (by rw [← hcut]; exact ea), ?_⟩
            simp only [onI_i, onB_b, onR_r, onT_t, onO_s, onS_s, onV_s, ↓tVar_e, ↓tC_e, ↓tNil_e, ↓tCons_e, ↓tCB_e, ↓tOp_e, ↓rI_e, ↓rI0_e, ↓tUn_e, ↓rU_e, ↓rEq_e, ↓rNe_e, scal_ii, scal_ss, scal_bb, ↓tAndV_e, ↓tOrV_e, ↓tNotV_e, ↓tAnd_e, ↓tOr_e, ↓tNot_e, ↓tTest_e, ↓tB_e, ↓tIf_e, ↓tChain_e, ↓tSeq_e, ↓tNext_e, ↓tBreak_e, ↓tCont_e, ↓tDrop_e, ↓tRet_e, ↓tRetN_e, ↓tIfS_e, ↓tAsg_e, ↓gName_e, onL2_e, ↓tPar_e2, onCons_e, ↓gNil_e, ↓gCons_e, ↓tTup_e, ↓tTupF_e, ↓tLst_e, ↓tFld_e, ↓sFld_e, ↓sFldAug_e, ↓rAdd_e, ↓rSub_e, ↓tCall_e, ↓tProp_e, ↓tRaiseAsk_e, ↓getSp_e, ↓tMeth_e, ↓tMake_e, ↓rRep_e, ↓rCat_e, ↓tSl_e, ↓tNoPart_e, ↓tPart_e, ↓tYes_e, ↓tFor_e, ↓iTup_e, ↓iList_e, onL1_e, ↓iRng1_e, ↓iRng2_e, ↓iEnT_e, ↓tLc_e, ↓start_e, onD_s, onLst_s, ↓tApp_e, cxOf_K, upd_same, upd_upd, List.getElem?_cons_zero, List.getElem?_cons_succ, List.set_cons_zero, List.set_cons_succ, List.map_cons, List.map_nil, List.append_nil, List.cons_append, List.nil_append, List.length_cons, List.length_nil, List.replicate_succ, List.replicate_zero, Nat.reduceAdd, Nat.reduceSub, Nat.reduceLT, V.int.injEq, V.bl.injEq, V.str.injEq, V.ref.injEq, decide_eq_true_eq, Bool.not_true, Bool.not_false, Bool.false_eq_true, Bool.not_eq_true', decide_eq_false_iff_not, ↓reduceIte, true_and, and_true, and_self, decide_true, decide_false, not_false_eq_true, not_true_eq_false, eq_self, onN_s, int1_i, int1_b, one_i, two_i, ↓rIxA_e, ↓gSub_e, ↓rSetL_e, at3_0, at3_1, at3_2, ix3_0, ix3_1, ix3_2, onNum_i, onNum_b, ↓rIntA_e, ↓rMinA_e, ↓rMaxA_e, ↓rAbsA_e, ↓rLenL_e, ↓rSlLst_e, onTu_s, ↓gTupA_e, ↓rIxTu_e, ↓tRg1_e, ↓tLstRg_e, onRp_n, onRp_b, onRp_i, ↓rReprA_e, ↓rIsN_e, reduceCtorEq]
            refine ⟨_, _, _, _, rfl, nn, ?_⟩
            rw [er]
            unfold stp
            rw [if_neg Bool.false_ne_true, if_neg z]
            rfl
      · simp only [onI_i, onB_b, onR_r, onT_t, onO_s, onS_s, onV_s, ↓tVar_e, ↓tC_e, ↓tNil_e, ↓tCons_e, ↓tCB_e, ↓tOp_e, ↓rI_e, ↓rI0_e, ↓tUn_e, ↓rU_e, ↓rEq_e, ↓rNe_e, scal_ii, scal_ss, scal_bb, ↓tAndV_e, ↓tOrV_e, ↓tNotV_e, ↓tAnd_e, ↓tOr_e, ↓tNot_e, ↓tTest_e, ↓tB_e, ↓tIf_e, ↓tChain_e, ↓tSeq_e, ↓tNext_e, ↓tBreak_e, ↓tCont_e, ↓tDrop_e, ↓tRet_e, ↓tRetN_e, ↓tIfS_e, ↓tAsg_e, ↓gName_e, onL2_e, ↓tPar_e2, onCons_e, ↓gNil_e, ↓gCons_e, ↓tTup_e, ↓tTupF_e, ↓tLst_e, ↓tFld_e, ↓sFld_e, ↓sFldAug_e, ↓rAdd_e, ↓rSub_e, ↓tCall_e, ↓tProp_e, ↓tRaiseAsk_e, ↓getSp_e, ↓tMeth_e, ↓tMake_e, ↓rRep_e, ↓rCat_e, ↓tSl_e, ↓tNoPart_e, ↓tPart_e, ↓tYes_e, ↓tFor_e, ↓iTup_e, ↓iList_e, onL1_e, ↓iRng1_e, ↓iRng2_e, ↓iEnT_e, ↓tLc_e, ↓start_e, onD_s, onLst_s, ↓tApp_e, cxOf_K, upd_same, upd_upd, List.getElem?_cons_zero, List.getElem?_cons_succ, List.set_cons_zero, List.set_cons_succ, List.map_cons, List.map_nil, List.append_nil, List.cons_append, List.nil_append, List.length_cons, List.length_nil, List.replicate_succ, List.replicate_zero, Nat.reduceAdd, Nat.reduceSub, Nat.reduceLT, V.int.injEq, V.bl.injEq, V.str.injEq, V.ref.injEq, decide_eq_true_eq, Bool.not_true, Bool.not_false, Bool.false_eq_true, Bool.not_eq_true', decide_eq_false_iff_not, ↓reduceIte, true_and, and_true, and_self, decide_true, decide_false, not_false_eq_true, not_true_eq_false, eq_self, onN_s, int1_i, int1_b, one_i, two_i, ↓rIxA_e, ↓gSub_e, ↓rSetL_e, at3_0, at3_1, at3_2, ix3_0, ix3_1, ix3_2, onNum_i, onNum_b, ↓rIntA_e, ↓rMinA_e, ↓rMaxA_e, ↓rAbsA_e, ↓rLenL_e, ↓rSlLst_e, onTu_s, ↓gTupA_e, ↓rIxTu_e, ↓tRg1_e, ↓tLstRg_e, onRp_n, onRp_b, onRp_i, ↓rReprA_e, ↓rIsN_e, reduceCtorEq, hT5, hcut]
        cases b with
        | true =>
          simp only [onI_i, onB_b, onR_r, onT_t, onO_s, onS_s, onV_s, ↓tVar_e, ↓tC_e, ↓tNil_e, ↓tCons_e, ↓tCB_e, ↓tOp_e, ↓rI_e, ↓rI0_e, ↓tUn_e, ↓rU_e, ↓rEq_e, ↓rNe_e, scal_ii, scal_ss, scal_bb, ↓tAndV_e, ↓tOrV_e, ↓tNotV_e, ↓tAnd_e, ↓tOr_e, ↓tNot_e, ↓tTest_e, ↓tB_e, ↓tIf_e, ↓tChain_e, ↓tSeq_e, ↓tNext_e, ↓tBreak_e, ↓tCont_e, ↓tDrop_e, ↓tRet_e, ↓tRetN_e, ↓tIfS_e, ↓tAsg_e, ↓gName_e, onL2_e, ↓tPar_e2, onCons_e, ↓gNil_e, ↓gCons_e, ↓tTup_e, ↓tTupF_e, ↓tLst_e, ↓tFld_e, ↓sFld_e, ↓sFldAug_e, ↓rAdd_e, ↓rSub_e, ↓tCall_e, ↓tProp_e, ↓tRaiseAsk_e, ↓getSp_e, ↓tMeth_e, ↓tMake_e, ↓rRep_e, ↓rCat_e, ↓tSl_e, ↓tNoPart_e, ↓tPart_e, ↓tYes_e, ↓tFor_e, ↓iTup_e, ↓iList_e, onL1_e, ↓iRng1_e, ↓iRng2_e, ↓iEnT_e, ↓tLc_e, ↓start_e, onD_s, onLst_s, ↓tApp_e, cxOf_K, upd_same, upd_upd, List.getElem?_cons_zero, List.getElem?_cons_succ, List.set_cons_zero, List.set_cons_succ, List.map_cons, List.map_nil, List.append_nil, List.cons_append, List.nil_append, List.length_cons, List.length_nil, List.replicate_succ, List.replicate_zero, Nat.reduceAdd, Nat.reduceSub, Nat.reduceLT, V.int.injEq, V.bl.injEq, V.str.injEq, V.ref.injEq, decide_eq_true_eq, Bool.not_true, Bool.not_false, Bool.false_eq_true, Bool.not_eq_true', decide_eq_false_iff_not, ↓reduceIte, true_and, and_true, and_self, decide_true, decide_false, not_false_eq_true, not_true_eq_false, eq_self, onN_s, int1_i, int1_b, one_i, two_i, ↓rIxA_e, ↓gSub_e, ↓rSetL_e, at3_0, at3_1, at3_2, ix3_0, ix3_1, ix3_2, onNum_i, onNum_b, ↓rIntA_e, ↓rMinA_e, ↓rMaxA_e, ↓rAbsA_e, ↓rLenL_e, ↓rSlLst_e, onTu_s, ↓gTupA_e, ↓rIxTu_e, ↓tRg1_e, ↓tLstRg_e, onRp_n, onRp_b, onRp_i, ↓rReprA_e, ↓rIsN_e, reduceCtorEq, wv_first, hx5]
          refine ⟨pfs_no _ (by decide +kernel), x, dx, m, p, _, _, _, rfl, hx5, p0, ?_⟩
          simp only [onI_i, onB_b, onR_r, onT_t, onO_s, onS_s, onV_s, ↓tVar_e, ↓tC_e, ↓tNil_e, ↓tCons_e, ↓tCB_e, ↓tOp_e, ↓rI_e, ↓rI0_e, ↓tUn_e, ↓rU_e, ↓rEq_e, ↓rNe_e, scal_ii, scal_ss, scal_bb, ↓tAndV_e, ↓tOrV_e, ↓tNotV_e, ↓tAnd_e, ↓tOr_e, ↓tNot_e, ↓tTest_e, ↓tB_e, ↓tIf_e, ↓tChain_e, ↓tSeq_e, ↓tNext_e, ↓tBreak_e, ↓tCont_e, ↓tDrop_e, ↓tRet_e, ↓tRetN_e, ↓tIfS_e, ↓tAsg_e, ↓gName_e, onL2_e, ↓tPar_e2, onCons_e, ↓gNil_e, ↓gCons_e, ↓tTup_e, ↓tTupF_e, ↓tLst_e, ↓tFld_e, ↓sFld_e, ↓sFldAug_e, ↓rAdd_e, ↓rSub_e, ↓tCall_e, ↓tProp_e, ↓tRaiseAsk_e, ↓getSp_e, ↓tMeth_e, ↓tMake_e, ↓rRep_e, ↓rCat_e, ↓tSl_e, ↓tNoPart_e, ↓tPart_e, ↓tYes_e, ↓tFor_e, ↓iTup_e, ↓iList_e, onL1_e, ↓iRng1_e, ↓iRng2_e, ↓iEnT_e, ↓tLc_e, ↓start_e, onD_s, onLst_s, ↓tApp_e, cxOf_K, upd_same, upd_upd, List.getElem?_cons_zero, List.getElem?_cons_succ, List.set_cons_zero, List.set_cons_succ, List.map_cons, List.map_nil, List.append_nil, List.cons_append, List.nil_append, List.length_cons, List.length_nil, List.replicate_succ, List.replicate_zero, Nat.reduceAdd, Nat.reduceSub, Nat.reduceLT, V.int.injEq, V.bl.injEq, V.str.injEq, V.ref.injEq, decide_eq_true_eq, Bool.not_true, Bool.not_false, Bool.false_eq_true, Bool.not_eq_true', decide_eq_false_iff_not, ↓reduceIte, true_and, and_true, and_self, decide_true, decide_false, not_false_eq_true, not_true_eq_false, eq_self, onN_s, int1_i, int1_b, one_i, two_i, ↓rIxA_e, ↓gSub_e, ↓rSetL_e, at3_0, at3_1, at3_2, ix3_0, ix3_1, ix3_2, onNum_i, onNum_b, ↓rIntA_e, ↓rMinA_e, ↓rMaxA_e, ↓rAbsA_e, ↓rLenL_e, ↓rSlLst_e, onTu_s, ↓gTupA_e, ↓rIxTu_e, ↓tRg1_e, ↓tLstRg_e, onRp_n, onRp_b, onRp_i, ↓rReprA_e, ↓rIsN_e, reduceCtorEq]
          refine ⟨_, _, _, _, rfl, n6.wr (.inl (by simp)) hx5 rfl, ?_⟩
          rw [er]
          rfl
        | false =>
          simp only [onI_i, onB_b, onR_r, onT_t, onO_s, onS_s, onV_s, ↓tVar_e, ↓tC_e, ↓tNil_e, ↓tCons_e, ↓tCB_e, ↓tOp_e, ↓rI_e, ↓rI0_e, ↓tUn_e, ↓rU_e, ↓rEq_e, ↓rNe_e, scal_ii, scal_ss, scal_bb, ↓tAndV_e, ↓tOrV_e, ↓tNotV_e, ↓tAnd_e, ↓tOr_e, ↓tNot_e, ↓tTest_e, ↓tB_e, ↓tIf_e, ↓tChain_e, ↓tSeq_e, ↓tNext_e, ↓tBreak_e, ↓tCont_e, ↓tDrop_e, ↓tRet_e, ↓tRetN_e, ↓tIfS_e, ↓tAsg_e, ↓gName_e, onL2_e, ↓tPar_e2, onCons_e, ↓gNil_e, ↓gCons_e, ↓tTup_e, ↓tTupF_e, ↓tLst_e, ↓tFld_e, ↓sFld_e, ↓sFldAug_e, ↓rAdd_e, ↓rSub_e, ↓tCall_e, ↓tProp_e, ↓tRaiseAsk_e, ↓getSp_e, ↓tMeth_e, ↓tMake_e, ↓rRep_e, ↓rCat_e, ↓tSl_e, ↓tNoPart_e, ↓tPart_e, ↓tYes_e, ↓tFor_e, ↓iTup_e, ↓iList_e, onL1_e, ↓iRng1_e, ↓iRng2_e, ↓iEnT_e, ↓tLc_e, ↓start_e, onD_s, onLst_s, ↓tApp_e, cxOf_K, upd_same, upd_upd, List.getElem?_cons_zero, List.getElem?_cons_succ, List.set_cons_zero, List.set_cons_succ, List.map_cons, List.map_nil, List.append_nil, List.cons_append, List.nil_append, List.length_cons, List.length_nil, List.replicate_succ, List.replicate_zero, Nat.reduceAdd, Nat.reduceSub, Nat.reduceLT, V.int.injEq, V.bl.injEq, V.str.injEq, V.ref.injEq, decide_eq_true_eq, Bool.not_true, Bool.not_false, Bool.false_eq_true, Bool.not_eq_true', decide_eq_false_iff_not, ↓reduceIte, true_and, and_true, and_self, decide_true, decide_false, not_false_eq_true, not_true_eq_false, eq_self, onN_s, int1_i, int1_b, one_i, two_i, ↓rIxA_e, ↓gSub_e, ↓rSetL_e, at3_0, at3_1, at3_2, ix3_0, ix3_1, ix3_2, onNum_i, onNum_b, ↓rIntA_e, ↓rMinA_e, ↓rMaxA_e, ↓rAbsA_e, ↓rLenL_e, ↓rSlLst_e, onTu_s, ↓gTupA_e, ↓rIxTu_e, ↓tRg1_e, ↓tLstRg_e, onRp_n, onRp_b, onRp_i, ↓rReprA_e, ↓rIsN_e, reduceCtorEq, wv_first, hx5, str_fa]
          have eo := outs_get (m := m) (p := p) (s := s0 m) hb
          have ea : atI ((outs m p (s0 m) ws').map V.bl) (i : Int) = some (.bl (out (run m p (s0 m) (ws'.take i)) false)) := by
            have hlt : i < (outs m p (s0 m) ws').length := (List.getElem?_eq_some_iff.mp eo).1
            unfold atI ixN
            rw [if_pos (by omega), List.length_map, if_pos (by omega), Int.toNat_natCast]
            show ((outs m p (s0 m) ws').map V.bl)[i]? = _
            rw [List.getElem?_map, eo]
            rfl
          refine ⟨pfs_no _ (by decide +kernel), x, dx, m, p, _, _, _, rfl, hx5, fun z => ?_, fun z => ?_⟩
          · have eout : out (run m p (s0 m) (ws'.take i)) false = false := by simp [out, z]
            rw [eout] at ea
            simp only [onI_i, onB_b, onR_r, onT_t, onO_s, onS_s, onV_s, ↓tVar_e, ↓tC_e, ↓tNil_e, ↓tCons_e, ↓tCB_e, ↓tOp_e, ↓rI_e, ↓rI0_e, ↓tUn_e, ↓rU_e, ↓rEq_e, ↓rNe_e, scal_ii, scal_ss, scal_bb, ↓tAndV_e, ↓tOrV_e, ↓tNotV_e, ↓tAnd_e, ↓tOr_e, ↓tNot_e, ↓tTest_e, ↓tB_e, ↓tIf_e, ↓tChain_e, ↓tSeq_e, ↓tNext_e, ↓tBreak_e, ↓tCont_e, ↓tDrop_e, ↓tRet_e, ↓tRetN_e, ↓tIfS_e, ↓tAsg_e, ↓gName_e, onL2_e, ↓tPar_e2, onCons_e, ↓gNil_e, ↓gCons_e, ↓tTup_e, ↓tTupF_e, ↓tLst_e, ↓tFld_e, ↓sFld_e, ↓sFldAug_e, ↓rAdd_e, ↓rSub_e, ↓tCall_e, ↓tProp_e, ↓tRaiseAsk_e, ↓getSp_e, ↓tMeth_e, ↓tMake_e, ↓rRep_e, ↓rCat_e, ↓tSl_e, ↓tNoPart_e, ↓tPart_e, ↓tYes_e, ↓tFor_e, ↓iTup_e, ↓iList_e, onL1_e, ↓iRng1_e, ↓iRng2_e, ↓iEnT_e, ↓tLc_e, ↓start_e, onD_s, onLst_s, ↓tApp_e, cxOf_K, upd_same, upd_upd, List.getElem?_cons_zero, List.getElem?_cons_succ, List.set_cons_zero, List.set_cons_succ, List.map_cons, List.map_nil, List.append_nil, List.cons_append, List.nil_append, List.length_cons, List.length_nil, List.replicate_succ, List.replicate_zero, Nat.reduceAdd, Nat.reduceSub, Nat.reduceLT, V.int.injEq, V.bl.injEq, V.str.injEq, V.ref.injEq, decide_eq_true_eq, Bool.not_true, Bool.not_false, Bool.false_eq_true, Bool.not_eq_true', decide_eq_false_iff_not, ↓reduceIte, true_and, and_true, and_self, decide_true, decide_false, not_false_eq_true, not_true_eq_false, eq_self, onN_s, int1_i, int1_b, one_i, two_i, ↓rIxA_e, ↓gSub_e, ↓rSetL_e, at3_0, at3_1, at3_2, ix3_0, ix3_1, ix3_2, onNum_i, onNum_b, ↓rIntA_e, ↓rMinA_e, ↓rMaxA_e, ↓rAbsA_e, ↓rLenL_e, ↓rSlLst_e, onTu_s, ↓gTupA_e, ↓rIxTu_e, ↓tRg1_e, ↓tLstRg_e, onRp_n, onRp_b, onRp_i, ↓rReprA_e, ↓rIsN_e, reduceCtorEq]
            refine ⟨t, _, _, _, rfl, rfl, .inl (n6.rd ht3), ea, ?_⟩
            simp only [onI_i, onB_b, onR_r, onT_t, onO_s, onS_s, onV_s, ↓tVar_e, ↓tC_e, ↓tNil_e, ↓tCons_e, ↓tCB_e, ↓tOp_e, ↓rI_e, ↓rI0_e, ↓tUn_e, ↓rU_e, ↓rEq_e, ↓rNe_e, scal_ii, scal_ss, scal_bb, ↓tAndV_e, ↓tOrV_e, ↓tNotV_e, ↓tAnd_e, ↓tOr_e, ↓tNot_e, ↓tTest_e, ↓tB_e, ↓tIf_e, ↓tChain_e, ↓tSeq_e, ↓tNext_e, ↓tBreak_e, ↓tCont_e, ↓tDrop_e, ↓tRet_e, ↓tRetN_e, ↓tIfS_e, ↓tAsg_e, ↓gName_e, onL2_e, ↓tPar_e2, onCons_e, ↓gNil_e, ↓gCons_e, ↓tTup_e, ↓tTupF_e, ↓tLst_e, ↓tFld_e, ↓sFld_e, ↓sFldAug_e, ↓rAdd_e, ↓rSub_e, ↓tCall_e, ↓tProp_e, ↓tRaiseAsk_e, ↓getSp_e, ↓tMeth_e, ↓tMake_e, ↓rRep_e, ↓rCat_e, ↓tSl_e, ↓tNoPart_e, ↓tPart_e, ↓tYes_e, ↓tFor_e, ↓iTup_e, ↓iList_e, onL1_e, ↓iRng1_e, ↓iRng2_e, ↓iEnT_e, ↓tLc_e, ↓start_e, onD_s, onLst_s, ↓tApp_e, cxOf_K, upd_same, upd_upd, List.getElem?_cons_zero, List.getElem?_cons_succ, List.set_cons_zero, List.set_cons_succ, List.map_cons, List.map_nil, List.append_nil, List.cons_append, List.nil_append, List.length_cons, List.length_nil, List.replicate_succ, List.replicate_zero, Nat.reduceAdd, Nat.reduceSub, Nat.reduceLT, V.int.injEq, V.bl.injEq, V.str.injEq, V.ref.injEq, decide_eq_true_eq, Bool.not_true, Bool.not_false, Bool.false_eq_true, Bool.not_eq_true', decide_eq_false_iff_not, ↓reduceIte, true_and, and_true, and_self, decide_true, decide_false, not_false_eq_true, not_true_eq_false, eq_self, onN_s, int1_i, int1_b, one_i, two_i, ↓rIxA_e, ↓gSub_e, ↓rSetL_e, at3_0, at3_1, at3_2, ix3_0, ix3_1, ix3_2, onNum_i, onNum_b, ↓rIntA_e, ↓rMinA_e, ↓rMaxA_e, ↓rAbsA_e, ↓rLenL_e, ↓rSlLst_e, onTu_s, ↓gTupA_e, ↓rIxTu_e, ↓tRg1_e, ↓tLstRg_e, onRp_n, onRp_b, onRp_i, ↓rReprA_e, ↓rIsN_e, reduceCtorEq]
            refine ⟨_, _, _, _, rfl, n6, ?_⟩
            rw [er]
            unfold stp
            rw [if_neg Bool.false_ne_true, if_pos z]
            exact hx5
          · have eout : out (run m p (s0 m) (ws'.take i)) false = true := by simp [out, z]
            rw [eout] at ea
            simp only [onI_i, onB_b, onR_r, onT_t, onO_s, onS_s, onV_s, ↓tVar_e, ↓tC_e, ↓tNil_e, ↓tCons_e, ↓tCB_e, ↓tOp_e, ↓rI_e, ↓rI0_e, ↓tUn_e, ↓rU_e, ↓rEq_e, ↓rNe_e, scal_ii, scal_ss, scal_bb, ↓tAndV_e, ↓tOrV_e, ↓tNotV_e, ↓tAnd_e, ↓tOr_e, ↓tNot_e, ↓tTest_e, ↓tB_e, ↓tIf_e, ↓tChain_e, ↓tSeq_e, ↓tNext_e, ↓tBreak_e, ↓tCont_e, ↓tDrop_e, ↓tRet_e, ↓tRetN_e, ↓tIfS_e, ↓tAsg_e, ↓gName_e, onL2_e, ↓tPar_e2, onCons_e, ↓gNil_e, ↓gCons_e, ↓tTup_e, ↓tTupF_e, ↓tLst_e, ↓tFld_e, ↓sFld_e, ↓sFldAug_e, ↓rAdd_e, ↓rSub_e, ↓tCall_e, ↓tProp_e, ↓tRaiseAsk_e, ↓getSp_e, ↓tMeth_e, ↓tMake_e, ↓rRep_e, ↓rCat_e, ↓tSl_e, ↓tNoPart_e, ↓tPart_e, ↓tYes_e, ↓tFor_e, ↓iTup_e, ↓iList_e, onL1_e, ↓iRng1_e, ↓iRng2_e, ↓iEnT_e, ↓tLc_e, ↓start_e, onD_s, onLst_s, ↓tApp_e, cxOf_K, upd_same, upd_upd, List.getElem?_cons_zero, List.getElem?_cons_succ, List.set_cons_zero, List.set_cons_succ, List.map_cons, List.map_nil, List.append_nil, List.cons_append, List.nil_append, List.length_cons, List.length_nil, List.replicate_succ, List.replicate_zero, Nat.reduceAdd, Nat.reduceSub, Nat.reduceLT, V.int.injEq, V.bl.injEq, V.str.injEq, V.ref.injEq, decide_eq_true_eq, Bool.not_true, Bool.not_false, Bool.false_eq_true, Bool.not_eq_true', decide_eq_false_iff_not, ↓reduceIte, true_and, and_true, and_self, decide_true, decide_false, not_false_eq_true, not_true_eq_false, eq_self, onN_s, int1_i, int1_b, one_i, two_i, ↓rIxA_e, ↓gSub_e, ↓rSetL_e, at3_0, at3_1, at3_2, ix3_0, ix3_1, ix3_2, onNum_i, onNum_b, ↓rIntA_e, ↓rMinA_e, ↓rMaxA_e, ↓rAbsA_e, ↓rLenL_e, ↓rSlLst_e, onTu_s, ↓gTupA_e, ↓rIxTu_e, ↓tRg1_e, ↓tLstRg_e, onRp_n, onRp_b, onRp_i, ↓rReprA_e, ↓rIsN_e, reduceCtorEq]
            have nn := n6.wr (o := .ins cP dx (pfs m p ((run m p (s0 m) (ws'.take i)).c - 1) (run m p (s0 m) (ws'.take i)).f ((run m p (s0 m) (ws'.take i)).a + 1))) (.inl (by simp)) hx5 rfl
            refine ⟨t, _, _, _, rfl, rfl, .inl (nn.rd ht3), ea, ?_⟩
            simp only [onI_i, onB_b, onR_r, onT_t, onO_s, onS_s, onV_s, ↓tVar_e, ↓tC_e, ↓tNil_e, ↓tCons_e, ↓tCB_e, ↓tOp_e, ↓rI_e, ↓rI0_e, ↓tUn_e, ↓rU_e, ↓rEq_e, ↓rNe_e, scal_ii, scal_ss, scal_bb, ↓tAndV_e, ↓tOrV_e, ↓tNotV_e, ↓tAnd_e, ↓tOr_e, ↓tNot_e, ↓tTest_e, ↓tB_e, ↓tIf_e, ↓tChain_e, ↓tSeq_e, ↓tNext_e, ↓tBreak_e, ↓tCont_e, ↓tDrop_e, ↓tRet_e, ↓tRetN_e, ↓tIfS_e, ↓tAsg_e, ↓gName_e, onL2_e, ↓tPar_e2, onCons_e, ↓gNil_e, ↓gCons_e, ↓tTup_e, ↓tTupF_e, ↓tLst_e, ↓tFld_e, ↓sFld_e, ↓sFldAug_e, ↓rAdd_e, ↓rSub_e, ↓tCall_e, ↓tProp_e, ↓tRaiseAsk_e, ↓getSp_e, ↓tMeth_e, ↓tMake_e, ↓rRep_e, ↓rCat_e, ↓tSl_e, ↓tNoPart_e, ↓tPart_e, ↓tYes_e, ↓tFor_e, ↓iTup_e, ↓iList_e, onL1_e, ↓iRng1_e, ↓iRng2_e, ↓iEnT_e, ↓tLc_e, ↓start_e, onD_s, onLst_s, ↓tApp_e, cxOf_K, upd_same, upd_upd, List.getElem?_cons_zero, List.getElem?_cons_succ, List.set_cons_zero, List.set_cons_succ, List.map_cons, List.map_nil, List.append_nil, List.cons_append, List.nil_append, List.length_cons, List.length_nil, List.replicate_succ, List.replicate_zero, Nat.reduceAdd, Nat.reduceSub, Nat.reduceLT, V.int.injEq, V.bl.injEq, V.str.injEq, V.ref.injEq, decide_eq_true_eq, Bool.not_true, Bool.not_false, Bool.false_eq_true, Bool.not_eq_true', decide_eq_false_iff_not, ↓reduceIte, true_and, and_true, and_self, decide_true, decide_false, not_false_eq_true, not_true_eq_false, eq_self, onN_s, int1_i, int1_b, one_i, two_i, ↓rIxA_e, ↓gSub_e, ↓rSetL_e, at3_0, at3_1, at3_2, ix3_0, ix3_1, ix3_2, onNum_i, onNum_b, ↓rIntA_e, ↓rMinA_e, ↓rMaxA_e, ↓rAbsA_e, ↓rLenL_e, ↓rSlLst_e, onTu_s, ↓gTupA_e, ↓rIxTu_e, ↓tRg1_e, ↓tLstRg_e, onRp_n, onRp_b, onRp_i, ↓rReprA_e, ↓rIsN_e, reduceCtorEq]
            refine ⟨_, _, _, _, rfl, nn, ?_⟩
            rw [er]
            unfold stp
            rw [if_neg Bool.false_ne_true, if_neg z]
            rfl
    · rintro σ H4 ⟨v9, v10, v11, v12, rfl, n4, hx4⟩
      rw [List.length_map, List.take_length] at hx4
      unfold pf at hx4
      have n5 : Nx B [] H H4 := n3.trans n4 fun b hb => .inr (by rw [List.mem_singleton.mp hb]; exact hx0)
      obtain ⟨g1, g2, g3, g4, g5, g6⟩ := g
      have cd : CDiv (run m p (s0 m) ws').f p := ⟨by omega, by omega⟩
      have le : (run m p (s0 m) ws').a ≤ m + (run m p (s0 m) ws').f / p := by omega
      simp only [onI_i, onB_b, onR_r, onT_t, onO_s, onS_s, onV_s, ↓tVar_e, ↓tC_e, ↓tNil_e, ↓tCons_e, ↓tCB_e, ↓tOp_e, ↓rI_e, ↓rI0_e, ↓tUn_e, ↓rU_e, ↓rEq_e, ↓rNe_e, scal_ii, scal_ss, scal_bb, ↓tAndV_e, ↓tOrV_e, ↓tNotV_e, ↓tAnd_e, ↓tOr_e, ↓tNot_e, ↓tTest_e, ↓tB_e, ↓tIf_e, ↓tChain_e, ↓tSeq_e, ↓tNext_e, ↓tBreak_e, ↓tCont_e, ↓tDrop_e, ↓tRet_e, ↓tRetN_e, ↓tIfS_e, ↓tAsg_e, ↓gName_e, onL2_e, ↓tPar_e2, onCons_e, ↓gNil_e, ↓gCons_e, ↓tTup_e, ↓tTupF_e, ↓tLst_e, ↓tFld_e, ↓sFld_e, ↓sFldAug_e, ↓rAdd_e, ↓rSub_e, ↓tCall_e, ↓tProp_e, ↓tRaiseAsk_e, ↓getSp_e, ↓tMeth_e, ↓tMake_e, ↓rRep_e, ↓rCat_e, ↓tSl_e, ↓tNoPart_e, ↓tPart_e, ↓tYes_e, ↓tFor_e, ↓iTup_e, ↓iList_e, onL1_e, ↓iRng1_e, ↓iRng2_e, ↓iEnT_e, ↓tLc_e, ↓start_e, onD_s, onLst_s, ↓tApp_e, cxOf_K, upd_same, upd_upd, List.getElem?_cons_zero, List.getElem?_cons_succ, List.set_cons_zero, List.set_cons_succ, List.map_cons, List.map_nil, List.append_nil, List.cons_append, List.nil_append, List.length_cons, List.length_nil, List.replicate_succ, List.replicate_zero, Nat.reduceAdd, Nat.reduceSub, Nat.reduceLT, V.int.injEq, V.bl.injEq, V.str.injEq, V.ref.injEq, decide_eq_true_eq, Bool.not_true, Bool.not_false, Bool.false_eq_true, Bool.not_eq_true', decide_eq_false_iff_not, ↓reduceIte, true_and, and_true, and_self, decide_true, decide_false, not_false_eq_true, not_true_eq_false, eq_self, onN_s, int1_i, int1_b, one_i, two_i, ↓rIxA_e, ↓gSub_e, ↓rSetL_e, at3_0, at3_1, at3_2, ix3_0, ix3_1, ix3_2, onNum_i, onNum_b, ↓rIntA_e, ↓rMinA_e, ↓rMaxA_e, ↓rAbsA_e, ↓rLenL_e, ↓rSlLst_e, onTu_s, ↓gTupA_e, ↓rIxTu_e, ↓tRg1_e, ↓tLstRg_e, onRp_n, onRp_b, onRp_i, ↓rReprA_e, ↓rIsN_e, reduceCtorEq, hx4, pfs_most, pfs_per, pfs_coins, pfs_firsts, pfs_anew]
      refine ⟨by decide, fun q1 h1 => ⟨by decide, fun q2 h2 => ⟨q1, q2, _, _, 0, rfl, rfl, SqT.of (by rw [upd_ne (upd_none h2).2.symm, upd_same]), SqT.of upd_same, by decide, by simp [kindV], by simp [kindV], ?_⟩⟩⟩
      rw [decide_eq_true rfl]
      simp only [onI_i, onB_b, onR_r, onT_t, onO_s, onS_s, onV_s, ↓tVar_e, ↓tC_e, ↓tNil_e, ↓tCons_e, ↓tCB_e, ↓tOp_e, ↓rI_e, ↓rI0_e, ↓tUn_e, ↓rU_e, ↓rEq_e, ↓rNe_e, scal_ii, scal_ss, scal_bb, ↓tAndV_e, ↓tOrV_e, ↓tNotV_e, ↓tAnd_e, ↓tOr_e, ↓tNot_e, ↓tTest_e, ↓tB_e, ↓tIf_e, ↓tChain_e, ↓tSeq_e, ↓tNext_e, ↓tBreak_e, ↓tCont_e, ↓tDrop_e, ↓tRet_e, ↓tRetN_e, ↓tIfS_e, ↓tAsg_e, ↓gName_e, onL2_e, ↓tPar_e2, onCons_e, ↓gNil_e, ↓gCons_e, ↓tTup_e, ↓tTupF_e, ↓tLst_e, ↓tFld_e, ↓sFld_e, ↓sFldAug_e, ↓rAdd_e, ↓rSub_e, ↓tCall_e, ↓tProp_e, ↓tRaiseAsk_e, ↓getSp_e, ↓tMeth_e, ↓tMake_e, ↓rRep_e, ↓rCat_e, ↓tSl_e, ↓tNoPart_e, ↓tPart_e, ↓tYes_e, ↓tFor_e, ↓iTup_e, ↓iList_e, onL1_e, ↓iRng1_e, ↓iRng2_e, ↓iEnT_e, ↓tLc_e, ↓start_e, onD_s, onLst_s, ↓tApp_e, cxOf_K, upd_same, upd_upd, List.getElem?_cons_zero, List.getElem?_cons_succ, List.set_cons_zero, List.set_cons_succ, List.map_cons, List.map_nil, List.append_nil, List.cons_append, List.nil_append, List.length_cons, List.length_nil, List.replicate_succ, List.replicate_zero, Nat.reduceAdd, Nat.reduceSub, Nat.reduceLT, V.int.injEq, V.bl.injEq, V.str.injEq, V.ref.injEq, decide_eq_true_eq, Bool.not_true, Bool.not_false, Bool.false_eq_true, Bool.not_eq_true', decide_eq_false_iff_not, ↓reduceIte, true_and, and_true, and_self, decide_true, decide_false, not_false_eq_true, not_true_eq_false, eq_self, onN_s, int1_i, int1_b, one_i, two_i, ↓rIxA_e, ↓gSub_e, ↓rSetL_e, at3_0, at3_1, at3_2, ix3_0, ix3_1, ix3_2, onNum_i, onNum_b, ↓rIntA_e, ↓rMinA_e, ↓rMaxA_e, ↓rAbsA_e, ↓rLenL_e, ↓rSlLst_e, onTu_s, ↓gTupA_e, ↓rIxTu_e, ↓tRg1_e, ↓tLstRg_e, onRp_n, onRp_b, onRp_i, ↓rReprA_e, ↓rIsN_e, reduceCtorEq, cd, le]
      by_cases hf : 1000 < (run m p (s0 m) ws').f
      · simp only [onI_i, onB_b, onR_r, onT_t, onO_s, onS_s, onV_s, ↓tVar_e, ↓tC_e, ↓tNil_e, ↓tCons_e, ↓tCB_e, ↓tOp_e, ↓rI_e, ↓rI0_e, ↓tUn_e, ↓rU_e, ↓rEq_e, ↓rNe_e, scal_ii, scal_ss, scal_bb, ↓tAndV_e, ↓tOrV_e, ↓tNotV_e, ↓tAnd_e, ↓tOr_e, ↓tNot_e, ↓tTest_e, ↓tB_e, ↓tIf_e, ↓tChain_e, ↓tSeq_e, ↓tNext_e, ↓tBreak_e, ↓tCont_e, ↓tDrop_e, ↓tRet_e, ↓tRetN_e, ↓tIfS_e, ↓tAsg_e, ↓gName_e, onL2_e, ↓tPar_e2, onCons_e, ↓gNil_e, ↓gCons_e, ↓tTup_e, ↓tTupF_e, ↓tLst_e, ↓tFld_e, ↓sFld_e, ↓sFldAug_e, ↓rAdd_e, ↓rSub_e, ↓tCall_e, ↓tProp_e, ↓tRaiseAsk_e, ↓getSp_e, ↓tMeth_e, ↓tMake_e, ↓rRep_e, ↓rCat_e, ↓tSl_e, ↓tNoPart_e, ↓tPart_e, ↓tYes_e, ↓tFor_e, ↓iTup_e, ↓iList_e, onL1_e, ↓iRng1_e, ↓iRng2_e, ↓iEnT_e, ↓tLc_e, ↓start_e, onD_s, onLst_s, ↓tApp_e, cxOf_K, upd_same, upd_upd, List.getElem?_cons_zero, List.getElem?_cons_succ, List.set_cons_zero, List.set_cons_succ, List.map_cons, List.map_nil, List.append_nil, List.cons_append, List.nil_append, List.length_cons, List.length_nil, List.replicate_succ, List.replicate_zero, Nat.reduceAdd, Nat.reduceSub, Nat.reduceLT, V.int.injEq, V.bl.injEq, V.str.injEq, V.ref.injEq, decide_eq_true_eq, Bool.not_true, Bool.not_false, Bool.false_eq_true, Bool.not_eq_true', decide_eq_false_iff_not, ↓reduceIte, true_and, and_true, and_self, decide_true, decide_false, not_false_eq_true, not_true_eq_false, eq_self, onN_s, int1_i, int1_b, one_i, two_i, ↓rIxA_e, ↓gSub_e, ↓rSetL_e, at3_0, at3_1, at3_2, ix3_0, ix3_1, ix3_2, onNum_i, onNum_b, ↓rIntA_e, ↓rMinA_e, ↓rMaxA_e, ↓rAbsA_e, ↓rLenL_e, ↓rSlLst_e, onTu_s, ↓gTupA_e, ↓rIxTu_e, ↓tRg1_e, ↓tLstRg_e, onRp_n, onRp_b, onRp_i, ↓rReprA_e, ↓rIsN_e, reduceCtorEq, hf]
        exact k _ ((n5.new h1).new h2)
      · simp only [onI_i, onB_b, onR_r, onT_t, onO_s, onS_s, onV_s, ↓tVar_e, ↓tC_e, ↓tNil_e, ↓tCons_e, ↓tCB_e, ↓tOp_e, ↓rI_e, ↓rI0_e, ↓tUn_e, ↓rU_e, ↓rEq_e, ↓rNe_e, scal_ii, scal_ss, scal_bb, ↓tAndV_e, ↓tOrV_e, ↓tNotV_e, ↓tAnd_e, ↓tOr_e, ↓tNot_e, ↓tTest_e, ↓tB_e, ↓tIf_e, ↓tChain_e, ↓tSeq_e, ↓tNext_e, ↓tBreak_e, ↓tCont_e, ↓tDrop_e, ↓tRet_e, ↓tRetN_e, ↓tIfS_e, ↓tAsg_e, ↓gName_e, onL2_e, ↓tPar_e2, onCons_e, ↓gNil_e, ↓gCons_e, ↓tTup_e, ↓tTupF_e, ↓tLst_e, ↓tFld_e, ↓sFld_e, ↓sFldAug_e, ↓rAdd_e, ↓rSub_e, ↓tCall_e, ↓tProp_e, ↓tRaiseAsk_e, ↓getSp_e, ↓tMeth_e, ↓tMake_e, ↓rRep_e, ↓rCat_e, ↓tSl_e, ↓tNoPart_e, ↓tPart_e, ↓tYes_e, ↓tFor_e, ↓iTup_e, ↓iList_e, onL1_e, ↓iRng1_e, ↓iRng2_e, ↓iEnT_e, ↓tLc_e, ↓start_e, onD_s, onLst_s, ↓tApp_e, cxOf_K, upd_same, upd_upd, List.getElem?_cons_zero, List.getElem?_cons_succ, List.set_cons_zero, List.set_cons_succ, List.map_cons, List.map_nil, List.append_nil, List.cons_append, List.nil_append, List.length_cons, List.length_nil, List.replicate_succ, List.replicate_zero, Nat.reduceAdd, Nat.reduceSub, Nat.reduceLT, V.int.injEq, V.bl.injEq, V.str.injEq, V.ref.injEq, decide_eq_true_eq, Bool.not_true, Bool.not_false, Bool.false_eq_true, Bool.not_eq_true', decide_eq_false_iff_not, ↓reduceIte, true_and, and_true, and_self, decide_true, decide_false, not_false_eq_true, not_true_eq_false, eq_self, onN_s, int1_i, int1_b, one_i, two_i, ↓rIxA_e, ↓gSub_e, ↓rSetL_e, at3_0, at3_1, at3_2, ix3_0, ix3_1, ix3_2, onNum_i, onNum_b, ↓rIntA_e, ↓rMinA_e, ↓rMaxA_e, ↓rAbsA_e, ↓rLenL_e, ↓rSlLst_e, onTu_s, ↓gTupA_e, ↓rIxTu_e, ↓tRg1_e, ↓tLstRg_e, onRp_n, onRp_b, onRp_i, ↓rReprA_e, ↓rIsN_e, reduceCtorEq, hf]
        refine ⟨_, _, _, rfl, .inl ⟨_, rfl⟩, .inl ⟨_, rfl⟩, .inl ⟨_, rfl⟩, fun m' p' f' e1 e2 e3 _ => ?_, fun v e => by rw [bad_ok m0 m1 p0 p1 (by omega) (by omega)] at e; cases e⟩
        cases e1
        cases e2
        cases e3
        have le2 : (run m p (s0 m) ws').a ≤ due m p (run m p (s0 m) ws').f := by
          unfold due
          split
          · exact le
          · have := g6 (by omega)
            omega
        simp only [onI_i, onB_b, onR_r, onT_t, onO_s, onS_s, onV_s, ↓tVar_e, ↓tC_e, ↓tNil_e, ↓tCons_e, ↓tCB_e, ↓tOp_e, ↓rI_e, ↓rI0_e, ↓tUn_e, ↓rU_e, ↓rEq_e, ↓rNe_e, scal_ii, scal_ss, scal_bb, ↓tAndV_e, ↓tOrV_e, ↓tNotV_e, ↓tAnd_e, ↓tOr_e, ↓tNot_e, ↓tTest_e, ↓tB_e, ↓tIf_e, ↓tChain_e, ↓tSeq_e, ↓tNext_e, ↓tBreak_e, ↓tCont_e, ↓tDrop_e, ↓tRet_e, ↓tRetN_e, ↓tIfS_e, ↓tAsg_e, ↓gName_e, onL2_e, ↓tPar_e2, onCons_e, ↓gNil_e, ↓gCons_e, ↓tTup_e, ↓tTupF_e, ↓tLst_e, ↓tFld_e, ↓sFld_e, ↓sFldAug_e, ↓rAdd_e, ↓rSub_e, ↓tCall_e, ↓tProp_e, ↓tRaiseAsk_e, ↓getSp_e, ↓tMeth_e, ↓tMake_e, ↓rRep_e, ↓rCat_e, ↓tSl_e, ↓tNoPart_e, ↓tPart_e, ↓tYes_e, ↓tFor_e, ↓iTup_e, ↓iList_e, onL1_e, ↓iRng1_e, ↓iRng2_e, ↓iEnT_e, ↓tLc_e, ↓start_e, onD_s, onLst_s, ↓tApp_e, cxOf_K, upd_same, upd_upd, List.getElem?_cons_zero, List.getElem?_cons_succ, List.set_cons_zero, List.set_cons_succ, List.map_cons, List.map_nil, List.append_nil, List.cons_append, List.nil_append, List.length_cons, List.length_nil, List.replicate_succ, List.replicate_zero, Nat.reduceAdd, Nat.reduceSub, Nat.reduceLT, V.int.injEq, V.bl.injEq, V.str.injEq, V.ref.injEq, decide_eq_true_eq, Bool.not_true, Bool.not_false, Bool.false_eq_true, Bool.not_eq_true', decide_eq_false_iff_not, ↓reduceIte, true_and, and_true, and_self, decide_true, decide_false, not_false_eq_true, not_true_eq_false, eq_self, onN_s, int1_i, int1_b, one_i, two_i, ↓rIxA_e, ↓gSub_e, ↓rSetL_e, at3_0, at3_1, at3_2, ix3_0, ix3_1, ix3_2, onNum_i, onNum_b, ↓rIntA_e, ↓rMinA_e, ↓rMaxA_e, ↓rAbsA_e, ↓rLenL_e, ↓rSlLst_e, onTu_s, ↓gTupA_e, ↓rIxTu_e, ↓tRg1_e, ↓tLstRg_e, onRp_n, onRp_b, onRp_i, ↓rReprA_e, ↓rIsN_e, reduceCtorEq, le2]
        exact k _ ((n5.new h1).new h2)
end
end K49
set_option checkBinderAnnotations false
set_option Elab.async false
set_option linter.all false
set_option maxRecDepth 100000
set_option maxHeartbeats 4000000
/-! k49: the law about the least, about the most. -/
namespace K49
open PySem PySem.Spec PyProof.Rows L2
section
variable {P : Program} {w : World} {K : PySem.W.Frag} {mg : Str → Option Value} {base : Heap} {cP AE BN BR : Addr} {B : Tb} {c0 P0 c1 P1 c2 P2 : Addr}
/-! ### the least -/
def spLR (K : PySem.W.Frag) (B : Tb) : Sp := fun vs H Q _ => ∃ p a, ∃ ws : List Bool, vs = [.int p, .ref a] ∧ 1 ≤ p ∧ p ≤ 1000 ∧ Rd H a (.tup (ws.map wv)) ∧ ws.length ≤ 4000 ∧ Wl B H ∧ ∀ H', Nx B [] H H' → Q (.bl true) H'
theorem sc36 : FnScope ["per", "row", "told"] ["per", "row"] (defScope (top 36)) := ⟨rfl, rfl, rfl, by decide +kernel, rfl, by decide +kernel, by decide +kernel⟩
theorem ok_lr (T : Ty P K mg base cP AE BN BR B c0 P0 c1 P1 c2 P2) : Dfn P w K mg base "_law_is_least_right" 12 ["per", "row"] (spLR K B) := by
  have TT := T.x.t
  have D1 : Dfn P w K mg base "_law_doing" 1 _ _ := ok_doing T
  have D2 : Dfn P w K mg base "least_most" 10 _ _ := ok_least T.x
  refine dfn_mk T.d36 sc36 (fun _ _ _ _ _ _ us hl => match us, hl with | [_, _], _ => rfl) (fun vs H Q E h => ?_) (fun f cdv A outer s H vs Q E hr hc h => ?_)
  · obtain ⟨a, b, c, rfl, _⟩ := h
    rfl
  · obtain ⟨p, a, ws, rfl, p0, p1, ha, hl, wl, k⟩ := h
    refine ⟨_, pss_cons (ps_set (i := 2) sc36.nd rfl (Or.inl rfl) (pe_dfn D2 (hr.mono (by decide)) rfl passL (pa_cons (pv 0) (pa_cons (pv 1) pa_nil))))
      (pss_cons (ps_if (pt_cmpR op_isNA (pv 2) pe_non (nomark _)) (pss_one (ps_ret (pe_not (pe_callB (cr_allT rfl) rfl TT.ball PyProof.Rows.boot_all (pa_cons (pe_ix ix_tu (pe_dfn D1 (hr.mono (by decide)) rfl passL (pa_cons pe_int (pa_cons (pv 0) (pa_cons (pv 1) pa_nil)))) pe_int (by with_unfolding_all (intro _ _; rfl))) pa_nil))))) pss_nil)
      (pss_cons (ps_if (pt_not (pt_val (pe_callB (cr_allT rfl) rfl TT.ball PyProof.Rows.boot_all (pa_cons (pe_ix ix_tu (pe_dfn D1 (hr.mono (by decide)) rfl passL (pa_cons (pv 2) (pa_cons (pv 0) (pa_cons (pv 1) pa_nil)))) pe_int (by with_unfolding_all (intro _ _; rfl))) pa_nil)))) (pss_one (ps_ret pe_bl)) pss_nil)
      (pss_one (ps_ret (pe_or (pe_cmpR op_eq (pv 2) pe_int (nomark _)) (pe_one (pe_not (pe_callB (cr_allT rfl) rfl TT.ball PyProof.Rows.boot_all (pa_cons (pe_ix ix_tu (pe_dfn D1 (hr.mono (by decide)) rfl passL (pa_cons (pe_op op_sub (pv 2) pe_int) (pa_cons (pv 0) (pa_cons (pv 1) pa_nil)))) pe_int (by with_unfolding_all (intro _ _; rfl))) pa_nil))))))))), ?_⟩
    have a4 : ∀ {x y z u : V}, atI [x, y, z, u] 0 = some x := rfl
    simp only [onI_i, onB_b, onR_r, onT_t, onO_s, onS_s, onV_s, ↓tVar_e, ↓tC_e, ↓tNil_e, ↓tCons_e, ↓tCB_e, ↓tOp_e, ↓rI_e, ↓rI0_e, ↓tUn_e, ↓rU_e, ↓rEq_e, ↓rNe_e, scal_ii, scal_ss, scal_bb, ↓tAndV_e, ↓tOrV_e, ↓tNotV_e, ↓tAnd_e, ↓tOr_e, ↓tNot_e, ↓tTest_e, ↓tB_e, ↓tIf_e, ↓tChain_e, ↓tSeq_e, ↓tNext_e, ↓tBreak_e, ↓tCont_e, ↓tDrop_e, ↓tRet_e, ↓tRetN_e, ↓tIfS_e, ↓tAsg_e, ↓gName_e, onL2_e, ↓tPar_e2, onCons_e, ↓gNil_e, ↓gCons_e, ↓tTup_e, ↓tTupF_e, ↓tLst_e, ↓tFld_e, ↓sFld_e, ↓sFldAug_e, ↓rAdd_e, ↓rSub_e, ↓tCall_e, ↓tProp_e, ↓tRaiseAsk_e, ↓getSp_e, ↓tMeth_e, ↓tMake_e, ↓rRep_e, ↓rCat_e, ↓tSl_e, ↓tNoPart_e, ↓tPart_e, ↓tYes_e, ↓tFor_e, ↓iTup_e, ↓iList_e, onL1_e, ↓iRng1_e, ↓iRng2_e, ↓iEnT_e, ↓tLc_e, ↓start_e, onD_s, onLst_s, ↓tApp_e, cxOf_K, upd_same, upd_upd, List.getElem?_cons_zero, List.getElem?_cons_succ, List.set_cons_zero, List.set_cons_succ, List.map_cons, List.map_nil, List.append_nil, List.cons_append, List.nil_append, List.length_cons, List.length_nil, List.replicate_succ, List.replicate_zero, Nat.reduceAdd, Nat.reduceSub, Nat.reduceLT, V.int.injEq, V.bl.injEq, V.str.injEq, V.ref.injEq, decide_eq_true_eq, Bool.not_true, Bool.not_false, Bool.false_eq_true, Bool.not_eq_true', decide_eq_false_iff_not, ↓reduceIte, true_and, and_true, and_self, decide_true, decide_false, not_false_eq_true, not_true_eq_false, eq_self, onN_s, int1_i, int1_b, one_i, two_i, ↓rIxA_e, ↓gSub_e, ↓rSetL_e, at3_0, at3_1, at3_2, ix3_0, ix3_1, ix3_2, onNum_i, onNum_b, ↓rIntA_e, ↓rMinA_e, ↓rMaxA_e, ↓rAbsA_e, ↓rLenL_e, ↓rSlLst_e, onTu_s, ↓gTupA_e, ↓rIxTu_e, ↓tRg1_e, ↓tLstRg_e, onRp_n, onRp_b, onRp_i, ↓rReprA_e, ↓rIsN_e, reduceCtorEq]
    refine ⟨p, a, _, rfl, p0, p1, ha, strInt_wv, wl, fun ws' e' hl' H1 v n1 hv => ?_, fun e => by rw [okR_wv hl] at e; cases e⟩
    have ew : ws' = ws := by
      have := congrArg toW e'
      rw [toW_wv, toW_wv] at this
      exact this.symm
    subst ew
    rcases hv with ⟨rfl, e⟩ | ⟨low, rfl, l0, l1, e, el⟩
    · simp only [onI_i, onB_b, onR_r, onT_t, onO_s, onS_s, onV_s, ↓tVar_e, ↓tC_e, ↓tNil_e, ↓tCons_e, ↓tCB_e, ↓tOp_e, ↓rI_e, ↓rI0_e, ↓tUn_e, ↓rU_e, ↓rEq_e, ↓rNe_e, scal_ii, scal_ss, scal_bb, ↓tAndV_e, ↓tOrV_e, ↓tNotV_e, ↓tAnd_e, ↓tOr_e, ↓tNot_e, ↓tTest_e, ↓tB_e, ↓tIf_e, ↓tChain_e, ↓tSeq_e, ↓tNext_e, ↓tBreak_e, ↓tCont_e, ↓tDrop_e, ↓tRet_e, ↓tRetN_e, ↓tIfS_e, ↓tAsg_e, ↓gName_e, onL2_e, ↓tPar_e2, onCons_e, ↓gNil_e, ↓gCons_e, ↓tTup_e, ↓tTupF_e, ↓tLst_e, ↓tFld_e, ↓sFld_e, ↓sFldAug_e, ↓rAdd_e, ↓rSub_e, ↓tCall_e, ↓tProp_e, ↓tRaiseAsk_e, ↓getSp_e, ↓tMeth_e, ↓tMake_e, ↓rRep_e, ↓rCat_e, ↓tSl_e, ↓tNoPart_e, ↓tPart_e, ↓tYes_e, ↓tFor_e, ↓iTup_e, ↓iList_e, onL1_e, ↓iRng1_e, ↓iRng2_e, ↓iEnT_e, ↓tLc_e, ↓start_e, onD_s, onLst_s, ↓tApp_e, cxOf_K, upd_same, upd_upd, List.getElem?_cons_zero, List.getElem?_cons_succ, List.set_cons_zero, List.set_cons_succ, List.map_cons, List.map_nil, List.append_nil, List.cons_append, List.nil_append, List.length_cons, List.length_nil, List.replicate_succ, List.replicate_zero, Nat.reduceAdd, Nat.reduceSub, Nat.reduceLT, V.int.injEq, V.bl.injEq, V.str.injEq, V.ref.injEq, decide_eq_true_eq, Bool.not_true, Bool.not_false, Bool.false_eq_true, Bool.not_eq_true', decide_eq_false_iff_not, ↓reduceIte, true_and, and_true, and_self, decide_true, decide_false, not_false_eq_true, not_true_eq_false, eq_self, onN_s, int1_i, int1_b, one_i, two_i, ↓rIxA_e, ↓gSub_e, ↓rSetL_e, at3_0, at3_1, at3_2, ix3_0, ix3_1, ix3_2, onNum_i, onNum_b, ↓rIntA_e, ↓rMinA_e, ↓rMaxA_e, ↓rAbsA_e, ↓rLenL_e, ↓rSlLst_e, onTu_s, ↓gTupA_e, ↓rIxTu_e, ↓tRg1_e, ↓tLstRg_e, onRp_n, onRp_b, onRp_i, ↓rReprA_e, ↓rIsN_e, reduceCtorEq]
      refine ⟨1000, p, a, ws', rfl, by omega, p0, .inl (n1.rd ha), hl', n1.wl, fun H2 t r n2 ht hr2 => ?_⟩
      simp only [onI_i, onB_b, onR_r, onT_t, onO_s, onS_s, onV_s, ↓tVar_e, ↓tC_e, ↓tNil_e, ↓tCons_e, ↓tCB_e, ↓tOp_e, ↓rI_e, ↓rI0_e, ↓tUn_e, ↓rU_e, ↓rEq_e, ↓rNe_e, scal_ii, scal_ss, scal_bb, ↓tAndV_e, ↓tOrV_e, ↓tNotV_e, ↓tAnd_e, ↓tOr_e, ↓tNot_e, ↓tTest_e, ↓tB_e, ↓tIf_e, ↓tChain_e, ↓tSeq_e, ↓tNext_e, ↓tBreak_e, ↓tCont_e, ↓tDrop_e, ↓tRet_e, ↓tRetN_e, ↓tIfS_e, ↓tAsg_e, ↓gName_e, onL2_e, ↓tPar_e2, onCons_e, ↓gNil_e, ↓gCons_e, ↓tTup_e, ↓tTupF_e, ↓tLst_e, ↓tFld_e, ↓sFld_e, ↓sFldAug_e, ↓rAdd_e, ↓rSub_e, ↓tCall_e, ↓tProp_e, ↓tRaiseAsk_e, ↓getSp_e, ↓tMeth_e, ↓tMake_e, ↓rRep_e, ↓rCat_e, ↓tSl_e, ↓tNoPart_e, ↓tPart_e, ↓tYes_e, ↓tFor_e, ↓iTup_e, ↓iList_e, onL1_e, ↓iRng1_e, ↓iRng2_e, ↓iEnT_e, ↓tLc_e, ↓start_e, onD_s, onLst_s, ↓tApp_e, cxOf_K, upd_same, upd_upd, List.getElem?_cons_zero, List.getElem?_cons_succ, List.set_cons_zero, List.set_cons_succ, List.map_cons, List.map_nil, List.append_nil, List.cons_append, List.nil_append, List.length_cons, List.length_nil, List.replicate_succ, List.replicate_zero, Nat.reduceAdd, Nat.reduceSub, Nat.reduceLT, V.int.injEq, V.bl.injEq, V.str.injEq, V.ref.injEq, decide_eq_true_eq, Bool.not_true, Bool.not_false, Bool.false_eq_true, Bool.not_eq_true', decide_eq_false_iff_not, ↓reduceIte, true_and, and_true, and_self, decide_true, decide_false, not_false_eq_true, not_true_eq_false, eq_self, onN_s, int1_i, int1_b, one_i, two_i, ↓rIxA_e, ↓gSub_e, ↓rSetL_e, at3_0, at3_1, at3_2, ix3_0, ix3_1, ix3_2, onNum_i, onNum_b, ↓rIntA_e, ↓rMinA_e, ↓rMaxA_e, ↓rAbsA_e, ↓rLenL_e, ↓rSlLst_e, onTu_s, ↓gTupA_e, ↓rIxTu_e, ↓tRg1_e, ↓tLstRg_e, onRp_n, onRp_b, onRp_i, ↓rReprA_e, ↓rIsN_e, reduceCtorEq, hr2, a4]
      refine ⟨t, _, rfl, .inl ht, ?_⟩
      have e2 : (outs 1000 p (s0 1000) ws').all id = false := e
      simp only [onI_i, onB_b, onR_r, onT_t, onO_s, onS_s, onV_s, ↓tVar_e, ↓tC_e, ↓tNil_e, ↓tCons_e, ↓tCB_e, ↓tOp_e, ↓rI_e, ↓rI0_e, ↓tUn_e, ↓rU_e, ↓rEq_e, ↓rNe_e, scal_ii, scal_ss, scal_bb, ↓tAndV_e, ↓tOrV_e, ↓tNotV_e, ↓tAnd_e, ↓tOr_e, ↓tNot_e, ↓tTest_e, ↓tB_e, ↓tIf_e, ↓tChain_e, ↓tSeq_e, ↓tNext_e, ↓tBreak_e, ↓tCont_e, ↓tDrop_e, ↓tRet_e, ↓tRetN_e, ↓tIfS_e, ↓tAsg_e, ↓gName_e, onL2_e, ↓tPar_e2, onCons_e, ↓gNil_e, ↓gCons_e, ↓tTup_e, ↓tTupF_e, ↓tLst_e, ↓tFld_e, ↓sFld_e, ↓sFldAug_e, ↓rAdd_e, ↓rSub_e, ↓tCall_e, ↓tProp_e, ↓tRaiseAsk_e, ↓getSp_e, ↓tMeth_e, ↓tMake_e, ↓rRep_e, ↓rCat_e, ↓tSl_e, ↓tNoPart_e, ↓tPart_e, ↓tYes_e, ↓tFor_e, ↓iTup_e, ↓iList_e, onL1_e, ↓iRng1_e, ↓iRng2_e, ↓iEnT_e, ↓tLc_e, ↓start_e, onD_s, onLst_s, ↓tApp_e, cxOf_K, upd_same, upd_upd, List.getElem?_cons_zero, List.getElem?_cons_succ, List.set_cons_zero, List.set_cons_succ, List.map_cons, List.map_nil, List.append_nil, List.cons_append, List.nil_append, List.length_cons, List.length_nil, List.replicate_succ, List.replicate_zero, Nat.reduceAdd, Nat.reduceSub, Nat.reduceLT, V.int.injEq, V.bl.injEq, V.str.injEq, V.ref.injEq, decide_eq_true_eq, Bool.not_true, Bool.not_false, Bool.false_eq_true, Bool.not_eq_true', decide_eq_false_iff_not, ↓reduceIte, true_and, and_true, and_self, decide_true, decide_false, not_false_eq_true, not_true_eq_false, eq_self, onN_s, int1_i, int1_b, one_i, two_i, ↓rIxA_e, ↓gSub_e, ↓rSetL_e, at3_0, at3_1, at3_2, ix3_0, ix3_1, ix3_2, onNum_i, onNum_b, ↓rIntA_e, ↓rMinA_e, ↓rMaxA_e, ↓rAbsA_e, ↓rLenL_e, ↓rSlLst_e, onTu_s, ↓gTupA_e, ↓rIxTu_e, ↓tRg1_e, ↓tLstRg_e, onRp_n, onRp_b, onRp_i, ↓rReprA_e, ↓rIsN_e, reduceCtorEq, e2]
      exact k H2 (n1.trans0 n2)
    · simp only [onI_i, onB_b, onR_r, onT_t, onO_s, onS_s, onV_s, ↓tVar_e, ↓tC_e, ↓tNil_e, ↓tCons_e, ↓tCB_e, ↓tOp_e, ↓rI_e, ↓rI0_e, ↓tUn_e, ↓rU_e, ↓rEq_e, ↓rNe_e, scal_ii, scal_ss, scal_bb, ↓tAndV_e, ↓tOrV_e, ↓tNotV_e, ↓tAnd_e, ↓tOr_e, ↓tNot_e, ↓tTest_e, ↓tB_e, ↓tIf_e, ↓tChain_e, ↓tSeq_e, ↓tNext_e, ↓tBreak_e, ↓tCont_e, ↓tDrop_e, ↓tRet_e, ↓tRetN_e, ↓tIfS_e, ↓tAsg_e, ↓gName_e, onL2_e, ↓tPar_e2, onCons_e, ↓gNil_e, ↓gCons_e, ↓tTup_e, ↓tTupF_e, ↓tLst_e, ↓tFld_e, ↓sFld_e, ↓sFldAug_e, ↓rAdd_e, ↓rSub_e, ↓tCall_e, ↓tProp_e, ↓tRaiseAsk_e, ↓getSp_e, ↓tMeth_e, ↓tMake_e, ↓rRep_e, ↓rCat_e, ↓tSl_e, ↓tNoPart_e, ↓tPart_e, ↓tYes_e, ↓tFor_e, ↓iTup_e, ↓iList_e, onL1_e, ↓iRng1_e, ↓iRng2_e, ↓iEnT_e, ↓tLc_e, ↓start_e, onD_s, onLst_s, ↓tApp_e, cxOf_K, upd_same, upd_upd, List.getElem?_cons_zero, List.getElem?_cons_succ, List.set_cons_zero, List.set_cons_succ, List.map_cons, List.map_nil, List.append_nil, List.cons_append, List.nil_append, List.length_cons, List.length_nil, List.replicate_succ, List.replicate_zero, Nat.reduceAdd, Nat.reduceSub, Nat.reduceLT, V.int.injEq, V.bl.injEq, V.str.injEq, V.ref.injEq, decide_eq_true_eq, Bool.not_true, Bool.not_false, Bool.false_eq_true, Bool.not_eq_true', decide_eq_false_iff_not, ↓reduceIte, true_and, and_true, and_self, decide_true, decide_false, not_false_eq_true, not_true_eq_false, eq_self, onN_s, int1_i, int1_b, one_i, two_i, ↓rIxA_e, ↓gSub_e, ↓rSetL_e, at3_0, at3_1, at3_2, ix3_0, ix3_1, ix3_2, onNum_i, onNum_b, ↓rIntA_e, ↓rMinA_e, ↓rMaxA_e, ↓rAbsA_e, ↓rLenL_e, ↓rSlLst_e, onTu_s, ↓gTupA_e, ↓rIxTu_e, ↓tRg1_e, ↓tLstRg_e, onRp_n, onRp_b, onRp_i, ↓rReprA_e, ↓rIsN_e, reduceCtorEq]
      refine ⟨low, p, a, ws', rfl, l0, p0, .inl (n1.rd ha), hl', n1.wl, fun H2 t r n2 ht hr2 => ?_⟩
      simp only [onI_i, onB_b, onR_r, onT_t, onO_s, onS_s, onV_s, ↓tVar_e, ↓tC_e, ↓tNil_e, ↓tCons_e, ↓tCB_e, ↓tOp_e, ↓rI_e, ↓rI0_e, ↓tUn_e, ↓rU_e, ↓rEq_e, ↓rNe_e, scal_ii, scal_ss, scal_bb, ↓tAndV_e, ↓tOrV_e, ↓tNotV_e, ↓tAnd_e, ↓tOr_e, ↓tNot_e, ↓tTest_e, ↓tB_e, ↓tIf_e, ↓tChain_e, ↓tSeq_e, ↓tNext_e, ↓tBreak_e, ↓tCont_e, ↓tDrop_e, ↓tRet_e, ↓tRetN_e, ↓tIfS_e, ↓tAsg_e, ↓gName_e, onL2_e, ↓tPar_e2, onCons_e, ↓gNil_e, ↓gCons_e, ↓tTup_e, ↓tTupF_e, ↓tLst_e, ↓tFld_e, ↓sFld_e, ↓sFldAug_e, ↓rAdd_e, ↓rSub_e, ↓tCall_e, ↓tProp_e, ↓tRaiseAsk_e, ↓getSp_e, ↓tMeth_e, ↓tMake_e, ↓rRep_e, ↓rCat_e, ↓tSl_e, ↓tNoPart_e, ↓tPart_e, ↓tYes_e, ↓tFor_e, ↓iTup_e, ↓iList_e, onL1_e, ↓iRng1_e, ↓iRng2_e, ↓iEnT_e, ↓tLc_e, ↓start_e, onD_s, onLst_s, ↓tApp_e, cxOf_K, upd_same, upd_upd, List.getElem?_cons_zero, List.getElem?_cons_succ, List.set_cons_zero, List.set_cons_succ, List.map_cons, List.map_nil, List.append_nil, List.cons_append, List.nil_append, List.length_cons, List.length_nil, List.replicate_succ, List.replicate_zero, Nat.reduceAdd, Nat.reduceSub, Nat.reduceLT, V.int.injEq, V.bl.injEq, V.str.injEq, V.ref.injEq, decide_eq_true_eq, Bool.not_true, Bool.not_false, Bool.false_eq_true, Bool.not_eq_true', decide_eq_false_iff_not, ↓reduceIte, true_and, and_true, and_self, decide_true, decide_false, not_false_eq_true, not_true_eq_false, eq_self, onN_s, int1_i, int1_b, one_i, two_i, ↓rIxA_e, ↓gSub_e, ↓rSetL_e, at3_0, at3_1, at3_2, ix3_0, ix3_1, ix3_2, onNum_i, onNum_b, ↓rIntA_e, ↓rMinA_e, ↓rMaxA_e, ↓rAbsA_e, ↓rLenL_e, ↓rSlLst_e, onTu_s, ↓gTupA_e, ↓rIxTu_e, ↓tRg1_e, ↓tLstRg_e, onRp_n, onRp_b, onRp_i, ↓rReprA_e, ↓rIsN_e, reduceCtorEq, hr2, a4]
      refine ⟨t, _, rfl, .inl ht, ?_⟩
      have e2 : (outs low p (s0 low) ws').all id = true := e
      have n12 := n1.trans0 n2
      simp only [onI_i, onB_b, onR_r, onT_t, onO_s, onS_s, onV_s, ↓tVar_e, ↓tC_e, ↓tNil_e, ↓tCons_e, ↓tCB_e, ↓tOp_e, ↓rI_e, ↓rI0_e, ↓tUn_e, ↓rU_e, ↓rEq_e, ↓rNe_e, scal_ii, scal_ss, scal_bb, ↓tAndV_e, ↓tOrV_e, ↓tNotV_e, ↓tAnd_e, ↓tOr_e, ↓tNot_e, ↓tTest_e, ↓tB_e, ↓tIf_e, ↓tChain_e, ↓tSeq_e, ↓tNext_e, ↓tBreak_e, ↓tCont_e, ↓tDrop_e, ↓tRet_e, ↓tRetN_e, ↓tIfS_e, ↓tAsg_e, ↓gName_e, onL2_e, ↓tPar_e2, onCons_e, ↓gNil_e, ↓gCons_e, ↓tTup_e, ↓tTupF_e, ↓tLst_e, ↓tFld_e, ↓sFld_e, ↓sFldAug_e, ↓rAdd_e, ↓rSub_e, ↓tCall_e, ↓tProp_e, ↓tRaiseAsk_e, ↓getSp_e, ↓tMeth_e, ↓tMake_e, ↓rRep_e, ↓rCat_e, ↓tSl_e, ↓tNoPart_e, ↓tPart_e, ↓tYes_e, ↓tFor_e, ↓iTup_e, ↓iList_e, onL1_e, ↓iRng1_e, ↓iRng2_e, ↓iEnT_e, ↓tLc_e, ↓start_e, onD_s, onLst_s, ↓tApp_e, cxOf_K, upd_same, upd_upd, List.getElem?_cons_zero, List.getElem?_cons_succ, List.set_cons_zero, List.set_cons_succ, List.map_cons, List.map_nil, List.append_nil, List.cons_append, List.nil_append, List.length_cons, List.length_nil, List.replicate_succ, List.replicate_zero, Nat.reduceAdd, Nat.reduceSub, Nat.reduceLT, V.int.injEq, V.bl.injEq, V.str.injEq, V.ref.injEq, decide_eq_true_eq, Bool.not_true, Bool.not_false, Bool.false_eq_true, Bool.not_eq_true', decide_eq_false_iff_not, ↓reduceIte, true_and, and_true, and_self, decide_true, decide_false, not_false_eq_true, not_true_eq_false, eq_self, onN_s, int1_i, int1_b, one_i, two_i, ↓rIxA_e, ↓gSub_e, ↓rSetL_e, at3_0, at3_1, at3_2, ix3_0, ix3_1, ix3_2, onNum_i, onNum_b, ↓rIntA_e, ↓rMinA_e, ↓rMaxA_e, ↓rAbsA_e, ↓rLenL_e, ↓rSlLst_e, onTu_s, ↓gTupA_e, ↓rIxTu_e, ↓tRg1_e, ↓tLstRg_e, onRp_n, onRp_b, onRp_i, ↓rReprA_e, ↓rIsN_e, reduceCtorEq, e2]
      by_cases hz : low = 0
      · simp only [onI_i, onB_b, onR_r, onT_t, onO_s, onS_s, onV_s, ↓tVar_e, ↓tC_e, ↓tNil_e, ↓tCons_e, ↓tCB_e, ↓tOp_e, ↓rI_e, ↓rI0_e, ↓tUn_e, ↓rU_e, ↓rEq_e, ↓rNe_e, scal_ii, scal_ss, scal_bb, ↓tAndV_e, ↓tOrV_e, ↓tNotV_e, ↓tAnd_e, ↓tOr_e, ↓tNot_e, ↓tTest_e, ↓tB_e, ↓tIf_e, ↓tChain_e, ↓tSeq_e, ↓tNext_e, ↓tBreak_e, ↓tCont_e, ↓tDrop_e, ↓tRet_e, ↓tRetN_e, ↓tIfS_e, ↓tAsg_e, ↓gName_e, onL2_e, ↓tPar_e2, onCons_e, ↓gNil_e, ↓gCons_e, ↓tTup_e, ↓tTupF_e, ↓tLst_e, ↓tFld_e, ↓sFld_e, ↓sFldAug_e, ↓rAdd_e, ↓rSub_e, ↓tCall_e, ↓tProp_e, ↓tRaiseAsk_e, ↓getSp_e, ↓tMeth_e, ↓tMake_e, ↓rRep_e, ↓rCat_e, ↓tSl_e, ↓tNoPart_e, ↓tPart_e, ↓tYes_e, ↓tFor_e, ↓iTup_e, ↓iList_e, onL1_e, ↓iRng1_e, ↓iRng2_e, ↓iEnT_e, ↓tLc_e, ↓start_e, onD_s, onLst_s, ↓tApp_e, cxOf_K, upd_same, upd_upd, List.getElem?_cons_zero, List.getElem?_cons_succ, List.set_cons_zero, List.set_cons_succ, List.map_cons, List.map_nil, List.append_nil, List.cons_append, List.nil_append, List.length_cons, List.length_nil, List.replicate_succ, List.replicate_zero, Nat.reduceAdd, Nat.reduceSub, Nat.reduceLT, V.int.injEq, V.bl.injEq, V.str.injEq, V.ref.injEq, decide_eq_true_eq, Bool.not_true, Bool.not_false, Bool.false_eq_true, Bool.not_eq_true', decide_eq_false_iff_not, ↓reduceIte, true_and, and_true, and_self, decide_true, decide_false, not_false_eq_true, not_true_eq_false, eq_self, onN_s, int1_i, int1_b, one_i, two_i, ↓rIxA_e, ↓gSub_e, ↓rSetL_e, at3_0, at3_1, at3_2, ix3_0, ix3_1, ix3_2, onNum_i, onNum_b, ↓rIntA_e, ↓rMinA_e, ↓rMaxA_e, ↓rAbsA_e, ↓rLenL_e, ↓rSlLst_e, onTu_s, ↓gTupA_e, ↓rIxTu_e, ↓tRg1_e, ↓tLstRg_e, onRp_n, onRp_b, onRp_i, ↓rReprA_e, ↓rIsN_e, reduceCtorEq, hz]
        exact k H2 n12
      · simp only [onI_i, onB_b, onR_r, onT_t, onO_s, onS_s, onV_s, ↓tVar_e, ↓tC_e, ↓tNil_e, ↓tCons_e, ↓tCB_e, ↓tOp_e, ↓rI_e, ↓rI0_e, ↓tUn_e, ↓rU_e, ↓rEq_e, ↓rNe_e, scal_ii, scal_ss, scal_bb, ↓tAndV_e, ↓tOrV_e, ↓tNotV_e, ↓tAnd_e, ↓tOr_e, ↓tNot_e, ↓tTest_e, ↓tB_e, ↓tIf_e, ↓tChain_e, ↓tSeq_e, ↓tNext_e, ↓tBreak_e, ↓tCont_e, ↓tDrop_e, ↓tRet_e, ↓tRetN_e, ↓tIfS_e, ↓tAsg_e, ↓gName_e, onL2_e, ↓tPar_e2, onCons_e, ↓gNil_e, ↓gCons_e, ↓tTup_e, ↓tTupF_e, ↓tLst_e, ↓tFld_e, ↓sFld_e, ↓sFldAug_e, ↓rAdd_e, ↓rSub_e, ↓tCall_e, ↓tProp_e, ↓tRaiseAsk_e, ↓getSp_e, ↓tMeth_e, ↓tMake_e, ↓rRep_e, ↓rCat_e, ↓tSl_e, ↓tNoPart_e, ↓tPart_e, ↓tYes_e, ↓tFor_e, ↓iTup_e, ↓iList_e, onL1_e, ↓iRng1_e, ↓iRng2_e, ↓iEnT_e, ↓tLc_e, ↓start_e, onD_s, onLst_s, ↓tApp_e, cxOf_K, upd_same, upd_upd, List.getElem?_cons_zero, List.getElem?_cons_succ, List.set_cons_zero, List.set_cons_succ, List.map_cons, List.map_nil, List.append_nil, List.cons_append, List.nil_append, List.length_cons, List.length_nil, List.replicate_succ, List.replicate_zero, Nat.reduceAdd, Nat.reduceSub, Nat.reduceLT, V.int.injEq, V.bl.injEq, V.str.injEq, V.ref.injEq, decide_eq_true_eq, Bool.not_true, Bool.not_false, Bool.false_eq_true, Bool.not_eq_true', decide_eq_false_iff_not, ↓reduceIte, true_and, and_true, and_self, decide_true, decide_false, not_false_eq_true, not_true_eq_false, eq_self, onN_s, int1_i, int1_b, one_i, two_i, ↓rIxA_e, ↓gSub_e, ↓rSetL_e, at3_0, at3_1, at3_2, ix3_0, ix3_1, ix3_2, onNum_i, onNum_b, ↓rIntA_e, ↓rMinA_e, ↓rMaxA_e, ↓rAbsA_e, ↓rLenL_e, ↓rSlLst_e, onTu_s, ↓gTupA_e, ↓rIxTu_e, ↓tRg1_e, ↓tLstRg_e, onRp_n, onRp_b, onRp_i, ↓rReprA_e, ↓rIsN_e, reduceCtorEq, hz]
        refine ⟨low - 1, p, a, ws', rfl, by omega, p0, .inl (n12.rd ha), hl', n12.wl, fun H3 t3 r3 n3 ht3 hr3 => ?_⟩
        simp only [onI_i, onB_b, onR_r, onT_t, onO_s, onS_s, onV_s, ↓tVar_e, ↓tC_e, ↓tNil_e, ↓tCons_e, ↓tCB_e, ↓tOp_e, ↓rI_e, ↓rI0_e, ↓tUn_e, ↓rU_e, ↓rEq_e, ↓rNe_e, scal_ii, scal_ss, scal_bb, ↓tAndV_e, ↓tOrV_e, ↓tNotV_e, ↓tAnd_e, ↓tOr_e, ↓tNot_e, ↓tTest_e, ↓tB_e, ↓tIf_e, ↓tChain_e, ↓tSeq_e, ↓tNext_e, ↓tBreak_e, ↓tCont_e, ↓tDrop_e, ↓tRet_e, ↓tRetN_e, ↓tIfS_e, ↓tAsg_e, ↓gName_e, onL2_e, ↓tPar_e2, onCons_e, ↓gNil_e, ↓gCons_e, ↓tTup_e, ↓tTupF_e, ↓tLst_e, ↓tFld_e, ↓sFld_e, ↓sFldAug_e, ↓rAdd_e, ↓rSub_e, ↓tCall_e, ↓tProp_e, ↓tRaiseAsk_e, ↓getSp_e, ↓tMeth_e, ↓tMake_e, ↓rRep_e, ↓rCat_e, ↓tSl_e, ↓tNoPart_e, ↓tPart_e, ↓tYes_e, ↓tFor_e, ↓iTup_e, ↓iList_e, onL1_e, ↓iRng1_e, ↓iRng2_e, ↓iEnT_e, ↓tLc_e, ↓start_e, onD_s, onLst_s, ↓tApp_e, cxOf_K, upd_same, upd_upd, List.getElem?_cons_zero, List.getElem?_cons_succ, List.set_cons_zero, List.set_cons_succ, List.map_cons, List.map_nil, List.append_nil, List.cons_append, List.nil_append, List.length_cons, List.length_nil, List.replicate_succ, List.replicate_zero, Nat.reduceAdd, Nat.reduceSub, Nat.reduceLT, V.int.injEq, V.bl.injEq, V.str.injEq, V.ref.injEq, decide_eq_true_eq, Bool.not_true, Bool.not_false, Bool.false_eq_true, Bool.not_eq_true', decide_eq_false_iff_not, ↓reduceIte, true_and, and_true, and_self, decide_true, decide_false, not_false_eq_true, not_true_eq_false, eq_self, onN_s, int1_i, int1_b, one_i, two_i, ↓rIxA_e, ↓gSub_e, ↓rSetL_e, at3_0, at3_1, at3_2, ix3_0, ix3_1, ix3_2, onNum_i, onNum_b, ↓rIntA_e, ↓rMinA_e, ↓rMaxA_e, ↓rAbsA_e, ↓rLenL_e, ↓rSlLst_e, onTu_s, ↓gTupA_e, ↓rIxTu_e, ↓tRg1_e, ↓tLstRg_e, onRp_n, onRp_b, onRp_i, ↓rReprA_e, ↓rIsN_e, reduceCtorEq, hr3, a4]
        refine ⟨t3, _, rfl, .inl ht3, ?_⟩
        have e3 : (outs (low - 1) p (s0 (low - 1)) ws').all id = false := by
          rcases el with z | z
          · exact absurd z hz
          · exact z
        simp only [onI_i, onB_b, onR_r, onT_t, onO_s, onS_s, onV_s, ↓tVar_e, ↓tC_e, ↓tNil_e, ↓tCons_e, ↓tCB_e, ↓tOp_e, ↓rI_e, ↓rI0_e, ↓tUn_e, ↓rU_e, ↓rEq_e, ↓rNe_e, scal_ii, scal_ss, scal_bb, ↓tAndV_e, ↓tOrV_e, ↓tNotV_e, ↓tAnd_e, ↓tOr_e, ↓tNot_e, ↓tTest_e, ↓tB_e, ↓tIf_e, ↓tChain_e, ↓tSeq_e, ↓tNext_e, ↓tBreak_e, ↓tCont_e, ↓tDrop_e, ↓tRet_e, ↓tRetN_e, ↓tIfS_e, ↓tAsg_e, ↓gName_e, onL2_e, ↓tPar_e2, onCons_e, ↓gNil_e, ↓gCons_e, ↓tTup_e, ↓tTupF_e, ↓tLst_e, ↓tFld_e, ↓sFld_e, ↓sFldAug_e, ↓rAdd_e, ↓rSub_e, ↓tCall_e, ↓tProp_e, ↓tRaiseAsk_e, ↓getSp_e, ↓tMeth_e, ↓tMake_e, ↓rRep_e, ↓rCat_e, ↓tSl_e, ↓tNoPart_e, ↓tPart_e, ↓tYes_e, ↓tFor_e, ↓iTup_e, ↓iList_e, onL1_e, ↓iRng1_e, ↓iRng2_e, ↓iEnT_e, ↓tLc_e, ↓start_e, onD_s, onLst_s, ↓tApp_e, cxOf_K, upd_same, upd_upd, List.getElem?_cons_zero, List.getElem?_cons_succ, List.set_cons_zero, List.set_cons_succ, List.map_cons, List.map_nil, List.append_nil, List.cons_append, List.nil_append, List.length_cons, List.length_nil, List.replicate_succ, List.replicate_zero, Nat.reduceAdd, Nat.reduceSub, Nat.reduceLT, V.int.injEq, V.bl.injEq, V.str.injEq, V.ref.injEq, decide_eq_true_eq, Bool.not_true, Bool.not_false, Bool.false_eq_true, Bool.not_eq_true', decide_eq_false_iff_not, ↓reduceIte, true_and, and_true, and_self, decide_true, decide_false, not_false_eq_true, not_true_eq_false, eq_self, onN_s, int1_i, int1_b, one_i, two_i, ↓rIxA_e, ↓gSub_e, ↓rSetL_e, at3_0, at3_1, at3_2, ix3_0, ix3_1, ix3_2, onNum_i, onNum_b, ↓rIntA_e, ↓rMinA_e, ↓rMaxA_e, ↓rAbsA_e, ↓rLenL_e, ↓rSlLst_e, onTu_s, ↓gTupA_e, ↓rIxTu_e, ↓tRg1_e, ↓tLstRg_e, onRp_n, onRp_b, onRp_i, ↓rReprA_e, ↓rIsN_e, reduceCtorEq, e3]
        exact k H3 (n12.trans0 n3)
/-! ### the most -/
/-- what is due, from the slots 1, 2, 3 -/
def tDue : TE := fun σ H Q => @onV σ[1]? fun a => @onI a fun m => @onV σ[2]? fun b => @onI b fun p => @onV σ[3]? fun c => @onI c fun f => (1 ≤ p ∧ p ≤ 1000) ∧ Q (.int (due m p f)) H
theorem tDue_e {σ : L2.St} {H : Hp} {Q : VK} : tDue σ H Q = @onV σ[1]? fun a => @onI a fun m => @onV σ[2]? fun b => @onI b fun p => @onV σ[3]? fun c => @onI c fun f => (1 ≤ p ∧ p ≤ 1000) ∧ Q (.int (due m p f)) H := rfl
theorem due_of {σ : L2.St} {H : Hp} {Q : VK} (h : tDue σ H Q) : tIf (tTest (tOp (rI0 fun i j => .bl (decide (j < i))) (tVar 1) (tC (.int 0)))) (tOp (rI0 fun i j => .int (i + j)) (tVar 1) (tOp (rI CDiv fun i j => .int (i / j)) (tVar 3) (tVar 2))) (tC (.int 0)) σ H Q := by
  obtain ⟨_, e1, m, rfl, _, e2, p, rfl, _, e3, f, rfl, ⟨p0, p1⟩, q⟩ := h
  unfold due at q
  refine ⟨_, e1, _, _, rfl, rfl, _, rfl, ?_⟩
  by_cases hm : 0 < m
  · refine iteY (decide_eq_true hm) ?_
    rw [if_pos hm] at q
    exact ⟨_, e1, _, e3, _, e2, _, _, rfl, rfl, ⟨by omega, by omega⟩, _, _, rfl, rfl, q⟩
  · refine iteN (decide_eq_false hm) ?_
    rw [if_neg hm] at q
    exact q
theorem cnt_wv : ∀ {ws : List Bool}, (ws.map wv).countP (fun y => eqV y (.str "first")) = ws.countP id
  | [] => rfl
  | b :: r => by
    rw [List.map_cons, List.countP_cons, List.countP_cons, cnt_wv]
    have e : eqV (wv b) (.str "first") = b := by cases b <;> decide +kernel
    rw [e]
    rfl
theorem flat_wv {ws : List Bool} : (ws.map wv).all flatV = true := by
  rw [List.all_map, List.all_eq_true]
  intro b _
  cases b <;> rfl
theorem kind_wv {ws : List Bool} : ∀ x ∈ ws.map wv, kindV x = 2 := fun x hx => by
  obtain ⟨b, _, rfl⟩ := List.mem_map.mp hx
  cases b <;> decide +kernel
/-- t.count('first') of a row -/
theorem cnt_row {K : PySem.W.Frag} {H : Hp} {r : Addr} {ws : List Bool} {i : Nat} {σ : L2.St} {Q : VK} (hi : σ[i]? = some (some (.ref r))) (h : FT H r (ws.map wv)) (q : Q (.int (ws.countP id : Nat)) H) : tFM (rTCnt K) (tVar i) (tCons (tC (.str "first")) tNil) σ H Q :=
  ⟨_, hi, ⟨r, _, rfl, h⟩, r, _, _, rfl, rfl, h.sq, rfl, flat_wv, by rw [cnt_wv]; exact q⟩
theorem FT.rd {H : Hp} {r : Addr} {xs : List V} (h : FT H r xs) : Rd H r (.tup xs) := by
  obtain ⟨o, e, _⟩ := h
  exact .inr ⟨o, e⟩
def spMR (B : Tb) : Sp := fun vs H Q _ => ∃ (q : Addr) (m p : Int) (f : Nat) (n : Int), vs = [.ref q, .int m, .int p, .int f] ∧ PotAt H q n ∧ n ≤ 900 ∧ 0 ≤ m ∧ m ≤ 1000 ∧ 1 ≤ p ∧ p ≤ 1000 ∧ f ≤ 1000 ∧ Wl B H ∧ ∀ H', Nx B [q] H H' → PotAt H' q (n + 36) → Q (.bl true) H'
theorem sc35 : FnScope ["pot", "most", "per", "firsts", "due", "row", "some", "its", "odd", "value"] ["pot", "most", "per", "firsts"] (defScope (top 35)) := ⟨rfl, rfl, rfl, by decide +kernel, rfl, by decide +kernel, by decide +kernel⟩
theorem at_0 {x : V} {xs : List V} : atI (x :: xs) 0 = some x := by
  unfold atI ixN
  rw [if_pos (by omega), if_pos (by simp only [List.length_cons]; omega)]
  rfl
theorem shows_ws {m p f : Int} {ws : List Bool} (hl : ws.length ≤ 4000) : showsV m p f (some (ws.map wv)) = (decide (((ws.countP id : Nat) : Int) = f) && decide ((run m p (s0 m) ws).a = due m p f)) := by
  show (okR (some (ws.map wv)) && decide (((toW (ws.map wv)).countP id : Int) = f) && decide ((run m p (s0 m) (toW (ws.map wv))).a = due m p f)) = _
  rw [okR_wv hl, toW_wv, Bool.true_and]
theorem RL.kept {B : Tb} {H H' : Hp} {v : V} {r : Option (List V)} (h : RL H v r) (n : Nx B [] H H') : RL H' v r := by
  cases h with
  | non => exact .non
  | str x => exact .str x
  | lst e => exact .lst (n.at e (by simp))
  | tup e hs => exact .tup (n.rd e) hs
/-- the odd values, and the answer -/
theorem mr_tail (T : Ty P K mg base cP AE BN BR B c0 P0 c1 P1 c2 P2) {f : Addr} {cdv : Value} {A : Around} {outer : List Env} {s : Shared} {H : Hp} {E : XK} (hr : Room 11 (A.deeper (envOfC "_law_is_most_right" (defScope (top 35)) s.heap.objs.size f cdv))) :
    ∃ t, PSs (bcx P w K mg base ["pot", "most", "per", "firsts", "due", "row", "some", "its", "odd", "value"] "_law_is_most_right" (top 35) f cdv A outer s H E) ((defBody (top 35)).drop 8) t ∧
      ∀ (Q : VK) (H5 : Hp) (q r y : Addr) (m p : Int) (k : Nat) (d : Int) (its : Bool), Wl B H5 → FT H5 r ((rowF m p k).map wv) → 0 ≤ m → m ≤ 1000 → 1 ≤ p → p ≤ 1000 → k ≤ 1000 → (∀ H', Nx B [] H5 H' → Q (.bl true) H') →
        t { nx := fun _ H' => Q .non H', rt := Q } [some (.ref q), some (.int m), some (.int p), some (.int k), some (.int d), some (.ref r), some (.ref y), some (.bl its), none, none] H5 := by
  have TT := T.x.t
  have D4 : Dfn P w K mg base "shows_row" 8 _ _ := ok_shows T.x
  have r8 := hr.mono (show 8 ≤ 11 by decide)
  refine ⟨_, (pss_cons (ps_set (i := 8) sc35.nd rfl (Or.inl rfl) (pe_lst (pa_cons (pe_callTy call_list_of rfl TT.blist PyProof.Rows.boot_list (pa_cons (pv 5) pa_nil)) (pa_cons pe_non (pa_cons (pe_op op_catA (pv 5) (pe_tup (pa_cons pe_str pa_nil)))
        (pa_cons (pe_ifExp (PW.pt (pw_and (pt_cmpR (op_neT hr.units) (pv 5) (pe_tup pa_nil) (nomark _)) (pw_and1 (pt_cmpR op_eq (pe_ix ix_tup (pv 5) pe_int (by with_unfolding_all (intro _ _; rfl))) pe_str (nomark _))))) (pe_slice sl_tupA (pv 5) (po_some pe_int) po_none) (pe_tup (pa_cons pe_str (pa_cons pe_int pa_nil))))
        (pa_cons pe_str pa_nil)))))))
      (pss_one (ps_ret (pe_not (pe_callB (cr_any rfl) rfl TT.bany PyProof.Rows.boot_any (pa_cons (pe_lc (own := [("value", 9)]) rfl sc35.nd (pi_list (pv 8)) (by exact blkOk_by (N := ["pot", "most", "per", "firsts", "due", "row", "some", "its", "odd", "value"]) (sc := defScope (top 35)) (by decide +kernel))
        (fun _ _ _ _ _ => pg_name (i := 9) sc35.nd rfl (Or.inl rfl) (.inr rfl)) (fun _ _ _ _ _ => pts_nil) (fun _ _ _ _ _ => pe_dfn D4 r8 rfl passL (pa_cons (pv 1) (pa_cons (pv 2) (pa_cons (pv 3) (pa_cons (pv 9) pa_nil)))))) pa_nil)))))), ?_⟩
  intro Q H5 q r y m p k d its wl hr1 m0 m1 p0 p1 f1 kq
  have fin : ∀ (H1 : Hp) (l po : Addr) (x3 x4 : V), Nx B [] H5 H1 → H1 po = none → (∃ ys, H1 l = some (.lst ys)) → (∃ r3, RL H1 x3 r3 ∧ showsV m p k r3 = false) → (∃ r4, RL H1 x4 r4 ∧ showsV m p k r4 = false) →
      (∃ xs, SqL K (upd H1 po (.lst [.ref l, .non, x3, x4, .str "again"])) po xs) ∧ lcP (Itl K po) (gName 9) tYes (tCall (spShows B) [] E0 (tCons (tVar 1) (tCons (tVar 2) (tCons (tVar 3) (tCons (tVar 9) tNil))))) [9]
        [some (.ref q), some (.int m), some (.int p), some (.int k), some (.int d), some (.ref r), some (.ref y), some (.bl its), some (.ref po), none] (upd H1 po (.lst [.ref l, .non, x3, x4, .str "again"])) fun x H1 => rAny K [x] H1 fun x H1 => @onB x fun c => Q (.bl (!c)) H1 := by
    intro H1 l po x3 x4 n1 hpo ⟨ys, hl⟩ ⟨r3, rl3, s3⟩ ⟨r4, rl4, s4⟩
    have n2 : Nx B [] H5 (upd H1 po (.lst [.ref l, .non, x3, x4, .str "again"])) := n1.new hpo
    have nn : Nx B [] H1 (upd H1 po (.lst [.ref l, .non, x3, x4, .str "again"])) := (Nx.refl n1.wl).new hpo
    have hp2 : upd H1 po (.lst [.ref l, .non, x3, x4, .str "again"]) po = some (.lst [.ref l, .non, x3, x4, .str "again"]) := upd_same
    have key : ∀ v ∈ ([.ref l, .non, x3, x4, .str "again"] : List V), ∃ rr, RL (upd H1 po (.lst [.ref l, .non, x3, x4, .str "again"])) v rr ∧ showsV m p k rr = false := by
      intro v hv
      simp only [List.mem_cons, List.not_mem_nil, or_false] at hv
      rcases hv with e | e | e | e | e
      · exact ⟨none, by rw [e]; exact (RL.lst hl).kept nn, rfl⟩
      · exact ⟨none, by rw [e]; exact .non, rfl⟩
      · exact ⟨r3, by rw [e]; exact rl3.kept nn, s3⟩
      · exact ⟨r4, by rw [e]; exact rl4.kept nn, s4⟩
      · exact ⟨none, by rw [e]; exact .str _, rfl⟩
    generalize upd H1 po (.lst [.ref l, .non, x3, x4, .str "again"]) = H2 at n2 hp2 key ⊢
    refine ⟨⟨_, SqL.of hp2⟩, fun D hD => lc_list (K := K) (a := po) (xs := [.ref l, .non, x3, x4, .str "again"]) (fun i H' => Nx B [] H2 H' ∧ ∃ bs : List Bool, H' D = some (.lst (bs.map .bl)) ∧ bs.length = i ∧ bs.any id = false)
      ⟨(Nx.refl n2.wl).new hD, [], upd_same, rfl, rfl⟩ (fun i H' _ ⟨n, _⟩ => SqL.of (n.at hp2 (by simp))) ?_ ?_⟩
    · rintro i v H' hi ⟨n, bs, hb, hlb, hab⟩
      obtain ⟨rr, hrl, hsv⟩ := key v (List.mem_of_getElem? hi)
      have hi5 : i < 5 := (List.getElem?_eq_some_iff.mp hi).1
      simp only [onI_i, onB_b, onR_r, onT_t, onO_s, onS_s, onV_s, ↓tVar_e, ↓tC_e, ↓tNil_e, ↓tCons_e, ↓tCB_e, ↓tOp_e, ↓rI_e, ↓rI0_e, ↓tUn_e, ↓rU_e, ↓rEq_e, ↓rNe_e, scal_ii, scal_ss, scal_bb, ↓tAndV_e, ↓tOrV_e, ↓tNotV_e, ↓tAnd_e, ↓tOr_e, ↓tNot_e, ↓tTest_e, ↓tB_e, ↓tIf_e, ↓tChain_e, ↓tSeq_e, ↓tNext_e, ↓tBreak_e, ↓tCont_e, ↓tDrop_e, ↓tRet_e, ↓tRetN_e, ↓tIfS_e, ↓tAsg_e, ↓gName_e, onL2_e, ↓tPar_e2, onCons_e, ↓gNil_e, ↓gCons_e, ↓tTup_e, ↓tTupF_e, ↓tLst_e, ↓tFld_e, ↓sFld_e, ↓sFldAug_e, ↓rAdd_e, ↓rSub_e, ↓tCall_e, ↓tProp_e, ↓tRaiseAsk_e, ↓getSp_e, ↓tMeth_e, ↓tMake_e, ↓rRep_e, ↓rCat_e, ↓tSl_e, ↓tNoPart_e, ↓tPart_e, ↓tYes_e, ↓tFor_e, ↓iTup_e, ↓iList_e, onL1_e, ↓iRng1_e, ↓iRng2_e, ↓iEnT_e, ↓tLc_e, ↓start_e, onD_s, onLst_s, ↓tApp_e, cxOf_K, upd_same, upd_upd, List.getElem?_cons_zero, List.getElem?_cons_succ, List.set_cons_zero, List.set_cons_succ, List.map_cons, List.map_nil, List.append_nil, List.cons_append, List.nil_append, List.length_cons, List.length_nil, List.replicate_succ, List.replicate_zero, Nat.reduceAdd, Nat.reduceSub, Nat.reduceLT, V.int.injEq, V.bl.injEq, V.str.injEq, V.ref.injEq, decide_eq_true_eq, Bool.not_true, Bool.not_false, Bool.false_eq_true, Bool.not_eq_true', decide_eq_false_iff_not, ↓reduceIte, true_and, and_true, and_self, decide_true, decide_false, not_false_eq_true, not_true_eq_false, eq_self, onN_s, int1_i, int1_b, one_i, two_i, ↓rIxA_e, ↓gSub_e, ↓rSetL_e, at3_0, at3_1, at3_2, ix3_0, ix3_1, ix3_2, onNum_i, onNum_b, ↓rIntA_e, ↓rMinA_e, ↓rMaxA_e, ↓rAbsA_e, ↓rLenL_e, ↓rSlLst_e, onTu_s, ↓gTupA_e, ↓rIxTu_e, ↓tRg1_e, ↓tLstRg_e, onRp_n, onRp_b, onRp_i, ↓rReprA_e, ↓rIsN_e, reduceCtorEq, wipe]
      refine ⟨m, p, k, v, rr, rfl, m0, m1, p0, p1, by omega, by omega, hrl.kept n, n.wl, fun H'' n'' => ?_⟩
      have hD2 : H2 D = none := hD
      have hb2 := n''.at hb (by simp)
      refine ⟨_, hb2, (by rw [List.length_map, hlb, sizeLine_eq]; omega), (n.trans0 n'').wr (.inr hD2) hb2 rfl, bs ++ [false], ?_, by simp [hlb], by simp [hab]⟩
      rw [hsv]
      simp
    · rintro H' ⟨n, bs, hb, hlb, hab⟩
      refine ⟨D, bs, rfl, SqL.of hb, ?_⟩
      rw [hab]
      simp only [onI_i, onB_b, onR_r, onT_t, onO_s, onS_s, onV_s, ↓tVar_e, ↓tC_e, ↓tNil_e, ↓tCons_e, ↓tCB_e, ↓tOp_e, ↓rI_e, ↓rI0_e, ↓tUn_e, ↓rU_e, ↓rEq_e, ↓rNe_e, scal_ii, scal_ss, scal_bb, ↓tAndV_e, ↓tOrV_e, ↓tNotV_e, ↓tAnd_e, ↓tOr_e, ↓tNot_e, ↓tTest_e, ↓tB_e, ↓tIf_e, ↓tChain_e, ↓tSeq_e, ↓tNext_e, ↓tBreak_e, ↓tCont_e, ↓tDrop_e, ↓tRet_e, ↓tRetN_e, ↓tIfS_e, ↓tAsg_e, ↓gName_e, onL2_e, ↓tPar_e2, onCons_e, ↓gNil_e, ↓gCons_e, ↓tTup_e, ↓tTupF_e, ↓tLst_e, ↓tFld_e, ↓sFld_e, ↓sFldAug_e, ↓rAdd_e, ↓rSub_e, ↓tCall_e, ↓tProp_e, ↓tRaiseAsk_e, ↓getSp_e, ↓tMeth_e, ↓tMake_e, ↓rRep_e, ↓rCat_e, ↓tSl_e, ↓tNoPart_e, ↓tPart_e, ↓tYes_e, ↓tFor_e, ↓iTup_e, ↓iList_e, onL1_e, ↓iRng1_e, ↓iRng2_e, ↓iEnT_e, ↓tLc_e, ↓start_e, onD_s, onLst_s, ↓tApp_e, cxOf_K, upd_same, upd_upd, List.getElem?_cons_zero, List.getElem?_cons_succ, List.set_cons_zero, List.set_cons_succ, List.map_cons, List.map_nil, List.append_nil, List.cons_append, List.nil_append, List.length_cons, List.length_nil, List.replicate_succ, List.replicate_zero, Nat.reduceAdd, Nat.reduceSub, Nat.reduceLT, V.int.injEq, V.bl.injEq, V.str.injEq, V.ref.injEq, decide_eq_true_eq, Bool.not_true, Bool.not_false, Bool.false_eq_true, Bool.not_eq_true', decide_eq_false_iff_not, ↓reduceIte, true_and, and_true, and_self, decide_true, decide_false, not_false_eq_true, not_true_eq_false, eq_self, onN_s, int1_i, int1_b, one_i, two_i, ↓rIxA_e, ↓gSub_e, ↓rSetL_e, at3_0, at3_1, at3_2, ix3_0, ix3_1, ix3_2, onNum_i, onNum_b, ↓rIntA_e, ↓rMinA_e, ↓rMaxA_e, ↓rAbsA_e, ↓rLenL_e, ↓rSlLst_e, onTu_s, ↓gTupA_e, ↓rIxTu_e, ↓tRg1_e, ↓tLstRg_e, onRp_n, onRp_b, onRp_i, ↓rReprA_e, ↓rIsN_e, reduceCtorEq]
      exact kq H' (n2.trans0 n)
  simp only [onI_i, onB_b, onR_r, onT_t, onO_s, onS_s, onV_s, ↓tVar_e, ↓tC_e, ↓tNil_e, ↓tCons_e, ↓tCB_e, ↓tOp_e, ↓rI_e, ↓rI0_e, ↓tUn_e, ↓rU_e, ↓rEq_e, ↓rNe_e, scal_ii, scal_ss, scal_bb, ↓tAndV_e, ↓tOrV_e, ↓tNotV_e, ↓tAnd_e, ↓tOr_e, ↓tNot_e, ↓tTest_e, ↓tB_e, ↓tIf_e, ↓tChain_e, ↓tSeq_e, ↓tNext_e, ↓tBreak_e, ↓tCont_e, ↓tDrop_e, ↓tRet_e, ↓tRetN_e, ↓tIfS_e, ↓tAsg_e, ↓gName_e, onL2_e, ↓tPar_e2, onCons_e, ↓gNil_e, ↓gCons_e, ↓tTup_e, ↓tTupF_e, ↓tLst_e, ↓tFld_e, ↓sFld_e, ↓sFldAug_e, ↓rAdd_e, ↓rSub_e, ↓tCall_e, ↓tProp_e, ↓tRaiseAsk_e, ↓getSp_e, ↓tMeth_e, ↓tMake_e, ↓rRep_e, ↓rCat_e, ↓tSl_e, ↓tNoPart_e, ↓tPart_e, ↓tYes_e, ↓tFor_e, ↓iTup_e, ↓iList_e, onL1_e, ↓iRng1_e, ↓iRng2_e, ↓iEnT_e, ↓tLc_e, ↓start_e, onD_s, onLst_s, ↓tApp_e, cxOf_K, upd_same, upd_upd, List.getElem?_cons_zero, List.getElem?_cons_succ, List.set_cons_zero, List.set_cons_succ, List.map_cons, List.map_nil, List.append_nil, List.cons_append, List.nil_append, List.length_cons, List.length_nil, List.replicate_succ, List.replicate_zero, Nat.reduceAdd, Nat.reduceSub, Nat.reduceLT, V.int.injEq, V.bl.injEq, V.str.injEq, V.ref.injEq, decide_eq_true_eq, Bool.not_true, Bool.not_false, Bool.false_eq_true, Bool.not_eq_true', decide_eq_false_iff_not, ↓reduceIte, true_and, and_true, and_self, decide_true, decide_false, not_false_eq_true, not_true_eq_false, eq_self, onN_s, int1_i, int1_b, one_i, two_i, ↓rIxA_e, ↓gSub_e, ↓rSetL_e, at3_0, at3_1, at3_2, ix3_0, ix3_1, ix3_2, onNum_i, onNum_b, ↓rIntA_e, ↓rMinA_e, ↓rMaxA_e, ↓rAbsA_e, ↓rLenL_e, ↓rSlLst_e, onTu_s, ↓gTupA_e, ↓rIxTu_e, ↓tRg1_e, ↓tLstRg_e, onRp_n, onRp_b, onRp_i, ↓rReprA_e, ↓rIsN_e, reduceCtorEq]
  refine ⟨r, _, rfl, .inr hr1.sq, fun l hl => ⟨by decide, fun p2 hp2 => ?_⟩⟩
  have n1 : Nx B [] H5 (upd (upd H5 l (.lst ((rowF m p k).map wv))) p2 (.tup [.str "first"])) := ((Nx.refl wl).new hl).new hp2
  have hl1 : upd (upd H5 l (.lst ((rowF m p k).map wv))) p2 (.tup [.str "first"]) l = some (.lst ((rowF m p k).map wv)) := by rw [upd_ne (upd_none hp2).2.symm, upd_same]
  have ht1 : upd (upd H5 l (.lst ((rowF m p k).map wv))) p2 (.tup [.str "first"]) p2 = some (.tup [.str "first"]) := upd_same
  generalize upd (upd H5 l (.lst ((rowF m p k).map wv))) p2 (.tup [.str "first"]) = H6 at n1 hl1 ht1 ⊢
  have rlen := rowF_len (p := p) m1 f1
  have rcnt := rowF_count (m := m) (p := p) (f := k)
  have hr6 := n1.ft hr1
  have sn : ∀ ws : List Bool, ws.length ≤ 4000 → ws.countP id ≠ k → showsV m p k (some (ws.map wv)) = false := fun ws h1 h2 => by
    rw [shows_ws h1, decide_eq_false (by omega), Bool.false_and]
  have sbad : showsV m p k (some [.str "again", .int 1]) = false := by
    have e : okR (some [.str "again", .int 1]) = false := by decide +kernel
    unfold showsV
    dsimp only
    rw [e, Bool.false_and, Bool.false_and]
  have sib : ∀ x ∈ ([.str "again", .int 1] : List V), GxT.StrInt x := fun x hx => by
    simp only [List.mem_cons, List.not_mem_nil, or_false] at hx
    rcases hx with e | e
    · exact .inl ⟨_, e⟩
    · exact .inr ⟨_, e⟩
  have last : ∀ {H' : Hp} {a : Addr}, H' a = some (.tup [.str "again", .int 1]) → ∃ r4, RL H' (.ref a) r4 ∧ showsV m p k r4 = false := fun {H' a} e => ⟨_, .tup (.inl e) sib, sbad⟩
  cases hW : rowF m p k with
  | nil =>
    rw [hW] at hr6 rcnt rlen
    have k0 : k = 0 := rcnt.symm
    have s3 : ∀ {H' : Hp}, H' p2 = some (.tup [.str "first"]) → ∃ r3, RL H' (.ref p2) r3 ∧ showsV m p k r3 = false := fun {H'} e =>
      ⟨some ([true].map wv), RL.tup (xs := [true].map wv) (.inl e) strInt_wv, sn [true] (by simp) (by simp [k0])⟩
    refine ⟨r, p2, [], [.str "first"], rfl, rfl, hr6.sq, SqT.of ht1, by decide, fun _ => ⟨by decide, fun p3 hp3 => ?_⟩, fun z => absurd rfl z, fun z => absurd rfl z⟩
    have n2 := n1.new (o := .tup []) hp3
    refine ⟨r, p3, _, [], 2, rfl, rfl, FT.sq ((Nx.refl n1.wl |>.new hp3 (ws := []) (o := .tup [])).ft hr6), SqT.of upd_same, by decide, kind_wv, by simp, ?_⟩
    simp only [onI_i, onB_b, onR_r, onT_t, onO_s, onS_s, onV_s, ↓tVar_e, ↓tC_e, ↓tNil_e, ↓tCons_e, ↓tCB_e, ↓tOp_e, ↓rI_e, ↓rI0_e, ↓tUn_e, ↓rU_e, ↓rEq_e, ↓rNe_e, scal_ii, scal_ss, scal_bb, ↓tAndV_e, ↓tOrV_e, ↓tNotV_e, ↓tAnd_e, ↓tOr_e, ↓tNot_e, ↓tTest_e, ↓tB_e, ↓tIf_e, ↓tChain_e, ↓tSeq_e, ↓tNext_e, ↓tBreak_e, ↓tCont_e, ↓tDrop_e, ↓tRet_e, ↓tRetN_e, ↓tIfS_e, ↓tAsg_e, ↓gName_e, onL2_e, ↓tPar_e2, onCons_e, ↓gNil_e, ↓gCons_e, ↓tTup_e, ↓tTupF_e, ↓tLst_e, ↓tFld_e, ↓sFld_e, ↓sFldAug_e, ↓rAdd_e, ↓rSub_e, ↓tCall_e, ↓tProp_e, ↓tRaiseAsk_e, ↓getSp_e, ↓tMeth_e, ↓tMake_e, ↓rRep_e, ↓rCat_e, ↓tSl_e, ↓tNoPart_e, ↓tPart_e, ↓tYes_e, ↓tFor_e, ↓iTup_e, ↓iList_e, onL1_e, ↓iRng1_e, ↓iRng2_e, ↓iEnT_e, ↓tLc_e, ↓start_e, onD_s, onLst_s, ↓tApp_e, cxOf_K, upd_same, upd_upd, List.getElem?_cons_zero, List.getElem?_cons_succ, List.set_cons_zero, List.set_cons_succ, List.map_cons, List.map_nil, List.append_nil, List.cons_append, List.nil_append, List.length_cons, List.length_nil, List.replicate_succ, List.replicate_zero, Nat.reduceAdd, Nat.reduceSub, Nat.reduceLT, V.int.injEq, V.bl.injEq, V.str.injEq, V.ref.injEq, decide_eq_true_eq, Bool.not_true, Bool.not_false, Bool.false_eq_true, Bool.not_eq_true', decide_eq_false_iff_not, ↓reduceIte, true_and, and_true, and_self, decide_true, decide_false, not_false_eq_true, not_true_eq_false, eq_self, onN_s, int1_i, int1_b, one_i, two_i, ↓rIxA_e, ↓gSub_e, ↓rSetL_e, at3_0, at3_1, at3_2, ix3_0, ix3_1, ix3_2, onNum_i, onNum_b, ↓rIntA_e, ↓rMinA_e, ↓rMaxA_e, ↓rAbsA_e, ↓rLenL_e, ↓rSlLst_e, onTu_s, ↓gTupA_e, ↓rIxTu_e, ↓tRg1_e, ↓tLstRg_e, onRp_n, onRp_b, onRp_i, ↓rReprA_e, ↓rIsN_e, reduceCtorEq]
    have e2 : upd H6 p3 (.tup []) p2 = some (.tup [.str "first"]) := (upd_ne (ne_of_none ht1 hp3)).trans ht1
    have e1 : upd H6 p3 (.tup []) l = some (.lst ([].map wv)) := (upd_ne (ne_of_none hl1 hp3)).trans (by rw [hl1, hW])
    generalize upd H6 p3 (.tup []) = H7 at n2 e1 e2 ⊢
    refine ⟨by decide, fun p4 h4 => ⟨by decide, fun p5 h5 => fin _ l p5 _ _ (n2.new h4) h5 ⟨_, (upd_ne (ne_of_none e1 h4)).trans e1⟩ (s3 ((upd_ne (ne_of_none e2 h4)).trans e2)) (last upd_same)⟩⟩
  | cons b W =>
    rw [hW] at hr6 rcnt rlen
    have hlenW : W.length + 1 ≤ 3000 := rlen
    refine ⟨r, p2, _, _, rfl, rfl, hr6.sq, SqT.of ht1, (by rw [List.length_map, sizeLine_eq]; simp only [List.length_cons, List.length_nil]; omega), fun z => absurd z (by simp), fun _ z => absurd z (by simp), fun _ _ a3 h3 => ⟨by decide, fun p3 hp3 => ?_⟩⟩
    have ea : ((b :: W).map wv) ++ [V.str "first"] = (b :: W ++ [true]).map wv := by rw [List.map_append]; rfl
    rw [ea] at hp3 ⊢
    have n3 := n1.new (o := .tup ((b :: W ++ [true]).map wv)) h3
    have hr7 : FT (upd H6 a3 (.tup ((b :: W ++ [true]).map wv))) r ((b :: W).map wv) := ((Nx.refl n1.wl).new (ws := []) h3).ft hr6
    have e1 : upd H6 a3 (.tup ((b :: W ++ [true]).map wv)) l = _ := (upd_ne (ne_of_none hl1 h3)).trans hl1
    have e3 : upd H6 a3 (.tup ((b :: W ++ [true]).map wv)) a3 = some (.tup ((b :: W ++ [true]).map wv)) := upd_same
    generalize upd H6 a3 (.tup ((b :: W ++ [true]).map wv)) = H7 at n3 hr7 e1 e3 hp3 ⊢
    have n4 := n3.new (o := .tup []) hp3
    have hr8 : FT (upd H7 p3 (.tup [])) r ((b :: W).map wv) := ((Nx.refl n3.wl).new (ws := []) hp3).ft hr7
    refine ⟨r, p3, _, [], 2, rfl, rfl, hr8.sq, SqT.of upd_same, by decide, kind_wv, by simp, ?_⟩
    simp only [onI_i, onB_b, onR_r, onT_t, onO_s, onS_s, onV_s, ↓tVar_e, ↓tC_e, ↓tNil_e, ↓tCons_e, ↓tCB_e, ↓tOp_e, ↓rI_e, ↓rI0_e, ↓tUn_e, ↓rU_e, ↓rEq_e, ↓rNe_e, scal_ii, scal_ss, scal_bb, ↓tAndV_e, ↓tOrV_e, ↓tNotV_e, ↓tAnd_e, ↓tOr_e, ↓tNot_e, ↓tTest_e, ↓tB_e, ↓tIf_e, ↓tChain_e, ↓tSeq_e, ↓tNext_e, ↓tBreak_e, ↓tCont_e, ↓tDrop_e, ↓tRet_e, ↓tRetN_e, ↓tIfS_e, ↓tAsg_e, ↓gName_e, onL2_e, ↓tPar_e2, onCons_e, ↓gNil_e, ↓gCons_e, ↓tTup_e, ↓tTupF_e, ↓tLst_e, ↓tFld_e, ↓sFld_e, ↓sFldAug_e, ↓rAdd_e, ↓rSub_e, ↓tCall_e, ↓tProp_e, ↓tRaiseAsk_e, ↓getSp_e, ↓tMeth_e, ↓tMake_e, ↓rRep_e, ↓rCat_e, ↓tSl_e, ↓tNoPart_e, ↓tPart_e, ↓tYes_e, ↓tFor_e, ↓iTup_e, ↓iList_e, onL1_e, ↓iRng1_e, ↓iRng2_e, ↓iEnT_e, ↓tLc_e, ↓start_e, onD_s, onLst_s, ↓tApp_e, cxOf_K, upd_same, upd_upd, List.getElem?_cons_zero, List.getElem?_cons_succ, List.set_cons_zero, List.set_cons_succ, List.map_cons, List.map_nil, List.append_nil, List.cons_append, List.nil_append, List.length_cons, List.length_nil, List.replicate_succ, List.replicate_zero, Nat.reduceAdd, Nat.reduceSub, Nat.reduceLT, V.int.injEq, V.bl.injEq, V.str.injEq, V.ref.injEq, decide_eq_true_eq, Bool.not_true, Bool.not_false, Bool.false_eq_true, Bool.not_eq_true', decide_eq_false_iff_not, ↓reduceIte, true_and, and_true, and_self, decide_true, decide_false, not_false_eq_true, not_true_eq_false, eq_self, onN_s, int1_i, int1_b, one_i, two_i, ↓rIxA_e, ↓gSub_e, ↓rSetL_e, at3_0, at3_1, at3_2, ix3_0, ix3_1, ix3_2, onNum_i, onNum_b, ↓rIntA_e, ↓rMinA_e, ↓rMaxA_e, ↓rAbsA_e, ↓rLenL_e, ↓rSlLst_e, onTu_s, ↓gTupA_e, ↓rIxTu_e, ↓tRg1_e, ↓tLstRg_e, onRp_n, onRp_b, onRp_i, ↓rReprA_e, ↓rIsN_e, reduceCtorEq]
    have f1' : upd H7 p3 (.tup []) l = _ := (upd_ne (ne_of_none e1 hp3)).trans e1
    have f3 : upd H7 p3 (.tup []) a3 = _ := (upd_ne (ne_of_none e3 hp3)).trans e3
    generalize upd H7 p3 (.tup []) = H8 at n4 hr8 f1' f3 ⊢
    have s3 : ∀ {H' : Hp}, H' a3 = some (.tup ((b :: W ++ [true]).map wv)) → ∃ r3, RL H' (.ref a3) r3 ∧ showsV m p k r3 = false := fun {H'} e =>
      ⟨some ((b :: W ++ [true]).map wv), .tup (.inl e) strInt_wv, sn _ (by simp; omega) (by rw [List.countP_append, rcnt]; simp)⟩
    refine ⟨r, _, 0, wv b, rfl, rfl, hr8.sq, at_0, ?_⟩
    cases b with
    | true =>
      simp only [onI_i, onB_b, onR_r, onT_t, onO_s, onS_s, onV_s, ↓tVar_e, ↓tC_e, ↓tNil_e, ↓tCons_e, ↓tCB_e, ↓tOp_e, ↓rI_e, ↓rI0_e, ↓tUn_e, ↓rU_e, ↓rEq_e, ↓rNe_e, scal_ii, scal_ss, scal_bb, ↓tAndV_e, ↓tOrV_e, ↓tNotV_e, ↓tAnd_e, ↓tOr_e, ↓tNot_e, ↓tTest_e, ↓tB_e, ↓tIf_e, ↓tChain_e, ↓tSeq_e, ↓tNext_e, ↓tBreak_e, ↓tCont_e, ↓tDrop_e, ↓tRet_e, ↓tRetN_e, ↓tIfS_e, ↓tAsg_e, ↓gName_e, onL2_e, ↓tPar_e2, onCons_e, ↓gNil_e, ↓gCons_e, ↓tTup_e, ↓tTupF_e, ↓tLst_e, ↓tFld_e, ↓sFld_e, ↓sFldAug_e, ↓rAdd_e, ↓rSub_e, ↓tCall_e, ↓tProp_e, ↓tRaiseAsk_e, ↓getSp_e, ↓tMeth_e, ↓tMake_e, ↓rRep_e, ↓rCat_e, ↓tSl_e, ↓tNoPart_e, ↓tPart_e, ↓tYes_e, ↓tFor_e, ↓iTup_e, ↓iList_e, onL1_e, ↓iRng1_e, ↓iRng2_e, ↓iEnT_e, ↓tLc_e, ↓start_e, onD_s, onLst_s, ↓tApp_e, cxOf_K, upd_same, upd_upd, List.getElem?_cons_zero, List.getElem?_cons_succ, List.set_cons_zero, List.set_cons_succ, List.map_cons, List.map_nil, List.append_nil, List.cons_append, List.nil_append, List.length_cons, List.length_nil, List.replicate_succ, List.replicate_zero, Nat.reduceAdd, Nat.reduceSub, Nat.reduceLT, V.int.injEq, V.bl.injEq, V.str.injEq, V.ref.injEq, decide_eq_true_eq, Bool.not_true, Bool.not_false, Bool.false_eq_true, Bool.not_eq_true', decide_eq_false_iff_not, ↓reduceIte, true_and, and_true, and_self, decide_true, decide_false, not_false_eq_true, not_true_eq_false, eq_self, onN_s, int1_i, int1_b, one_i, two_i, ↓rIxA_e, ↓gSub_e, ↓rSetL_e, at3_0, at3_1, at3_2, ix3_0, ix3_1, ix3_2, onNum_i, onNum_b, ↓rIntA_e, ↓rMinA_e, ↓rMaxA_e, ↓rAbsA_e, ↓rLenL_e, ↓rSlLst_e, onTu_s, ↓gTupA_e, ↓rIxTu_e, ↓tRg1_e, ↓tLstRg_e, onRp_n, onRp_b, onRp_i, ↓rReprA_e, ↓rIsN_e, reduceCtorEq, wv_first]
      refine ⟨r, _, rfl, hr8.sq, fun z => ?_, fun _ p4 h4 => ⟨by decide, fun p5 h5 => fin _ l p5 _ _ (n4.new h4) h5 ⟨_, (upd_ne (ne_of_none f1' h4)).trans f1'⟩ (s3 ((upd_ne (ne_of_none f3 h4)).trans f3)) ?_⟩⟩
      · have := z.1
        rw [show (1 : Int) = ((1 : Nat) : Int) from rfl, HT.sIx_nat] at this
        simp at this
      · have ec : cutV ((true :: W).map wv) (some 1) none = W.map wv := by
          unfold cutV
          rw [show (1 : Int) = ((1 : Nat) : Int) from rfl, HT.sIx_nat, HT.sIx_none]
          simp
          exact List.take_of_length_le (by rw [List.length_map]; exact Nat.le_refl _)
        rw [ec]
        refine ⟨some (W.map wv), .tup (.inl upd_same) strInt_wv, sn W (by omega) ?_⟩
        rw [List.countP_cons] at rcnt
        simp at rcnt
        omega
    | false =>
      simp only [onI_i, onB_b, onR_r, onT_t, onO_s, onS_s, onV_s, ↓tVar_e, ↓tC_e, ↓tNil_e, ↓tCons_e, ↓tCB_e, ↓tOp_e, ↓rI_e, ↓rI0_e, ↓tUn_e, ↓rU_e, ↓rEq_e, ↓rNe_e, scal_ii, scal_ss, scal_bb, ↓tAndV_e, ↓tOrV_e, ↓tNotV_e, ↓tAnd_e, ↓tOr_e, ↓tNot_e, ↓tTest_e, ↓tB_e, ↓tIf_e, ↓tChain_e, ↓tSeq_e, ↓tNext_e, ↓tBreak_e, ↓tCont_e, ↓tDrop_e, ↓tRet_e, ↓tRetN_e, ↓tIfS_e, ↓tAsg_e, ↓gName_e, onL2_e, ↓tPar_e2, onCons_e, ↓gNil_e, ↓gCons_e, ↓tTup_e, ↓tTupF_e, ↓tLst_e, ↓tFld_e, ↓sFld_e, ↓sFldAug_e, ↓rAdd_e, ↓rSub_e, ↓tCall_e, ↓tProp_e, ↓tRaiseAsk_e, ↓getSp_e, ↓tMeth_e, ↓tMake_e, ↓rRep_e, ↓rCat_e, ↓tSl_e, ↓tNoPart_e, ↓tPart_e, ↓tYes_e, ↓tFor_e, ↓iTup_e, ↓iList_e, onL1_e, ↓iRng1_e, ↓iRng2_e, ↓iEnT_e, ↓tLc_e, ↓start_e, onD_s, onLst_s, ↓tApp_e, cxOf_K, upd_same, upd_upd, List.getElem?_cons_zero, List.getElem?_cons_succ, List.set_cons_zero, List.set_cons_succ, List.map_cons, List.map_nil, List.append_nil, List.cons_append, List.nil_append, List.length_cons, List.length_nil, List.replicate_succ, List.replicate_zero, Nat.reduceAdd, Nat.reduceSub, Nat.reduceLT, V.int.injEq, V.bl.injEq, V.str.injEq, V.ref.injEq, decide_eq_true_eq, Bool.not_true, Bool.not_false, Bool.false_eq_true, Bool.not_eq_true', decide_eq_false_iff_not, ↓reduceIte, true_and, and_true, and_self, decide_true, decide_false, not_false_eq_true, not_true_eq_false, eq_self, onN_s, int1_i, int1_b, one_i, two_i, ↓rIxA_e, ↓gSub_e, ↓rSetL_e, at3_0, at3_1, at3_2, ix3_0, ix3_1, ix3_2, onNum_i, onNum_b, ↓rIntA_e, ↓rMinA_e, ↓rMaxA_e, ↓rAbsA_e, ↓rLenL_e, ↓rSlLst_e, onTu_s, ↓gTupA_e, ↓rIxTu_e, ↓tRg1_e, ↓tLstRg_e, onRp_n, onRp_b, onRp_i, ↓rReprA_e, ↓rIsN_e, reduceCtorEq, wv_first, str_fa]
      refine ⟨by decide, fun p4 h4 => ⟨by decide, fun p5 h5 => fin _ l p5 _ _ (n4.new h4) h5 ⟨_, (upd_ne (ne_of_none f1' h4)).trans f1'⟩ (s3 ((upd_ne (ne_of_none f3 h4)).trans f3)) (last upd_same)⟩⟩
theorem ok_mr (T : Ty P K mg base cP AE BN BR B c0 P0 c1 P1 c2 P2) : Dfn P w K mg base "_law_is_most_right" 12 ["pot", "most", "per", "firsts"] (spMR B) := by
  have TT := T.x.t
  have D1 : Dfn P w K mg base "most_let" 7 _ _ := ok_mostlet T.x
  have D2 : Dfn P w K mg base "row_for" 7 _ _ := ok_rowfor T.x
  have D3 : Dfn P w K mg base "_law_doing" 1 _ _ := ok_doing T
  have D4 : Dfn P w K mg base "shows_row" 8 _ _ := ok_shows T.x
  have D5 : Dfn P w K mg base "_law_row" 5 _ _ := ok_rowl T
  refine dfn_mk T.d35 sc35 (fun _ _ _ _ _ _ us hl => match us, hl with | [_, _, _, _], _ => rfl) (fun vs H Q E h => ?_) (fun fa cdv A outer s H vs Q E hr hc h => ?_)
  · obtain ⟨a, b, c, d, e, rfl, _⟩ := h
    rfl
  · obtain ⟨q, m, p, f, n, rfl, hp, n9, m0, m1, p0, p1, f1, wl, k⟩ := h
    obtain ⟨t2, hp2, h2⟩ := mr_tail T (f := fa) (cdv := cdv) (A := A) (outer := outer) (s := s) (H := H) (E := E) hr
    have r8 := hr.mono (show 8 ≤ 11 by decide)
    have r7 := hr.mono (show 7 ≤ 11 by decide)
    have r5 := hr.mono (show 5 ≤ 11 by decide)
    have r1 := hr.mono (show 1 ≤ 11 by decide)
    refine ⟨_, pss_cons (ps_set (i := 4) sc35.nd rfl (Or.inl rfl) (PE.imp (t' := tDue) (pe_ifExp (pt_cmpR op_gt (pv 1) pe_int (nomark _)) (pe_op op_add (pv 1) (pe_op op_fdiv (pv 3) (pv 2))) pe_int) fun _ _ _ _ _ _ h => due_of h))
      (pss_cons (ps_if (pt_cmpR op_ne (pe_dfn D1 r7 rfl passL (pa_cons (pv 1) (pa_cons (pv 2) (pa_cons (pv 3) pa_nil)))) (pv 4) (nomark _)) (pss_one (ps_ret pe_bl)) pss_nil)
      (pss_cons (ps_set (i := 5) sc35.nd rfl (Or.inl rfl) (pe_dfn D2 r7 rfl passL (pa_cons (pv 1) (pa_cons (pv 2) (pa_cons (pv 3) pa_nil)))))
      (pss_cons (ps_if (PW.pt (pw_or (pt_not (pt_val (pe_callB call_isi rfl TT.bI boot_isinstance (pa_cons (pv 5) (pa_cons (pe_bltn (v := .ty "tuple") rfl TT.btuple PyProof.Rows.boot_tuple rfl) pa_nil)))))
        (pw_or (pt_cmpR op_gt (pe_callB call_len_seq rfl TT.blen PySem.boot_len (pa_cons (pv 5) pa_nil)) pe_int (nomark _))
        (pw_or1 (pt_cmpR op_ne (pe_fm F.plainAttrs_tuple F.slot_tuple_count F.type_tuple_count mt_tcount (pv 5) (pa_cons pe_str pa_nil)) (pv 3) (nomark _)))))) (pss_one (ps_ret pe_bl)) pss_nil)
      (pss_cons (ps_if (PW.pt (pw_or (pt_cmpR op_ne (pe_ix ix_tu (pe_dfn D3 r1 rfl passL (pa_cons (pv 1) (pa_cons (pv 2) (pa_cons (pv 5) pa_nil)))) pe_int (by with_unfolding_all (intro _ _; rfl))) (pv 4) (nomark _))
        (pw_or1 (pt_cmpR op_notBl (pe_dfn D4 r8 rfl passL (pa_cons (pv 1) (pa_cons (pv 2) (pa_cons (pv 3) (pa_cons (pv 5) pa_nil))))) pe_bl (nomark _))))) (pss_one (ps_ret pe_bl)) pss_nil)
      (pss_cons (ps_set (i := 6) sc35.nd rfl (Or.inl rfl) (pe_dfn D5 r5 rfl passL (pa_cons (pv 0) (pa_cons pe_int pa_nil))))
      (pss_cons (ps_set (i := 7) sc35.nd rfl (Or.inl rfl) (pe_and (pe_cmpR op_eq (pe_fm F.plainAttrs_tuple F.slot_tuple_count F.type_tuple_count mt_tcount (pv 6) (pa_cons pe_str pa_nil)) (pv 3) (nomark _)) (pe_one (pe_cmpR op_eq (pe_ix ix_tu (pe_dfn D3 r1 rfl passL (pa_cons (pv 1) (pa_cons (pv 2) (pa_cons (pv 6) pa_nil)))) pe_int (by with_unfolding_all (intro _ _; rfl))) (pv 4) (nomark _)))))
      (pss_cons (ps_if (pt_cmpR op_ne (pe_dfn D4 r8 rfl passL (pa_cons (pv 1) (pa_cons (pv 2) (pa_cons (pv 3) (pa_cons (pv 6) pa_nil))))) (pv 7) (nomark _)) (pss_one (ps_ret pe_bl)) pss_nil)
      hp2))))))), ?_⟩
    have a4 : ∀ {x y z u : V}, atI [x, y, z, u] 3 = some u := rfl
    simp only [onI_i, onB_b, onR_r, onT_t, onO_s, onS_s, onV_s, ↓tVar_e, ↓tC_e, ↓tNil_e, ↓tCons_e, ↓tCB_e, ↓tOp_e, ↓rI_e, ↓rI0_e, ↓tUn_e, ↓rU_e, ↓rEq_e, ↓rNe_e, scal_ii, scal_ss, scal_bb, ↓tAndV_e, ↓tOrV_e, ↓tNotV_e, ↓tAnd_e, ↓tOr_e, ↓tNot_e, ↓tTest_e, ↓tB_e, ↓tIf_e, ↓tChain_e, ↓tSeq_e, ↓tNext_e, ↓tBreak_e, ↓tCont_e, ↓tDrop_e, ↓tRet_e, ↓tRetN_e, ↓tIfS_e, ↓tAsg_e, ↓gName_e, onL2_e, ↓tPar_e2, onCons_e, ↓gNil_e, ↓gCons_e, ↓tTup_e, ↓tTupF_e, ↓tLst_e, ↓tFld_e, ↓sFld_e, ↓sFldAug_e, ↓rAdd_e, ↓rSub_e, ↓tCall_e, ↓tProp_e, ↓tRaiseAsk_e, ↓getSp_e, ↓tMeth_e, ↓tMake_e, ↓rRep_e, ↓rCat_e, ↓tSl_e, ↓tNoPart_e, ↓tPart_e, ↓tYes_e, ↓tFor_e, ↓iTup_e, ↓iList_e, onL1_e, ↓iRng1_e, ↓iRng2_e, ↓iEnT_e, ↓tLc_e, ↓start_e, onD_s, onLst_s, ↓tApp_e, cxOf_K, upd_same, upd_upd, List.getElem?_cons_zero, List.getElem?_cons_succ, List.set_cons_zero, List.set_cons_succ, List.map_cons, List.map_nil, List.append_nil, List.cons_append, List.nil_append, List.length_cons, List.length_nil, List.replicate_succ, List.replicate_zero, Nat.reduceAdd, Nat.reduceSub, Nat.reduceLT, V.int.injEq, V.bl.injEq, V.str.injEq, V.ref.injEq, decide_eq_true_eq, Bool.not_true, Bool.not_false, Bool.false_eq_true, Bool.not_eq_true', decide_eq_false_iff_not, ↓reduceIte, true_and, and_true, and_self, decide_true, decide_false, not_false_eq_true, not_true_eq_false, eq_self, onN_s, int1_i, int1_b, one_i, two_i, ↓rIxA_e, ↓gSub_e, ↓rSetL_e, at3_0, at3_1, at3_2, ix3_0, ix3_1, ix3_2, onNum_i, onNum_b, ↓rIntA_e, ↓rMinA_e, ↓rMaxA_e, ↓rAbsA_e, ↓rLenL_e, ↓rSlLst_e, onTu_s, ↓gTupA_e, ↓rIxTu_e, ↓tRg1_e, ↓tLstRg_e, onRp_n, onRp_b, onRp_i, ↓rReprA_e, ↓rIsN_e, reduceCtorEq, tDue_e]
    refine ⟨⟨p0, p1⟩, _, _, _, rfl, .inl ⟨_, rfl⟩, .inl ⟨_, rfl⟩, .inl ⟨_, rfl⟩, fun m' p' f' e1 e2 e3 _ => ?_, fun v e => by rw [bad_ok m0 m1 p0 p1 (by omega) (by omega)] at e; cases e⟩
    cases e1
    cases e2
    cases e3
    simp only [onI_i, onB_b, onR_r, onT_t, onO_s, onS_s, onV_s, ↓tVar_e, ↓tC_e, ↓tNil_e, ↓tCons_e, ↓tCB_e, ↓tOp_e, ↓rI_e, ↓rI0_e, ↓tUn_e, ↓rU_e, ↓rEq_e, ↓rNe_e, scal_ii, scal_ss, scal_bb, ↓tAndV_e, ↓tOrV_e, ↓tNotV_e, ↓tAnd_e, ↓tOr_e, ↓tNot_e, ↓tTest_e, ↓tB_e, ↓tIf_e, ↓tChain_e, ↓tSeq_e, ↓tNext_e, ↓tBreak_e, ↓tCont_e, ↓tDrop_e, ↓tRet_e, ↓tRetN_e, ↓tIfS_e, ↓tAsg_e, ↓gName_e, onL2_e, ↓tPar_e2, onCons_e, ↓gNil_e, ↓gCons_e, ↓tTup_e, ↓tTupF_e, ↓tLst_e, ↓tFld_e, ↓sFld_e, ↓sFldAug_e, ↓rAdd_e, ↓rSub_e, ↓tCall_e, ↓tProp_e, ↓tRaiseAsk_e, ↓getSp_e, ↓tMeth_e, ↓tMake_e, ↓rRep_e, ↓rCat_e, ↓tSl_e, ↓tNoPart_e, ↓tPart_e, ↓tYes_e, ↓tFor_e, ↓iTup_e, ↓iList_e, onL1_e, ↓iRng1_e, ↓iRng2_e, ↓iEnT_e, ↓tLc_e, ↓start_e, onD_s, onLst_s, ↓tApp_e, cxOf_K, upd_same, upd_upd, List.getElem?_cons_zero, List.getElem?_cons_succ, List.set_cons_zero, List.set_cons_succ, List.map_cons, List.map_nil, List.append_nil, List.cons_append, List.nil_append, List.length_cons, List.length_nil, List.replicate_succ, List.replicate_zero, Nat.reduceAdd, Nat.reduceSub, Nat.reduceLT, V.int.injEq, V.bl.injEq, V.str.injEq, V.ref.injEq, decide_eq_true_eq, Bool.not_true, Bool.not_false, Bool.false_eq_true, Bool.not_eq_true', decide_eq_false_iff_not, ↓reduceIte, true_and, and_true, and_self, decide_true, decide_false, not_false_eq_true, not_true_eq_false, eq_self, onN_s, int1_i, int1_b, one_i, two_i, ↓rIxA_e, ↓gSub_e, ↓rSetL_e, at3_0, at3_1, at3_2, ix3_0, ix3_1, ix3_2, onNum_i, onNum_b, ↓rIntA_e, ↓rMinA_e, ↓rMaxA_e, ↓rAbsA_e, ↓rLenL_e, ↓rSlLst_e, onTu_s, ↓gTupA_e, ↓rIxTu_e, ↓tRg1_e, ↓tLstRg_e, onRp_n, onRp_b, onRp_i, ↓rReprA_e, ↓rIsN_e, reduceCtorEq]
    refine ⟨m, p, f, rfl, m0, m1, p0, p1, f1, wl, fun H1 r n1 hr1 => ?_⟩
    have rl := rowF_len (p := p) m1 f1
    refine isi_tup (r := some ((rowF m p f).map wv)) (.tup (FT.rd hr1) strInt_wv) ?_
    simp only [onI_i, onB_b, onR_r, onT_t, onO_s, onS_s, onV_s, ↓tVar_e, ↓tC_e, ↓tNil_e, ↓tCons_e, ↓tCB_e, ↓tOp_e, ↓rI_e, ↓rI0_e, ↓tUn_e, ↓rU_e, ↓rEq_e, ↓rNe_e, scal_ii, scal_ss, scal_bb, ↓tAndV_e, ↓tOrV_e, ↓tNotV_e, ↓tAnd_e, ↓tOr_e, ↓tNot_e, ↓tTest_e, ↓tB_e, ↓tIf_e, ↓tChain_e, ↓tSeq_e, ↓tNext_e, ↓tBreak_e, ↓tCont_e, ↓tDrop_e, ↓tRet_e, ↓tRetN_e, ↓tIfS_e, ↓tAsg_e, ↓gName_e, onL2_e, ↓tPar_e2, onCons_e, ↓gNil_e, ↓gCons_e, ↓tTup_e, ↓tTupF_e, ↓tLst_e, ↓tFld_e, ↓sFld_e, ↓sFldAug_e, ↓rAdd_e, ↓rSub_e, ↓tCall_e, ↓tProp_e, ↓tRaiseAsk_e, ↓getSp_e, ↓tMeth_e, ↓tMake_e, ↓rRep_e, ↓rCat_e, ↓tSl_e, ↓tNoPart_e, ↓tPart_e, ↓tYes_e, ↓tFor_e, ↓iTup_e, ↓iList_e, onL1_e, ↓iRng1_e, ↓iRng2_e, ↓iEnT_e, ↓tLc_e, ↓start_e, onD_s, onLst_s, ↓tApp_e, cxOf_K, upd_same, upd_upd, List.getElem?_cons_zero, List.getElem?_cons_succ, List.set_cons_zero, List.set_cons_succ, List.map_cons, List.map_nil, List.append_nil, List.cons_append, List.nil_append, List.length_cons, List.length_nil, List.replicate_succ, List.replicate_zero, Nat.reduceAdd, Nat.reduceSub, Nat.reduceLT, V.int.injEq, V.bl.injEq, V.str.injEq, V.ref.injEq, decide_eq_true_eq, Bool.not_true, Bool.not_false, Bool.false_eq_true, Bool.not_eq_true', decide_eq_false_iff_not, ↓reduceIte, true_and, and_true, and_self, decide_true, decide_false, not_false_eq_true, not_true_eq_false, eq_self, onN_s, int1_i, int1_b, one_i, two_i, ↓rIxA_e, ↓gSub_e, ↓rSetL_e, at3_0, at3_1, at3_2, ix3_0, ix3_1, ix3_2, onNum_i, onNum_b, ↓rIntA_e, ↓rMinA_e, ↓rMaxA_e, ↓rAbsA_e, ↓rLenL_e, ↓rSlLst_e, onTu_s, ↓gTupA_e, ↓rIxTu_e, ↓tRg1_e, ↓tLstRg_e, onRp_n, onRp_b, onRp_i, ↓rReprA_e, ↓rIsN_e, reduceCtorEq, Option.isSome_some]
    refine ⟨r, _, rfl, .inr hr1.sq, ?_⟩
    have l4 : ¬ ((4000 : Int) < (((rowF m p f).map wv).length : Int)) := by rw [List.length_map]; omega
    simp only [onI_i, onB_b, onR_r, onT_t, onO_s, onS_s, onV_s, ↓tVar_e, ↓tC_e, ↓tNil_e, ↓tCons_e, ↓tCB_e, ↓tOp_e, ↓rI_e, ↓rI0_e, ↓tUn_e, ↓rU_e, ↓rEq_e, ↓rNe_e, scal_ii, scal_ss, scal_bb, ↓tAndV_e, ↓tOrV_e, ↓tNotV_e, ↓tAnd_e, ↓tOr_e, ↓tNot_e, ↓tTest_e, ↓tB_e, ↓tIf_e, ↓tChain_e, ↓tSeq_e, ↓tNext_e, ↓tBreak_e, ↓tCont_e, ↓tDrop_e, ↓tRet_e, ↓tRetN_e, ↓tIfS_e, ↓tAsg_e, ↓gName_e, onL2_e, ↓tPar_e2, onCons_e, ↓gNil_e, ↓gCons_e, ↓tTup_e, ↓tTupF_e, ↓tLst_e, ↓tFld_e, ↓sFld_e, ↓sFldAug_e, ↓rAdd_e, ↓rSub_e, ↓tCall_e, ↓tProp_e, ↓tRaiseAsk_e, ↓getSp_e, ↓tMeth_e, ↓tMake_e, ↓rRep_e, ↓rCat_e, ↓tSl_e, ↓tNoPart_e, ↓tPart_e, ↓tYes_e, ↓tFor_e, ↓iTup_e, ↓iList_e, onL1_e, ↓iRng1_e, ↓iRng2_e, ↓iEnT_e, ↓tLc_e, ↓start_e, onD_s, onLst_s, ↓tApp_e, cxOf_K, upd_same, upd_upd, List.getElem?_cons_zero, List.getElem?_cons_succ, List.set_cons_zero, List.set_cons_succ, List.map_cons, List.map_nil, List.append_nil, List.cons_append, List.nil_append, List.length_cons, List.length_nil, List.replicate_succ, List.replicate_zero, Nat.reduceAdd, Nat.reduceSub, Nat.reduceLT, V.int.injEq, V.bl.injEq, V.str.injEq, V.ref.injEq, decide_eq_true_eq, Bool.not_true, Bool.not_false, Bool.false_eq_true, Bool.not_eq_true', decide_eq_false_iff_not, ↓reduceIte, true_and, and_true, and_self, decide_true, decide_false, not_false_eq_true, not_true_eq_false, eq_self, onN_s, int1_i, int1_b, one_i, two_i, ↓rIxA_e, ↓gSub_e, ↓rSetL_e, at3_0, at3_1, at3_2, ix3_0, ix3_1, ix3_2, onNum_i, onNum_b, ↓rIntA_e, ↓rMinA_e, ↓rMaxA_e, ↓rAbsA_e, ↓rLenL_e, ↓rSlLst_e, onTu_s, ↓gTupA_e, ↓rIxTu_e, ↓tRg1_e, ↓tLstRg_e, onRp_n, onRp_b, onRp_i, ↓rReprA_e, ↓rIsN_e, reduceCtorEq, l4]
    refine cnt_row rfl hr1 ?_
    rw [rowF_count]
    simp only [onI_i, onB_b, onR_r, onT_t, onO_s, onS_s, onV_s, ↓tVar_e, ↓tC_e, ↓tNil_e, ↓tCons_e, ↓tCB_e, ↓tOp_e, ↓rI_e, ↓rI0_e, ↓tUn_e, ↓rU_e, ↓rEq_e, ↓rNe_e, scal_ii, scal_ss, scal_bb, ↓tAndV_e, ↓tOrV_e, ↓tNotV_e, ↓tAnd_e, ↓tOr_e, ↓tNot_e, ↓tTest_e, ↓tB_e, ↓tIf_e, ↓tChain_e, ↓tSeq_e, ↓tNext_e, ↓tBreak_e, ↓tCont_e, ↓tDrop_e, ↓tRet_e, ↓tRetN_e, ↓tIfS_e, ↓tAsg_e, ↓gName_e, onL2_e, ↓tPar_e2, onCons_e, ↓gNil_e, ↓gCons_e, ↓tTup_e, ↓tTupF_e, ↓tLst_e, ↓tFld_e, ↓sFld_e, ↓sFldAug_e, ↓rAdd_e, ↓rSub_e, ↓tCall_e, ↓tProp_e, ↓tRaiseAsk_e, ↓getSp_e, ↓tMeth_e, ↓tMake_e, ↓rRep_e, ↓rCat_e, ↓tSl_e, ↓tNoPart_e, ↓tPart_e, ↓tYes_e, ↓tFor_e, ↓iTup_e, ↓iList_e, onL1_e, ↓iRng1_e, ↓iRng2_e, ↓iEnT_e, ↓tLc_e, ↓start_e, onD_s, onLst_s, ↓tApp_e, cxOf_K, upd_same, upd_upd, List.getElem?_cons_zero, List.getElem?_cons_succ, List.set_cons_zero, List.set_cons_succ, List.map_cons, List.map_nil, List.append_nil, List.cons_append, List.nil_append, List.length_cons, List.length_nil, List.replicate_succ, List.replicate_zero, Nat.reduceAdd, Nat.reduceSub, Nat.reduceLT, V.int.injEq, V.bl.injEq, V.str.injEq, V.ref.injEq, decide_eq_true_eq, Bool.not_true, Bool.not_false, Bool.false_eq_true, Bool.not_eq_true', decide_eq_false_iff_not, ↓reduceIte, true_and, and_true, and_self, decide_true, decide_false, not_false_eq_true, not_true_eq_false, eq_self, onN_s, int1_i, int1_b, one_i, two_i, ↓rIxA_e, ↓gSub_e, ↓rSetL_e, at3_0, at3_1, at3_2, ix3_0, ix3_1, ix3_2, onNum_i, onNum_b, ↓rIntA_e, ↓rMinA_e, ↓rMaxA_e, ↓rAbsA_e, ↓rLenL_e, ↓rSlLst_e, onTu_s, ↓gTupA_e, ↓rIxTu_e, ↓tRg1_e, ↓tLstRg_e, onRp_n, onRp_b, onRp_i, ↓rReprA_e, ↓rIsN_e, reduceCtorEq]
    refine ⟨m, p, r, rowF m p f, rfl, m0, p0, hr1.sq, by omega, n1.wl, fun H2 t u n2 ht hu => ?_⟩
    have n12 := n1.trans0 n2
    have ed := rowF_due (f := f) m0 p0
    simp only [onI_i, onB_b, onR_r, onT_t, onO_s, onS_s, onV_s, ↓tVar_e, ↓tC_e, ↓tNil_e, ↓tCons_e, ↓tCB_e, ↓tOp_e, ↓rI_e, ↓rI0_e, ↓tUn_e, ↓rU_e, ↓rEq_e, ↓rNe_e, scal_ii, scal_ss, scal_bb, ↓tAndV_e, ↓tOrV_e, ↓tNotV_e, ↓tAnd_e, ↓tOr_e, ↓tNot_e, ↓tTest_e, ↓tB_e, ↓tIf_e, ↓tChain_e, ↓tSeq_e, ↓tNext_e, ↓tBreak_e, ↓tCont_e, ↓tDrop_e, ↓tRet_e, ↓tRetN_e, ↓tIfS_e, ↓tAsg_e, ↓gName_e, onL2_e, ↓tPar_e2, onCons_e, ↓gNil_e, ↓gCons_e, ↓tTup_e, ↓tTupF_e, ↓tLst_e, ↓tFld_e, ↓sFld_e, ↓sFldAug_e, ↓rAdd_e, ↓rSub_e, ↓tCall_e, ↓tProp_e, ↓tRaiseAsk_e, ↓getSp_e, ↓tMeth_e, ↓tMake_e, ↓rRep_e, ↓rCat_e, ↓tSl_e, ↓tNoPart_e, ↓tPart_e, ↓tYes_e, ↓tFor_e, ↓iTup_e, ↓iList_e, onL1_e, ↓iRng1_e, ↓iRng2_e, ↓iEnT_e, ↓tLc_e, ↓start_e, onD_s, onLst_s, ↓tApp_e, cxOf_K, upd_same, upd_upd, List.getElem?_cons_zero, List.getElem?_cons_succ, List.set_cons_zero, List.set_cons_succ, List.map_cons, List.map_nil, List.append_nil, List.cons_append, List.nil_append, List.length_cons, List.length_nil, List.replicate_succ, List.replicate_zero, Nat.reduceAdd, Nat.reduceSub, Nat.reduceLT, V.int.injEq, V.bl.injEq, V.str.injEq, V.ref.injEq, decide_eq_true_eq, Bool.not_true, Bool.not_false, Bool.false_eq_true, Bool.not_eq_true', decide_eq_false_iff_not, ↓reduceIte, true_and, and_true, and_self, decide_true, decide_false, not_false_eq_true, not_true_eq_false, eq_self, onN_s, int1_i, int1_b, one_i, two_i, ↓rIxA_e, ↓gSub_e, ↓rSetL_e, at3_0, at3_1, at3_2, ix3_0, ix3_1, ix3_2, onNum_i, onNum_b, ↓rIntA_e, ↓rMinA_e, ↓rMaxA_e, ↓rAbsA_e, ↓rLenL_e, ↓rSlLst_e, onTu_s, ↓gTupA_e, ↓rIxTu_e, ↓tRg1_e, ↓tLstRg_e, onRp_n, onRp_b, onRp_i, ↓rReprA_e, ↓rIsN_e, reduceCtorEq, hu, a4, ed]
    refine ⟨m, p, f, _, _, rfl, m0, m1, p0, p1, by omega, by omega, .tup (FT.rd (n2.ft hr1)) strInt_wv, n2.wl, fun H3 n3 => ?_⟩
    have es : showsV m p f (some ((rowF m p f).map wv)) = true := by
      show (okR (some ((rowF m p f).map wv)) && decide (((toW ((rowF m p f).map wv)).countP id : Int) = f) && decide ((run m p (s0 m) (toW ((rowF m p f).map wv))).a = due m p f)) = true
      rw [okR_wv (by omega), toW_wv, rowF_count, ed]
      simp
    rw [es]
    have n13 := n12.trans0 n3
    refine ⟨true, true, rfl, rfl, ?_⟩
    simp only [onI_i, onB_b, onR_r, onT_t, onO_s, onS_s, onV_s, ↓tVar_e, ↓tC_e, ↓tNil_e, ↓tCons_e, ↓tCB_e, ↓tOp_e, ↓rI_e, ↓rI0_e, ↓tUn_e, ↓rU_e, ↓rEq_e, ↓rNe_e, scal_ii, scal_ss, scal_bb, ↓tAndV_e, ↓tOrV_e, ↓tNotV_e, ↓tAnd_e, ↓tOr_e, ↓tNot_e, ↓tTest_e, ↓tB_e, ↓tIf_e, ↓tChain_e, ↓tSeq_e, ↓tNext_e, ↓tBreak_e, ↓tCont_e, ↓tDrop_e, ↓tRet_e, ↓tRetN_e, ↓tIfS_e, ↓tAsg_e, ↓gName_e, onL2_e, ↓tPar_e2, onCons_e, ↓gNil_e, ↓gCons_e, ↓tTup_e, ↓tTupF_e, ↓tLst_e, ↓tFld_e, ↓sFld_e, ↓sFldAug_e, ↓rAdd_e, ↓rSub_e, ↓tCall_e, ↓tProp_e, ↓tRaiseAsk_e, ↓getSp_e, ↓tMeth_e, ↓tMake_e, ↓rRep_e, ↓rCat_e, ↓tSl_e, ↓tNoPart_e, ↓tPart_e, ↓tYes_e, ↓tFor_e, ↓iTup_e, ↓iList_e, onL1_e, ↓iRng1_e, ↓iRng2_e, ↓iEnT_e, ↓tLc_e, ↓start_e, onD_s, onLst_s, ↓tApp_e, cxOf_K, upd_same, upd_upd, List.getElem?_cons_zero, List.getElem?_cons_succ, List.set_cons_zero, List.set_cons_succ, List.map_cons, List.map_nil, List.append_nil, List.cons_append, List.nil_append, List.length_cons, List.length_nil, List.replicate_succ, List.replicate_zero, Nat.reduceAdd, Nat.reduceSub, Nat.reduceLT, V.int.injEq, V.bl.injEq, V.str.injEq, V.ref.injEq, decide_eq_true_eq, Bool.not_true, Bool.not_false, Bool.false_eq_true, Bool.not_eq_true', decide_eq_false_iff_not, ↓reduceIte, true_and, and_true, and_self, decide_true, decide_false, not_false_eq_true, not_true_eq_false, eq_self, onN_s, int1_i, int1_b, one_i, two_i, ↓rIxA_e, ↓gSub_e, ↓rSetL_e, at3_0, at3_1, at3_2, ix3_0, ix3_1, ix3_2, onNum_i, onNum_b, ↓rIntA_e, ↓rMinA_e, ↓rMaxA_e, ↓rAbsA_e, ↓rLenL_e, ↓rSlLst_e, onTu_s, ↓gTupA_e, ↓rIxTu_e, ↓tRg1_e, ↓tLstRg_e, onRp_n, onRp_b, onRp_i, ↓rReprA_e, ↓rIsN_e, reduceCtorEq]
    have hp3 := hp.kept n13 (by simp)
    refine ⟨q, 5, n, rfl, hp3, n9, by omega, by omega, n3.wl, fun H4 y ws n4 hp4 wl4 hy => ?_⟩
    have n14 : Nx B [q] H H4 := (n13.weak (fun _ z => nomatch z)).trans n4 fun b hb => .inl hb
    have hr4 : FT H4 r ((rowF m p f).map wv) := n4.ft (n3.ft (n2.ft hr1))
    refine cnt_row rfl hy ?_
    by_cases hcf : ((ws.countP id : Nat) : Int) = f
    · simp only [onI_i, onB_b, onR_r, onT_t, onO_s, onS_s, onV_s, ↓tVar_e, ↓tC_e, ↓tNil_e, ↓tCons_e, ↓tCB_e, ↓tOp_e, ↓rI_e, ↓rI0_e, ↓tUn_e, ↓rU_e, ↓rEq_e, ↓rNe_e, scal_ii, scal_ss, scal_bb, ↓tAndV_e, ↓tOrV_e, ↓tNotV_e, ↓tAnd_e, ↓tOr_e, ↓tNot_e, ↓tTest_e, ↓tB_e, ↓tIf_e, ↓tChain_e, ↓tSeq_e, ↓tNext_e, ↓tBreak_e, ↓tCont_e, ↓tDrop_e, ↓tRet_e, ↓tRetN_e, ↓tIfS_e, ↓tAsg_e, ↓gName_e, onL2_e, ↓tPar_e2, onCons_e, ↓gNil_e, ↓gCons_e, ↓tTup_e, ↓tTupF_e, ↓tLst_e, ↓tFld_e, ↓sFld_e, ↓sFldAug_e, ↓rAdd_e, ↓rSub_e, ↓tCall_e, ↓tProp_e, ↓tRaiseAsk_e, ↓getSp_e, ↓tMeth_e, ↓tMake_e, ↓rRep_e, ↓rCat_e, ↓tSl_e, ↓tNoPart_e, ↓tPart_e, ↓tYes_e, ↓tFor_e, ↓iTup_e, ↓iList_e, onL1_e, ↓iRng1_e, ↓iRng2_e, ↓iEnT_e, ↓tLc_e, ↓start_e, onD_s, onLst_s, ↓tApp_e, cxOf_K, upd_same, upd_upd, List.getElem?_cons_zero, List.getElem?_cons_succ, List.set_cons_zero, List.set_cons_succ, List.map_cons, List.map_nil, List.append_nil, List.cons_append, List.nil_append, List.length_cons, List.length_nil, List.replicate_succ, List.replicate_zero, Nat.reduceAdd, Nat.reduceSub, Nat.reduceLT, V.int.injEq, V.bl.injEq, V.str.injEq, V.ref.injEq, decide_eq_true_eq, Bool.not_true, Bool.not_false, Bool.false_eq_true, Bool.not_eq_true', decide_eq_false_iff_not, ↓reduceIte, true_and, and_true, and_self, decide_true, decide_false, not_false_eq_true, not_true_eq_false, eq_self, onN_s, int1_i, int1_b, one_i, two_i, ↓rIxA_e, ↓gSub_e, ↓rSetL_e, at3_0, at3_1, at3_2, ix3_0, ix3_1, ix3_2, onNum_i, onNum_b, ↓rIntA_e, ↓rMinA_e, ↓rMaxA_e, ↓rAbsA_e, ↓rLenL_e, ↓rSlLst_e, onTu_s, ↓gTupA_e, ↓rIxTu_e, ↓tRg1_e, ↓tLstRg_e, onRp_n, onRp_b, onRp_i, ↓rReprA_e, ↓rIsN_e, reduceCtorEq, hcf]
      refine ⟨m, p, y, ws, rfl, m0, p0, hy.sq, wl4, n4.wl, fun H6 t u n6 ht hu => ?_⟩
      simp only [onI_i, onB_b, onR_r, onT_t, onO_s, onS_s, onV_s, ↓tVar_e, ↓tC_e, ↓tNil_e, ↓tCons_e, ↓tCB_e, ↓tOp_e, ↓rI_e, ↓rI0_e, ↓tUn_e, ↓rU_e, ↓rEq_e, ↓rNe_e, scal_ii, scal_ss, scal_bb, ↓tAndV_e, ↓tOrV_e, ↓tNotV_e, ↓tAnd_e, ↓tOr_e, ↓tNot_e, ↓tTest_e, ↓tB_e, ↓tIf_e, ↓tChain_e, ↓tSeq_e, ↓tNext_e, ↓tBreak_e, ↓tCont_e, ↓tDrop_e, ↓tRet_e, ↓tRetN_e, ↓tIfS_e, ↓tAsg_e, ↓gName_e, onL2_e, ↓tPar_e2, onCons_e, ↓gNil_e, ↓gCons_e, ↓tTup_e, ↓tTupF_e, ↓tLst_e, ↓tFld_e, ↓sFld_e, ↓sFldAug_e, ↓rAdd_e, ↓rSub_e, ↓tCall_e, ↓tProp_e, ↓tRaiseAsk_e, ↓getSp_e, ↓tMeth_e, ↓tMake_e, ↓rRep_e, ↓rCat_e, ↓tSl_e, ↓tNoPart_e, ↓tPart_e, ↓tYes_e, ↓tFor_e, ↓iTup_e, ↓iList_e, onL1_e, ↓iRng1_e, ↓iRng2_e, ↓iEnT_e, ↓tLc_e, ↓start_e, onD_s, onLst_s, ↓tApp_e, cxOf_K, upd_same, upd_upd, List.getElem?_cons_zero, List.getElem?_cons_succ, List.set_cons_zero, List.set_cons_succ, List.map_cons, List.map_nil, List.append_nil, List.cons_append, List.nil_append, List.length_cons, List.length_nil, List.replicate_succ, List.replicate_zero, Nat.reduceAdd, Nat.reduceSub, Nat.reduceLT, V.int.injEq, V.bl.injEq, V.str.injEq, V.ref.injEq, decide_eq_true_eq, Bool.not_true, Bool.not_false, Bool.false_eq_true, Bool.not_eq_true', decide_eq_false_iff_not, ↓reduceIte, true_and, and_true, and_self, decide_true, decide_false, not_false_eq_true, not_true_eq_false, eq_self, onN_s, int1_i, int1_b, one_i, two_i, ↓rIxA_e, ↓gSub_e, ↓rSetL_e, at3_0, at3_1, at3_2, ix3_0, ix3_1, ix3_2, onNum_i, onNum_b, ↓rIntA_e, ↓rMinA_e, ↓rMaxA_e, ↓rAbsA_e, ↓rLenL_e, ↓rSlLst_e, onTu_s, ↓gTupA_e, ↓rIxTu_e, ↓tRg1_e, ↓tLstRg_e, onRp_n, onRp_b, onRp_i, ↓rReprA_e, ↓rIsN_e, reduceCtorEq, hu, a4]
      refine ⟨m, p, f, _, _, rfl, m0, m1, p0, p1, by omega, by omega, .tup (FT.rd (n6.ft hy)) strInt_wv, n6.wl, fun H7 n7 => ?_⟩
      rw [shows_ws wl4, decide_eq_true hcf, Bool.true_and]
      simp only [onI_i, onB_b, onR_r, onT_t, onO_s, onS_s, onV_s, ↓tVar_e, ↓tC_e, ↓tNil_e, ↓tCons_e, ↓tCB_e, ↓tOp_e, ↓rI_e, ↓rI0_e, ↓tUn_e, ↓rU_e, ↓rEq_e, ↓rNe_e, scal_ii, scal_ss, scal_bb, ↓tAndV_e, ↓tOrV_e, ↓tNotV_e, ↓tAnd_e, ↓tOr_e, ↓tNot_e, ↓tTest_e, ↓tB_e, ↓tIf_e, ↓tChain_e, ↓tSeq_e, ↓tNext_e, ↓tBreak_e, ↓tCont_e, ↓tDrop_e, ↓tRet_e, ↓tRetN_e, ↓tIfS_e, ↓tAsg_e, ↓gName_e, onL2_e, ↓tPar_e2, onCons_e, ↓gNil_e, ↓gCons_e, ↓tTup_e, ↓tTupF_e, ↓tLst_e, ↓tFld_e, ↓sFld_e, ↓sFldAug_e, ↓rAdd_e, ↓rSub_e, ↓tCall_e, ↓tProp_e, ↓tRaiseAsk_e, ↓getSp_e, ↓tMeth_e, ↓tMake_e, ↓rRep_e, ↓rCat_e, ↓tSl_e, ↓tNoPart_e, ↓tPart_e, ↓tYes_e, ↓tFor_e, ↓iTup_e, ↓iList_e, onL1_e, ↓iRng1_e, ↓iRng2_e, ↓iEnT_e, ↓tLc_e, ↓start_e, onD_s, onLst_s, ↓tApp_e, cxOf_K, upd_same, upd_upd, List.getElem?_cons_zero, List.getElem?_cons_succ, List.set_cons_zero, List.set_cons_succ, List.map_cons, List.map_nil, List.append_nil, List.cons_append, List.nil_append, List.length_cons, List.length_nil, List.replicate_succ, List.replicate_zero, Nat.reduceAdd, Nat.reduceSub, Nat.reduceLT, V.int.injEq, V.bl.injEq, V.str.injEq, V.ref.injEq, decide_eq_true_eq, Bool.not_true, Bool.not_false, Bool.false_eq_true, Bool.not_eq_true', decide_eq_false_iff_not, ↓reduceIte, true_and, and_true, and_self, decide_true, decide_false, not_false_eq_true, not_true_eq_false, eq_self, onN_s, int1_i, int1_b, one_i, two_i, ↓rIxA_e, ↓gSub_e, ↓rSetL_e, at3_0, at3_1, at3_2, ix3_0, ix3_1, ix3_2, onNum_i, onNum_b, ↓rIntA_e, ↓rMinA_e, ↓rMaxA_e, ↓rAbsA_e, ↓rLenL_e, ↓rSlLst_e, onTu_s, ↓gTupA_e, ↓rIxTu_e, ↓tRg1_e, ↓tLstRg_e, onRp_n, onRp_b, onRp_i, ↓rReprA_e, ↓rIsN_e, reduceCtorEq]
      refine h2 Q H7 q r y m p f _ _ n7.wl (n7.ft (n6.ft hr4)) m0 m1 p0 p1 f1 fun H8 n8 => k H8 ?_ ?_
      · exact (((n14.trans0 n6).trans0 n7).trans0 n8)
      · exact ((hp4.kept n6 (by simp)).kept n7 (by simp)).kept n8 (by simp)
    · simp only [onI_i, onB_b, onR_r, onT_t, onO_s, onS_s, onV_s, ↓tVar_e, ↓tC_e, ↓tNil_e, ↓tCons_e, ↓tCB_e, ↓tOp_e, ↓rI_e, ↓rI0_e, ↓tUn_e, ↓rU_e, ↓rEq_e, ↓rNe_e, scal_ii, scal_ss, scal_bb, ↓tAndV_e, ↓tOrV_e, ↓tNotV_e, ↓tAnd_e, ↓tOr_e, ↓tNot_e, ↓tTest_e, ↓tB_e, ↓tIf_e, ↓tChain_e, ↓tSeq_e, ↓tNext_e, ↓tBreak_e, ↓tCont_e, ↓tDrop_e, ↓tRet_e, ↓tRetN_e, ↓tIfS_e, ↓tAsg_e, ↓gName_e, onL2_e, ↓tPar_e2, onCons_e, ↓gNil_e, ↓gCons_e, ↓tTup_e, ↓tTupF_e, ↓tLst_e, ↓tFld_e, ↓sFld_e, ↓sFldAug_e, ↓rAdd_e, ↓rSub_e, ↓tCall_e, ↓tProp_e, ↓tRaiseAsk_e, ↓getSp_e, ↓tMeth_e, ↓tMake_e, ↓rRep_e, ↓rCat_e, ↓tSl_e, ↓tNoPart_e, ↓tPart_e, ↓tYes_e, ↓tFor_e, ↓iTup_e, ↓iList_e, onL1_e, ↓iRng1_e, ↓iRng2_e, ↓iEnT_e, ↓tLc_e, ↓start_e, onD_s, onLst_s, ↓tApp_e, cxOf_K, upd_same, upd_upd, List.getElem?_cons_zero, List.getElem?_cons_succ, List.set_cons_zero, List.set_cons_succ, List.map_cons, List.map_nil, List.append_nil, List.cons_append, List.nil_append, List.length_cons, List.length_nil, List.replicate_succ, List.replicate_zero, Nat.reduceAdd, Nat.reduceSub, Nat.reduceLT, V.int.injEq, V.bl.injEq, V.str.injEq, V.ref.injEq, decide_eq_true_eq, Bool.not_true, Bool.not_false, Bool.false_eq_true, Bool.not_eq_true', decide_eq_false_iff_not, ↓reduceIte, true_and, and_true, and_self, decide_true, decide_false, not_false_eq_true, not_true_eq_false, eq_self, onN_s, int1_i, int1_b, one_i, two_i, ↓rIxA_e, ↓gSub_e, ↓rSetL_e, at3_0, at3_1, at3_2, ix3_0, ix3_1, ix3_2, onNum_i, onNum_b, ↓rIntA_e, ↓rMinA_e, ↓rMaxA_e, ↓rAbsA_e, ↓rLenL_e, ↓rSlLst_e, onTu_s, ↓gTupA_e, ↓rIxTu_e, ↓tRg1_e, ↓tLstRg_e, onRp_n, onRp_b, onRp_i, ↓rReprA_e, ↓rIsN_e, reduceCtorEq, hcf]
      refine ⟨m, p, f, _, _, rfl, m0, m1, p0, p1, by omega, by omega, .tup (FT.rd hy) strInt_wv, n4.wl, fun H7 n7 => ?_⟩
      rw [shows_ws wl4, decide_eq_false hcf, Bool.false_and]
      simp only [onI_i, onB_b, onR_r, onT_t, onO_s, onS_s, onV_s, ↓tVar_e, ↓tC_e, ↓tNil_e, ↓tCons_e, ↓tCB_e, ↓tOp_e, ↓rI_e, ↓rI0_e, ↓tUn_e, ↓rU_e, ↓rEq_e, ↓rNe_e, scal_ii, scal_ss, scal_bb, ↓tAndV_e, ↓tOrV_e, ↓tNotV_e, ↓tAnd_e, ↓tOr_e, ↓tNot_e, ↓tTest_e, ↓tB_e, ↓tIf_e, ↓tChain_e, ↓tSeq_e, ↓tNext_e, ↓tBreak_e, ↓tCont_e, ↓tDrop_e, ↓tRet_e, ↓tRetN_e, ↓tIfS_e, ↓tAsg_e, ↓gName_e, onL2_e, ↓tPar_e2, onCons_e, ↓gNil_e, ↓gCons_e, ↓tTup_e, ↓tTupF_e, ↓tLst_e, ↓tFld_e, ↓sFld_e, ↓sFldAug_e, ↓rAdd_e, ↓rSub_e, ↓tCall_e, ↓tProp_e, ↓tRaiseAsk_e, ↓getSp_e, ↓tMeth_e, ↓tMake_e, ↓rRep_e, ↓rCat_e, ↓tSl_e, ↓tNoPart_e, ↓tPart_e, ↓tYes_e, ↓tFor_e, ↓iTup_e, ↓iList_e, onL1_e, ↓iRng1_e, ↓iRng2_e, ↓iEnT_e, ↓tLc_e, ↓start_e, onD_s, onLst_s, ↓tApp_e, cxOf_K, upd_same, upd_upd, List.getElem?_cons_zero, List.getElem?_cons_succ, List.set_cons_zero, List.set_cons_succ, List.map_cons, List.map_nil, List.append_nil, List.cons_append, List.nil_append, List.length_cons, List.length_nil, List.replicate_succ, List.replicate_zero, Nat.reduceAdd, Nat.reduceSub, Nat.reduceLT, V.int.injEq, V.bl.injEq, V.str.injEq, V.ref.injEq, decide_eq_true_eq, Bool.not_true, Bool.not_false, Bool.false_eq_true, Bool.not_eq_true', decide_eq_false_iff_not, ↓reduceIte, true_and, and_true, and_self, decide_true, decide_false, not_false_eq_true, not_true_eq_false, eq_self, onN_s, int1_i, int1_b, one_i, two_i, ↓rIxA_e, ↓gSub_e, ↓rSetL_e, at3_0, at3_1, at3_2, ix3_0, ix3_1, ix3_2, onNum_i, onNum_b, ↓rIntA_e, ↓rMinA_e, ↓rMaxA_e, ↓rAbsA_e, ↓rLenL_e, ↓rSlLst_e, onTu_s, ↓gTupA_e, ↓rIxTu_e, ↓tRg1_e, ↓tLstRg_e, onRp_n, onRp_b, onRp_i, ↓rReprA_e, ↓rIsN_e, reduceCtorEq]
      refine h2 Q H7 q r y m p f _ _ n7.wl (n7.ft hr4) m0 m1 p0 p1 f1 fun H8 n8 => k H8 ?_ ?_
      · exact ((n14.trans0 n7).trans0 n8)
      · exact (hp4.kept n7 (by simp)).kept n8 (by simp)
end
end K49
set_option Elab.async false
set_option linter.all false
set_option maxRecDepth 100000
set_option maxHeartbeats 4000000
/-! k49: bounds, the law. -/
namespace K49
open PySem PySem.Spec PyProof.Rows L2
section
variable {P : Program} {w : World} {K : PySem.W.Frag} {mg : Str → Option Value} {base : Heap} {cP AE BN BR : Addr} {B : Tb} {c0 P0 c1 P1 c2 P2 : Addr}
theorem sc31 : FnScope ["call", "caught", "back", "error"] ["call"] (defScope (top 31)) := ⟨rfl, rfl, rfl, by decide +kernel, rfl, by decide +kernel, by decide +kernel⟩
/-- _law_heard(lambda: e) -/
theorem pe_heard {X : Cx} {c PT : Addr} {k : Nat} {params : Arguments} {body : Expr} {scope : Scope} {t : XK → TE} {p lpos pos : Pos} {cp : Value → Prop} (F : HasD X.K X.mg "_law_heard" (top 31) cp) (hae : X.mg "AskError" = some (.ref AE)) (hg : Gl X "_law_heard")
    (TB : LamX.TabB X.base X.mg c PT) (hcode : X.env.code = .ref c) (hmT : (PT, X.env.qual ++ "<lambda>") ∈ B.ls) (hu : ∀ p ∈ B.ls, p.1 = PT → p.2 = X.env.qual ++ "<lambda>") (hr : Room (k + 2) X.A) (L : LamX.LamS X.env.scope scope) (hdef : defaultsOf params X.env = ([], []))
    (hbind : ∀ (q : Str) (cl : List (Str × Addr)) (pm cv ctv : Value), bindArgs (PySem.W.kla_fn "<lambda>" q params body scope cl pm cv ctv) ⟨[], []⟩ = pure [])
    (hbody : ∀ (A : Around) (outer : List Env) (s : Shared) (H : Hp) (E : XK) (f c' : Addr), Room k (A.deeper (LamX.lamEnv X scope s.heap.objs.size f c')) → PE (LamX.lamCx X A outer s H E scope f c') body (t E)) :
    PE X (.Call (.Name "_law_heard" p) [.Lambda params body scope lpos] [] pos) (LamY.tLamN PT B.ls (TTheard X.K AE) t) := by
  obtain ⟨f, fd, hm, F, _⟩ := F
  have hb : Binds X.K fd ["call"] [] := F.bindsN fun _ _ _ _ _ _ us hl => match us, hl with | [_], _ => rfl
  have hk := F.kp
  obtain ⟨oc, od, dV, kV, doc, pm, an, cdv, ct, osl, rfl, lk, hcd, _, _⟩ := F.ex
  exact LamY.pe_lamS (Ng := ["call", "caught", "back", "error"]) (a := "call") hg hm hk lk hcd hb sc31 rfl (.inl rfl)
    (heard_gives (en := "AskError") (by decide +kernel) hae rfl rfl rfl rfl (by decide +kernel) (by decide +kernel) (by decide +kernel) (by decide +kernel) (by decide +kernel) (by decide +kernel) (by decide +kernel) (by intro L f cd; rfl) (by intro L f cd; rfl))
    TB hcode hmT hu hr L hdef hbind hbody (by decide +kernel) (by decide +kernel) (by decide +kernel)
theorem Nx.lam {PT : Addr} {q : Str} {ws : List Addr} {H H1 H2 : Hp} (n : Nx B ws H H1) (hl : (PT, q) ∈ B.ls) (e : LamX.ExtN H1 H2) (t : LamX.Tabs B.ls H2) (kk : ∀ b o, H1 b = some o → b ≠ PT → H2 b = some o) : Nx B ws H H2 := by
  have n2 : Nx B [] H1 H2 := by
    refine ⟨fun b o eb ht _ => e b o eb fun ps z => (by rw [z] at ht; cases ht), ⟨fun a ha => ?_, t⟩, fun b o eb => ?_⟩
    · obtain ⟨ps, h1, h2⟩ := n.wl.1 a ha
      exact ⟨ps, kk _ _ h1 (fun z => B.apart a ha _ hl z.symm), h2⟩
    · by_cases z : b = PT
      · obtain ⟨ps, h1, _⟩ := t _ hl
        exact ⟨_, by rw [z]; exact h1⟩
      · exact ⟨o, kk b o eb z⟩
  exact n.trans0 n2
/-- what a lambda lets out goes on -/
theorem passLam {X : Cx} {A : Around} {outer : List Env} {s : Shared} {H : Hp} {E : XK} {scope : Scope} {f c' : Addr} : Passes (L2.CX (LamX.lamCx X A outer s H E scope f c').prog (LamX.lamCx X A outer s H E scope f c').w) (LamX.lamCx X A outer s H E scope f c') E := passes_call (X := LamX.lamCx X A outer s H E scope f c') (takes_of rfl rfl rfl rfl) fun _ _ _ _ h => h
end
end K49
set_option Elab.async false
set_option linter.all false
set_option maxRecDepth 100000
set_option maxHeartbeats 4000000
/-! k49: bounds, the law. -/
namespace K49
open PySem PySem.Spec PyProof.Rows L2
section
variable {P : Program} {w : World} {K : PySem.W.Frag} {mg : Str → Option Value} {base : Heap} {cP AE BN BR : Addr} {B : Tb} {c0 P0 c1 P1 c2 P2 : Addr}
theorem kpn {H : Hp} {a p : Addr} {o u : HO} (e : H a = some u) (h : H p = none) : upd H p o a = some u := (upd_ne (ne_of_none e h)).trans e
/-! ### the bounds -/
def spBR (B : Tb) : Sp := fun vs H Q _ => vs = [] ∧ Wl B H ∧ ∀ H', Nx B [] H H' → Q (.bl true) H'
theorem sc37 : FnScope ["rows", "most", "per", "firsts", "value", "caught", "back"] [] (defScope (top 37)) := ⟨rfl, rfl, rfl, by decide +kernel, rfl, by decide +kernel, by decide +kernel⟩
theorem ok_br (T : Ty P K mg base cP AE BN BR B c0 P0 c1 P1 c2 P2) : Dfn P w K mg base "_law_are_bounds_right" 12 [] (spBR B) := by
  have TT := T.x.t
  have D1 : Dfn P w K mg base "most_let" 7 _ _ := ok_mostlet T.x
  refine dfn_mk T.d37 sc37 (fun _ _ _ _ _ _ us hl => match us, hl with | [], _ => rfl) (fun vs H Q E h => ?_) (fun fa cdv A outer s H vs Q E hr hc h => ?_)
  · obtain ⟨rfl, _⟩ := h
    rfl
  · obtain ⟨rfl, wl, k⟩ := h
    subst hc
    have r9 := hr.mono (show 9 ≤ 11 by decide)
    refine ⟨_, pss_cons (ps_set (i := 0) sc37.nd rfl (Or.inl rfl) (pe_tup (pa_cons (pe_tup (pa_cons pe_int (pa_cons pe_int (pa_cons pe_int (pa_cons pe_int pa_nil))))) (pa_cons (pe_tup (pa_cons pe_int (pa_cons pe_int (pa_cons pe_int (pa_cons pe_int pa_nil))))) (pa_cons (pe_tup (pa_cons pe_int (pa_cons pe_int (pa_cons pe_int (pa_cons pe_int pa_nil)))))
        (pa_cons (pe_tup (pa_cons pe_int (pa_cons pe_int (pa_cons pe_int (pa_cons pe_int pa_nil))))) (pa_cons (pe_tup (pa_cons pe_bl (pa_cons pe_int (pa_cons pe_int (pa_cons pe_bl pa_nil))))) pa_nil)))))))
      (pss_cons (ps_for passO rfl (pi_tup (pv 0)) (pg_tupA 4 rfl (pgs_cons (pg_name (i := 1) sc37.nd rfl (Or.inr rfl)) (pgs_cons (pg_name (i := 2) sc37.nd rfl (Or.inr rfl)) (pgs_cons (pg_name (i := 3) sc37.nd rfl (Or.inr rfl)) (pgs_cons (pg_name (i := 4) sc37.nd rfl (Or.inl rfl)) pgs_nil)))))
        (pss_cons (ps_asg (pe_heard (AE := AE) (B := B) T.d31 TT.ae rfl T.tab1 rfl T.l1 T.u1 r9 (by exact LamX.lamS_by (sc := defScope (top 37)) (by decide +kernel)) (by rfl) (by intro q cl pm cv ctv; rfl) (fun A outer s H E f c' hr' => pe_dfn D1 hr' rfl passLam (pa_cons (pv 1) (pa_cons (pv 2) (pa_cons (pv 3) pa_nil)))))
            (pg_tupA 2 rfl (pgs_cons (pg_name (i := 5) sc37.nd rfl (Or.inl rfl)) (pgs_cons (pg_name (i := 6) sc37.nd rfl (Or.inl rfl)) pgs_nil))))
        (pss_one (ps_if (PW.pt (pw_or (pt_not (pt_val (pe_callB call_isV rfl TT.bI boot_isinstance (pa_cons (pv 5) (pa_cons (pe_glob (v := .ref BN) rfl TT.bn.gC rfl) pa_nil)))))
          (pw_or1 (pt_cmpR op_ne (pe_callB call_reprA rfl TT.brepr PyProof.Rows.boot_repr (pa_cons (pe_exV (pv 5)) pa_nil)) (pe_callB call_reprA rfl TT.brepr PyProof.Rows.boot_repr (pa_cons (pv 4) pa_nil)) (nomark _))))) (pss_one (ps_ret pe_bl)) pss_nil))))
      (pss_one (ps_ret (pe_cmpR op_eq (pe_dfn D1 (hr.mono (by decide)) rfl passL (pa_cons pe_int (pa_cons pe_int (pa_cons pe_int pa_nil)))) pe_int (nomark _))))), ?_⟩
    simp only [onI_i, onB_b, onR_r, onT_t, onO_s, onS_s, onV_s, ↓tVar_e, ↓tC_e, ↓tNil_e, ↓tCons_e, ↓tCB_e, ↓tOp_e, ↓rI_e, ↓rI0_e, ↓tUn_e, ↓rU_e, ↓rEq_e, ↓rNe_e, scal_ii, scal_ss, scal_bb, ↓tAndV_e, ↓tOrV_e, ↓tNotV_e, ↓tAnd_e, ↓tOr_e, ↓tNot_e, ↓tTest_e, ↓tB_e, ↓tIf_e, ↓tChain_e, ↓tSeq_e, ↓tNext_e, ↓tBreak_e, ↓tCont_e, ↓tDrop_e, ↓tRet_e, ↓tRetN_e, ↓tIfS_e, ↓tAsg_e, ↓gName_e, onL2_e, ↓tPar_e2, onCons_e, ↓gNil_e, ↓gCons_e, ↓tTup_e, ↓tTupF_e, ↓tLst_e, ↓tFld_e, ↓sFld_e, ↓sFldAug_e, ↓rAdd_e, ↓rSub_e, ↓tCall_e, ↓tProp_e, ↓tRaiseAsk_e, ↓getSp_e, ↓tMeth_e, ↓tMake_e, ↓rRep_e, ↓rCat_e, ↓tSl_e, ↓tNoPart_e, ↓tPart_e, ↓tYes_e, ↓tFor_e, ↓iTup_e, ↓iList_e, onL1_e, ↓iRng1_e, ↓iRng2_e, ↓iEnT_e, ↓tLc_e, ↓start_e, onD_s, onLst_s, ↓tApp_e, cxOf_K, upd_same, upd_upd, List.getElem?_cons_zero, List.getElem?_cons_succ, List.set_cons_zero, List.set_cons_succ, List.map_cons, List.map_nil, List.append_nil, List.cons_append, List.nil_append, List.length_cons, List.length_nil, List.replicate_succ, List.replicate_zero, Nat.reduceAdd, Nat.reduceSub, Nat.reduceLT, V.int.injEq, V.bl.injEq, V.str.injEq, V.ref.injEq, decide_eq_true_eq, Bool.not_true, Bool.not_false, Bool.false_eq_true, Bool.not_eq_true', decide_eq_false_iff_not, ↓reduceIte, true_and, and_true, and_self, decide_true, decide_false, not_false_eq_true, not_true_eq_false, eq_self, onN_s, int1_i, int1_b, one_i, two_i, ↓rIxA_e, ↓gSub_e, ↓rSetL_e, at3_0, at3_1, at3_2, ix3_0, ix3_1, ix3_2, onNum_i, onNum_b, ↓rIntA_e, ↓rMinA_e, ↓rMaxA_e, ↓rAbsA_e, ↓rLenL_e, ↓rSlLst_e, onTu_s, ↓gTupA_e, ↓rIxTu_e, ↓tRg1_e, ↓tLstRg_e, onRp_n, onRp_b, onRp_i, ↓rReprA_e, ↓rIsN_e, reduceCtorEq]
    refine ⟨by decide, fun a1 h1 => ⟨by decide, fun a2 h2 => ⟨by decide, fun a3 h3 => ⟨by decide, fun a4 h4 => ⟨by decide, fun a5 h5 => ⟨by decide, fun ar hr => ?_⟩⟩⟩⟩⟩⟩
    have n0 := (((((((Nx.refl (ws := []) wl).new (o := .tup [.int 1001, .int 1, .int 0, .int 1001]) h1).new (o := .tup [.int 0, .int 0, .int 0, .int 0]) h2).new (o := .tup [.int 5, .int 1001, .int 0, .int 1001]) h3).new (o := .tup [.int 5, .int 5, .int 1001, .int 1001]) h4).new (o := .tup [.bl true, .int 1, .int 0, .bl true]) h5).new (o := .tup [.ref a1, .ref a2, .ref a3, .ref a4, .ref a5]) hr)
    have e1 := kpn (o := .tup [.ref a1, .ref a2, .ref a3, .ref a4, .ref a5]) (kpn (o := .tup [.bl true, .int 1, .int 0, .bl true]) (kpn (o := .tup [.int 5, .int 5, .int 1001, .int 1001]) (kpn (o := .tup [.int 5, .int 1001, .int 0, .int 1001]) (kpn (o := .tup [.int 0, .int 0, .int 0, .int 0]) (upd_same (H := H) (a := a1) (o := .tup [.int 1001, .int 1, .int 0, .int 1001])) h2) h3) h4) h5) hr
    have e2 := kpn (o := .tup [.ref a1, .ref a2, .ref a3, .ref a4, .ref a5]) (kpn (o := .tup [.bl true, .int 1, .int 0, .bl true]) (kpn (o := .tup [.int 5, .int 5, .int 1001, .int 1001]) (kpn (o := .tup [.int 5, .int 1001, .int 0, .int 1001]) (upd_same (a := a2) (o := .tup [.int 0, .int 0, .int 0, .int 0])) h3) h4) h5) hr
    have e3 := kpn (o := .tup [.ref a1, .ref a2, .ref a3, .ref a4, .ref a5]) (kpn (o := .tup [.bl true, .int 1, .int 0, .bl true]) (kpn (o := .tup [.int 5, .int 5, .int 1001, .int 1001]) (upd_same (a := a3) (o := .tup [.int 5, .int 1001, .int 0, .int 1001])) h4) h5) hr
    have e4 := kpn (o := .tup [.ref a1, .ref a2, .ref a3, .ref a4, .ref a5]) (kpn (o := .tup [.bl true, .int 1, .int 0, .bl true]) (upd_same (a := a4) (o := .tup [.int 5, .int 5, .int 1001, .int 1001])) h5) hr
    have e5 := kpn (o := .tup [.ref a1, .ref a2, .ref a3, .ref a4, .ref a5]) (upd_same (a := a5) (o := .tup [.bl true, .int 1, .int 0, .bl true])) hr
    have key : ∃ H0 : Hp, H0 = upd (upd (upd (upd (upd (upd H a1 (.tup [.int 1001, .int 1, .int 0, .int 1001])) a2 (.tup [.int 0, .int 0, .int 0, .int 0])) a3 (.tup [.int 5, .int 1001, .int 0, .int 1001])) a4 (.tup [.int 5, .int 5, .int 1001, .int 1001])) a5 (.tup [.bl true, .int 1, .int 0, .bl true])) ar (.tup [.ref a1, .ref a2, .ref a3, .ref a4, .ref a5]) ∧
        Nx B [] H H0 ∧ H0 ar = some (.tup [.ref a1, .ref a2, .ref a3, .ref a4, .ref a5]) ∧ ∀ x ∈ ([.ref a1, .ref a2, .ref a3, .ref a4, .ref a5] : List V), ∃ a vm vp vf v, x = .ref a ∧ H0 a = some (.tup [vm, vp, vf, v]) ∧ IB vm ∧ IB vp ∧ IB vf ∧ bad vm vp vf = some v ∧ ((∃ i, v = .int i ∧ i.natAbs.log2 < 1920) ∨ ∃ b, v = .bl b) := by
      refine ⟨_, rfl, n0, upd_same, fun x hx => ?_⟩
      simp only [List.mem_cons, List.not_mem_nil, or_false] at hx
      rcases hx with e | e | e | e | e
      · exact ⟨a1, _, _, _, _, e, e1, .inl ⟨_, rfl⟩, .inl ⟨_, rfl⟩, .inl ⟨_, rfl⟩, by decide, .inl ⟨_, rfl, by decide +kernel⟩⟩
      · exact ⟨a2, _, _, _, _, e, e2, .inl ⟨_, rfl⟩, .inl ⟨_, rfl⟩, .inl ⟨_, rfl⟩, by decide, .inl ⟨_, rfl, by decide +kernel⟩⟩
      · exact ⟨a3, _, _, _, _, e, e3, .inl ⟨_, rfl⟩, .inl ⟨_, rfl⟩, .inl ⟨_, rfl⟩, by decide, .inl ⟨_, rfl, by decide +kernel⟩⟩
      · exact ⟨a4, _, _, _, _, e, e4, .inl ⟨_, rfl⟩, .inl ⟨_, rfl⟩, .inl ⟨_, rfl⟩, by decide, .inl ⟨_, rfl, by decide +kernel⟩⟩
      · exact ⟨a5, _, _, _, _, e, e5, .inr ⟨_, rfl⟩, .inl ⟨_, rfl⟩, .inl ⟨_, rfl⟩, by decide, .inr ⟨_, rfl⟩⟩
    obtain ⟨H0, eH, nH, er', keyx⟩ := key
    rw [← eH]
    clear e1 e2 e3 e4 e5 n0 eH
    refine ⟨⟨_, SqT.of er'⟩, for_tup (K := K) (a := ar) (xs := [.ref a1, .ref a2, .ref a3, .ref a4, .ref a5]) (fun i σ H' => ∃ v1 v2 v3 v4 v5 v6, σ = [some (.ref ar), v1, v2, v3, v4, v5, v6] ∧ Nx B [] H0 H')
      ⟨none, none, none, none, none, none, rfl, Nx.refl nH.wl⟩ (fun i σ H' _ ⟨_, _, _, _, _, _, _, n⟩ => n.sqT (SqT.of er')) ?_ ?_⟩
    · rintro i x σ H1 hi ⟨w1, w2, w3, w4, w5, w6, rfl, n1⟩
      obtain ⟨a, vm, vp, vf, v, rfl, ha, im, ip, iv, hb, hv⟩ := keyx x (List.mem_of_getElem? hi)
      have ha1 := n1.fx ha
      simp only [onI_i, onB_b, onR_r, onT_t, onO_s, onS_s, onV_s, ↓tVar_e, ↓tC_e, ↓tNil_e, ↓tCons_e, ↓tCB_e, ↓tOp_e, ↓rI_e, ↓rI0_e, ↓tUn_e, ↓rU_e, ↓rEq_e, ↓rNe_e, scal_ii, scal_ss, scal_bb, ↓tAndV_e, ↓tOrV_e, ↓tNotV_e, ↓tAnd_e, ↓tOr_e, ↓tNot_e, ↓tTest_e, ↓tB_e, ↓tIf_e, ↓tChain_e, ↓tSeq_e, ↓tNext_e, ↓tBreak_e, ↓tCont_e, ↓tDrop_e, ↓tRet_e, ↓tRetN_e, ↓tIfS_e, ↓tAsg_e, ↓gName_e, onL2_e, ↓tPar_e2, onCons_e, ↓gNil_e, ↓gCons_e, ↓tTup_e, ↓tTupF_e, ↓tLst_e, ↓tFld_e, ↓sFld_e, ↓sFldAug_e, ↓rAdd_e, ↓rSub_e, ↓tCall_e, ↓tProp_e, ↓tRaiseAsk_e, ↓getSp_e, ↓tMeth_e, ↓tMake_e, ↓rRep_e, ↓rCat_e, ↓tSl_e, ↓tNoPart_e, ↓tPart_e, ↓tYes_e, ↓tFor_e, ↓iTup_e, ↓iList_e, onL1_e, ↓iRng1_e, ↓iRng2_e, ↓iEnT_e, ↓tLc_e, ↓start_e, onD_s, onLst_s, ↓tApp_e, cxOf_K, upd_same, upd_upd, List.getElem?_cons_zero, List.getElem?_cons_succ, List.set_cons_zero, List.set_cons_succ, List.map_cons, List.map_nil, List.append_nil, List.cons_append, List.nil_append, List.length_cons, List.length_nil, List.replicate_succ, List.replicate_zero, Nat.reduceAdd, Nat.reduceSub, Nat.reduceLT, V.int.injEq, V.bl.injEq, V.str.injEq, V.ref.injEq, decide_eq_true_eq, Bool.not_true, Bool.not_false, Bool.false_eq_true, Bool.not_eq_true', decide_eq_false_iff_not, ↓reduceIte, true_and, and_true, and_self, decide_true, decide_false, not_false_eq_true, not_true_eq_false, eq_self, onN_s, int1_i, int1_b, one_i, two_i, ↓rIxA_e, ↓gSub_e, ↓rSetL_e, at3_0, at3_1, at3_2, ix3_0, ix3_1, ix3_2, onNum_i, onNum_b, ↓rIntA_e, ↓rMinA_e, ↓rMaxA_e, ↓rAbsA_e, ↓rLenL_e, ↓rSlLst_e, onTu_s, ↓gTupA_e, ↓rIxTu_e, ↓tRg1_e, ↓tLstRg_e, onRp_n, onRp_b, onRp_i, ↓rReprA_e, ↓rIsN_e, reduceCtorEq, ha1]
      refine ⟨n1.wl.2, fun H2 eN tH eK => ?_⟩
      have n2 := Nx.lam (B := B) n1 T.l1 eN tH eK
      simp only [onI_i, onB_b, onR_r, onT_t, onO_s, onS_s, onV_s, ↓tVar_e, ↓tC_e, ↓tNil_e, ↓tCons_e, ↓tCB_e, ↓tOp_e, ↓rI_e, ↓rI0_e, ↓tUn_e, ↓rU_e, ↓rEq_e, ↓rNe_e, scal_ii, scal_ss, scal_bb, ↓tAndV_e, ↓tOrV_e, ↓tNotV_e, ↓tAnd_e, ↓tOr_e, ↓tNot_e, ↓tTest_e, ↓tB_e, ↓tIf_e, ↓tChain_e, ↓tSeq_e, ↓tNext_e, ↓tBreak_e, ↓tCont_e, ↓tDrop_e, ↓tRet_e, ↓tRetN_e, ↓tIfS_e, ↓tAsg_e, ↓gName_e, onL2_e, ↓tPar_e2, onCons_e, ↓gNil_e, ↓gCons_e, ↓tTup_e, ↓tTupF_e, ↓tLst_e, ↓tFld_e, ↓sFld_e, ↓sFldAug_e, ↓rAdd_e, ↓rSub_e, ↓tCall_e, ↓tProp_e, ↓tRaiseAsk_e, ↓getSp_e, ↓tMeth_e, ↓tMake_e, ↓rRep_e, ↓rCat_e, ↓tSl_e, ↓tNoPart_e, ↓tPart_e, ↓tYes_e, ↓tFor_e, ↓iTup_e, ↓iList_e, onL1_e, ↓iRng1_e, ↓iRng2_e, ↓iEnT_e, ↓tLc_e, ↓start_e, onD_s, onLst_s, ↓tApp_e, cxOf_K, upd_same, upd_upd, List.getElem?_cons_zero, List.getElem?_cons_succ, List.set_cons_zero, List.set_cons_succ, List.map_cons, List.map_nil, List.append_nil, List.cons_append, List.nil_append, List.length_cons, List.length_nil, List.replicate_succ, List.replicate_zero, Nat.reduceAdd, Nat.reduceSub, Nat.reduceLT, V.int.injEq, V.bl.injEq, V.str.injEq, V.ref.injEq, decide_eq_true_eq, Bool.not_true, Bool.not_false, Bool.false_eq_true, Bool.not_eq_true', decide_eq_false_iff_not, ↓reduceIte, true_and, and_true, and_self, decide_true, decide_false, not_false_eq_true, not_true_eq_false, eq_self, onN_s, int1_i, int1_b, one_i, two_i, ↓rIxA_e, ↓gSub_e, ↓rSetL_e, at3_0, at3_1, at3_2, ix3_0, ix3_1, ix3_2, onNum_i, onNum_b, ↓rIntA_e, ↓rMinA_e, ↓rMaxA_e, ↓rAbsA_e, ↓rLenL_e, ↓rSlLst_e, onTu_s, ↓gTupA_e, ↓rIxTu_e, ↓tRg1_e, ↓tLstRg_e, onRp_n, onRp_b, onRp_i, ↓rReprA_e, ↓rIsN_e, reduceCtorEq]
      refine ⟨by decide, fun p0 hp0 => ⟨rfl, ?_⟩⟩
      refine ⟨vm, vp, vf, rfl, im, ip, iv, fun m p f e1 e2 e3 e4 => (by rw [hb] at e4; cases e4), fun v' hv' d hd => ?_⟩
      rw [hb] at hv'
      cases hv'
      refine ⟨true, TT.xn, fun _ e he => ⟨by decide, fun pp hpp => ?_⟩, fun z => nomatch z⟩
      have n3 := ((((n2.new hp0).new hd).new he).new (o := .tup [.ref e, .non]) hpp)
      have he' := kpn (o := .tup [.ref e, .non]) (upd_same (a := e) (o := ExV (.ref BN) (some d) e)) hpp
      have hd' := kpn (o := .tup [.ref e, .non]) (kpn (o := ExV (.ref BN) (some d) e) (upd_same (a := d) (o := .xd [(("value" : Str), v)])) he) hpp
      simp only [onI_i, onB_b, onR_r, onT_t, onO_s, onS_s, onV_s, ↓tVar_e, ↓tC_e, ↓tNil_e, ↓tCons_e, ↓tCB_e, ↓tOp_e, ↓rI_e, ↓rI0_e, ↓tUn_e, ↓rU_e, ↓rEq_e, ↓rNe_e, scal_ii, scal_ss, scal_bb, ↓tAndV_e, ↓tOrV_e, ↓tNotV_e, ↓tAnd_e, ↓tOr_e, ↓tNot_e, ↓tTest_e, ↓tB_e, ↓tIf_e, ↓tChain_e, ↓tSeq_e, ↓tNext_e, ↓tBreak_e, ↓tCont_e, ↓tDrop_e, ↓tRet_e, ↓tRetN_e, ↓tIfS_e, ↓tAsg_e, ↓gName_e, onL2_e, ↓tPar_e2, onCons_e, ↓gNil_e, ↓gCons_e, ↓tTup_e, ↓tTupF_e, ↓tLst_e, ↓tFld_e, ↓sFld_e, ↓sFldAug_e, ↓rAdd_e, ↓rSub_e, ↓tCall_e, ↓tProp_e, ↓tRaiseAsk_e, ↓getSp_e, ↓tMeth_e, ↓tMake_e, ↓rRep_e, ↓rCat_e, ↓tSl_e, ↓tNoPart_e, ↓tPart_e, ↓tYes_e, ↓tFor_e, ↓iTup_e, ↓iList_e, onL1_e, ↓iRng1_e, ↓iRng2_e, ↓iEnT_e, ↓tLc_e, ↓start_e, onD_s, onLst_s, ↓tApp_e, cxOf_K, upd_same, upd_upd, List.getElem?_cons_zero, List.getElem?_cons_succ, List.set_cons_zero, List.set_cons_succ, List.map_cons, List.map_nil, List.append_nil, List.cons_append, List.nil_append, List.length_cons, List.length_nil, List.replicate_succ, List.replicate_zero, Nat.reduceAdd, Nat.reduceSub, Nat.reduceLT, V.int.injEq, V.bl.injEq, V.str.injEq, V.ref.injEq, decide_eq_true_eq, Bool.not_true, Bool.not_false, Bool.false_eq_true, Bool.not_eq_true', decide_eq_false_iff_not, ↓reduceIte, true_and, and_true, and_self, decide_true, decide_false, not_false_eq_true, not_true_eq_false, eq_self, onN_s, int1_i, int1_b, one_i, two_i, ↓rIxA_e, ↓gSub_e, ↓rSetL_e, at3_0, at3_1, at3_2, ix3_0, ix3_1, ix3_2, onNum_i, onNum_b, ↓rIntA_e, ↓rMinA_e, ↓rMaxA_e, ↓rAbsA_e, ↓rLenL_e, ↓rSlLst_e, onTu_s, ↓gTupA_e, ↓rIxTu_e, ↓tRg1_e, ↓tLstRg_e, onRp_n, onRp_b, onRp_i, ↓rReprA_e, ↓rIsN_e, reduceCtorEq]
      refine ⟨e, BN, BN, d, _, true, rfl, he', hd', TT.vn, TT.kn, ?_⟩
      simp only [onI_i, onB_b, onR_r, onT_t, onO_s, onS_s, onV_s, ↓tVar_e, ↓tC_e, ↓tNil_e, ↓tCons_e, ↓tCB_e, ↓tOp_e, ↓rI_e, ↓rI0_e, ↓tUn_e, ↓rU_e, ↓rEq_e, ↓rNe_e, scal_ii, scal_ss, scal_bb, ↓tAndV_e, ↓tOrV_e, ↓tNotV_e, ↓tAnd_e, ↓tOr_e, ↓tNot_e, ↓tTest_e, ↓tB_e, ↓tIf_e, ↓tChain_e, ↓tSeq_e, ↓tNext_e, ↓tBreak_e, ↓tCont_e, ↓tDrop_e, ↓tRet_e, ↓tRetN_e, ↓tIfS_e, ↓tAsg_e, ↓gName_e, onL2_e, ↓tPar_e2, onCons_e, ↓gNil_e, ↓gCons_e, ↓tTup_e, ↓tTupF_e, ↓tLst_e, ↓tFld_e, ↓sFld_e, ↓sFldAug_e, ↓rAdd_e, ↓rSub_e, ↓tCall_e, ↓tProp_e, ↓tRaiseAsk_e, ↓getSp_e, ↓tMeth_e, ↓tMake_e, ↓rRep_e, ↓rCat_e, ↓tSl_e, ↓tNoPart_e, ↓tPart_e, ↓tYes_e, ↓tFor_e, ↓iTup_e, ↓iList_e, onL1_e, ↓iRng1_e, ↓iRng2_e, ↓iEnT_e, ↓tLc_e, ↓start_e, onD_s, onLst_s, ↓tApp_e, cxOf_K, upd_same, upd_upd, List.getElem?_cons_zero, List.getElem?_cons_succ, List.set_cons_zero, List.set_cons_succ, List.map_cons, List.map_nil, List.append_nil, List.cons_append, List.nil_append, List.length_cons, List.length_nil, List.replicate_succ, List.replicate_zero, Nat.reduceAdd, Nat.reduceSub, Nat.reduceLT, V.int.injEq, V.bl.injEq, V.str.injEq, V.ref.injEq, decide_eq_true_eq, Bool.not_true, Bool.not_false, Bool.false_eq_true, Bool.not_eq_true', decide_eq_false_iff_not, ↓reduceIte, true_and, and_true, and_self, decide_true, decide_false, not_false_eq_true, not_true_eq_false, eq_self, onN_s, int1_i, int1_b, one_i, two_i, ↓rIxA_e, ↓gSub_e, ↓rSetL_e, at3_0, at3_1, at3_2, ix3_0, ix3_1, ix3_2, onNum_i, onNum_b, ↓rIntA_e, ↓rMinA_e, ↓rMaxA_e, ↓rAbsA_e, ↓rLenL_e, ↓rSlLst_e, onTu_s, ↓gTupA_e, ↓rIxTu_e, ↓tRg1_e, ↓tLstRg_e, onRp_n, onRp_b, onRp_i, ↓rReprA_e, ↓rIsN_e, reduceCtorEq]
      refine ⟨_, rfl, e, BN, d, _, v, rfl, he', hd', TT.vn, by simp [List.lookup], ?_⟩
      rcases hv with ⟨i, rfl, hz⟩ | ⟨b, rfl⟩
      · simp only [onI_i, onB_b, onR_r, onT_t, onO_s, onS_s, onV_s, ↓tVar_e, ↓tC_e, ↓tNil_e, ↓tCons_e, ↓tCB_e, ↓tOp_e, ↓rI_e, ↓rI0_e, ↓tUn_e, ↓rU_e, ↓rEq_e, ↓rNe_e, scal_ii, scal_ss, scal_bb, ↓tAndV_e, ↓tOrV_e, ↓tNotV_e, ↓tAnd_e, ↓tOr_e, ↓tNot_e, ↓tTest_e, ↓tB_e, ↓tIf_e, ↓tChain_e, ↓tSeq_e, ↓tNext_e, ↓tBreak_e, ↓tCont_e, ↓tDrop_e, ↓tRet_e, ↓tRetN_e, ↓tIfS_e, ↓tAsg_e, ↓gName_e, onL2_e, ↓tPar_e2, onCons_e, ↓gNil_e, ↓gCons_e, ↓tTup_e, ↓tTupF_e, ↓tLst_e, ↓tFld_e, ↓sFld_e, ↓sFldAug_e, ↓rAdd_e, ↓rSub_e, ↓tCall_e, ↓tProp_e, ↓tRaiseAsk_e, ↓getSp_e, ↓tMeth_e, ↓tMake_e, ↓rRep_e, ↓rCat_e, ↓tSl_e, ↓tNoPart_e, ↓tPart_e, ↓tYes_e, ↓tFor_e, ↓iTup_e, ↓iList_e, onL1_e, ↓iRng1_e, ↓iRng2_e, ↓iEnT_e, ↓tLc_e, ↓start_e, onD_s, onLst_s, ↓tApp_e, cxOf_K, upd_same, upd_upd, List.getElem?_cons_zero, List.getElem?_cons_succ, List.set_cons_zero, List.set_cons_succ, List.map_cons, List.map_nil, List.append_nil, List.cons_append, List.nil_append, List.length_cons, List.length_nil, List.replicate_succ, List.replicate_zero, Nat.reduceAdd, Nat.reduceSub, Nat.reduceLT, V.int.injEq, V.bl.injEq, V.str.injEq, V.ref.injEq, decide_eq_true_eq, Bool.not_true, Bool.not_false, Bool.false_eq_true, Bool.not_eq_true', decide_eq_false_iff_not, ↓reduceIte, true_and, and_true, and_self, decide_true, decide_false, not_false_eq_true, not_true_eq_false, eq_self, onN_s, int1_i, int1_b, one_i, two_i, ↓rIxA_e, ↓gSub_e, ↓rSetL_e, at3_0, at3_1, at3_2, ix3_0, ix3_1, ix3_2, onNum_i, onNum_b, ↓rIntA_e, ↓rMinA_e, ↓rMaxA_e, ↓rAbsA_e, ↓rLenL_e, ↓rSlLst_e, onTu_s, ↓gTupA_e, ↓rIxTu_e, ↓tRg1_e, ↓tLstRg_e, onRp_n, onRp_b, onRp_i, ↓rReprA_e, ↓rIsN_e, reduceCtorEq]
        exact ⟨hz, hz, _, _, _, _, _, _, rfl, n3⟩
      · simp only [onI_i, onB_b, onR_r, onT_t, onO_s, onS_s, onV_s, ↓tVar_e, ↓tC_e, ↓tNil_e, ↓tCons_e, ↓tCB_e, ↓tOp_e, ↓rI_e, ↓rI0_e, ↓tUn_e, ↓rU_e, ↓rEq_e, ↓rNe_e, scal_ii, scal_ss, scal_bb, ↓tAndV_e, ↓tOrV_e, ↓tNotV_e, ↓tAnd_e, ↓tOr_e, ↓tNot_e, ↓tTest_e, ↓tB_e, ↓tIf_e, ↓tChain_e, ↓tSeq_e, ↓tNext_e, ↓tBreak_e, ↓tCont_e, ↓tDrop_e, ↓tRet_e, ↓tRetN_e, ↓tIfS_e, ↓tAsg_e, ↓gName_e, onL2_e, ↓tPar_e2, onCons_e, ↓gNil_e, ↓gCons_e, ↓tTup_e, ↓tTupF_e, ↓tLst_e, ↓tFld_e, ↓sFld_e, ↓sFldAug_e, ↓rAdd_e, ↓rSub_e, ↓tCall_e, ↓tProp_e, ↓tRaiseAsk_e, ↓getSp_e, ↓tMeth_e, ↓tMake_e, ↓rRep_e, ↓rCat_e, ↓tSl_e, ↓tNoPart_e, ↓tPart_e, ↓tYes_e, ↓tFor_e, ↓iTup_e, ↓iList_e, onL1_e, ↓iRng1_e, ↓iRng2_e, ↓iEnT_e, ↓tLc_e, ↓start_e, onD_s, onLst_s, ↓tApp_e, cxOf_K, upd_same, upd_upd, List.getElem?_cons_zero, List.getElem?_cons_succ, List.set_cons_zero, List.set_cons_succ, List.map_cons, List.map_nil, List.append_nil, List.cons_append, List.nil_append, List.length_cons, List.length_nil, List.replicate_succ, List.replicate_zero, Nat.reduceAdd, Nat.reduceSub, Nat.reduceLT, V.int.injEq, V.bl.injEq, V.str.injEq, V.ref.injEq, decide_eq_true_eq, Bool.not_true, Bool.not_false, Bool.false_eq_true, Bool.not_eq_true', decide_eq_false_iff_not, ↓reduceIte, true_and, and_true, and_self, decide_true, decide_false, not_false_eq_true, not_true_eq_false, eq_self, onN_s, int1_i, int1_b, one_i, two_i, ↓rIxA_e, ↓gSub_e, ↓rSetL_e, at3_0, at3_1, at3_2, ix3_0, ix3_1, ix3_2, onNum_i, onNum_b, ↓rIntA_e, ↓rMinA_e, ↓rMaxA_e, ↓rAbsA_e, ↓rLenL_e, ↓rSlLst_e, onTu_s, ↓gTupA_e, ↓rIxTu_e, ↓tRg1_e, ↓tLstRg_e, onRp_n, onRp_b, onRp_i, ↓rReprA_e, ↓rIsN_e, reduceCtorEq]
        exact ⟨_, _, _, _, _, _, rfl, n3⟩
    · rintro σ H1 ⟨w1, w2, w3, w4, w5, w6, rfl, n1⟩
      simp only [onI_i, onB_b, onR_r, onT_t, onO_s, onS_s, onV_s, ↓tVar_e, ↓tC_e, ↓tNil_e, ↓tCons_e, ↓tCB_e, ↓tOp_e, ↓rI_e, ↓rI0_e, ↓tUn_e, ↓rU_e, ↓rEq_e, ↓rNe_e, scal_ii, scal_ss, scal_bb, ↓tAndV_e, ↓tOrV_e, ↓tNotV_e, ↓tAnd_e, ↓tOr_e, ↓tNot_e, ↓tTest_e, ↓tB_e, ↓tIf_e, ↓tChain_e, ↓tSeq_e, ↓tNext_e, ↓tBreak_e, ↓tCont_e, ↓tDrop_e, ↓tRet_e, ↓tRetN_e, ↓tIfS_e, ↓tAsg_e, ↓gName_e, onL2_e, ↓tPar_e2, onCons_e, ↓gNil_e, ↓gCons_e, ↓tTup_e, ↓tTupF_e, ↓tLst_e, ↓tFld_e, ↓sFld_e, ↓sFldAug_e, ↓rAdd_e, ↓rSub_e, ↓tCall_e, ↓tProp_e, ↓tRaiseAsk_e, ↓getSp_e, ↓tMeth_e, ↓tMake_e, ↓rRep_e, ↓rCat_e, ↓tSl_e, ↓tNoPart_e, ↓tPart_e, ↓tYes_e, ↓tFor_e, ↓iTup_e, ↓iList_e, onL1_e, ↓iRng1_e, ↓iRng2_e, ↓iEnT_e, ↓tLc_e, ↓start_e, onD_s, onLst_s, ↓tApp_e, cxOf_K, upd_same, upd_upd, List.getElem?_cons_zero, List.getElem?_cons_succ, List.set_cons_zero, List.set_cons_succ, List.map_cons, List.map_nil, List.append_nil, List.cons_append, List.nil_append, List.length_cons, List.length_nil, List.replicate_succ, List.replicate_zero, Nat.reduceAdd, Nat.reduceSub, Nat.reduceLT, V.int.injEq, V.bl.injEq, V.str.injEq, V.ref.injEq, decide_eq_true_eq, Bool.not_true, Bool.not_false, Bool.false_eq_true, Bool.not_eq_true', decide_eq_false_iff_not, ↓reduceIte, true_and, and_true, and_self, decide_true, decide_false, not_false_eq_true, not_true_eq_false, eq_self, onN_s, int1_i, int1_b, one_i, two_i, ↓rIxA_e, ↓gSub_e, ↓rSetL_e, at3_0, at3_1, at3_2, ix3_0, ix3_1, ix3_2, onNum_i, onNum_b, ↓rIntA_e, ↓rMinA_e, ↓rMaxA_e, ↓rAbsA_e, ↓rLenL_e, ↓rSlLst_e, onTu_s, ↓gTupA_e, ↓rIxTu_e, ↓tRg1_e, ↓tLstRg_e, onRp_n, onRp_b, onRp_i, ↓rReprA_e, ↓rIsN_e, reduceCtorEq]
      refine ⟨_, _, _, rfl, .inl ⟨_, rfl⟩, .inl ⟨_, rfl⟩, .inl ⟨_, rfl⟩, fun m' p' f' e1 e2 e3 _ => ?_, fun v e => by rw [bad_ok (by omega) (by omega) (by omega) (by omega) (by omega) (by omega)] at e; cases e⟩
      cases e1
      cases e2
      cases e3
      have ed : due 1000 1 1000 = 2000 := by decide +kernel
      simp only [onI_i, onB_b, onR_r, onT_t, onO_s, onS_s, onV_s, ↓tVar_e, ↓tC_e, ↓tNil_e, ↓tCons_e, ↓tCB_e, ↓tOp_e, ↓rI_e, ↓rI0_e, ↓tUn_e, ↓rU_e, ↓rEq_e, ↓rNe_e, scal_ii, scal_ss, scal_bb, ↓tAndV_e, ↓tOrV_e, ↓tNotV_e, ↓tAnd_e, ↓tOr_e, ↓tNot_e, ↓tTest_e, ↓tB_e, ↓tIf_e, ↓tChain_e, ↓tSeq_e, ↓tNext_e, ↓tBreak_e, ↓tCont_e, ↓tDrop_e, ↓tRet_e, ↓tRetN_e, ↓tIfS_e, ↓tAsg_e, ↓gName_e, onL2_e, ↓tPar_e2, onCons_e, ↓gNil_e, ↓gCons_e, ↓tTup_e, ↓tTupF_e, ↓tLst_e, ↓tFld_e, ↓sFld_e, ↓sFldAug_e, ↓rAdd_e, ↓rSub_e, ↓tCall_e, ↓tProp_e, ↓tRaiseAsk_e, ↓getSp_e, ↓tMeth_e, ↓tMake_e, ↓rRep_e, ↓rCat_e, ↓tSl_e, ↓tNoPart_e, ↓tPart_e, ↓tYes_e, ↓tFor_e, ↓iTup_e, ↓iList_e, onL1_e, ↓iRng1_e, ↓iRng2_e, ↓iEnT_e, ↓tLc_e, ↓start_e, onD_s, onLst_s, ↓tApp_e, cxOf_K, upd_same, upd_upd, List.getElem?_cons_zero, List.getElem?_cons_succ, List.set_cons_zero, List.set_cons_succ, List.map_cons, List.map_nil, List.append_nil, List.cons_append, List.nil_append, List.length_cons, List.length_nil, List.replicate_succ, List.replicate_zero, Nat.reduceAdd, Nat.reduceSub, Nat.reduceLT, V.int.injEq, V.bl.injEq, V.str.injEq, V.ref.injEq, decide_eq_true_eq, Bool.not_true, Bool.not_false, Bool.false_eq_true, Bool.not_eq_true', decide_eq_false_iff_not, ↓reduceIte, true_and, and_true, and_self, decide_true, decide_false, not_false_eq_true, not_true_eq_false, eq_self, onN_s, int1_i, int1_b, one_i, two_i, ↓rIxA_e, ↓gSub_e, ↓rSetL_e, at3_0, at3_1, at3_2, ix3_0, ix3_1, ix3_2, onNum_i, onNum_b, ↓rIntA_e, ↓rMinA_e, ↓rMaxA_e, ↓rAbsA_e, ↓rLenL_e, ↓rSlLst_e, onTu_s, ↓gTupA_e, ↓rIxTu_e, ↓tRg1_e, ↓tLstRg_e, onRp_n, onRp_b, onRp_i, ↓rReprA_e, ↓rIsN_e, reduceCtorEq, ed]
      exact k H1 (nH.trans0 n1)
end
end K49
set_option Elab.async false
set_option linter.all false
set_option maxRecDepth 100000
set_option maxHeartbeats 4000000
/-! k49: the law. -/
namespace K49
open PySem PySem.Spec PyProof.Rows L2
section
variable {P : Program} {w : World} {K : PySem.W.Frag} {mg : Str → Option Value} {base : Heap} {cP AE BN BR : Addr} {B : Tb} {c0 P0 c1 P1 c2 P2 : Addr}
def spRight (B : Tb) : Sp := fun vs H Q _ => ∃ q, vs = [.ref q] ∧ PotAt H q 0 ∧ Wl B H ∧ ∀ H', Nx B [q] H H' → Q (.bl true) H'
theorem sc38 : FnScope ["pot", "most", "per", "row", "caught", "back"] ["pot"] (defScope (top 38)) := ⟨rfl, rfl, rfl, by decide +kernel, rfl, by decide +kernel, by decide +kernel⟩
theorem cat_any {K : PySem.W.Frag} {B : Tb} {H : Hp} {Q : VK} {r pt : Addr} {xs : List V} {y : V} (wl : Wl B H) (hr : SqT K H r xs) (ht : H pt = some (.tup [y])) (hz : xs.length ≤ 4000) (k : ∀ a H', Nx B [] H H' → H' a = some (.tup (xs ++ [y])) → Q (.ref a) H') : rCatA K (.ref r) (.ref pt) H Q :=
  ⟨r, pt, xs, [y], rfl, rfl, hr, SqT.of ht, (by rw [sizeLine_eq]; simp only [List.length_cons, List.length_nil]; omega), fun e => k pt H (Nx.refl wl) (by rw [e]; exact ht), (by intro _ e; cases e), fun _ _ p hp => k p _ ((Nx.refl wl).new hp) upd_same⟩
theorem bad_word {ws : List Bool} {y : V} (h : isWd y = false) : okR (some (ws.map wv ++ [y])) = false := by
  show (decide _ && (ws.map wv ++ [y]).all isWd) = false
  rw [List.all_append, List.all_cons, h, Bool.false_and, Bool.and_false, Bool.and_false]
theorem bad_long {xs : List V} (h : 4000 < xs.length) : okR (some xs) = false := by
  show (decide (xs.length ≤ 4000) && _) = false
  rw [decide_eq_false (by omega), Bool.false_and]
theorem bad_not {xs : List V} (h : okR (some xs) = false) {ws : List Bool} (e : xs = ws.map wv) (hl : ws.length ≤ 4000) : False := by
  rw [e, okR_wv hl] at h
  cases h
theorem kind_row {ws : List Bool} {y : Str} (h : PyData.strOk y = true) : ∀ x ∈ ws.map wv ++ [.str y], kindV x = 2 := fun x hx => by
  rcases List.mem_append.mp hx with h1 | h1
  · obtain ⟨b, _, rfl⟩ := List.mem_map.mp h1
    cases b <;> decide +kernel
  · rw [List.mem_singleton.mp h1, kind_str, if_pos h]
theorem si_row {ws : List Bool} {y : Str} : ∀ x ∈ ws.map wv ++ [.str y], GxT.StrInt x := fun x hx => by
  rcases List.mem_append.mp hx with h1 | h1
  · exact strInt_wv x h1
  · exact .inl ⟨_, List.mem_singleton.mp h1⟩
theorem ok_right (T : Ty P K mg base cP AE BN BR B c0 P0 c1 P1 c2 P2) : Dfn P w K mg base "_law_right" 14 ["pot"] (spRight B) := by
  have TT := T.x.t
  have D1 : Dfn P w K mg base "_law_take" 1 _ _ := ok_take T
  have D2 : Dfn P w K mg base "_law_of" 3 _ _ := ok_of T
  have D3 : Dfn P w K mg base "_law_row" 5 _ _ := ok_rowl T
  have D4 : Dfn P w K mg base "_law_is_row_right" 12 _ _ := ok_rr T
  have D5 : Dfn P w K mg base "_law_is_least_right" 12 _ _ := ok_lr T
  have D6 : Dfn P w K mg base "_law_is_most_right" 12 _ _ := ok_mr T
  have D7 : Dfn P w K mg base "let" 8 _ _ := ok_let T.x
  have D8 : Dfn P w K mg base "least_most" 10 _ _ := ok_least T.x
  have D9 : Dfn P w K mg base "_law_are_bounds_right" 12 _ _ := ok_br T
  refine dfn_mk T.d38 sc38 (fun _ _ _ _ _ _ us hl => match us, hl with | [_], _ => rfl) (fun vs H Q E h => ?_) (fun fa cdv A outer s H vs Q E hr hc h => ?_)
  · obtain ⟨q, rfl, _⟩ := h
    rfl
  · obtain ⟨q, rfl, hp, wl, k⟩ := h
    subst hc
    have r12 := hr.mono (show 12 ≤ 13 by decide)
    have r10 := hr.mono (show 10 ≤ 13 by decide)
    have r5 := hr.mono (show 5 ≤ 13 by decide)
    have r3 := hr.mono (show 3 ≤ 13 by decide)
    have r1 := hr.mono (show 1 ≤ 13 by decide)
    refine ⟨_, pss_cons (ps_set (i := 1) sc38.nd rfl (Or.inr rfl) (pe_dfn D2 r3 rfl passL (pa_cons (pv 0) (pa_cons (pe_lst (pa_cons pe_int (pa_cons pe_int (pa_cons (pe_dfn D1 r1 rfl passL (pa_cons (pv 0) (pa_cons pe_int pa_nil))) (pa_cons (pe_dfn D1 r1 rfl passL (pa_cons (pv 0) (pa_cons pe_int pa_nil))) pa_nil))))) pa_nil))))
      (pss_cons (ps_set (i := 2) sc38.nd rfl (Or.inr rfl) (pe_op op_add pe_int (pe_dfn D2 r3 rfl passL (pa_cons (pv 0) (pa_cons (pe_lst (pa_cons pe_int (pa_cons (pe_dfn D1 r1 rfl passL (pa_cons (pv 0) (pa_cons pe_int pa_nil))) (pa_cons (pe_dfn D1 r1 rfl passL (pa_cons (pv 0) (pa_cons pe_int pa_nil))) pa_nil)))) pa_nil)))))
      (pss_cons (ps_set (i := 3) sc38.nd rfl (Or.inr rfl) (pe_dfn D3 r5 rfl passL (pa_cons (pv 0) (pa_cons (pe_dfn D2 r3 rfl passL (pa_cons (pv 0) (pa_cons (pe_lst (pa_cons pe_int (pa_cons pe_int (pa_cons pe_int pa_nil)))) pa_nil))) pa_nil))))
      (pss_cons (ps_if (PW.pt (pw_or (pt_not (pt_val (pe_dfn D4 r12 rfl passL (pa_cons (pv 1) (pa_cons (pv 2) (pa_cons (pv 3) pa_nil)))))) (pw_or1 (pt_not (pt_val (pe_dfn D5 r12 rfl passL (pa_cons (pv 2) (pa_cons (pv 3) pa_nil)))))))) (pss_one (ps_ret pe_bl)) pss_nil)
      (pss_cons (ps_if (pt_not (pt_val (pe_dfn D6 r12 rfl passL (pa_cons (pv 0) (pa_cons (pv 1) (pa_cons (pv 2) (pa_cons (pe_dfn D2 r3 rfl passL (pa_cons (pv 0) (pa_cons (pe_lst (pa_cons pe_int (pa_cons (pe_dfn D1 r1 rfl passL (pa_cons (pv 0) (pa_cons pe_int pa_nil))) (pa_cons (pe_dfn D1 r1 rfl passL (pa_cons (pv 0) (pa_cons pe_int pa_nil))) pa_nil)))) pa_nil))) pa_nil))))))) (pss_one (ps_ret pe_bl)) pss_nil)
      (pss_cons (ps_asg (pe_heard (AE := AE) (B := B) (k := 8) T.d31 TT.ae rfl T.tab2 rfl T.l2 T.u2 r10 (by exact LamX.lamS_by (sc := defScope (top 38)) (by decide +kernel)) (by rfl) (by intro q cl pm cv ctv; rfl) (fun A outer s H E f c' hr' => pe_dfn D7 hr' rfl passLam (pa_cons (pv 1) (pa_cons (pv 2) (pa_cons (pe_op (op_catA : OpR _ _ (rCatA K)) (pv 3) (pe_tup (pa_cons pe_str pa_nil))) pa_nil)))))
        (pg_tupA 2 rfl (pgs_cons (pg_name (i := 4) sc38.nd rfl (Or.inl rfl)) (pgs_cons (pg_name (i := 5) sc38.nd rfl (Or.inl rfl)) pgs_nil))))
      (pss_cons (ps_if (PW.pt (pw_or (pt_not (pt_val (pe_callB call_isV rfl TT.bI boot_isinstance (pa_cons (pv 4) (pa_cons (pe_glob (v := .ref BR) rfl TT.br.gC rfl) pa_nil)))))
        (pw_or1 (pt_cmpR (op_neT hr.units) (pe_exV (pv 4)) (pe_op (op_catA : OpR _ _ (rCatA K)) (pv 3) (pe_tup (pa_cons pe_str pa_nil))) (nomark _))))) (pss_one (ps_ret pe_bl)) pss_nil)
      (pss_cons (ps_asg (pe_heard (AE := AE) (B := B) (k := 10) T.d31 TT.ae rfl T.tab2 rfl T.l2 T.u2 r12 (by exact LamX.lamS_by (sc := defScope (top 38)) (by decide +kernel)) (by rfl) (by intro q cl pm cv ctv; rfl) (fun A outer s H E f c' hr' => pe_dfn D8 hr' rfl passLam (pa_cons (pv 2) (pa_cons (pe_op op_repF (pe_tupF (pa_cons pe_str pa_nil)) pe_int) pa_nil))))
        (pg_tupA 2 rfl (pgs_cons (pg_name (i := 4) sc38.nd rfl (Or.inl rfl)) (pgs_cons (pg_name (i := 5) sc38.nd rfl (Or.inl rfl)) pgs_nil))))
      (pss_one (ps_ret (pe_and (pe_callB call_isV rfl TT.bI boot_isinstance (pa_cons (pv 4) (pa_cons (pe_glob (v := .ref BR) rfl TT.br.gC rfl) pa_nil))) (pe_one (pe_dfn0 D9 r12 rfl passL)))))))))))), ?_⟩
    simp only [onI_i, onB_b, onR_r, onT_t, onO_s, onS_s, onV_s, ↓tVar_e, ↓tC_e, ↓tNil_e, ↓tCons_e, ↓tCB_e, ↓tOp_e, ↓rI_e, ↓rI0_e, ↓tUn_e, ↓rU_e, ↓rEq_e, ↓rNe_e, scal_ii, scal_ss, scal_bb, ↓tAndV_e, ↓tOrV_e, ↓tNotV_e, ↓tAnd_e, ↓tOr_e, ↓tNot_e, ↓tTest_e, ↓tB_e, ↓tIf_e, ↓tChain_e, ↓tSeq_e, ↓tNext_e, ↓tBreak_e, ↓tCont_e, ↓tDrop_e, ↓tRet_e, ↓tRetN_e, ↓tIfS_e, ↓tAsg_e, ↓gName_e, onL2_e, ↓tPar_e2, onCons_e, ↓gNil_e, ↓gCons_e, ↓tTup_e, ↓tTupF_e, ↓tLst_e, ↓tFld_e, ↓sFld_e, ↓sFldAug_e, ↓rAdd_e, ↓rSub_e, ↓tCall_e, ↓tProp_e, ↓tRaiseAsk_e, ↓getSp_e, ↓tMeth_e, ↓tMake_e, ↓rRep_e, ↓rCat_e, ↓tSl_e, ↓tNoPart_e, ↓tPart_e, ↓tYes_e, ↓tFor_e, ↓iTup_e, ↓iList_e, onL1_e, ↓iRng1_e, ↓iRng2_e, ↓iEnT_e, ↓tLc_e, ↓start_e, onD_s, onLst_s, ↓tApp_e, cxOf_K, upd_same, upd_upd, List.getElem?_cons_zero, List.getElem?_cons_succ, List.set_cons_zero, List.set_cons_succ, List.map_cons, List.map_nil, List.append_nil, List.cons_append, List.nil_append, List.length_cons, List.length_nil, List.replicate_succ, List.replicate_zero, Nat.reduceAdd, Nat.reduceSub, Nat.reduceLT, V.int.injEq, V.bl.injEq, V.str.injEq, V.ref.injEq, decide_eq_true_eq, Bool.not_true, Bool.not_false, Bool.false_eq_true, Bool.not_eq_true', decide_eq_false_iff_not, ↓reduceIte, true_and, and_true, and_self, decide_true, decide_false, not_false_eq_true, not_true_eq_false, eq_self, onN_s, int1_i, int1_b, one_i, two_i, ↓rIxA_e, ↓gSub_e, ↓rSetL_e, at3_0, at3_1, at3_2, ix3_0, ix3_1, ix3_2, onNum_i, onNum_b, ↓rIntA_e, ↓rMinA_e, ↓rMaxA_e, ↓rAbsA_e, ↓rLenL_e, ↓rSlLst_e, onTu_s, ↓gTupA_e, ↓rIxTu_e, ↓tRg1_e, ↓tLstRg_e, onRp_n, onRp_b, onRp_i, ↓rReprA_e, ↓rIsN_e, reduceCtorEq]
    refine ⟨q, 9, 0, rfl, hp, by omega, by omega, by omega, wl, fun H1 x1 n1 hp1 y0 y1 => ?_⟩
    try simp only [onI_i, onB_b, onR_r, onT_t, onO_s, onS_s, onV_s, ↓tVar_e, ↓tC_e, ↓tNil_e, ↓tCons_e, ↓tCB_e, ↓tOp_e, ↓rI_e, ↓rI0_e, ↓tUn_e, ↓rU_e, ↓rEq_e, ↓rNe_e, scal_ii, scal_ss, scal_bb, ↓tAndV_e, ↓tOrV_e, ↓tNotV_e, ↓tAnd_e, ↓tOr_e, ↓tNot_e, ↓tTest_e, ↓tB_e, ↓tIf_e, ↓tChain_e, ↓tSeq_e, ↓tNext_e, ↓tBreak_e, ↓tCont_e, ↓tDrop_e, ↓tRet_e, ↓tRetN_e, ↓tIfS_e, ↓tAsg_e, ↓gName_e, onL2_e, ↓tPar_e2, onCons_e, ↓gNil_e, ↓gCons_e, ↓tTup_e, ↓tTupF_e, ↓tLst_e, ↓tFld_e, ↓sFld_e, ↓sFldAug_e, ↓rAdd_e, ↓rSub_e, ↓tCall_e, ↓tProp_e, ↓tRaiseAsk_e, ↓getSp_e, ↓tMeth_e, ↓tMake_e, ↓rRep_e, ↓rCat_e, ↓tSl_e, ↓tNoPart_e, ↓tPart_e, ↓tYes_e, ↓tFor_e, ↓iTup_e, ↓iList_e, onL1_e, ↓iRng1_e, ↓iRng2_e, ↓iEnT_e, ↓tLc_e, ↓start_e, onD_s, onLst_s, ↓tApp_e, cxOf_K, upd_same, upd_upd, List.getElem?_cons_zero, List.getElem?_cons_succ, List.set_cons_zero, List.set_cons_succ, List.map_cons, List.map_nil, List.append_nil, List.cons_append, List.nil_append, List.length_cons, List.length_nil, List.replicate_succ, List.replicate_zero, Nat.reduceAdd, Nat.reduceSub, Nat.reduceLT, V.int.injEq, V.bl.injEq, V.str.injEq, V.ref.injEq, decide_eq_true_eq, Bool.not_true, Bool.not_false, Bool.false_eq_true, Bool.not_eq_true', decide_eq_false_iff_not, ↓reduceIte, true_and, and_true, and_self, decide_true, decide_false, not_false_eq_true, not_true_eq_false, eq_self, onN_s, int1_i, int1_b, one_i, two_i, ↓rIxA_e, ↓gSub_e, ↓rSetL_e, at3_0, at3_1, at3_2, ix3_0, ix3_1, ix3_2, onNum_i, onNum_b, ↓rIntA_e, ↓rMinA_e, ↓rMaxA_e, ↓rAbsA_e, ↓rLenL_e, ↓rSlLst_e, onTu_s, ↓gTupA_e, ↓rIxTu_e, ↓tRg1_e, ↓tLstRg_e, onRp_n, onRp_b, onRp_i, ↓rReprA_e, ↓rIsN_e, reduceCtorEq]
    refine ⟨q, 1001, _, rfl, hp1, by omega, by omega, by omega, n1.wl, fun H2 x2 n2 hp2 y2 y3 => ?_⟩
    have n12 := n1.trans n2 fun b hb => .inl hb
    try simp only [onI_i, onB_b, onR_r, onT_t, onO_s, onS_s, onV_s, ↓tVar_e, ↓tC_e, ↓tNil_e, ↓tCons_e, ↓tCB_e, ↓tOp_e, ↓rI_e, ↓rI0_e, ↓tUn_e, ↓rU_e, ↓rEq_e, ↓rNe_e, scal_ii, scal_ss, scal_bb, ↓tAndV_e, ↓tOrV_e, ↓tNotV_e, ↓tAnd_e, ↓tOr_e, ↓tNot_e, ↓tTest_e, ↓tB_e, ↓tIf_e, ↓tChain_e, ↓tSeq_e, ↓tNext_e, ↓tBreak_e, ↓tCont_e, ↓tDrop_e, ↓tRet_e, ↓tRetN_e, ↓tIfS_e, ↓tAsg_e, ↓gName_e, onL2_e, ↓tPar_e2, onCons_e, ↓gNil_e, ↓gCons_e, ↓tTup_e, ↓tTupF_e, ↓tLst_e, ↓tFld_e, ↓sFld_e, ↓sFldAug_e, ↓rAdd_e, ↓rSub_e, ↓tCall_e, ↓tProp_e, ↓tRaiseAsk_e, ↓getSp_e, ↓tMeth_e, ↓tMake_e, ↓rRep_e, ↓rCat_e, ↓tSl_e, ↓tNoPart_e, ↓tPart_e, ↓tYes_e, ↓tFor_e, ↓iTup_e, ↓iList_e, onL1_e, ↓iRng1_e, ↓iRng2_e, ↓iEnT_e, ↓tLc_e, ↓start_e, onD_s, onLst_s, ↓tApp_e, cxOf_K, upd_same, upd_upd, List.getElem?_cons_zero, List.getElem?_cons_succ, List.set_cons_zero, List.set_cons_succ, List.map_cons, List.map_nil, List.append_nil, List.cons_append, List.nil_append, List.length_cons, List.length_nil, List.replicate_succ, List.replicate_zero, Nat.reduceAdd, Nat.reduceSub, Nat.reduceLT, V.int.injEq, V.bl.injEq, V.str.injEq, V.ref.injEq, decide_eq_true_eq, Bool.not_true, Bool.not_false, Bool.false_eq_true, Bool.not_eq_true', decide_eq_false_iff_not, ↓reduceIte, true_and, and_true, and_self, decide_true, decide_false, not_false_eq_true, not_true_eq_false, eq_self, onN_s, int1_i, int1_b, one_i, two_i, ↓rIxA_e, ↓gSub_e, ↓rSetL_e, at3_0, at3_1, at3_2, ix3_0, ix3_1, ix3_2, onNum_i, onNum_b, ↓rIntA_e, ↓rMinA_e, ↓rMaxA_e, ↓rAbsA_e, ↓rLenL_e, ↓rSlLst_e, onTu_s, ↓gTupA_e, ↓rIxTu_e, ↓tRg1_e, ↓tLstRg_e, onRp_n, onRp_b, onRp_i, ↓rReprA_e, ↓rIsN_e, reduceCtorEq]
    refine ⟨by decide, fun l1 hl1 => ⟨q, l1, _, _, rfl, hp2.new hl1, by omega, upd_same, hp2.ne hl1, by simp, by simp, (n12.new hl1).wl, fun H3 v n3 hp3 hv => ?_⟩⟩
    obtain ⟨m, rfl, m0, m1⟩ : ∃ m : Int, v = .int m ∧ 0 ≤ m ∧ m ≤ 1000 := by
      simp only [List.mem_cons, List.not_mem_nil, or_false] at hv
      rcases hv with e | e | e | e <;> exact ⟨_, e, by omega, by omega⟩
    have n13 := (n12.new hl1).trans n3 fun b hb => .inl hb
    try simp only [onI_i, onB_b, onR_r, onT_t, onO_s, onS_s, onV_s, ↓tVar_e, ↓tC_e, ↓tNil_e, ↓tCons_e, ↓tCB_e, ↓tOp_e, ↓rI_e, ↓rI0_e, ↓tUn_e, ↓rU_e, ↓rEq_e, ↓rNe_e, scal_ii, scal_ss, scal_bb, ↓tAndV_e, ↓tOrV_e, ↓tNotV_e, ↓tAnd_e, ↓tOr_e, ↓tNot_e, ↓tTest_e, ↓tB_e, ↓tIf_e, ↓tChain_e, ↓tSeq_e, ↓tNext_e, ↓tBreak_e, ↓tCont_e, ↓tDrop_e, ↓tRet_e, ↓tRetN_e, ↓tIfS_e, ↓tAsg_e, ↓gName_e, onL2_e, ↓tPar_e2, onCons_e, ↓gNil_e, ↓gCons_e, ↓tTup_e, ↓tTupF_e, ↓tLst_e, ↓tFld_e, ↓sFld_e, ↓sFldAug_e, ↓rAdd_e, ↓rSub_e, ↓tCall_e, ↓tProp_e, ↓tRaiseAsk_e, ↓getSp_e, ↓tMeth_e, ↓tMake_e, ↓rRep_e, ↓rCat_e, ↓tSl_e, ↓tNoPart_e, ↓tPart_e, ↓tYes_e, ↓tFor_e, ↓iTup_e, ↓iList_e, onL1_e, ↓iRng1_e, ↓iRng2_e, ↓iEnT_e, ↓tLc_e, ↓start_e, onD_s, onLst_s, ↓tApp_e, cxOf_K, upd_same, upd_upd, List.getElem?_cons_zero, List.getElem?_cons_succ, List.set_cons_zero, List.set_cons_succ, List.map_cons, List.map_nil, List.append_nil, List.cons_append, List.nil_append, List.length_cons, List.length_nil, List.replicate_succ, List.replicate_zero, Nat.reduceAdd, Nat.reduceSub, Nat.reduceLT, V.int.injEq, V.bl.injEq, V.str.injEq, V.ref.injEq, decide_eq_true_eq, Bool.not_true, Bool.not_false, Bool.false_eq_true, Bool.not_eq_true', decide_eq_false_iff_not, ↓reduceIte, true_and, and_true, and_self, decide_true, decide_false, not_false_eq_true, not_true_eq_false, eq_self, onN_s, int1_i, int1_b, one_i, two_i, ↓rIxA_e, ↓gSub_e, ↓rSetL_e, at3_0, at3_1, at3_2, ix3_0, ix3_1, ix3_2, onNum_i, onNum_b, ↓rIntA_e, ↓rMinA_e, ↓rMaxA_e, ↓rAbsA_e, ↓rLenL_e, ↓rSlLst_e, onTu_s, ↓gTupA_e, ↓rIxTu_e, ↓tRg1_e, ↓tLstRg_e, onRp_n, onRp_b, onRp_i, ↓rReprA_e, ↓rIsN_e, reduceCtorEq]
    refine ⟨q, 6, _, rfl, hp3, by omega, by omega, by omega, n3.wl, fun H4 x4 n4 hp4 y4 y5 => ?_⟩
    have n14 := n13.trans n4 fun b hb => .inl hb
    try simp only [onI_i, onB_b, onR_r, onT_t, onO_s, onS_s, onV_s, ↓tVar_e, ↓tC_e, ↓tNil_e, ↓tCons_e, ↓tCB_e, ↓tOp_e, ↓rI_e, ↓rI0_e, ↓tUn_e, ↓rU_e, ↓rEq_e, ↓rNe_e, scal_ii, scal_ss, scal_bb, ↓tAndV_e, ↓tOrV_e, ↓tNotV_e, ↓tAnd_e, ↓tOr_e, ↓tNot_e, ↓tTest_e, ↓tB_e, ↓tIf_e, ↓tChain_e, ↓tSeq_e, ↓tNext_e, ↓tBreak_e, ↓tCont_e, ↓tDrop_e, ↓tRet_e, ↓tRetN_e, ↓tIfS_e, ↓tAsg_e, ↓gName_e, onL2_e, ↓tPar_e2, onCons_e, ↓gNil_e, ↓gCons_e, ↓tTup_e, ↓tTupF_e, ↓tLst_e, ↓tFld_e, ↓sFld_e, ↓sFldAug_e, ↓rAdd_e, ↓rSub_e, ↓tCall_e, ↓tProp_e, ↓tRaiseAsk_e, ↓getSp_e, ↓tMeth_e, ↓tMake_e, ↓rRep_e, ↓rCat_e, ↓tSl_e, ↓tNoPart_e, ↓tPart_e, ↓tYes_e, ↓tFor_e, ↓iTup_e, ↓iList_e, onL1_e, ↓iRng1_e, ↓iRng2_e, ↓iEnT_e, ↓tLc_e, ↓start_e, onD_s, onLst_s, ↓tApp_e, cxOf_K, upd_same, upd_upd, List.getElem?_cons_zero, List.getElem?_cons_succ, List.set_cons_zero, List.set_cons_succ, List.map_cons, List.map_nil, List.append_nil, List.cons_append, List.nil_append, List.length_cons, List.length_nil, List.replicate_succ, List.replicate_zero, Nat.reduceAdd, Nat.reduceSub, Nat.reduceLT, V.int.injEq, V.bl.injEq, V.str.injEq, V.ref.injEq, decide_eq_true_eq, Bool.not_true, Bool.not_false, Bool.false_eq_true, Bool.not_eq_true', decide_eq_false_iff_not, ↓reduceIte, true_and, and_true, and_self, decide_true, decide_false, not_false_eq_true, not_true_eq_false, eq_self, onN_s, int1_i, int1_b, one_i, two_i, ↓rIxA_e, ↓gSub_e, ↓rSetL_e, at3_0, at3_1, at3_2, ix3_0, ix3_1, ix3_2, onNum_i, onNum_b, ↓rIntA_e, ↓rMinA_e, ↓rMaxA_e, ↓rAbsA_e, ↓rLenL_e, ↓rSlLst_e, onTu_s, ↓gTupA_e, ↓rIxTu_e, ↓tRg1_e, ↓tLstRg_e, onRp_n, onRp_b, onRp_i, ↓rReprA_e, ↓rIsN_e, reduceCtorEq]
    refine ⟨q, 1000, _, rfl, hp4, by omega, by omega, by omega, n4.wl, fun H5 x5 n5 hp5 y6 y7 => ?_⟩
    have n15 := n14.trans n5 fun b hb => .inl hb
    try simp only [onI_i, onB_b, onR_r, onT_t, onO_s, onS_s, onV_s, ↓tVar_e, ↓tC_e, ↓tNil_e, ↓tCons_e, ↓tCB_e, ↓tOp_e, ↓rI_e, ↓rI0_e, ↓tUn_e, ↓rU_e, ↓rEq_e, ↓rNe_e, scal_ii, scal_ss, scal_bb, ↓tAndV_e, ↓tOrV_e, ↓tNotV_e, ↓tAnd_e, ↓tOr_e, ↓tNot_e, ↓tTest_e, ↓tB_e, ↓tIf_e, ↓tChain_e, ↓tSeq_e, ↓tNext_e, ↓tBreak_e, ↓tCont_e, ↓tDrop_e, ↓tRet_e, ↓tRetN_e, ↓tIfS_e, ↓tAsg_e, ↓gName_e, onL2_e, ↓tPar_e2, onCons_e, ↓gNil_e, ↓gCons_e, ↓tTup_e, ↓tTupF_e, ↓tLst_e, ↓tFld_e, ↓sFld_e, ↓sFldAug_e, ↓rAdd_e, ↓rSub_e, ↓tCall_e, ↓tProp_e, ↓tRaiseAsk_e, ↓getSp_e, ↓tMeth_e, ↓tMake_e, ↓rRep_e, ↓rCat_e, ↓tSl_e, ↓tNoPart_e, ↓tPart_e, ↓tYes_e, ↓tFor_e, ↓iTup_e, ↓iList_e, onL1_e, ↓iRng1_e, ↓iRng2_e, ↓iEnT_e, ↓tLc_e, ↓start_e, onD_s, onLst_s, ↓tApp_e, cxOf_K, upd_same, upd_upd, List.getElem?_cons_zero, List.getElem?_cons_succ, List.set_cons_zero, List.set_cons_succ, List.map_cons, List.map_nil, List.append_nil, List.cons_append, List.nil_append, List.length_cons, List.length_nil, List.replicate_succ, List.replicate_zero, Nat.reduceAdd, Nat.reduceSub, Nat.reduceLT, V.int.injEq, V.bl.injEq, V.str.injEq, V.ref.injEq, decide_eq_true_eq, Bool.not_true, Bool.not_false, Bool.false_eq_true, Bool.not_eq_true', decide_eq_false_iff_not, ↓reduceIte, true_and, and_true, and_self, decide_true, decide_false, not_false_eq_true, not_true_eq_false, eq_self, onN_s, int1_i, int1_b, one_i, two_i, ↓rIxA_e, ↓gSub_e, ↓rSetL_e, at3_0, at3_1, at3_2, ix3_0, ix3_1, ix3_2, onNum_i, onNum_b, ↓rIntA_e, ↓rMinA_e, ↓rMaxA_e, ↓rAbsA_e, ↓rLenL_e, ↓rSlLst_e, onTu_s, ↓gTupA_e, ↓rIxTu_e, ↓tRg1_e, ↓tLstRg_e, onRp_n, onRp_b, onRp_i, ↓rReprA_e, ↓rIsN_e, reduceCtorEq]
    refine ⟨by decide, fun l2 hl2 => ⟨q, l2, _, _, rfl, hp5.new hl2, by omega, upd_same, hp5.ne hl2, by simp, by simp, (n15.new hl2).wl, fun H6 v n6 hp6 hv => ?_⟩⟩
    obtain ⟨p, rfl, p0, p1⟩ : ∃ p : Int, v = .int p ∧ 1 ≤ 1 + p ∧ 1 + p ≤ 1000 := by
      simp only [List.mem_cons, List.not_mem_nil, or_false] at hv
      rcases hv with e | e | e <;> exact ⟨_, e, by omega, by omega⟩
    have n16 := (n15.new hl2).trans n6 fun b hb => .inl hb
    try simp only [onI_i, onB_b, onR_r, onT_t, onO_s, onS_s, onV_s, ↓tVar_e, ↓tC_e, ↓tNil_e, ↓tCons_e, ↓tCB_e, ↓tOp_e, ↓rI_e, ↓rI0_e, ↓tUn_e, ↓rU_e, ↓rEq_e, ↓rNe_e, scal_ii, scal_ss, scal_bb, ↓tAndV_e, ↓tOrV_e, ↓tNotV_e, ↓tAnd_e, ↓tOr_e, ↓tNot_e, ↓tTest_e, ↓tB_e, ↓tIf_e, ↓tChain_e, ↓tSeq_e, ↓tNext_e, ↓tBreak_e, ↓tCont_e, ↓tDrop_e, ↓tRet_e, ↓tRetN_e, ↓tIfS_e, ↓tAsg_e, ↓gName_e, onL2_e, ↓tPar_e2, onCons_e, ↓gNil_e, ↓gCons_e, ↓tTup_e, ↓tTupF_e, ↓tLst_e, ↓tFld_e, ↓sFld_e, ↓sFldAug_e, ↓rAdd_e, ↓rSub_e, ↓tCall_e, ↓tProp_e, ↓tRaiseAsk_e, ↓getSp_e, ↓tMeth_e, ↓tMake_e, ↓rRep_e, ↓rCat_e, ↓tSl_e, ↓tNoPart_e, ↓tPart_e, ↓tYes_e, ↓tFor_e, ↓iTup_e, ↓iList_e, onL1_e, ↓iRng1_e, ↓iRng2_e, ↓iEnT_e, ↓tLc_e, ↓start_e, onD_s, onLst_s, ↓tApp_e, cxOf_K, upd_same, upd_upd, List.getElem?_cons_zero, List.getElem?_cons_succ, List.set_cons_zero, List.set_cons_succ, List.map_cons, List.map_nil, List.append_nil, List.cons_append, List.nil_append, List.length_cons, List.length_nil, List.replicate_succ, List.replicate_zero, Nat.reduceAdd, Nat.reduceSub, Nat.reduceLT, V.int.injEq, V.bl.injEq, V.str.injEq, V.ref.injEq, decide_eq_true_eq, Bool.not_true, Bool.not_false, Bool.false_eq_true, Bool.not_eq_true', decide_eq_false_iff_not, ↓reduceIte, true_and, and_true, and_self, decide_true, decide_false, not_false_eq_true, not_true_eq_false, eq_self, onN_s, int1_i, int1_b, one_i, two_i, ↓rIxA_e, ↓gSub_e, ↓rSetL_e, at3_0, at3_1, at3_2, ix3_0, ix3_1, ix3_2, onNum_i, onNum_b, ↓rIntA_e, ↓rMinA_e, ↓rMaxA_e, ↓rAbsA_e, ↓rLenL_e, ↓rSlLst_e, onTu_s, ↓gTupA_e, ↓rIxTu_e, ↓tRg1_e, ↓tLstRg_e, onRp_n, onRp_b, onRp_i, ↓rReprA_e, ↓rIsN_e, reduceCtorEq]
    generalize 1 + p = pe at p0 p1 ⊢
    refine ⟨by decide, fun l3 hl3 => ⟨q, l3, _, _, rfl, hp6.new hl3, by omega, upd_same, hp6.ne hl3, by simp, by simp, (n16.new hl3).wl, fun H7 v n7 hp7 hv => ?_⟩⟩
    obtain ⟨u, rfl, u0, u1⟩ : ∃ u : Int, v = .int u ∧ 0 ≤ u ∧ u ≤ 400 := by
      simp only [List.mem_cons, List.not_mem_nil, or_false] at hv
      rcases hv with e | e | e <;> exact ⟨_, e, by omega, by omega⟩
    have n17 := (n16.new hl3).trans n7 fun b hb => .inl hb
    try simp only [onI_i, onB_b, onR_r, onT_t, onO_s, onS_s, onV_s, ↓tVar_e, ↓tC_e, ↓tNil_e, ↓tCons_e, ↓tCB_e, ↓tOp_e, ↓rI_e, ↓rI0_e, ↓tUn_e, ↓rU_e, ↓rEq_e, ↓rNe_e, scal_ii, scal_ss, scal_bb, ↓tAndV_e, ↓tOrV_e, ↓tNotV_e, ↓tAnd_e, ↓tOr_e, ↓tNot_e, ↓tTest_e, ↓tB_e, ↓tIf_e, ↓tChain_e, ↓tSeq_e, ↓tNext_e, ↓tBreak_e, ↓tCont_e, ↓tDrop_e, ↓tRet_e, ↓tRetN_e, ↓tIfS_e, ↓tAsg_e, ↓gName_e, onL2_e, ↓tPar_e2, onCons_e, ↓gNil_e, ↓gCons_e, ↓tTup_e, ↓tTupF_e, ↓tLst_e, ↓tFld_e, ↓sFld_e, ↓sFldAug_e, ↓rAdd_e, ↓rSub_e, ↓tCall_e, ↓tProp_e, ↓tRaiseAsk_e, ↓getSp_e, ↓tMeth_e, ↓tMake_e, ↓rRep_e, ↓rCat_e, ↓tSl_e, ↓tNoPart_e, ↓tPart_e, ↓tYes_e, ↓tFor_e, ↓iTup_e, ↓iList_e, onL1_e, ↓iRng1_e, ↓iRng2_e, ↓iEnT_e, ↓tLc_e, ↓start_e, onD_s, onLst_s, ↓tApp_e, cxOf_K, upd_same, upd_upd, List.getElem?_cons_zero, List.getElem?_cons_succ, List.set_cons_zero, List.set_cons_succ, List.map_cons, List.map_nil, List.append_nil, List.cons_append, List.nil_append, List.length_cons, List.length_nil, List.replicate_succ, List.replicate_zero, Nat.reduceAdd, Nat.reduceSub, Nat.reduceLT, V.int.injEq, V.bl.injEq, V.str.injEq, V.ref.injEq, decide_eq_true_eq, Bool.not_true, Bool.not_false, Bool.false_eq_true, Bool.not_eq_true', decide_eq_false_iff_not, ↓reduceIte, true_and, and_true, and_self, decide_true, decide_false, not_false_eq_true, not_true_eq_false, eq_self, onN_s, int1_i, int1_b, one_i, two_i, ↓rIxA_e, ↓gSub_e, ↓rSetL_e, at3_0, at3_1, at3_2, ix3_0, ix3_1, ix3_2, onNum_i, onNum_b, ↓rIntA_e, ↓rMinA_e, ↓rMaxA_e, ↓rAbsA_e, ↓rLenL_e, ↓rSlLst_e, onTu_s, ↓gTupA_e, ↓rIxTu_e, ↓tRg1_e, ↓tLstRg_e, onRp_n, onRp_b, onRp_i, ↓rReprA_e, ↓rIsN_e, reduceCtorEq]
    refine ⟨q, u, _, rfl, hp7, by omega, u0, u1, n7.wl, fun H8 r ws n8 hp8 hl hr8 => ?_⟩
    have n18 := n17.trans n8 fun b hb => .inl hb
    try simp only [onI_i, onB_b, onR_r, onT_t, onO_s, onS_s, onV_s, ↓tVar_e, ↓tC_e, ↓tNil_e, ↓tCons_e, ↓tCB_e, ↓tOp_e, ↓rI_e, ↓rI0_e, ↓tUn_e, ↓rU_e, ↓rEq_e, ↓rNe_e, scal_ii, scal_ss, scal_bb, ↓tAndV_e, ↓tOrV_e, ↓tNotV_e, ↓tAnd_e, ↓tOr_e, ↓tNot_e, ↓tTest_e, ↓tB_e, ↓tIf_e, ↓tChain_e, ↓tSeq_e, ↓tNext_e, ↓tBreak_e, ↓tCont_e, ↓tDrop_e, ↓tRet_e, ↓tRetN_e, ↓tIfS_e, ↓tAsg_e, ↓gName_e, onL2_e, ↓tPar_e2, onCons_e, ↓gNil_e, ↓gCons_e, ↓tTup_e, ↓tTupF_e, ↓tLst_e, ↓tFld_e, ↓sFld_e, ↓sFldAug_e, ↓rAdd_e, ↓rSub_e, ↓tCall_e, ↓tProp_e, ↓tRaiseAsk_e, ↓getSp_e, ↓tMeth_e, ↓tMake_e, ↓rRep_e, ↓rCat_e, ↓tSl_e, ↓tNoPart_e, ↓tPart_e, ↓tYes_e, ↓tFor_e, ↓iTup_e, ↓iList_e, onL1_e, ↓iRng1_e, ↓iRng2_e, ↓iEnT_e, ↓tLc_e, ↓start_e, onD_s, onLst_s, ↓tApp_e, cxOf_K, upd_same, upd_upd, List.getElem?_cons_zero, List.getElem?_cons_succ, List.set_cons_zero, List.set_cons_succ, List.map_cons, List.map_nil, List.append_nil, List.cons_append, List.nil_append, List.length_cons, List.length_nil, List.replicate_succ, List.replicate_zero, Nat.reduceAdd, Nat.reduceSub, Nat.reduceLT, V.int.injEq, V.bl.injEq, V.str.injEq, V.ref.injEq, decide_eq_true_eq, Bool.not_true, Bool.not_false, Bool.false_eq_true, Bool.not_eq_true', decide_eq_false_iff_not, ↓reduceIte, true_and, and_true, and_self, decide_true, decide_false, not_false_eq_true, not_true_eq_false, eq_self, onN_s, int1_i, int1_b, one_i, two_i, ↓rIxA_e, ↓gSub_e, ↓rSetL_e, at3_0, at3_1, at3_2, ix3_0, ix3_1, ix3_2, onNum_i, onNum_b, ↓rIntA_e, ↓rMinA_e, ↓rMaxA_e, ↓rAbsA_e, ↓rLenL_e, ↓rSlLst_e, onTu_s, ↓gTupA_e, ↓rIxTu_e, ↓tRg1_e, ↓tLstRg_e, onRp_n, onRp_b, onRp_i, ↓rReprA_e, ↓rIsN_e, reduceCtorEq]
    refine ⟨m, pe, r, ws, rfl, m0, m1, p0, p1, FT.rd hr8, hl, n8.wl, fun H9 n9 => ?_⟩
    have n19 := n18.trans0 n9
    try simp only [onI_i, onB_b, onR_r, onT_t, onO_s, onS_s, onV_s, ↓tVar_e, ↓tC_e, ↓tNil_e, ↓tCons_e, ↓tCB_e, ↓tOp_e, ↓rI_e, ↓rI0_e, ↓tUn_e, ↓rU_e, ↓rEq_e, ↓rNe_e, scal_ii, scal_ss, scal_bb, ↓tAndV_e, ↓tOrV_e, ↓tNotV_e, ↓tAnd_e, ↓tOr_e, ↓tNot_e, ↓tTest_e, ↓tB_e, ↓tIf_e, ↓tChain_e, ↓tSeq_e, ↓tNext_e, ↓tBreak_e, ↓tCont_e, ↓tDrop_e, ↓tRet_e, ↓tRetN_e, ↓tIfS_e, ↓tAsg_e, ↓gName_e, onL2_e, ↓tPar_e2, onCons_e, ↓gNil_e, ↓gCons_e, ↓tTup_e, ↓tTupF_e, ↓tLst_e, ↓tFld_e, ↓sFld_e, ↓sFldAug_e, ↓rAdd_e, ↓rSub_e, ↓tCall_e, ↓tProp_e, ↓tRaiseAsk_e, ↓getSp_e, ↓tMeth_e, ↓tMake_e, ↓rRep_e, ↓rCat_e, ↓tSl_e, ↓tNoPart_e, ↓tPart_e, ↓tYes_e, ↓tFor_e, ↓iTup_e, ↓iList_e, onL1_e, ↓iRng1_e, ↓iRng2_e, ↓iEnT_e, ↓tLc_e, ↓start_e, onD_s, onLst_s, ↓tApp_e, cxOf_K, upd_same, upd_upd, List.getElem?_cons_zero, List.getElem?_cons_succ, List.set_cons_zero, List.set_cons_succ, List.map_cons, List.map_nil, List.append_nil, List.cons_append, List.nil_append, List.length_cons, List.length_nil, List.replicate_succ, List.replicate_zero, Nat.reduceAdd, Nat.reduceSub, Nat.reduceLT, V.int.injEq, V.bl.injEq, V.str.injEq, V.ref.injEq, decide_eq_true_eq, Bool.not_true, Bool.not_false, Bool.false_eq_true, Bool.not_eq_true', decide_eq_false_iff_not, ↓reduceIte, true_and, and_true, and_self, decide_true, decide_false, not_false_eq_true, not_true_eq_false, eq_self, onN_s, int1_i, int1_b, one_i, two_i, ↓rIxA_e, ↓gSub_e, ↓rSetL_e, at3_0, at3_1, at3_2, ix3_0, ix3_1, ix3_2, onNum_i, onNum_b, ↓rIntA_e, ↓rMinA_e, ↓rMaxA_e, ↓rAbsA_e, ↓rLenL_e, ↓rSlLst_e, onTu_s, ↓gTupA_e, ↓rIxTu_e, ↓tRg1_e, ↓tLstRg_e, onRp_n, onRp_b, onRp_i, ↓rReprA_e, ↓rIsN_e, reduceCtorEq]
    refine ⟨pe, r, ws, rfl, p0, p1, FT.rd (n9.ft hr8), hl, n9.wl, fun Ha na => ?_⟩
    have n1a := n19.trans0 na
    have hpa := (hp8.kept n9 (by simp)).kept na (by simp)
    have hra := na.ft (n9.ft hr8)
    try simp only [onI_i, onB_b, onR_r, onT_t, onO_s, onS_s, onV_s, ↓tVar_e, ↓tC_e, ↓tNil_e, ↓tCons_e, ↓tCB_e, ↓tOp_e, ↓rI_e, ↓rI0_e, ↓tUn_e, ↓rU_e, ↓rEq_e, ↓rNe_e, scal_ii, scal_ss, scal_bb, ↓tAndV_e, ↓tOrV_e, ↓tNotV_e, ↓tAnd_e, ↓tOr_e, ↓tNot_e, ↓tTest_e, ↓tB_e, ↓tIf_e, ↓tChain_e, ↓tSeq_e, ↓tNext_e, ↓tBreak_e, ↓tCont_e, ↓tDrop_e, ↓tRet_e, ↓tRetN_e, ↓tIfS_e, ↓tAsg_e, ↓gName_e, onL2_e, ↓tPar_e2, onCons_e, ↓gNil_e, ↓gCons_e, ↓tTup_e, ↓tTupF_e, ↓tLst_e, ↓tFld_e, ↓sFld_e, ↓sFldAug_e, ↓rAdd_e, ↓rSub_e, ↓tCall_e, ↓tProp_e, ↓tRaiseAsk_e, ↓getSp_e, ↓tMeth_e, ↓tMake_e, ↓rRep_e, ↓rCat_e, ↓tSl_e, ↓tNoPart_e, ↓tPart_e, ↓tYes_e, ↓tFor_e, ↓iTup_e, ↓iList_e, onL1_e, ↓iRng1_e, ↓iRng2_e, ↓iEnT_e, ↓tLc_e, ↓start_e, onD_s, onLst_s, ↓tApp_e, cxOf_K, upd_same, upd_upd, List.getElem?_cons_zero, List.getElem?_cons_succ, List.set_cons_zero, List.set_cons_succ, List.map_cons, List.map_nil, List.append_nil, List.cons_append, List.nil_append, List.length_cons, List.length_nil, List.replicate_succ, List.replicate_zero, Nat.reduceAdd, Nat.reduceSub, Nat.reduceLT, V.int.injEq, V.bl.injEq, V.str.injEq, V.ref.injEq, decide_eq_true_eq, Bool.not_true, Bool.not_false, Bool.false_eq_true, Bool.not_eq_true', decide_eq_false_iff_not, ↓reduceIte, true_and, and_true, and_self, decide_true, decide_false, not_false_eq_true, not_true_eq_false, eq_self, onN_s, int1_i, int1_b, one_i, two_i, ↓rIxA_e, ↓gSub_e, ↓rSetL_e, at3_0, at3_1, at3_2, ix3_0, ix3_1, ix3_2, onNum_i, onNum_b, ↓rIntA_e, ↓rMinA_e, ↓rMaxA_e, ↓rAbsA_e, ↓rLenL_e, ↓rSlLst_e, onTu_s, ↓gTupA_e, ↓rIxTu_e, ↓tRg1_e, ↓tLstRg_e, onRp_n, onRp_b, onRp_i, ↓rReprA_e, ↓rIsN_e, reduceCtorEq]
    refine ⟨q, 40, _, rfl, hpa, by omega, by omega, by omega, na.wl, fun Hb xb nb hpb yb0 yb1 => ?_⟩
    try simp only [onI_i, onB_b, onR_r, onT_t, onO_s, onS_s, onV_s, ↓tVar_e, ↓tC_e, ↓tNil_e, ↓tCons_e, ↓tCB_e, ↓tOp_e, ↓rI_e, ↓rI0_e, ↓tUn_e, ↓rU_e, ↓rEq_e, ↓rNe_e, scal_ii, scal_ss, scal_bb, ↓tAndV_e, ↓tOrV_e, ↓tNotV_e, ↓tAnd_e, ↓tOr_e, ↓tNot_e, ↓tTest_e, ↓tB_e, ↓tIf_e, ↓tChain_e, ↓tSeq_e, ↓tNext_e, ↓tBreak_e, ↓tCont_e, ↓tDrop_e, ↓tRet_e, ↓tRetN_e, ↓tIfS_e, ↓tAsg_e, ↓gName_e, onL2_e, ↓tPar_e2, onCons_e, ↓gNil_e, ↓gCons_e, ↓tTup_e, ↓tTupF_e, ↓tLst_e, ↓tFld_e, ↓sFld_e, ↓sFldAug_e, ↓rAdd_e, ↓rSub_e, ↓tCall_e, ↓tProp_e, ↓tRaiseAsk_e, ↓getSp_e, ↓tMeth_e, ↓tMake_e, ↓rRep_e, ↓rCat_e, ↓tSl_e, ↓tNoPart_e, ↓tPart_e, ↓tYes_e, ↓tFor_e, ↓iTup_e, ↓iList_e, onL1_e, ↓iRng1_e, ↓iRng2_e, ↓iEnT_e, ↓tLc_e, ↓start_e, onD_s, onLst_s, ↓tApp_e, cxOf_K, upd_same, upd_upd, List.getElem?_cons_zero, List.getElem?_cons_succ, List.set_cons_zero, List.set_cons_succ, List.map_cons, List.map_nil, List.append_nil, List.cons_append, List.nil_append, List.length_cons, List.length_nil, List.replicate_succ, List.replicate_zero, Nat.reduceAdd, Nat.reduceSub, Nat.reduceLT, V.int.injEq, V.bl.injEq, V.str.injEq, V.ref.injEq, decide_eq_true_eq, Bool.not_true, Bool.not_false, Bool.false_eq_true, Bool.not_eq_true', decide_eq_false_iff_not, ↓reduceIte, true_and, and_true, and_self, decide_true, decide_false, not_false_eq_true, not_true_eq_false, eq_self, onN_s, int1_i, int1_b, one_i, two_i, ↓rIxA_e, ↓gSub_e, ↓rSetL_e, at3_0, at3_1, at3_2, ix3_0, ix3_1, ix3_2, onNum_i, onNum_b, ↓rIntA_e, ↓rMinA_e, ↓rMaxA_e, ↓rAbsA_e, ↓rLenL_e, ↓rSlLst_e, onTu_s, ↓gTupA_e, ↓rIxTu_e, ↓tRg1_e, ↓tLstRg_e, onRp_n, onRp_b, onRp_i, ↓rReprA_e, ↓rIsN_e, reduceCtorEq]
    refine ⟨q, 1001, _, rfl, hpb, by omega, by omega, by omega, nb.wl, fun Hc xc nc hpc yc0 yc1 => ?_⟩
    have n1c := (n1a.trans nb fun b hb => .inl hb).trans nc fun b hb => .inl hb
    have hrc := nc.ft (nb.ft hra)
    try simp only [onI_i, onB_b, onR_r, onT_t, onO_s, onS_s, onV_s, ↓tVar_e, ↓tC_e, ↓tNil_e, ↓tCons_e, ↓tCB_e, ↓tOp_e, ↓rI_e, ↓rI0_e, ↓tUn_e, ↓rU_e, ↓rEq_e, ↓rNe_e, scal_ii, scal_ss, scal_bb, ↓tAndV_e, ↓tOrV_e, ↓tNotV_e, ↓tAnd_e, ↓tOr_e, ↓tNot_e, ↓tTest_e, ↓tB_e, ↓tIf_e, ↓tChain_e, ↓tSeq_e, ↓tNext_e, ↓tBreak_e, ↓tCont_e, ↓tDrop_e, ↓tRet_e, ↓tRetN_e, ↓tIfS_e, ↓tAsg_e, ↓gName_e, onL2_e, ↓tPar_e2, onCons_e, ↓gNil_e, ↓gCons_e, ↓tTup_e, ↓tTupF_e, ↓tLst_e, ↓tFld_e, ↓sFld_e, ↓sFldAug_e, ↓rAdd_e, ↓rSub_e, ↓tCall_e, ↓tProp_e, ↓tRaiseAsk_e, ↓getSp_e, ↓tMeth_e, ↓tMake_e, ↓rRep_e, ↓rCat_e, ↓tSl_e, ↓tNoPart_e, ↓tPart_e, ↓tYes_e, ↓tFor_e, ↓iTup_e, ↓iList_e, onL1_e, ↓iRng1_e, ↓iRng2_e, ↓iEnT_e, ↓tLc_e, ↓start_e, onD_s, onLst_s, ↓tApp_e, cxOf_K, upd_same, upd_upd, List.getElem?_cons_zero, List.getElem?_cons_succ, List.set_cons_zero, List.set_cons_succ, List.map_cons, List.map_nil, List.append_nil, List.cons_append, List.nil_append, List.length_cons, List.length_nil, List.replicate_succ, List.replicate_zero, Nat.reduceAdd, Nat.reduceSub, Nat.reduceLT, V.int.injEq, V.bl.injEq, V.str.injEq, V.ref.injEq, decide_eq_true_eq, Bool.not_true, Bool.not_false, Bool.false_eq_true, Bool.not_eq_true', decide_eq_false_iff_not, ↓reduceIte, true_and, and_true, and_self, decide_true, decide_false, not_false_eq_true, not_true_eq_false, eq_self, onN_s, int1_i, int1_b, one_i, two_i, ↓rIxA_e, ↓gSub_e, ↓rSetL_e, at3_0, at3_1, at3_2, ix3_0, ix3_1, ix3_2, onNum_i, onNum_b, ↓rIntA_e, ↓rMinA_e, ↓rMaxA_e, ↓rAbsA_e, ↓rLenL_e, ↓rSlLst_e, onTu_s, ↓gTupA_e, ↓rIxTu_e, ↓tRg1_e, ↓tLstRg_e, onRp_n, onRp_b, onRp_i, ↓rReprA_e, ↓rIsN_e, reduceCtorEq]
    refine ⟨by decide, fun l4 hl4 => ⟨q, l4, _, _, rfl, hpc.new hl4, by omega, upd_same, hpc.ne hl4, by simp, by simp, (n1c.new hl4).wl, fun Hd v nd hpd hv => ?_⟩⟩
    obtain ⟨fz, rfl, f0, f1⟩ : ∃ u : Int, v = .int u ∧ 0 ≤ u ∧ u ≤ 1000 := by
      simp only [List.mem_cons, List.not_mem_nil, or_false] at hv
      rcases hv with e | e | e <;> exact ⟨_, e, by omega, by omega⟩
    have n1d := (n1c.new hl4).trans nd fun b hb => .inl hb
    have hrd := nd.ft (((Nx.refl n1c.wl).new (ws := []) hl4).ft hrc)
    try simp only [onI_i, onB_b, onR_r, onT_t, onO_s, onS_s, onV_s, ↓tVar_e, ↓tC_e, ↓tNil_e, ↓tCons_e, ↓tCB_e, ↓tOp_e, ↓rI_e, ↓rI0_e, ↓tUn_e, ↓rU_e, ↓rEq_e, ↓rNe_e, scal_ii, scal_ss, scal_bb, ↓tAndV_e, ↓tOrV_e, ↓tNotV_e, ↓tAnd_e, ↓tOr_e, ↓tNot_e, ↓tTest_e, ↓tB_e, ↓tIf_e, ↓tChain_e, ↓tSeq_e, ↓tNext_e, ↓tBreak_e, ↓tCont_e, ↓tDrop_e, ↓tRet_e, ↓tRetN_e, ↓tIfS_e, ↓tAsg_e, ↓gName_e, onL2_e, ↓tPar_e2, onCons_e, ↓gNil_e, ↓gCons_e, ↓tTup_e, ↓tTupF_e, ↓tLst_e, ↓tFld_e, ↓sFld_e, ↓sFldAug_e, ↓rAdd_e, ↓rSub_e, ↓tCall_e, ↓tProp_e, ↓tRaiseAsk_e, ↓getSp_e, ↓tMeth_e, ↓tMake_e, ↓rRep_e, ↓rCat_e, ↓tSl_e, ↓tNoPart_e, ↓tPart_e, ↓tYes_e, ↓tFor_e, ↓iTup_e, ↓iList_e, onL1_e, ↓iRng1_e, ↓iRng2_e, ↓iEnT_e, ↓tLc_e, ↓start_e, onD_s, onLst_s, ↓tApp_e, cxOf_K, upd_same, upd_upd, List.getElem?_cons_zero, List.getElem?_cons_succ, List.set_cons_zero, List.set_cons_succ, List.map_cons, List.map_nil, List.append_nil, List.cons_append, List.nil_append, List.length_cons, List.length_nil, List.replicate_succ, List.replicate_zero, Nat.reduceAdd, Nat.reduceSub, Nat.reduceLT, V.int.injEq, V.bl.injEq, V.str.injEq, V.ref.injEq, decide_eq_true_eq, Bool.not_true, Bool.not_false, Bool.false_eq_true, Bool.not_eq_true', decide_eq_false_iff_not, ↓reduceIte, true_and, and_true, and_self, decide_true, decide_false, not_false_eq_true, not_true_eq_false, eq_self, onN_s, int1_i, int1_b, one_i, two_i, ↓rIxA_e, ↓gSub_e, ↓rSetL_e, at3_0, at3_1, at3_2, ix3_0, ix3_1, ix3_2, onNum_i, onNum_b, ↓rIntA_e, ↓rMinA_e, ↓rMaxA_e, ↓rAbsA_e, ↓rLenL_e, ↓rSlLst_e, onTu_s, ↓gTupA_e, ↓rIxTu_e, ↓tRg1_e, ↓tLstRg_e, onRp_n, onRp_b, onRp_i, ↓rReprA_e, ↓rIsN_e, reduceCtorEq]
    refine ⟨q, m, pe, fz.toNat, _, by rw [Int.toNat_of_nonneg f0], hpd, by omega, m0, m1, p0, p1, by omega, nd.wl, fun He ne hpe => ?_⟩
    have n1e := n1d.trans ne fun b hb => .inl hb
    have hre := ne.ft hrd
    simp only [onI_i, onB_b, onR_r, onT_t, onO_s, onS_s, onV_s, ↓tVar_e, ↓tC_e, ↓tNil_e, ↓tCons_e, ↓tCB_e, ↓tOp_e, ↓rI_e, ↓rI0_e, ↓tUn_e, ↓rU_e, ↓rEq_e, ↓rNe_e, scal_ii, scal_ss, scal_bb, ↓tAndV_e, ↓tOrV_e, ↓tNotV_e, ↓tAnd_e, ↓tOr_e, ↓tNot_e, ↓tTest_e, ↓tB_e, ↓tIf_e, ↓tChain_e, ↓tSeq_e, ↓tNext_e, ↓tBreak_e, ↓tCont_e, ↓tDrop_e, ↓tRet_e, ↓tRetN_e, ↓tIfS_e, ↓tAsg_e, ↓gName_e, onL2_e, ↓tPar_e2, onCons_e, ↓gNil_e, ↓gCons_e, ↓tTup_e, ↓tTupF_e, ↓tLst_e, ↓tFld_e, ↓sFld_e, ↓sFldAug_e, ↓rAdd_e, ↓rSub_e, ↓tCall_e, ↓tProp_e, ↓tRaiseAsk_e, ↓getSp_e, ↓tMeth_e, ↓tMake_e, ↓rRep_e, ↓rCat_e, ↓tSl_e, ↓tNoPart_e, ↓tPart_e, ↓tYes_e, ↓tFor_e, ↓iTup_e, ↓iList_e, onL1_e, ↓iRng1_e, ↓iRng2_e, ↓iEnT_e, ↓tLc_e, ↓start_e, onD_s, onLst_s, ↓tApp_e, cxOf_K, upd_same, upd_upd, List.getElem?_cons_zero, List.getElem?_cons_succ, List.set_cons_zero, List.set_cons_succ, List.map_cons, List.map_nil, List.append_nil, List.cons_append, List.nil_append, List.length_cons, List.length_nil, List.replicate_succ, List.replicate_zero, Nat.reduceAdd, Nat.reduceSub, Nat.reduceLT, V.int.injEq, V.bl.injEq, V.str.injEq, V.ref.injEq, decide_eq_true_eq, Bool.not_true, Bool.not_false, Bool.false_eq_true, Bool.not_eq_true', decide_eq_false_iff_not, ↓reduceIte, true_and, and_true, and_self, decide_true, decide_false, not_false_eq_true, not_true_eq_false, eq_self, onN_s, int1_i, int1_b, one_i, two_i, ↓rIxA_e, ↓gSub_e, ↓rSetL_e, at3_0, at3_1, at3_2, ix3_0, ix3_1, ix3_2, onNum_i, onNum_b, ↓rIntA_e, ↓rMinA_e, ↓rMaxA_e, ↓rAbsA_e, ↓rLenL_e, ↓rSlLst_e, onTu_s, ↓gTupA_e, ↓rIxTu_e, ↓tRg1_e, ↓tLstRg_e, onRp_n, onRp_b, onRp_i, ↓rReprA_e, ↓rIsN_e, reduceCtorEq]
    refine ⟨ne.wl.2, fun H2 eN tH eK => ?_⟩
    have n2' := Nx.lam (B := B) (Nx.refl (ws := []) ne.wl) T.l2 eN tH eK
    have hr2 := n2'.ft hre
    have n2 := n1e.trans0 n2'
    clear n1 n12 n13 n14 n15 n16 n17 n18 n19 n1a n1c n1d n1e
    simp only [onI_i, onB_b, onR_r, onT_t, onO_s, onS_s, onV_s, ↓tVar_e, ↓tC_e, ↓tNil_e, ↓tCons_e, ↓tCB_e, ↓tOp_e, ↓rI_e, ↓rI0_e, ↓tUn_e, ↓rU_e, ↓rEq_e, ↓rNe_e, scal_ii, scal_ss, scal_bb, ↓tAndV_e, ↓tOrV_e, ↓tNotV_e, ↓tAnd_e, ↓tOr_e, ↓tNot_e, ↓tTest_e, ↓tB_e, ↓tIf_e, ↓tChain_e, ↓tSeq_e, ↓tNext_e, ↓tBreak_e, ↓tCont_e, ↓tDrop_e, ↓tRet_e, ↓tRetN_e, ↓tIfS_e, ↓tAsg_e, ↓gName_e, onL2_e, ↓tPar_e2, onCons_e, ↓gNil_e, ↓gCons_e, ↓tTup_e, ↓tTupF_e, ↓tLst_e, ↓tFld_e, ↓sFld_e, ↓sFldAug_e, ↓rAdd_e, ↓rSub_e, ↓tCall_e, ↓tProp_e, ↓tRaiseAsk_e, ↓getSp_e, ↓tMeth_e, ↓tMake_e, ↓rRep_e, ↓rCat_e, ↓tSl_e, ↓tNoPart_e, ↓tPart_e, ↓tYes_e, ↓tFor_e, ↓iTup_e, ↓iList_e, onL1_e, ↓iRng1_e, ↓iRng2_e, ↓iEnT_e, ↓tLc_e, ↓start_e, onD_s, onLst_s, ↓tApp_e, cxOf_K, upd_same, upd_upd, List.getElem?_cons_zero, List.getElem?_cons_succ, List.set_cons_zero, List.set_cons_succ, List.map_cons, List.map_nil, List.append_nil, List.cons_append, List.nil_append, List.length_cons, List.length_nil, List.replicate_succ, List.replicate_zero, Nat.reduceAdd, Nat.reduceSub, Nat.reduceLT, V.int.injEq, V.bl.injEq, V.str.injEq, V.ref.injEq, decide_eq_true_eq, Bool.not_true, Bool.not_false, Bool.false_eq_true, Bool.not_eq_true', decide_eq_false_iff_not, ↓reduceIte, true_and, and_true, and_self, decide_true, decide_false, not_false_eq_true, not_true_eq_false, eq_self, onN_s, int1_i, int1_b, one_i, two_i, ↓rIxA_e, ↓gSub_e, ↓rSetL_e, at3_0, at3_1, at3_2, ix3_0, ix3_1, ix3_2, onNum_i, onNum_b, ↓rIntA_e, ↓rMinA_e, ↓rMaxA_e, ↓rAbsA_e, ↓rLenL_e, ↓rSlLst_e, onTu_s, ↓gTupA_e, ↓rIxTu_e, ↓tRg1_e, ↓tLstRg_e, onRp_n, onRp_b, onRp_i, ↓rReprA_e, ↓rIsN_e, reduceCtorEq]
    refine ⟨by decide, fun pz hpz => ⟨rfl, ?_⟩⟩
    have hr3 := ((Nx.refl (ws := []) n2.wl).new (o := .tup [.non, .non]) hpz).ft hr2
    have n3 := n2.new (o := .tup [.non, .non]) hpz
    generalize upd H2 pz (.tup [.non, .non]) = H3 at hr3 n3 ⊢
    simp only [onI_i, onB_b, onR_r, onT_t, onO_s, onS_s, onV_s, ↓tVar_e, ↓tC_e, ↓tNil_e, ↓tCons_e, ↓tCB_e, ↓tOp_e, ↓rI_e, ↓rI0_e, ↓tUn_e, ↓rU_e, ↓rEq_e, ↓rNe_e, scal_ii, scal_ss, scal_bb, ↓tAndV_e, ↓tOrV_e, ↓tNotV_e, ↓tAnd_e, ↓tOr_e, ↓tNot_e, ↓tTest_e, ↓tB_e, ↓tIf_e, ↓tChain_e, ↓tSeq_e, ↓tNext_e, ↓tBreak_e, ↓tCont_e, ↓tDrop_e, ↓tRet_e, ↓tRetN_e, ↓tIfS_e, ↓tAsg_e, ↓gName_e, onL2_e, ↓tPar_e2, onCons_e, ↓gNil_e, ↓gCons_e, ↓tTup_e, ↓tTupF_e, ↓tLst_e, ↓tFld_e, ↓sFld_e, ↓sFldAug_e, ↓rAdd_e, ↓rSub_e, ↓tCall_e, ↓tProp_e, ↓tRaiseAsk_e, ↓getSp_e, ↓tMeth_e, ↓tMake_e, ↓rRep_e, ↓rCat_e, ↓tSl_e, ↓tNoPart_e, ↓tPart_e, ↓tYes_e, ↓tFor_e, ↓iTup_e, ↓iList_e, onL1_e, ↓iRng1_e, ↓iRng2_e, ↓iEnT_e, ↓tLc_e, ↓start_e, onD_s, onLst_s, ↓tApp_e, cxOf_K, upd_same, upd_upd, List.getElem?_cons_zero, List.getElem?_cons_succ, List.set_cons_zero, List.set_cons_succ, List.map_cons, List.map_nil, List.append_nil, List.cons_append, List.nil_append, List.length_cons, List.length_nil, List.replicate_succ, List.replicate_zero, Nat.reduceAdd, Nat.reduceSub, Nat.reduceLT, V.int.injEq, V.bl.injEq, V.str.injEq, V.ref.injEq, decide_eq_true_eq, Bool.not_true, Bool.not_false, Bool.false_eq_true, Bool.not_eq_true', decide_eq_false_iff_not, ↓reduceIte, true_and, and_true, and_self, decide_true, decide_false, not_false_eq_true, not_true_eq_false, eq_self, onN_s, int1_i, int1_b, one_i, two_i, ↓rIxA_e, ↓gSub_e, ↓rSetL_e, at3_0, at3_1, at3_2, ix3_0, ix3_1, ix3_2, onNum_i, onNum_b, ↓rIntA_e, ↓rMinA_e, ↓rMaxA_e, ↓rAbsA_e, ↓rLenL_e, ↓rSlLst_e, onTu_s, ↓gTupA_e, ↓rIxTu_e, ↓tRg1_e, ↓tLstRg_e, onRp_n, onRp_b, onRp_i, ↓rReprA_e, ↓rIsN_e, reduceCtorEq]
    refine ⟨by decide, fun pt hpt => ?_⟩
    have hr4 := ((Nx.refl (ws := []) n3.wl).new (o := .tup [.str "third"]) hpt).ft hr3
    have n4 := n3.new (o := .tup [.str "third"]) hpt
    have ht4 : upd H3 pt (.tup [.str "third"]) pt = some (.tup [.str "third"]) := upd_same
    generalize upd H3 pt (.tup [.str "third"]) = H4 at hr4 n4 ht4 ⊢
    have hz : sizeLine = 16777216 := sizeLine_eq
    have hbad : okR (some (ws.map wv ++ [.str "third"])) = false := bad_word (by decide +kernel)
    refine cat_any n4.wl hr4.sq ht4 (by rw [List.length_map]; exact hl) fun a H5 n5' ha => ?_
    have hr5 := n5'.ft hr4
    have n5 := n4.trans0 n5'
    clear n5' n4 n3 n2 n2'
    refine ⟨m, pe, a, _, rfl, m0, m1, p0, p1, .inl ha, si_row, n5.wl, fun ws' e hl' => (bad_not hbad e hl').elim, .inl hbad, fun _ H6 d n6 hd => ?_⟩
    refine ⟨true, TT.xr, fun _ e he => ⟨by decide, fun pp hpp => ?_⟩, fun z => nomatch z⟩
    have n7 := (((n5.trans0 n6).new hd).new he).new (o := .tup [.ref e, .non]) hpp
    have he' := kpn (o := .tup [.ref e, .non]) (upd_same (a := e) (o := ExV (.ref BR) (some d) e)) hpp
    have hd' := kpn (o := .tup [.ref e, .non]) (kpn (o := ExV (.ref BR) (some d) e) (upd_same (a := d) (o := .xd [(("value" : Str), .ref a)])) he) hpp
    have ha' := kpn (o := .tup [.ref e, .non]) (kpn (o := ExV (.ref BR) (some d) e) (kpn (o := .xd [(("value" : Str), .ref a)]) (n6.at ha (by simp)) hd) he) hpp
    have hr7 := (((((Nx.refl (ws := []) n5.wl).trans0 n6).new hd).new he).new (o := .tup [.ref e, .non]) hpp).ft hr5
    try simp only [onI_i, onB_b, onR_r, onT_t, onO_s, onS_s, onV_s, ↓tVar_e, ↓tC_e, ↓tNil_e, ↓tCons_e, ↓tCB_e, ↓tOp_e, ↓rI_e, ↓rI0_e, ↓tUn_e, ↓rU_e, ↓rEq_e, ↓rNe_e, scal_ii, scal_ss, scal_bb, ↓tAndV_e, ↓tOrV_e, ↓tNotV_e, ↓tAnd_e, ↓tOr_e, ↓tNot_e, ↓tTest_e, ↓tB_e, ↓tIf_e, ↓tChain_e, ↓tSeq_e, ↓tNext_e, ↓tBreak_e, ↓tCont_e, ↓tDrop_e, ↓tRet_e, ↓tRetN_e, ↓tIfS_e, ↓tAsg_e, ↓gName_e, onL2_e, ↓tPar_e2, onCons_e, ↓gNil_e, ↓gCons_e, ↓tTup_e, ↓tTupF_e, ↓tLst_e, ↓tFld_e, ↓sFld_e, ↓sFldAug_e, ↓rAdd_e, ↓rSub_e, ↓tCall_e, ↓tProp_e, ↓tRaiseAsk_e, ↓getSp_e, ↓tMeth_e, ↓tMake_e, ↓rRep_e, ↓rCat_e, ↓tSl_e, ↓tNoPart_e, ↓tPart_e, ↓tYes_e, ↓tFor_e, ↓iTup_e, ↓iList_e, onL1_e, ↓iRng1_e, ↓iRng2_e, ↓iEnT_e, ↓tLc_e, ↓start_e, onD_s, onLst_s, ↓tApp_e, cxOf_K, upd_same, upd_upd, List.getElem?_cons_zero, List.getElem?_cons_succ, List.set_cons_zero, List.set_cons_succ, List.map_cons, List.map_nil, List.append_nil, List.cons_append, List.nil_append, List.length_cons, List.length_nil, List.replicate_succ, List.replicate_zero, Nat.reduceAdd, Nat.reduceSub, Nat.reduceLT, V.int.injEq, V.bl.injEq, V.str.injEq, V.ref.injEq, decide_eq_true_eq, Bool.not_true, Bool.not_false, Bool.false_eq_true, Bool.not_eq_true', decide_eq_false_iff_not, ↓reduceIte, true_and, and_true, and_self, decide_true, decide_false, not_false_eq_true, not_true_eq_false, eq_self, onN_s, int1_i, int1_b, one_i, two_i, ↓rIxA_e, ↓gSub_e, ↓rSetL_e, at3_0, at3_1, at3_2, ix3_0, ix3_1, ix3_2, onNum_i, onNum_b, ↓rIntA_e, ↓rMinA_e, ↓rMaxA_e, ↓rAbsA_e, ↓rLenL_e, ↓rSlLst_e, onTu_s, ↓gTupA_e, ↓rIxTu_e, ↓tRg1_e, ↓tLstRg_e, onRp_n, onRp_b, onRp_i, ↓rReprA_e, ↓rIsN_e, reduceCtorEq]
    generalize upd (upd (upd H6 d (.xd [(("value" : Str), .ref a)])) e (ExV (.ref BR) (some d) e)) pp (.tup [.ref e, .non]) = H7 at n7 he' hd' ha' hr7 ⊢
    refine ⟨e, BR, BR, d, _, true, rfl, he', hd', TT.vr, TT.kr, ?_⟩
    simp only [onI_i, onB_b, onR_r, onT_t, onO_s, onS_s, onV_s, ↓tVar_e, ↓tC_e, ↓tNil_e, ↓tCons_e, ↓tCB_e, ↓tOp_e, ↓rI_e, ↓rI0_e, ↓tUn_e, ↓rU_e, ↓rEq_e, ↓rNe_e, scal_ii, scal_ss, scal_bb, ↓tAndV_e, ↓tOrV_e, ↓tNotV_e, ↓tAnd_e, ↓tOr_e, ↓tNot_e, ↓tTest_e, ↓tB_e, ↓tIf_e, ↓tChain_e, ↓tSeq_e, ↓tNext_e, ↓tBreak_e, ↓tCont_e, ↓tDrop_e, ↓tRet_e, ↓tRetN_e, ↓tIfS_e, ↓tAsg_e, ↓gName_e, onL2_e, ↓tPar_e2, onCons_e, ↓gNil_e, ↓gCons_e, ↓tTup_e, ↓tTupF_e, ↓tLst_e, ↓tFld_e, ↓sFld_e, ↓sFldAug_e, ↓rAdd_e, ↓rSub_e, ↓tCall_e, ↓tProp_e, ↓tRaiseAsk_e, ↓getSp_e, ↓tMeth_e, ↓tMake_e, ↓rRep_e, ↓rCat_e, ↓tSl_e, ↓tNoPart_e, ↓tPart_e, ↓tYes_e, ↓tFor_e, ↓iTup_e, ↓iList_e, onL1_e, ↓iRng1_e, ↓iRng2_e, ↓iEnT_e, ↓tLc_e, ↓start_e, onD_s, onLst_s, ↓tApp_e, cxOf_K, upd_same, upd_upd, List.getElem?_cons_zero, List.getElem?_cons_succ, List.set_cons_zero, List.set_cons_succ, List.map_cons, List.map_nil, List.append_nil, List.cons_append, List.nil_append, List.length_cons, List.length_nil, List.replicate_succ, List.replicate_zero, Nat.reduceAdd, Nat.reduceSub, Nat.reduceLT, V.int.injEq, V.bl.injEq, V.str.injEq, V.ref.injEq, decide_eq_true_eq, Bool.not_true, Bool.not_false, Bool.false_eq_true, Bool.not_eq_true', decide_eq_false_iff_not, ↓reduceIte, true_and, and_true, and_self, decide_true, decide_false, not_false_eq_true, not_true_eq_false, eq_self, onN_s, int1_i, int1_b, one_i, two_i, ↓rIxA_e, ↓gSub_e, ↓rSetL_e, at3_0, at3_1, at3_2, ix3_0, ix3_1, ix3_2, onNum_i, onNum_b, ↓rIntA_e, ↓rMinA_e, ↓rMaxA_e, ↓rAbsA_e, ↓rLenL_e, ↓rSlLst_e, onTu_s, ↓gTupA_e, ↓rIxTu_e, ↓tRg1_e, ↓tLstRg_e, onRp_n, onRp_b, onRp_i, ↓rReprA_e, ↓rIsN_e, reduceCtorEq]
    refine ⟨_, rfl, e, BR, d, _, .ref a, rfl, he', hd', TT.vr, by simp [List.lookup], ?_⟩
    simp only [onI_i, onB_b, onR_r, onT_t, onO_s, onS_s, onV_s, ↓tVar_e, ↓tC_e, ↓tNil_e, ↓tCons_e, ↓tCB_e, ↓tOp_e, ↓rI_e, ↓rI0_e, ↓tUn_e, ↓rU_e, ↓rEq_e, ↓rNe_e, scal_ii, scal_ss, scal_bb, ↓tAndV_e, ↓tOrV_e, ↓tNotV_e, ↓tAnd_e, ↓tOr_e, ↓tNot_e, ↓tTest_e, ↓tB_e, ↓tIf_e, ↓tChain_e, ↓tSeq_e, ↓tNext_e, ↓tBreak_e, ↓tCont_e, ↓tDrop_e, ↓tRet_e, ↓tRetN_e, ↓tIfS_e, ↓tAsg_e, ↓gName_e, onL2_e, ↓tPar_e2, onCons_e, ↓gNil_e, ↓gCons_e, ↓tTup_e, ↓tTupF_e, ↓tLst_e, ↓tFld_e, ↓sFld_e, ↓sFldAug_e, ↓rAdd_e, ↓rSub_e, ↓tCall_e, ↓tProp_e, ↓tRaiseAsk_e, ↓getSp_e, ↓tMeth_e, ↓tMake_e, ↓rRep_e, ↓rCat_e, ↓tSl_e, ↓tNoPart_e, ↓tPart_e, ↓tYes_e, ↓tFor_e, ↓iTup_e, ↓iList_e, onL1_e, ↓iRng1_e, ↓iRng2_e, ↓iEnT_e, ↓tLc_e, ↓start_e, onD_s, onLst_s, ↓tApp_e, cxOf_K, upd_same, upd_upd, List.getElem?_cons_zero, List.getElem?_cons_succ, List.set_cons_zero, List.set_cons_succ, List.map_cons, List.map_nil, List.append_nil, List.cons_append, List.nil_append, List.length_cons, List.length_nil, List.replicate_succ, List.replicate_zero, Nat.reduceAdd, Nat.reduceSub, Nat.reduceLT, V.int.injEq, V.bl.injEq, V.str.injEq, V.ref.injEq, decide_eq_true_eq, Bool.not_true, Bool.not_false, Bool.false_eq_true, Bool.not_eq_true', decide_eq_false_iff_not, ↓reduceIte, true_and, and_true, and_self, decide_true, decide_false, not_false_eq_true, not_true_eq_false, eq_self, onN_s, int1_i, int1_b, one_i, two_i, ↓rIxA_e, ↓gSub_e, ↓rSetL_e, at3_0, at3_1, at3_2, ix3_0, ix3_1, ix3_2, onNum_i, onNum_b, ↓rIntA_e, ↓rMinA_e, ↓rMaxA_e, ↓rAbsA_e, ↓rLenL_e, ↓rSlLst_e, onTu_s, ↓gTupA_e, ↓rIxTu_e, ↓tRg1_e, ↓tLstRg_e, onRp_n, onRp_b, onRp_i, ↓rReprA_e, ↓rIsN_e, reduceCtorEq]
    refine ⟨by decide, fun pt2 hpt2 => ?_⟩
    have n8 := n7.new (o := .tup [.str "third"]) hpt2
    have hr8' := ((Nx.refl (ws := []) n7.wl).new (o := .tup [.str "third"]) hpt2).ft hr7
    refine cat_any n8.wl hr8'.sq upd_same (by rw [List.length_map]; exact hl) fun a2 H9 n9 ha2 => ?_
    have ha9 := n9.at (kpn (o := .tup [.str "third"]) ha' hpt2) (by simp)
    have hr9 := n9.ft hr8'
    have n10 := n8.trans0 n9
    refine ⟨a, a2, _, _, 2, rfl, rfl, SqT.of ha9, SqT.of ha2, by decide, kind_row (by decide +kernel), kind_row (by decide +kernel), ?_⟩
    clear n5 n7 n8 n9
    rw [decide_eq_true rfl]
    simp only [onI_i, onB_b, onR_r, onT_t, onO_s, onS_s, onV_s, ↓tVar_e, ↓tC_e, ↓tNil_e, ↓tCons_e, ↓tCB_e, ↓tOp_e, ↓rI_e, ↓rI0_e, ↓tUn_e, ↓rU_e, ↓rEq_e, ↓rNe_e, scal_ii, scal_ss, scal_bb, ↓tAndV_e, ↓tOrV_e, ↓tNotV_e, ↓tAnd_e, ↓tOr_e, ↓tNot_e, ↓tTest_e, ↓tB_e, ↓tIf_e, ↓tChain_e, ↓tSeq_e, ↓tNext_e, ↓tBreak_e, ↓tCont_e, ↓tDrop_e, ↓tRet_e, ↓tRetN_e, ↓tIfS_e, ↓tAsg_e, ↓gName_e, onL2_e, ↓tPar_e2, onCons_e, ↓gNil_e, ↓gCons_e, ↓tTup_e, ↓tTupF_e, ↓tLst_e, ↓tFld_e, ↓sFld_e, ↓sFldAug_e, ↓rAdd_e, ↓rSub_e, ↓tCall_e, ↓tProp_e, ↓tRaiseAsk_e, ↓getSp_e, ↓tMeth_e, ↓tMake_e, ↓rRep_e, ↓rCat_e, ↓tSl_e, ↓tNoPart_e, ↓tPart_e, ↓tYes_e, ↓tFor_e, ↓iTup_e, ↓iList_e, onL1_e, ↓iRng1_e, ↓iRng2_e, ↓iEnT_e, ↓tLc_e, ↓start_e, onD_s, onLst_s, ↓tApp_e, cxOf_K, upd_same, upd_upd, List.getElem?_cons_zero, List.getElem?_cons_succ, List.set_cons_zero, List.set_cons_succ, List.map_cons, List.map_nil, List.append_nil, List.cons_append, List.nil_append, List.length_cons, List.length_nil, List.replicate_succ, List.replicate_zero, Nat.reduceAdd, Nat.reduceSub, Nat.reduceLT, V.int.injEq, V.bl.injEq, V.str.injEq, V.ref.injEq, decide_eq_true_eq, Bool.not_true, Bool.not_false, Bool.false_eq_true, Bool.not_eq_true', decide_eq_false_iff_not, ↓reduceIte, true_and, and_true, and_self, decide_true, decide_false, not_false_eq_true, not_true_eq_false, eq_self, onN_s, int1_i, int1_b, one_i, two_i, ↓rIxA_e, ↓gSub_e, ↓rSetL_e, at3_0, at3_1, at3_2, ix3_0, ix3_1, ix3_2, onNum_i, onNum_b, ↓rIntA_e, ↓rMinA_e, ↓rMaxA_e, ↓rAbsA_e, ↓rLenL_e, ↓rSlLst_e, onTu_s, ↓gTupA_e, ↓rIxTu_e, ↓tRg1_e, ↓tLstRg_e, onRp_n, onRp_b, onRp_i, ↓rReprA_e, ↓rIsN_e, reduceCtorEq, Bool.not_true]
    clear hr2 hr3 hr4 hr5 hr7 hr8' he' hd' ha' ha9 ha2 hbad ht4
    refine ⟨n10.wl.2, fun Hf eN tH eK => ?_⟩
    have n11' := Nx.lam (B := B) (Nx.refl (ws := []) n10.wl) T.l2 eN tH eK
    have hr11 := n11'.ft hr9
    have n11 := n10.trans0 n11'
    simp only [onI_i, onB_b, onR_r, onT_t, onO_s, onS_s, onV_s, ↓tVar_e, ↓tC_e, ↓tNil_e, ↓tCons_e, ↓tCB_e, ↓tOp_e, ↓rI_e, ↓rI0_e, ↓tUn_e, ↓rU_e, ↓rEq_e, ↓rNe_e, scal_ii, scal_ss, scal_bb, ↓tAndV_e, ↓tOrV_e, ↓tNotV_e, ↓tAnd_e, ↓tOr_e, ↓tNot_e, ↓tTest_e, ↓tB_e, ↓tIf_e, ↓tChain_e, ↓tSeq_e, ↓tNext_e, ↓tBreak_e, ↓tCont_e, ↓tDrop_e, ↓tRet_e, ↓tRetN_e, ↓tIfS_e, ↓tAsg_e, ↓gName_e, onL2_e, ↓tPar_e2, onCons_e, ↓gNil_e, ↓gCons_e, ↓tTup_e, ↓tTupF_e, ↓tLst_e, ↓tFld_e, ↓sFld_e, ↓sFldAug_e, ↓rAdd_e, ↓rSub_e, ↓tCall_e, ↓tProp_e, ↓tRaiseAsk_e, ↓getSp_e, ↓tMeth_e, ↓tMake_e, ↓rRep_e, ↓rCat_e, ↓tSl_e, ↓tNoPart_e, ↓tPart_e, ↓tYes_e, ↓tFor_e, ↓iTup_e, ↓iList_e, onL1_e, ↓iRng1_e, ↓iRng2_e, ↓iEnT_e, ↓tLc_e, ↓start_e, onD_s, onLst_s, ↓tApp_e, cxOf_K, upd_same, upd_upd, List.getElem?_cons_zero, List.getElem?_cons_succ, List.set_cons_zero, List.set_cons_succ, List.map_cons, List.map_nil, List.append_nil, List.cons_append, List.nil_append, List.length_cons, List.length_nil, List.replicate_succ, List.replicate_zero, Nat.reduceAdd, Nat.reduceSub, Nat.reduceLT, V.int.injEq, V.bl.injEq, V.str.injEq, V.ref.injEq, decide_eq_true_eq, Bool.not_true, Bool.not_false, Bool.false_eq_true, Bool.not_eq_true', decide_eq_false_iff_not, ↓reduceIte, true_and, and_true, and_self, decide_true, decide_false, not_false_eq_true, not_true_eq_false, eq_self, onN_s, int1_i, int1_b, one_i, two_i, ↓rIxA_e, ↓gSub_e, ↓rSetL_e, at3_0, at3_1, at3_2, ix3_0, ix3_1, ix3_2, onNum_i, onNum_b, ↓rIntA_e, ↓rMinA_e, ↓rMaxA_e, ↓rAbsA_e, ↓rLenL_e, ↓rSlLst_e, onTu_s, ↓gTupA_e, ↓rIxTu_e, ↓tRg1_e, ↓tLstRg_e, onRp_n, onRp_b, onRp_i, ↓rReprA_e, ↓rIsN_e, reduceCtorEq]
    refine ⟨by decide, fun pz hpz => ⟨rfl, ?_⟩⟩
    have hr12 := ((Nx.refl (ws := []) n11.wl).new (o := .tup [.non, .non]) hpz).ft hr11
    have n12 := n11.new (o := .tup [.non, .non]) hpz
    generalize upd Hf pz (.tup [.non, .non]) = Hg at hr12 n12 ⊢
    simp only [onI_i, onB_b, onR_r, onT_t, onO_s, onS_s, onV_s, ↓tVar_e, ↓tC_e, ↓tNil_e, ↓tCons_e, ↓tCB_e, ↓tOp_e, ↓rI_e, ↓rI0_e, ↓tUn_e, ↓rU_e, ↓rEq_e, ↓rNe_e, scal_ii, scal_ss, scal_bb, ↓tAndV_e, ↓tOrV_e, ↓tNotV_e, ↓tAnd_e, ↓tOr_e, ↓tNot_e, ↓tTest_e, ↓tB_e, ↓tIf_e, ↓tChain_e, ↓tSeq_e, ↓tNext_e, ↓tBreak_e, ↓tCont_e, ↓tDrop_e, ↓tRet_e, ↓tRetN_e, ↓tIfS_e, ↓tAsg_e, ↓gName_e, onL2_e, ↓tPar_e2, onCons_e, ↓gNil_e, ↓gCons_e, ↓tTup_e, ↓tTupF_e, ↓tLst_e, ↓tFld_e, ↓sFld_e, ↓sFldAug_e, ↓rAdd_e, ↓rSub_e, ↓tCall_e, ↓tProp_e, ↓tRaiseAsk_e, ↓getSp_e, ↓tMeth_e, ↓tMake_e, ↓rRep_e, ↓rCat_e, ↓tSl_e, ↓tNoPart_e, ↓tPart_e, ↓tYes_e, ↓tFor_e, ↓iTup_e, ↓iList_e, onL1_e, ↓iRng1_e, ↓iRng2_e, ↓iEnT_e, ↓tLc_e, ↓start_e, onD_s, onLst_s, ↓tApp_e, cxOf_K, upd_same, upd_upd, List.getElem?_cons_zero, List.getElem?_cons_succ, List.set_cons_zero, List.set_cons_succ, List.map_cons, List.map_nil, List.append_nil, List.cons_append, List.nil_append, List.length_cons, List.length_nil, List.replicate_succ, List.replicate_zero, Nat.reduceAdd, Nat.reduceSub, Nat.reduceLT, V.int.injEq, V.bl.injEq, V.str.injEq, V.ref.injEq, decide_eq_true_eq, Bool.not_true, Bool.not_false, Bool.false_eq_true, Bool.not_eq_true', decide_eq_false_iff_not, ↓reduceIte, true_and, and_true, and_self, decide_true, decide_false, not_false_eq_true, not_true_eq_false, eq_self, onN_s, int1_i, int1_b, one_i, two_i, ↓rIxA_e, ↓gSub_e, ↓rSetL_e, at3_0, at3_1, at3_2, ix3_0, ix3_1, ix3_2, onNum_i, onNum_b, ↓rIntA_e, ↓rMinA_e, ↓rMaxA_e, ↓rAbsA_e, ↓rLenL_e, ↓rSlLst_e, onTu_s, ↓gTupA_e, ↓rIxTu_e, ↓tRg1_e, ↓tLstRg_e, onRp_n, onRp_b, onRp_i, ↓rReprA_e, ↓rIsN_e, reduceCtorEq]
    refine ⟨by decide, fun pt o1 hpt c1 d1 => ?_⟩
    have n13 := n12.new (o := .frz o1 (.tup [.str "again"])) hpt
    refine ⟨pt, 4001, [.str "again"], rfl, rfl, ⟨o1, upd_same, c1, d1⟩, (by intro z; cases z), by omega, by omega, by decide, (by intro z; omega), fun _ pr o2 hpr c2 d2 => ?_⟩
    have n14 := n13.new (o := .frz o2 (.tup (List.replicate (4001 : Int).toNat [V.str "again"]).flatten)) hpr
    have hrp : upd (upd Hg pt (.frz o1 (.tup [.str "again"]))) pr (.frz o2 (.tup (List.replicate (4001 : Int).toNat [V.str "again"]).flatten)) pr = some (.frz o2 (.tup (List.replicate (4001 : Int).toNat [V.str "again"]).flatten)) := upd_same
    have el : (List.replicate (4001 : Int).toNat [V.str "again"]).flatten = List.replicate 4001 (V.str "again") := by
      rw [flat_one]
      rfl
    rw [el] at n14 hrp ⊢
    have hlong : okR (some (List.replicate 4001 (V.str "again"))) = false := bad_long (by rw [List.length_replicate]; omega)
    refine ⟨pe, pr, _, rfl, p0, p1, .inr ⟨_, hrp⟩, fun x hx => .inl ⟨_, List.eq_of_mem_replicate hx⟩, n14.wl, fun ws' e hl' => (bad_not hlong e hl').elim, fun _ H6 d n6 hd => ?_⟩
    refine ⟨true, TT.xr, fun _ e he => ⟨by decide, fun pp hpp => ?_⟩, fun z => nomatch z⟩
    have n7 := (((n14.trans0 n6).new hd).new he).new (o := .tup [.ref e, .non]) hpp
    have he' := kpn (o := .tup [.ref e, .non]) (upd_same (a := e) (o := ExV (.ref BR) (some d) e)) hpp
    have hd' := kpn (o := .tup [.ref e, .non]) (kpn (o := ExV (.ref BR) (some d) e) (upd_same (a := d) (o := .xd [(("value" : Str), .ref pr)])) he) hpp
    refine ⟨e, BR, BR, d, _, true, rfl, he', hd', TT.vr, TT.kr, ?_⟩
    simp only [onI_i, onB_b, onR_r, onT_t, onO_s, onS_s, onV_s, ↓tVar_e, ↓tC_e, ↓tNil_e, ↓tCons_e, ↓tCB_e, ↓tOp_e, ↓rI_e, ↓rI0_e, ↓tUn_e, ↓rU_e, ↓rEq_e, ↓rNe_e, scal_ii, scal_ss, scal_bb, ↓tAndV_e, ↓tOrV_e, ↓tNotV_e, ↓tAnd_e, ↓tOr_e, ↓tNot_e, ↓tTest_e, ↓tB_e, ↓tIf_e, ↓tChain_e, ↓tSeq_e, ↓tNext_e, ↓tBreak_e, ↓tCont_e, ↓tDrop_e, ↓tRet_e, ↓tRetN_e, ↓tIfS_e, ↓tAsg_e, ↓gName_e, onL2_e, ↓tPar_e2, onCons_e, ↓gNil_e, ↓gCons_e, ↓tTup_e, ↓tTupF_e, ↓tLst_e, ↓tFld_e, ↓sFld_e, ↓sFldAug_e, ↓rAdd_e, ↓rSub_e, ↓tCall_e, ↓tProp_e, ↓tRaiseAsk_e, ↓getSp_e, ↓tMeth_e, ↓tMake_e, ↓rRep_e, ↓rCat_e, ↓tSl_e, ↓tNoPart_e, ↓tPart_e, ↓tYes_e, ↓tFor_e, ↓iTup_e, ↓iList_e, onL1_e, ↓iRng1_e, ↓iRng2_e, ↓iEnT_e, ↓tLc_e, ↓start_e, onD_s, onLst_s, ↓tApp_e, cxOf_K, upd_same, upd_upd, List.getElem?_cons_zero, List.getElem?_cons_succ, List.set_cons_zero, List.set_cons_succ, List.map_cons, List.map_nil, List.append_nil, List.cons_append, List.nil_append, List.length_cons, List.length_nil, List.replicate_succ, List.replicate_zero, Nat.reduceAdd, Nat.reduceSub, Nat.reduceLT, V.int.injEq, V.bl.injEq, V.str.injEq, V.ref.injEq, decide_eq_true_eq, Bool.not_true, Bool.not_false, Bool.false_eq_true, Bool.not_eq_true', decide_eq_false_iff_not, ↓reduceIte, true_and, and_true, and_self, decide_true, decide_false, not_false_eq_true, not_true_eq_false, eq_self, onN_s, int1_i, int1_b, one_i, two_i, ↓rIxA_e, ↓gSub_e, ↓rSetL_e, at3_0, at3_1, at3_2, ix3_0, ix3_1, ix3_2, onNum_i, onNum_b, ↓rIntA_e, ↓rMinA_e, ↓rMaxA_e, ↓rAbsA_e, ↓rLenL_e, ↓rSlLst_e, onTu_s, ↓gTupA_e, ↓rIxTu_e, ↓tRg1_e, ↓tLstRg_e, onRp_n, onRp_b, onRp_i, ↓rReprA_e, ↓rIsN_e, reduceCtorEq]
    exact ⟨rfl, n7.wl, fun H' n' => k H' (n7.trans0 n')⟩
/-! ### the law -/
theorem Nx.sqL {H H1 : Hp} {a : Addr} {xs : List V} (n : Nx B [] H H1) (h : SqL K H a xs) : SqL K H1 a xs := by
  rcases h with (e | ⟨o, e⟩) | e
  · exact .inl (.inl (n.at e (by simp)))
  · exact .inl (.inr ⟨o, n.at e (by simp)⟩)
  · exact .inr e
def spLaw (K : PySem.W.Frag) (B : Tb) : Sp := fun vs H Q _ => ∃ (a : Addr) (ns : List Int), vs = [.ref a] ∧ SqL K H a (ns.map .int) ∧ ns.length ≤ 63 ∧ Wl B H ∧ ∀ H', Q (.bl true) H'
theorem sc39 : FnScope ["script", "place"] ["script"] (defScope (top 39)) := ⟨rfl, rfl, rfl, by decide +kernel, rfl, by decide +kernel, by decide +kernel⟩
theorem ok_law (T : Ty P K mg base cP AE BN BR B c0 P0 c1 P1 c2 P2) {f : Addr} {fd : FuncData} (F : FunD K "law" "law" (defArgs (top 39)) (defBody (top 39)) (defScope (top 39)) [] [] f fd) : FnOk P w K mg base (L2.CX P w) 15 f fd ["script"] (spLaw K B) := by
  have TT := T.x.t
  have D1 : Dfn P w K mg base "_law_right" 14 _ _ := ok_right T
  have D2 : Dfn P w K mg base "_law_pot" 1 _ _ := ok_pot T
  have D3 : Dfn P w K mg base "_law_cells" 1 _ _ := ok_cells T
  refine fnok_mk (cp := fun _ => True) F sc39 (fun vs H Q E h => ?_) trivial (fun cdv A outer s H vs Q E hr hc h => ?_)
  · obtain ⟨q, ns, rfl, _⟩ := h
    rfl
  · obtain ⟨a, ns, rfl, ha, hlen, wl, k⟩ := h
    have r1 := hr.mono (show 1 ≤ 14 by decide)
    refine ⟨_, pss_one (ps_ret (pe_callB (cr_all rfl) rfl TT.ball PyProof.Rows.boot_all (pa_cons (pe_lc (own := [("place", 1)]) rfl sc39.nd (pi_list (pe_dfn D3 r1 rfl passL (pa_cons (pv 0) (pa_cons pe_int pa_nil)))) (by exact blkOk_by (N := ["script", "place"]) (sc := defScope (top 39)) (by decide +kernel))
        (fun _ _ _ _ _ => pg_name (i := 1) sc39.nd rfl (Or.inl rfl) (.inr rfl)) (fun _ _ _ _ _ => pts_nil) (fun _ _ _ _ _ => pe_dfn D1 hr rfl passL (pa_cons (pe_dfn D2 r1 rfl passL (pa_cons (pv 0) (pa_cons (pv 1) pa_nil))) pa_nil))) pa_nil))), ?_⟩
    simp only [onI_i, onB_b, onR_r, onT_t, onO_s, onS_s, onV_s, ↓tVar_e, ↓tC_e, ↓tNil_e, ↓tCons_e, ↓tCB_e, ↓tOp_e, ↓rI_e, ↓rI0_e, ↓tUn_e, ↓rU_e, ↓rEq_e, ↓rNe_e, scal_ii, scal_ss, scal_bb, ↓tAndV_e, ↓tOrV_e, ↓tNotV_e, ↓tAnd_e, ↓tOr_e, ↓tNot_e, ↓tTest_e, ↓tB_e, ↓tIf_e, ↓tChain_e, ↓tSeq_e, ↓tNext_e, ↓tBreak_e, ↓tCont_e, ↓tDrop_e, ↓tRet_e, ↓tRetN_e, ↓tIfS_e, ↓tAsg_e, ↓gName_e, onL2_e, ↓tPar_e2, onCons_e, ↓gNil_e, ↓gCons_e, ↓tTup_e, ↓tTupF_e, ↓tLst_e, ↓tFld_e, ↓sFld_e, ↓sFldAug_e, ↓rAdd_e, ↓rSub_e, ↓tCall_e, ↓tProp_e, ↓tRaiseAsk_e, ↓getSp_e, ↓tMeth_e, ↓tMake_e, ↓rRep_e, ↓rCat_e, ↓tSl_e, ↓tNoPart_e, ↓tPart_e, ↓tYes_e, ↓tFor_e, ↓iTup_e, ↓iList_e, onL1_e, ↓iRng1_e, ↓iRng2_e, ↓iEnT_e, ↓tLc_e, ↓start_e, onD_s, onLst_s, ↓tApp_e, cxOf_K, upd_same, upd_upd, List.getElem?_cons_zero, List.getElem?_cons_succ, List.set_cons_zero, List.set_cons_succ, List.map_cons, List.map_nil, List.append_nil, List.cons_append, List.nil_append, List.length_cons, List.length_nil, List.replicate_succ, List.replicate_zero, Nat.reduceAdd, Nat.reduceSub, Nat.reduceLT, V.int.injEq, V.bl.injEq, V.str.injEq, V.ref.injEq, decide_eq_true_eq, Bool.not_true, Bool.not_false, Bool.false_eq_true, Bool.not_eq_true', decide_eq_false_iff_not, ↓reduceIte, true_and, and_true, and_self, decide_true, decide_false, not_false_eq_true, not_true_eq_false, eq_self, onN_s, int1_i, int1_b, one_i, two_i, ↓rIxA_e, ↓gSub_e, ↓rSetL_e, at3_0, at3_1, at3_2, ix3_0, ix3_1, ix3_2, onNum_i, onNum_b, ↓rIntA_e, ↓rMinA_e, ↓rMaxA_e, ↓rAbsA_e, ↓rLenL_e, ↓rSlLst_e, onTu_s, ↓gTupA_e, ↓rIxTu_e, ↓tRg1_e, ↓tLstRg_e, onRp_n, onRp_b, onRp_i, ↓rReprA_e, ↓rIsN_e, reduceCtorEq]
    refine ⟨a, ns.map .int, rfl, ha, by rw [List.length_map]; omega, fun l n hl hn => ?_⟩
    have n1 : Nx B [] H (upd H l (.lst (rgV 0 n))) := (Nx.refl wl).new hl
    have hl1 : upd H l (.lst (rgV 0 n)) l = some (.lst (rgV 0 n)) := upd_same
    have key : ∀ x ∈ rgV 0 n, ∃ pl : Int, x = .int pl ∧ 0 ≤ pl ∧ pl ≤ 1 ∧ (pl < (ns.length : Int) ∨ ns = []) := by
      rw [List.length_map] at hn
      have e0 : (0 : Int) < (ns.length : Int) ∨ ns = [] := by
        cases ns with
        | nil => exact .inr rfl
        | cons x r => exact .inl (by simp only [List.length_cons]; omega)
      rcases hn with rfl | ⟨rfl, h2⟩
      · intro x hx
        have e : rgV 0 1 = [.int 0] := by decide +kernel
        rw [e] at hx
        exact ⟨0, List.mem_singleton.mp hx, by omega, by omega, e0⟩
      · intro x hx
        have e : rgV 0 2 = [.int 0, .int 1] := by decide +kernel
        rw [e] at hx
        simp only [List.mem_cons, List.not_mem_nil, or_false] at hx
        rcases hx with hx | hx
        · exact ⟨0, hx, by omega, by omega, e0⟩
        · exact ⟨1, hx, by omega, by omega, .inl (by omega)⟩
    have hlen2 : (rgV 0 n).length ≤ 2 := by
      rw [rgV_length]
      omega
    generalize rgV 0 n = cs at n1 hl1 key hlen2 ⊢
    have ha1 := Nx.sqL n1 ha
    generalize upd H l (.lst cs) = H1 at n1 hl1 ha1 ⊢
    simp only [onI_i, onB_b, onR_r, onT_t, onO_s, onS_s, onV_s, ↓tVar_e, ↓tC_e, ↓tNil_e, ↓tCons_e, ↓tCB_e, ↓tOp_e, ↓rI_e, ↓rI0_e, ↓tUn_e, ↓rU_e, ↓rEq_e, ↓rNe_e, scal_ii, scal_ss, scal_bb, ↓tAndV_e, ↓tOrV_e, ↓tNotV_e, ↓tAnd_e, ↓tOr_e, ↓tNot_e, ↓tTest_e, ↓tB_e, ↓tIf_e, ↓tChain_e, ↓tSeq_e, ↓tNext_e, ↓tBreak_e, ↓tCont_e, ↓tDrop_e, ↓tRet_e, ↓tRetN_e, ↓tIfS_e, ↓tAsg_e, ↓gName_e, onL2_e, ↓tPar_e2, onCons_e, ↓gNil_e, ↓gCons_e, ↓tTup_e, ↓tTupF_e, ↓tLst_e, ↓tFld_e, ↓sFld_e, ↓sFldAug_e, ↓rAdd_e, ↓rSub_e, ↓tCall_e, ↓tProp_e, ↓tRaiseAsk_e, ↓getSp_e, ↓tMeth_e, ↓tMake_e, ↓rRep_e, ↓rCat_e, ↓tSl_e, ↓tNoPart_e, ↓tPart_e, ↓tYes_e, ↓tFor_e, ↓iTup_e, ↓iList_e, onL1_e, ↓iRng1_e, ↓iRng2_e, ↓iEnT_e, ↓tLc_e, ↓start_e, onD_s, onLst_s, ↓tApp_e, cxOf_K, upd_same, upd_upd, List.getElem?_cons_zero, List.getElem?_cons_succ, List.set_cons_zero, List.set_cons_succ, List.map_cons, List.map_nil, List.append_nil, List.cons_append, List.nil_append, List.length_cons, List.length_nil, List.replicate_succ, List.replicate_zero, Nat.reduceAdd, Nat.reduceSub, Nat.reduceLT, V.int.injEq, V.bl.injEq, V.str.injEq, V.ref.injEq, decide_eq_true_eq, Bool.not_true, Bool.not_false, Bool.false_eq_true, Bool.not_eq_true', decide_eq_false_iff_not, ↓reduceIte, true_and, and_true, and_self, decide_true, decide_false, not_false_eq_true, not_true_eq_false, eq_self, onN_s, int1_i, int1_b, one_i, two_i, ↓rIxA_e, ↓gSub_e, ↓rSetL_e, at3_0, at3_1, at3_2, ix3_0, ix3_1, ix3_2, onNum_i, onNum_b, ↓rIntA_e, ↓rMinA_e, ↓rMaxA_e, ↓rAbsA_e, ↓rLenL_e, ↓rSlLst_e, onTu_s, ↓gTupA_e, ↓rIxTu_e, ↓tRg1_e, ↓tLstRg_e, onRp_n, onRp_b, onRp_i, ↓rReprA_e, ↓rIsN_e, reduceCtorEq]
    refine ⟨⟨_, SqL.of hl1⟩, fun D hD => lc_list (K := K) (a := l) (xs := cs) (fun i H' => Nx B [] H1 H' ∧ H' D = some (.lst ((List.replicate i true).map .bl)))
      ⟨(Nx.refl n1.wl).new hD, upd_same⟩ (fun i H' _ ⟨n, _⟩ => SqL.of (n.at hl1 (by simp))) ?_ ?_⟩
    · rintro i x H2 hi ⟨n2, hd⟩
      obtain ⟨pl, rfl, q0, q1, q2⟩ := key x (List.mem_of_getElem? hi)
      have hi2 : i < cs.length := (List.getElem?_eq_some_iff.mp hi).1
      simp only [onI_i, onB_b, onR_r, onT_t, onO_s, onS_s, onV_s, ↓tVar_e, ↓tC_e, ↓tNil_e, ↓tCons_e, ↓tCB_e, ↓tOp_e, ↓rI_e, ↓rI0_e, ↓tUn_e, ↓rU_e, ↓rEq_e, ↓rNe_e, scal_ii, scal_ss, scal_bb, ↓tAndV_e, ↓tOrV_e, ↓tNotV_e, ↓tAnd_e, ↓tOr_e, ↓tNot_e, ↓tTest_e, ↓tB_e, ↓tIf_e, ↓tChain_e, ↓tSeq_e, ↓tNext_e, ↓tBreak_e, ↓tCont_e, ↓tDrop_e, ↓tRet_e, ↓tRetN_e, ↓tIfS_e, ↓tAsg_e, ↓gName_e, onL2_e, ↓tPar_e2, onCons_e, ↓gNil_e, ↓gCons_e, ↓tTup_e, ↓tTupF_e, ↓tLst_e, ↓tFld_e, ↓sFld_e, ↓sFldAug_e, ↓rAdd_e, ↓rSub_e, ↓tCall_e, ↓tProp_e, ↓tRaiseAsk_e, ↓getSp_e, ↓tMeth_e, ↓tMake_e, ↓rRep_e, ↓rCat_e, ↓tSl_e, ↓tNoPart_e, ↓tPart_e, ↓tYes_e, ↓tFor_e, ↓iTup_e, ↓iList_e, onL1_e, ↓iRng1_e, ↓iRng2_e, ↓iEnT_e, ↓tLc_e, ↓start_e, onD_s, onLst_s, ↓tApp_e, cxOf_K, upd_same, upd_upd, List.getElem?_cons_zero, List.getElem?_cons_succ, List.set_cons_zero, List.set_cons_succ, List.map_cons, List.map_nil, List.append_nil, List.cons_append, List.nil_append, List.length_cons, List.length_nil, List.replicate_succ, List.replicate_zero, Nat.reduceAdd, Nat.reduceSub, Nat.reduceLT, V.int.injEq, V.bl.injEq, V.str.injEq, V.ref.injEq, decide_eq_true_eq, Bool.not_true, Bool.not_false, Bool.false_eq_true, Bool.not_eq_true', decide_eq_false_iff_not, ↓reduceIte, true_and, and_true, and_self, decide_true, decide_false, not_false_eq_true, not_true_eq_false, eq_self, onN_s, int1_i, int1_b, one_i, two_i, ↓rIxA_e, ↓gSub_e, ↓rSetL_e, at3_0, at3_1, at3_2, ix3_0, ix3_1, ix3_2, onNum_i, onNum_b, ↓rIntA_e, ↓rMinA_e, ↓rMaxA_e, ↓rAbsA_e, ↓rLenL_e, ↓rSlLst_e, onTu_s, ↓gTupA_e, ↓rIxTu_e, ↓tRg1_e, ↓tLstRg_e, onRp_n, onRp_b, onRp_i, ↓rReprA_e, ↓rIsN_e, reduceCtorEq, wipe]
      refine ⟨a, pl, ns, rfl, Nx.sqL n2 ha1, q0, q1, q2, by omega, n2.wl, fun H3 q n3 hq hp => ?_⟩
      simp only [onI_i, onB_b, onR_r, onT_t, onO_s, onS_s, onV_s, ↓tVar_e, ↓tC_e, ↓tNil_e, ↓tCons_e, ↓tCB_e, ↓tOp_e, ↓rI_e, ↓rI0_e, ↓tUn_e, ↓rU_e, ↓rEq_e, ↓rNe_e, scal_ii, scal_ss, scal_bb, ↓tAndV_e, ↓tOrV_e, ↓tNotV_e, ↓tAnd_e, ↓tOr_e, ↓tNot_e, ↓tTest_e, ↓tB_e, ↓tIf_e, ↓tChain_e, ↓tSeq_e, ↓tNext_e, ↓tBreak_e, ↓tCont_e, ↓tDrop_e, ↓tRet_e, ↓tRetN_e, ↓tIfS_e, ↓tAsg_e, ↓gName_e, onL2_e, ↓tPar_e2, onCons_e, ↓gNil_e, ↓gCons_e, ↓tTup_e, ↓tTupF_e, ↓tLst_e, ↓tFld_e, ↓sFld_e, ↓sFldAug_e, ↓rAdd_e, ↓rSub_e, ↓tCall_e, ↓tProp_e, ↓tRaiseAsk_e, ↓getSp_e, ↓tMeth_e, ↓tMake_e, ↓rRep_e, ↓rCat_e, ↓tSl_e, ↓tNoPart_e, ↓tPart_e, ↓tYes_e, ↓tFor_e, ↓iTup_e, ↓iList_e, onL1_e, ↓iRng1_e, ↓iRng2_e, ↓iEnT_e, ↓tLc_e, ↓start_e, onD_s, onLst_s, ↓tApp_e, cxOf_K, upd_same, upd_upd, List.getElem?_cons_zero, List.getElem?_cons_succ, List.set_cons_zero, List.set_cons_succ, List.map_cons, List.map_nil, List.append_nil, List.cons_append, List.nil_append, List.length_cons, List.length_nil, List.replicate_succ, List.replicate_zero, Nat.reduceAdd, Nat.reduceSub, Nat.reduceLT, V.int.injEq, V.bl.injEq, V.str.injEq, V.ref.injEq, decide_eq_true_eq, Bool.not_true, Bool.not_false, Bool.false_eq_true, Bool.not_eq_true', decide_eq_false_iff_not, ↓reduceIte, true_and, and_true, and_self, decide_true, decide_false, not_false_eq_true, not_true_eq_false, eq_self, onN_s, int1_i, int1_b, one_i, two_i, ↓rIxA_e, ↓gSub_e, ↓rSetL_e, at3_0, at3_1, at3_2, ix3_0, ix3_1, ix3_2, onNum_i, onNum_b, ↓rIntA_e, ↓rMinA_e, ↓rMaxA_e, ↓rAbsA_e, ↓rLenL_e, ↓rSlLst_e, onTu_s, ↓gTupA_e, ↓rIxTu_e, ↓tRg1_e, ↓tLstRg_e, onRp_n, onRp_b, onRp_i, ↓rReprA_e, ↓rIsN_e, reduceCtorEq]
      refine ⟨q, rfl, hp, n3.wl, fun H4 n4 => ?_⟩
      have n34 : Nx B [] H2 H4 := n3.trans n4 fun b hb => .inr (by rw [List.mem_singleton.mp hb]; exact hq)
      have hd4 := n34.at hd (by simp)
      refine ⟨_, hd4, by rw [List.length_map, List.length_replicate, sizeLine_eq]; omega, (n2.trans0 n34).wr (.inr hD) hd4 rfl, ?_⟩
      have er : (List.replicate (i + 1) true).map V.bl = (List.replicate i true).map V.bl ++ [V.bl true] := by rw [List.replicate_succ', List.map_append]; rfl
      exact congrArg (fun z => some (HO.lst z)) er.symm
    · rintro H2 ⟨n2, hd⟩
      refine ⟨D, List.replicate cs.length true, rfl, SqL.of hd, ?_⟩
      have e : (List.replicate cs.length true).all id = true := by
        rw [List.all_eq_true]
        intro b hb
        exact List.eq_of_mem_replicate hb
      rw [e]
      exact k H2
end
end K49
set_option Elab.async false
set_option linter.all false
set_option maxRecDepth 100000
set_option maxHeartbeats 4000000
/-! A head's observation with facts, getters, tables, error classes. -/
namespace HQ
open PySem PySem.Spec PyProof.Rows L2 He
/-- a function anywhere: its closure's names alone -/
abbrev FnC : Type := Option (Str × Str × Arguments × FuncBody × Scope × Addr × List Str × Addr)
def fnC (K : PySem.W.Frag) (a : Addr) : FnC := match K.lookup a with
  | some ⟨_, _, .func fd, _⟩ => some (fd.name, fd.qualname, fd.params, fd.body, fd.scope, fd.globals, fd.closure.map (·.1), fd.builtins)
  | _ => none
def bareB (K : PySem.W.Frag) (a : Addr) (q : Str) : Bool := match K.lookup a with
  | some ⟨_, _, .func fd, _⟩ => decide (fd.defaults = .none) && PySem.W.codeIn K fd.code q
  | _ => false
theorem fnC_plain {K : PySem.W.Frag} {a : Addr} {x q : Str} {ar : Arguments} {b : List Stmt} {sc : Scope} (e : fnC K a = some (x, q, ar, .stmts b, sc, mainGlobals, [], builtinsNs)) (c : bareB K a q = true) :
    ∃ oc od kV doc pm an cdv ct osl, K.lookup a = some ⟨oc, od, .func (PySem.W.fnOf x q ar b sc .none kV doc pm an cdv ct), osl⟩ ∧ PySem.W.codeIn K cdv q = true := by
  unfold fnC at e
  unfold bareB at c
  cases h : K.lookup a with
  | none =>
    rw [h] at c
    cases c
  | some o =>
    obtain ⟨oc, od, dt, osl⟩ := o
    rw [h] at c e
    cases dt with
    | func fd =>
      obtain ⟨n1, n2, n3, n4, n5, n6, n7, n8, n9, n10, n11, n12, n13, n14, n15⟩ := fd
      have e2 : (some (n1, n2, n3, n4, n5, n6, n7.map (·.1), n15) : FnC) = some (x, q, ar, .stmts b, sc, mainGlobals, [], builtinsNs) := e
      simp only [Option.some.injEq, Prod.mk.injEq] at e2
      obtain ⟨h1, h2, h3, h4, h5, h6, h7, h8⟩ := e2
      have h9 : n7 = [] := by
        cases n7 with
        | nil => rfl
        | cons _ _ => cases h7
      subst h1 h2 h3 h4 h5 h6 h9 h8
      obtain ⟨k1, k2⟩ := ba (show (decide (n8 = .none) && PySem.W.codeIn K n13 n2) = true from c)
      have k3 := of_decide_eq_true k1
      subst k3
      exact ⟨oc, od, n9, n10, n11, n12, n13, n14, osl, rfl, k2⟩
    | _ => cases c
/-- a property's getter -/
def prG (K : PySem.W.Frag) (C : Addr) (m : Str) : Addr := match PySem.W.recIn K (ma K C m) "property" with
  | some (.ref g :: _) => g
  | _ => 0
def prB (K : PySem.W.Frag) (C : Addr) (m : Str) (q : Str) : Bool := eqO (PySem.W.findIn K (.ref C) m) (some (some (.ref (ma K C m)))) && (eqO (PySem.W.specialIn K (.ref (ma K C m)) "__get__") (some (some (.builtin "property.__get__"))) &&
  (decide (PySem.W.takesIn K (.ref (ma K C m)) = some true) && ((match PySem.W.recIn K (ma K C m) "property" with
    | some (.ref _ :: _) => true
    | _ => false) && bareB K (prG K C m) q)))
theorem prB_ok {K : PySem.W.Frag} {C : Addr} {m q : Str} (h : prB K C m q = true) : PropOf K C m (ma K C m) (prG K C m) ∧ bareB K (prG K C m) q = true := by
  obtain ⟨h1, h⟩ := ba h
  obtain ⟨h2, h⟩ := ba h
  obtain ⟨h3, h⟩ := ba h
  obtain ⟨h4, h5⟩ := ba h
  refine ⟨⟨eqO_ok h1, eqO_ok h2, of_decide_eq_true h3, ?_⟩, h5⟩
  unfold prG
  split at h4
  · rename_i g r e
    rw [e]
    exact ⟨r, rfl⟩
  · cases h4
theorem hasP {K : PySem.W.Frag} {C : Addr} {m q : Str} {st : Stmt} (h : prB K C m q = true) (e : fnC K (prG K C m) = some (m, q, defArgs st, .stmts (defBody st), defScope st, mainGlobals, [], builtinsNs)) : HasP K C m q st := by
  obtain ⟨p, c⟩ := prB_ok h
  obtain ⟨oc, od, kV, doc, pm, an, cdv, ct, osl, lk, cd⟩ := fnC_plain e c
  exact ⟨_, _, oc, od, kV, doc, pm, an, cdv, ct, osl, p, lk, cd⟩
/-! ### an error class whose base's __init__ says super() -/
def excB (K : PySem.W.Frag) (C : Addr) : Bool := match K.lookup C with
  | some ⟨.type "type", _, .cls cd, sl⟩ => (match cd.mro, sl.toList with
    | .ref C' :: bm, [_, _, _, _, some (.builtin n), _] => C' == C && (n == "ValueError.__new__" && (!cd.hasDel && (cd.hasDict && PySem.HandSPX.refsVE bm)))
    | _, _ => false)
  | _ => false
theorem excB_ok {K : PySem.W.Frag} {C : Addr} (h : excB K C = true) : ∃ nm q N bs bm sn sub ab col dd k0 k1 k2 k3 k5, K.lookup C = some (excClassObj nm q C N bs bm true sn sub ab col dd k0 k1 k2 k3 k5 "ValueError.__new__") ∧ PySem.HandSPX.refsVE bm = true := by
  unfold excB at h
  split at h
  · rename_i dd cd sl ho
    split at h
    · rename_i C' bm k0 k1 k2 k3 n k5 hm hs
      obtain ⟨h1, h⟩ := ba h
      obtain ⟨h2, h⟩ := ba h
      obtain ⟨h3, h⟩ := ba h
      obtain ⟨h4, h5⟩ := ba h
      have e1 := beq_iff_eq.mp h1
      have e2 := beq_iff_eq.mp h2
      have e3 := Bool.not_eq_true' _ |>.mp h3
      subst e1 e2
      obtain ⟨nm, bs, mro, ns, qn, hd, sn, sub, ab, col, del⟩ := cd
      dsimp only at hm h4 e3
      subst hm h4 e3
      have hsl : sl = #[k0, k1, k2, k3, some (.builtin "ValueError.__new__"), k5] := by
        obtain ⟨l⟩ := sl
        simp only at hs
        rw [hs]
      subst hsl
      exact ⟨nm, qn, ns, bs, bm, sn, sub, ab, col, dd, k0, k1, k2, k3, k5, ho, h5⟩
    · cases h
  · cases h
def cellOf (K : PySem.W.Frag) (f : Addr) : Addr := match K.lookup f with
  | some ⟨_, _, .func fd, _⟩ => (match fd.closure with
    | [p] => p.2
    | _ => 0)
  | _ => 0
def supB (P : Program) (K : PySem.W.Frag) (f D : Addr) (q : Str) : Bool := match K.lookup f with
  | some ⟨_, _, .func fd, _⟩ => decide (fd.defaults = .none) && (decide (fd.kwdefaults = .none) && (PySem.W.codeIn K fd.code q && ((match fd.code with
    | .ref c => (match K.lookup c with
      | some ⟨_, _, .fields vs, _⟩ => (match (vs[2]? : Option Value) with
        | some (.str file _) => (P.main.file : Str) == file
        | _ => false)
      | _ => false)
    | _ => false) && (match K.lookup (cellOf K f) with
    | some ⟨_, _, .cell (some (.ref D')), _⟩ => D' == D
    | _ => false))))
  | _ => false
theorem supB_ok {P : Program} {K : PySem.W.Frag} {f D : Addr} {x q : Str} {ar : Arguments} {b : List Stmt} {sc : Scope} (e : fnC K f = (some (x, q, ar, .stmts b, sc, mainGlobals, ["__class__"], builtinsNs) : FnC)) (h : supB P K f D q = true) :
    ∃ (oc : Value) (od : Option Addr) (doc pm : Value) (an : Option Addr) (cda : Addr) (ct : Value) (osl : Array (Option Value)),
      K.lookup f = some ⟨oc, od, .func (PySem.W.ksFn x q ar b sc .none .none doc pm an (.ref cda) ct (cellOf K f)), osl⟩ ∧ PySem.W.codeIn K (.ref cda) q = true ∧
      (∃ ccl cdd vs ccs file tf, K.lookup cda = some ⟨ccl, cdd, .fields vs, ccs⟩ ∧ vs[2]? = some (.str file tf) ∧ ((P.main.file : Str) == file) = true) ∧
      ∃ cl cld csl, K.lookup (cellOf K f) = some ⟨cl, cld, .cell (some (.ref D)), csl⟩ := by
  have hc : ∀ fd oc od osl, K.lookup f = some ⟨oc, od, .func fd, osl⟩ → cellOf K f = (match fd.closure with | [p] => p.2 | _ => 0) := fun fd oc od osl hk => by
    unfold cellOf
    rw [hk]
  unfold fnC at e
  unfold supB at h
  generalize cellOf K f = cc at hc h ⊢
  cases hk : K.lookup f with
  | none =>
    rw [hk] at h
    cases h
  | some o =>
    obtain ⟨oc, od, dt, osl⟩ := o
    rw [hk] at h e
    cases dt with
    | func fd =>
      have hcc := hc fd oc od osl hk
      clear hc
      obtain ⟨n1, n2, n3, n4, n5, n6, n7, n8, n9, n10, n11, n12, n13, n14, n15⟩ := fd
      have e2 : (some (n1, n2, n3, n4, n5, n6, n7.map (·.1), n15) : FnC) = (some (x, q, ar, .stmts b, sc, mainGlobals, ["__class__"], builtinsNs) : FnC) := e
      simp only [Option.some.injEq, Prod.mk.injEq] at e2
      obtain ⟨h1, h2, h3, h4, h5, h6, h7, h8⟩ := e2
      subst h1 h2 h3 h4 h5 h6 h8
      obtain ⟨y, rfl⟩ : ∃ y : Str × Addr, n7 = [y] := by
        cases n7 with
        | nil => cases h7
        | cons y r => cases r with
          | nil => exact ⟨y, rfl⟩
          | cons _ _ => exact absurd (congrArg List.length h7) (by simp)
      obtain ⟨y1, y2⟩ := y
      have h9 : y1 = "__class__" := by
        have := h7
        simp only [List.map_cons, List.map_nil, List.cons.injEq, and_true] at this
        exact this
      have h10 : cc = y2 := hcc
      subst h9 h10
      obtain ⟨k1, h⟩ := ba h
      obtain ⟨k2, h⟩ := ba h
      obtain ⟨k3, h⟩ := ba h
      obtain ⟨k4, k5⟩ := ba h
      have z1 := of_decide_eq_true k1
      have z2 := of_decide_eq_true k2
      dsimp only at z1 z2 k3 k4
      subst z1 z2
      cases n13 with
      | ref cda =>
        dsimp only at k4
        cases hq : K.lookup cda with
        | none =>
          rw [hq] at k4
          cases k4
        | some oq =>
          obtain ⟨ccl, cdd, dq, ccs⟩ := oq
          rw [hq] at k4
          cases dq with
          | fields vs =>
            dsimp only at k4
            split at k4
            · rename_i file tf hv
              refine ⟨oc, od, n10, n11, n12, cda, n14, osl, rfl, k3, ⟨ccl, cdd, vs, ccs, file, tf, hq, hv, k4⟩, ?_⟩
              split at k5
              · rename_i cl cld D' csl hz
                rw [beq_iff_eq.mp k5] at hz
                exact ⟨cl, cld, csl, hz⟩
              · cases k5
            · cases k4
          | _ => cases k4
      | _ => cases k4
    | _ => cases h
/-- what is asked of an error class at C, of its base at D -/
def askB (P : Program) (K : PySem.W.Frag) (C D fI : Addr) : Bool :=
  excB K C && (eqO (PySem.W.findIn K (.ref C) "__setattr__") (some (some (.builtin "object.__setattr__"))) && (eqO (PySem.W.findIn K (.ref C) "value") (some none) && (eqO (PySem.W.findIn K (.ref C) "__init__") (some (some (.ref fI))) &&
  (decide (PySem.W.typeIn K (.ref fI) = some (.type "function")) && ((PySem.W.clsIn K D).isSome && (decide (PySem.W.mroIn K C (.ref D) = some true) && (eqO (PySem.W.ks_superIn K C D "__init__") (some (some (.builtin "ValueError.__init__"))) &&
  (decide (PySem.W.subIn K (.ref C) (.type "ValueError") = some true) && (eqO (PySem.W.nsIn K cStatics "thirdparty.any") (some none) && (!(P.main.scope.names.lookup ("super" : Str)).isSome && supB P K fI D AskE.qI))))))))))
theorem askB_ok {P : Program} {K : PySem.W.Frag} {C D fI : Addr} (h : askB P K C D fI = true) (e : fnC K fI = (some ("__init__", AskE.qI, AskE.iA, .stmts AskE.iB, AskE.iS, mainGlobals, ["__class__"], builtinsNs) : FnC)) : AskE.AskTxt P K C D fI (cellOf K fI) := by
  obtain ⟨h1, h⟩ := ba h
  obtain ⟨h2, h⟩ := ba h
  obtain ⟨h3, h⟩ := ba h
  obtain ⟨h4, h⟩ := ba h
  obtain ⟨h5, h⟩ := ba h
  obtain ⟨h6, h⟩ := ba h
  obtain ⟨h7, h⟩ := ba h
  obtain ⟨h8, h⟩ := ba h
  obtain ⟨h9, h⟩ := ba h
  obtain ⟨h10, h⟩ := ba h
  obtain ⟨h11, h12⟩ := ba h
  exact ⟨excB_ok h1, eqO_ok h2, eqO_ok h3, eqO_ok h4, of_decide_eq_true h5, h6, of_decide_eq_true h7, eqO_ok h8, of_decide_eq_true h9, eqO_ok h10, Bool.not_eq_true' _ |>.mp h11, supB_ok e h12⟩
def exvB (K : PySem.W.Frag) (C : Addr) : Bool :=
  (PySem.W.clsIn K C).isSome && (eqO (PySem.W.findIn K (.ref C) "__getattribute__") (some (some (.builtin "BaseException.__getattribute__"))) && (eqO (PySem.W.findIn K (.ref C) "__getattr__") (some none) && (decide (PySem.W.subIn K (.ref C) (.type "BaseException") = some true) &&
  (PySem.W.hasDictIn K C && (eqO (PySem.W.findIn K (.ref C) "__class__") (some (some (.builtin "object.__class__"))) && (eqO (PySem.W.specialIn K (.builtin "object.__class__") "__get__") (some (some (.builtin "getset_descriptor.__get__"))) &&
  (decide (PySem.W.takesIn K (.builtin "object.__class__") = some true) && (decide (PySem.W.mroIn K C (.type "object") = some true) && eqO (PySem.W.findIn K (.ref C) "value") (some none)))))))))
theorem exvB_ok {K : PySem.W.Frag} {C : Addr} (h : exvB K C = true) : ExVC K C := by
  obtain ⟨h1, h⟩ := ba h
  obtain ⟨h2, h⟩ := ba h
  obtain ⟨h3, h⟩ := ba h
  obtain ⟨h4, h⟩ := ba h
  obtain ⟨h5, h⟩ := ba h
  obtain ⟨h6, h⟩ := ba h
  obtain ⟨h7, h⟩ := ba h
  obtain ⟨h8, h⟩ := ba h
  obtain ⟨h9, h10⟩ := ba h
  exact ⟨h1, eqO_ok h2, eqO_ok h3, of_decide_eq_true h4, h5, eqO_ok h6, eqO_ok h7, of_decide_eq_true h8, of_decide_eq_true h9, eqO_ok h10⟩
/-! ### the Hook -/
def frQ (n : Nat) (g : Addr → Option Obj) : PySem.W.Frag := frT g (asD g n ++ [cStatics])
structure Says (fa : List Fa) (fn : List DefD) (xs : List (PySem.W.Frag → Addr)) (vs : List FnC) (tf : List Defn) (ex : PySem.W.Frag → List Bool) (h : Heap) (K : PySem.W.Frag) : Prop where
  d : SaysD fa fn K
  x : xs.map (fun a => fnC K (a K)) = vs
  more : (ex K).all id = true
  hd : ∀ p ∈ tf, PySem.W.codeHdIn K (cT K p).1 (cT K p).2 = true
  out : ∀ p ∈ tf, K.lookup (cT K p).2 = none
  empty : ∀ p ∈ tf, h.get? (cT K p).2 = some { cls := .none, data := .fields #[] }
abbrev AlQ : Type := (AlD × List FnC) × Bool
def obsQ (n : Nat) (fa : List Fa) (fn : List DefD) (xs : List (PySem.W.Frag → Addr)) (tf : List Defn) (ex : PySem.W.Frag → List Bool) (g : Addr → Option Obj) : AlQ :=
  ((obsD fa fn (frQ n g), xs.map fun a => fnC (frQ n g) (a (frQ n g))), (ex (frQ n g)).all id && tabsB g tf (frQ n g))
theorem says_of {n : Nat} {fa : List Fa} {fn : List DefD} {xs : List (PySem.W.Frag → Addr)} {vs : List FnC} {tf : List Defn} {ex : PySem.W.Frag → List Bool} {h : Heap} (e : obsQ n fa fn xs tf ex h.get? = ((valD fn, vs), true)) : Says fa fn xs vs tf ex h (frQ n h.get?) := by
  have e1 : obsD fa fn (frQ n h.get?) = valD fn := congrArg (fun z : AlQ => z.1.1) e
  have e3 : xs.map (fun a => fnC (frQ n h.get?) (a (frQ n h.get?))) = vs := congrArg (fun z : AlQ => z.1.2) e
  have e2 : ((ex (frQ n h.get?)).all id && tabsB h.get? tf (frQ n h.get?)) = true := congrArg (fun z : AlQ => z.2) e
  obtain ⟨h1, h2⟩ := ba e2
  have key : ∀ p ∈ tf, PySem.W.codeHdIn (frQ n h.get?) (cT (frQ n h.get?) p).1 (cT (frQ n h.get?) p).2 = true ∧ ∃ o, h.get? (cT (frQ n h.get?) p).2 = some o ∧ emptyTab o = true := fun p hp => by
    obtain ⟨h3, h4⟩ := ba (List.all_eq_true.mp h2 p hp)
    refine ⟨h3, ?_⟩
    cases q : h.get? (cT (frQ n h.get?) p).2 with
    | none =>
      rw [q] at h4
      cases h4
    | some o =>
      rw [q] at h4
      exact ⟨o, rfl, h4⟩
  exact ⟨e1, e3, h1, fun p hp => (key p hp).1, fun p hp => by
    obtain ⟨_, o, q, z⟩ := key p hp
    exact frT_none q z, fun p hp => by
    obtain ⟨_, o, q, z⟩ := key p hp
    rw [q, emptyTab_eq z]⟩
def hookQ (n : Nat) (fa : List Fa) (fn : List DefD) (xs : List (PySem.W.Frag → Addr)) (vs : List FnC) (tf : List Defn) (ex : PySem.W.Frag → List Bool) : PySem.W.Hook where
  α := AlQ
  obs := fun s => obsQ n fa fn xs tf ex s.heap.get?
  val := fun _ => ((valD fn, vs), true)
  says := fun _ h => ∃ K : PySem.W.Frag, K.In h ∧ Says fa fn xs vs tf ex h K
  of := fun _ _ e => ⟨_, frT_in, says_of e⟩
  keeps := fun _ _ _ ⟨K, hK, c⟩ k => ⟨K, PySem.W.Frag.In.keeps hK k, ⟨c.d, c.x, c.more, c.hd, c.out, fun p hp => k _ _ (c.empty p hp)⟩⟩
theorem obsQ_eq {n : Nat} {fa : List Fa} {fn : List DefD} {xs : List (PySem.W.Frag → Addr)} {vs : List FnC} {tf : List Defn} {ex : PySem.W.Frag → List Bool} {g : Addr → Option Obj} {s : Shared} (h : ∀ a, g a = s.heap.get? a) : obsQ n fa fn xs tf ex g = (hookQ n fa fn xs vs tf ex).obs s := by
  have e : g = s.heap.get? := funext h
  rw [e] <;> rfl
section
variable {fa : List Fa} {fn : List DefD} {xs : List (PySem.W.Frag → Addr)} {vs : List FnC} {tf : List Defn} {ex : PySem.W.Frag → List Bool} {h : Heap} {K : PySem.W.Frag}
theorem Says.ex_ (c : Says fa fn xs vs tf ex h K) (i : Nat) {b : Bool} (e : (ex K)[i]? = some b := by rfl) : b = true := List.all_eq_true.mp c.more b (List.mem_of_getElem? e)
theorem Says.fn_ (c : Says fa fn xs vs tf ex h K) (i : Nat) {a : PySem.W.Frag → Addr} {v : FnC} (e : xs[i]? = some a := by rfl) (ev : vs[i]? = some v := by rfl) : fnC K (a K) = v := by
  have q : (xs.map fun a => fnC K (a K))[i]? = vs[i]? := by rw [c.x]
  rw [List.getElem?_map, e, ev] at q
  exact Option.some.inj q
end
end HQ
set_option Elab.async false
set_option linter.all false
set_option maxRecDepth 100000
set_option maxHeartbeats 0
/-! k49: the head, the end. -/
namespace K49
open PySem PySem.Spec PyProof.Rows L2
abbrev RWk : PySem.W.OpenRow := PySem.W.OpenLaw.row PySem.Challenge.rw_waitedandasked_k49_whole_purses_and_rows
abbrev Pk : Program := PySem.Challenge.pw_waitedandasked_k49_whole_purses_and_rows
def dD (x : Str) (i : Nat) : He.DefD := ⟨(x, none), x, x, defArgs (top i), defBody (top i), defScope (top i), [], []⟩
def dM (m q : Str) (j : Nat) : He.DefD := ⟨("Purse", some m), m, q, defArgs (mtd j), defBody (mtd j), defScope (mtd j), [], []⟩
def fn1 : List He.DefD := [dD "is_integer" 5, dD "check_number" 6, dD "is_row" 15, dD "check_row" 16, dD "told_by" 17, dD "let" 18, dD "check_firsts" 19, dD "most_of" 20, dD "most_let" 21, dD "row_for" 22, dD "shows_row" 23, dD "lets_all" 24, dD "least_most" 25, dD "_law_pot" 27, dD "_law_take" 28, dD "_law_of" 29, dD "_law_cells" 30, dD "_law_heard" 31]
def fn2 : List He.DefD := [dD "_law_doing" 32, dD "_law_row" 33, dD "_law_is_row_right" 34, dD "_law_is_most_right" 35, dD "_law_is_least_right" 36, dD "_law_are_bounds_right" 37, dD "_law_right" 38, dD "law" 39, dM "__init__" "Purse.__init__" 0, dM "first" "Purse.first" 6, dM "again" "Purse.again" 7, dM "copy" "Purse.copy" 8, dM "row" "Purse.row" 9, dM "__eq__" "Purse.__eq__" 10]
def fn : List He.DefD := fn1 ++ fn2
def fa0 : List He.Fa := [.glo "is_integer", .glo "check_number", .glo "is_row", .glo "check_row", .glo "told_by", .glo "let", .glo "check_firsts", .glo "most_of", .glo "most_let", .glo "row_for", .glo "shows_row", .glo "lets_all", .glo "least_most", .glo "_law_pot", .glo "_law_take", .glo "_law_of", .glo "_law_cells", .glo "_law_heard", .glo "_law_doing", .glo "_law_row", .glo "_law_is_row_right", .glo "_law_is_most_right", .glo "_law_is_least_right", .glo "_law_are_bounds_right", .glo "_law_right", .glo "law", .glo "Purse", .glo "BadNumber", .glo "BadRow", .glo "AskError"]
def fa1 : List He.Fa := [.free "isinstance", .free "int", .free "bool", .free "str", .free "tuple", .free "len", .free "all", .free "any", .free "range", .free "sum", .free "abs", .free "list", .free "max", .free "min", .free "enumerate", .free "repr", .free "super", .int "MOST_COINS" 1000, .int "MOST_PER" 1000, .int "MOST_FIRSTS" 1000, .int "MOST_ROW" 4000, .str "FIRST" "first", .str "AGAIN" "again", .cls "Purse", .noat "Purse" "own_most", .noat "Purse" "own_per", .noat "Purse" "own_coins", .noat "Purse" "own_firsts", .noat "Purse" "own_anew", .meth "Purse" "__init__"]
def fa2 : List He.Fa := [.meth "Purse" "first", .meth "Purse" "again", .meth "Purse" "copy", .meth "Purse" "row", .meth "Purse" "__eq__", .mkr "Purse", .exm "BadNumber" "AskError" true, .exm "BadRow" "AskError" true]
def fa : List He.Fa := fa0 ++ fa1 ++ fa2
def aI (K : PySem.W.Frag) : Addr := He.ma K (He.ga K "AskError") "__init__"
def xs : List (PySem.W.Frag → Addr) := [aI, fun K => HQ.prG K (He.ga K "Purse") "most", fun K => HQ.prG K (He.ga K "Purse") "per", fun K => HQ.prG K (He.ga K "Purse") "coins", fun K => HQ.prG K (He.ga K "Purse") "firsts", fun K => HQ.prG K (He.ga K "Purse") "anew"]
def vs : List HQ.FnC := [some ("__init__", AskE.qI, AskE.iA, .stmts AskE.iB, AskE.iS, mainGlobals, ["__class__"], builtinsNs), some ("most", "Purse.most", defArgs (mtd 1), .stmts (defBody (mtd 1)), defScope (mtd 1), mainGlobals, [], builtinsNs), some ("per", "Purse.per", defArgs (mtd 2), .stmts (defBody (mtd 2)), defScope (mtd 2), mainGlobals, [], builtinsNs), some ("coins", "Purse.coins", defArgs (mtd 3), .stmts (defBody (mtd 3)), defScope (mtd 3), mainGlobals, [], builtinsNs), some ("firsts", "Purse.firsts", defArgs (mtd 4), .stmts (defBody (mtd 4)), defScope (mtd 4), mainGlobals, [], builtinsNs), some ("anew", "Purse.anew", defArgs (mtd 5), .stmts (defBody (mtd 5)), defScope (mtd 5), mainGlobals, [], builtinsNs)]
def tf : List He.Defn := [("is_row", none), ("_law_are_bounds_right", none), ("_law_right", none)]
def tD (K : PySem.W.Frag) (x : Str) : Addr := (He.cT K (x, none)).2
def ex (K : PySem.W.Frag) : List Bool := [HQ.prB K (He.ga K "Purse") "most" "Purse.most",
  HQ.prB K (He.ga K "Purse") "per" "Purse.per",
  HQ.prB K (He.ga K "Purse") "coins" "Purse.coins",
  HQ.prB K (He.ga K "Purse") "firsts" "Purse.firsts",
  HQ.prB K (He.ga K "Purse") "anew" "Purse.anew",
  HQ.askB Pk K (He.ga K "BadNumber") (He.ga K "AskError") (aI K),
  PySem.W.keepIn K (.ref (He.ga K "BadNumber")),
  decide (PySem.W.subIn K (.ref (He.ga K "BadNumber")) (.type "BaseException") = some true),
  decide (PySem.W.typeIn K (.ref (He.ga K "BadNumber")) = some (.type "type")),
  HQ.exvB K (He.ga K "BadNumber"),
  decide (PySem.W.kitOne K (.ref (He.ga K "BadNumber")) (.ref (He.ga K "BadNumber")) = some true),
  HQ.askB Pk K (He.ga K "BadRow") (He.ga K "AskError") (aI K),
  PySem.W.keepIn K (.ref (He.ga K "BadRow")),
  decide (PySem.W.subIn K (.ref (He.ga K "BadRow")) (.type "BaseException") = some true),
  decide (PySem.W.typeIn K (.ref (He.ga K "BadRow")) = some (.type "type")),
  HQ.exvB K (He.ga K "BadRow"),
  decide (PySem.W.kitOne K (.ref (He.ga K "BadRow")) (.ref (He.ga K "BadRow")) = some true),
  He.eqO (PySem.W.findIn K (.ref (He.ga K "Purse")) "__class__") (some (some (.builtin "object.__class__"))),
  He.eqO (PySem.W.specialIn K (.builtin "object.__class__") "__get__") (some (some (.builtin "getset_descriptor.__get__"))),
  decide (PySem.W.takesIn K (.builtin "object.__class__") = some true),
  decide (PySem.W.mroIn K (He.ga K "Purse") (.type "object") = some true),
  He.eqO (PySem.W.findIn K (.ref (He.ga K "Purse")) "__ne__") (some (some (.builtin "object.__ne__"))),
  decide (PySem.W.kitOne K (.ref (He.ga K "Purse")) (.ref (He.ga K "Purse")) = some true),
  PySem.W.makesIn K (He.ga K "Purse"),
  PySem.W.keepIn K (.ref (He.ga K "Purse")),
  decide (tD K "is_row" ≠ tD K "_law_are_bounds_right") && (decide (tD K "is_row" ≠ tD K "_law_right") && decide (tD K "_law_are_bounds_right" ≠ tD K "_law_right"))]
def loose0 : List Str := ["AskError", "BadNumber", "BadRow", "is_integer", "check_number", "FIRST", "AGAIN", "MOST_COINS", "MOST_PER"]
def loose1 : List Str := ["MOST_FIRSTS", "MOST_ROW", "Purse", "is_row", "check_row", "told_by", "let", "check_firsts", "most_of"]
def loose2 : List Str := ["most_let", "row_for", "shows_row", "lets_all", "least_most", "_law_pot", "_law_take", "_law_of", "_law_cells"]
def loose3 : List Str := ["_law_heard", "_law_doing", "_law_row", "_law_is_row_right", "_law_is_most_right", "_law_is_least_right", "_law_are_bounds_right", "_law_right"]
def loose : List Str := loose0 ++ (loose1 ++ (loose2 ++ loose3))
abbrev hkQ : PySem.W.Hook := HQ.hookQ 6 fa fn xs vs tf ex
def ob (s : PySem.W.SharedT) : HQ.AlQ := HQ.obsQ 6 fa fn xs tf ex (HandSHeadRun.getT s)
theorem ob_eq (s : PySem.W.SharedT) : ob s = hkQ.obs s.abs := HQ.obsQ_eq (HandSHeadRun.getT_eq s)
theorem runQ (w : World) : HandSHeadRun.RunEq RWk (PySem.W.view RWk.prog [39]) hkQ ob 4000 loose w := by
  intro os
  kernel_rfl
end K49
set_option Elab.async false
set_option linter.all false
set_option maxRecDepth 100000
set_option maxHeartbeats 4000000
/-! k49: the facts, the end. -/
namespace K49
open PySem PySem.Spec PyProof.Rows L2
section
variable {K : PySem.W.Frag} {h h0 : Heap} {mg : Str → Option Value}
abbrev SQ (h : Heap) (K : PySem.W.Frag) : Prop := HQ.Says fa fn xs vs tf ex h K
def cdA (K : PySem.W.Frag) (x : Str) : Addr := (He.cT K (x, none)).1
theorem glo_ (X : K.In h) (G : h.Ns mainGlobals mg) (c : SQ h0 K) (i : Nat) {x : Str} (e : fa[i]? = some (.glo x) := by rfl) : mg x = some (.ref (He.ga K x)) := He.glo_ok X G (c.d.fact i (f := .glo x) e)
theorem free_ (X : K.In h) (G : h.Ns mainGlobals mg) (c : SQ h0 K) (i : Nat) {x : Str} (e : fa[i]? = some (.free x) := by rfl) : mg x = none := He.free_ok X G (c.d.fact i (f := .free x) e)
theorem cd_ref {P : Prop} {x qual : Str} {params : Arguments} {body : List Stmt} {scope : Scope} {dvs : List V} {kws : List (Str × V)} {fd : FuncData} {y : Str} (F : FunD K x qual params body scope dvs kws (He.fAd K (y, none)) fd) : fd.code = .ref (cdA K y) := by
  obtain ⟨oc, od, dV, kV, doc, pm, an, cdv, ct, osl, rfl, lk, hcd, _, _⟩ := F.ex
  obtain ⟨c, rfl⟩ := He.codeIn_ref hcd
  have e := He.codeOf_eq lk (c := c) rfl
  exact congrArg Value.ref e.symm
theorem def_ (X : K.In h) (G : h.Ns mainGlobals mg) (c : SQ h0 K) (i j : Nat) {x : Str} {k : Nat} (e : fa[i]? = some (.glo x) := by rfl) (e2 : fn[j]? = some (dD x k) := by rfl) : HasD K mg x (top k) fun _ => True := by
  obtain ⟨fd, F⟩ := c.d.def_ j (d := dD x k) e2
  exact ⟨_, fd, glo_ X G c i e, F, trivial⟩
theorem defc_ (X : K.In h) (G : h.Ns mainGlobals mg) (c : SQ h0 K) (i j : Nat) {x : Str} {k : Nat} (e : fa[i]? = some (.glo x) := by rfl) (e2 : fn[j]? = some (dD x k) := by rfl) : HasD K mg x (top k) fun cd => cd = .ref (cdA K x) := by
  obtain ⟨fd, F⟩ := c.d.def_ j (d := dD x k) e2
  exact ⟨_, fd, glo_ X G c i e, F, cd_ref (P := True) F⟩
theorem mth_ (c : SQ h0 K) (i j : Nat) {m q : Str} {k : Nat} (e : fa[i]? = some (.meth "Purse" m) := by rfl) (e2 : fn[j]? = some (dM m q k) := by rfl) : HasM K (He.ga K "Purse") m q (mtd k) := by
  obtain ⟨fd, F⟩ := c.d.def_ j (d := dM m q k) e2
  exact ⟨_, fd, He.meth_ok (c.d.fact i (f := .meth "Purse" m) e), F⟩
theorem ask_ (X : K.In h) (G : h.Ns mainGlobals mg) (c : SQ h0 K) (i j : Nat) {x : Str} (e : fa[i]? = some (.glo x)) (ej : (ex K)[j]? = some (HQ.askB Pk K (He.ga K x) (He.ga K "AskError") (aI K))) (e1 : (ex K)[j + 1]? = some (PySem.W.keepIn K (.ref (He.ga K x))))
    (e2 : (ex K)[j + 2]? = some (decide (PySem.W.subIn K (.ref (He.ga K x)) (.type "BaseException") = some true))) (e3 : (ex K)[j + 3]? = some (decide (PySem.W.typeIn K (.ref (He.ga K x)) = some (.type "type")))) : AskC Pk K mg x (He.ga K x) (He.ga K "AskError") :=
  ⟨glo_ X G c i e, ⟨_, _, HQ.askB_ok (c.ex_ j ej) (c.fn_ 0 (a := aI))⟩, c.ex_ (j + 1) e1, of_decide_eq_true (c.ex_ (j + 2) e2), of_decide_eq_true (c.ex_ (j + 3) e3), free_ X G c 46⟩
theorem prp_ (c : SQ h0 K) (i j : Nat) {m q : Str} {st : Stmt} {a : PySem.W.Frag → Addr} (e : (ex K)[i]? = some (HQ.prB K (He.ga K "Purse") m q)) (e2 : xs[j]? = some fun K => HQ.prG K (He.ga K "Purse") m) (e3 : vs[j]? = some (some (m, q, defArgs st, .stmts (defBody st), defScope st, mainGlobals, [], builtinsNs))) : HasP K (He.ga K "Purse") m q st :=
  HQ.hasP (c.ex_ i e) (c.fn_ j e2 e3)

theorem txt_ (X : K.In h) (G : h.Ns mainGlobals mg) (c : SQ h0 K) : Txt Pk K mg (He.ga K "Purse") (He.ga K "AskError") (He.ga K "BadNumber") (He.ga K "BadRow") where
  bn := ask_ X G c 27 5 rfl rfl rfl rfl rfl
  br := ask_ X G c 28 11 rfl rfl rfl rfl rfl
  ae := glo_ X G c 29
  xn := He.exm_ok (c.d.fact 66 (f := .exm "BadNumber" "AskError" true))
  xr := He.exm_ok (c.d.fact 67 (f := .exm "BadRow" "AskError" true))
  vn := HQ.exvB_ok (c.ex_ 9)
  vr := HQ.exvB_ok (c.ex_ 15)
  kn := of_decide_eq_true (c.ex_ 10)
  kr := of_decide_eq_true (c.ex_ 16)
  cl := He.cls_ok (c.d.fact 53 (f := .cls "Purse"))
  mgP := glo_ X G c 26
  mkC := c.ex_ 23
  kp := c.ex_ 24
  n1 := He.noat_ok (c.d.fact 54 (f := .noat "Purse" "own_most"))
  n2 := He.noat_ok (c.d.fact 55 (f := .noat "Purse" "own_per"))
  n3 := He.noat_ok (c.d.fact 56 (f := .noat "Purse" "own_coins"))
  n4 := He.noat_ok (c.d.fact 57 (f := .noat "Purse" "own_firsts"))
  n5 := He.noat_ok (c.d.fact 58 (f := .noat "Purse" "own_anew"))
  pC := He.eqO_ok (c.ex_ 17)
  pG := He.eqO_ok (c.ex_ 18)
  pT := of_decide_eq_true (c.ex_ 19)
  pO := of_decide_eq_true (c.ex_ 20)
  pN := He.eqO_ok (c.ex_ 21)
  pK := of_decide_eq_true (c.ex_ 22)
  gF := He.str_ok X G (c.d.fact 51 (f := .str "FIRST" "first"))
  gA := He.str_ok X G (c.d.fact 52 (f := .str "AGAIN" "again"))
  gC := He.int_ok X G (c.d.fact 47 (f := .int "MOST_COINS" 1000))
  gP := He.int_ok X G (c.d.fact 48 (f := .int "MOST_PER" 1000))
  gM := He.int_ok X G (c.d.fact 49 (f := .int "MOST_FIRSTS" 1000))
  gR := He.int_ok X G (c.d.fact 50 (f := .int "MOST_ROW" 4000))
  bI := free_ X G c 30
  bint := free_ X G c 31
  bbool := free_ X G c 32
  bstr := free_ X G c 33
  btuple := free_ X G c 34
  blen := free_ X G c 35
  ball := free_ X G c 36
  bany := free_ X G c 37
  brange := free_ X G c 38
  bsum := free_ X G c 39
  babs := free_ X G c 40
  blist := free_ X G c 41
  bmax := free_ X G c 42
  bmin := free_ X G c 43
  benum := free_ X G c 44
  brepr := free_ X G c 45
  d5 := def_ X G c 0 0 (x := "is_integer") (k := 5)
  d6 := def_ X G c 1 1 (x := "check_number") (k := 6)
  m0 := mth_ c 59 26 (m := "__init__") (q := "Purse.__init__") (k := 0)
  p1 := prp_ c 0 1 (m := "most") (q := "Purse.most") (st := mtd 1) (a := fun _ => 0) rfl rfl rfl
  p2 := prp_ c 1 2 (m := "per") (q := "Purse.per") (st := mtd 2) (a := fun _ => 0) rfl rfl rfl
  p3 := prp_ c 2 3 (m := "coins") (q := "Purse.coins") (st := mtd 3) (a := fun _ => 0) rfl rfl rfl
  p4 := prp_ c 3 4 (m := "firsts") (q := "Purse.firsts") (st := mtd 4) (a := fun _ => 0) rfl rfl rfl
  p5 := prp_ c 4 5 (m := "anew") (q := "Purse.anew") (st := mtd 5) (a := fun _ => 0) rfl rfl rfl
  m6 := mth_ c 60 27 (m := "first") (q := "Purse.first") (k := 6)
  m7 := mth_ c 61 28 (m := "again") (q := "Purse.again") (k := 7)
  m8 := mth_ c 62 29 (m := "copy") (q := "Purse.copy") (k := 8)
  m9 := mth_ c 63 30 (m := "row") (q := "Purse.row") (k := 9)
  m10 := mth_ c 64 31 (m := "__eq__") (q := "Purse.__eq__") (k := 10)
theorem apart_ (c : SQ h0 K) : tD K "is_row" ≠ tD K "_law_are_bounds_right" ∧ tD K "is_row" ≠ tD K "_law_right" ∧ tD K "_law_are_bounds_right" ≠ tD K "_law_right" := by
  obtain ⟨h1, h2⟩ := He.ba (c.ex_ 25)
  obtain ⟨h3, h4⟩ := He.ba h2
  exact ⟨of_decide_eq_true h1, of_decide_eq_true h3, of_decide_eq_true h4⟩
def TbQ (K : PySem.W.Frag) (c : SQ h0 K) : Tb where
  gs := [tD K "is_row"]
  ls := [(tD K "_law_are_bounds_right", lq "_law_are_bounds_right"), (tD K "_law_right", lq "_law_right")]
  apart := by
    obtain ⟨a1, a2, a3⟩ := apart_ c
    intro a ha p hp
    rw [List.mem_singleton.mp ha]
    simp only [List.mem_cons, List.not_mem_nil, or_false] at hp
    rcases hp with e | e
    · rw [e]
      exact fun z => a1 z.symm
    · rw [e]
      exact fun z => a2 z.symm
theorem tx_ (X : K.In h) (G : h.Ns mainGlobals mg) (c : SQ h0 K) {base : Heap} (tb : LamX.TabB base mg (cdA K "is_row") (tD K "is_row")) : Tx Pk K mg base (He.ga K "Purse") (He.ga K "AskError") (He.ga K "BadNumber") (He.ga K "BadRow") (TbQ K c) (cdA K "is_row") (tD K "is_row") where
  t := txt_ X G c
  tab := ⟨tb.code, tb.bm, tb.gP⟩
  p0 := by exact List.mem_singleton.mpr rfl
  d15 := defc_ X G c 2 2 (x := "is_row") (k := 15)
  d16 := def_ X G c 3 3 (x := "check_row") (k := 16)
  d17 := def_ X G c 4 4 (x := "told_by") (k := 17)
  d18 := def_ X G c 5 5 (x := "let") (k := 18)
  d19 := def_ X G c 6 6 (x := "check_firsts") (k := 19)
  d20 := def_ X G c 7 7 (x := "most_of") (k := 20)
  d21 := def_ X G c 8 8 (x := "most_let") (k := 21)
  d22 := def_ X G c 9 9 (x := "row_for") (k := 22)
  d23 := def_ X G c 10 10 (x := "shows_row") (k := 23)
  d24 := def_ X G c 11 11 (x := "lets_all") (k := 24)
  d25 := def_ X G c 12 12 (x := "least_most") (k := 25)
theorem ty_ (X : K.In h) (G : h.Ns mainGlobals mg) (c : SQ h0 K) {base : Heap} (tb : LamX.TabB base mg (cdA K "is_row") (tD K "is_row")) (tb1 : LamX.TabB base mg (cdA K "_law_are_bounds_right") (tD K "_law_are_bounds_right")) (tb2 : LamX.TabB base mg (cdA K "_law_right") (tD K "_law_right")) :
    Ty Pk K mg base (He.ga K "Purse") (He.ga K "AskError") (He.ga K "BadNumber") (He.ga K "BadRow") (TbQ K c) (cdA K "is_row") (tD K "is_row") (cdA K "_law_are_bounds_right") (tD K "_law_are_bounds_right") (cdA K "_law_right") (tD K "_law_right") where
  x := tx_ X G c tb
  tab1 := tb1
  tab2 := tb2
  l1 := by exact List.mem_cons_self
  l2 := by exact List.mem_cons_of_mem _ List.mem_cons_self
  u1 := by
    obtain ⟨a1, a2, a3⟩ := apart_ c
    intro p hp e
    have hp2 : p ∈ [(tD K "_law_are_bounds_right", lq "_law_are_bounds_right"), (tD K "_law_right", lq "_law_right")] := hp
    simp only [List.mem_cons, List.not_mem_nil, or_false] at hp2
    rcases hp2 with z | z
    · rw [z]
    · rw [z] at e
      exact absurd e.symm a3
  u2 := by
    obtain ⟨a1, a2, a3⟩ := apart_ c
    intro p hp e
    have hp2 : p ∈ [(tD K "_law_are_bounds_right", lq "_law_are_bounds_right"), (tD K "_law_right", lq "_law_right")] := hp
    simp only [List.mem_cons, List.not_mem_nil, or_false] at hp2
    rcases hp2 with z | z
    · rw [z] at e
      exact absurd e a3
    · rw [z]
  d27 := def_ X G c 13 13 (x := "_law_pot") (k := 27)
  d28 := def_ X G c 14 14 (x := "_law_take") (k := 28)
  d29 := def_ X G c 15 15 (x := "_law_of") (k := 29)
  d30 := def_ X G c 16 16 (x := "_law_cells") (k := 30)
  d31 := def_ X G c 17 17 (x := "_law_heard") (k := 31)
  d32 := def_ X G c 18 18 (x := "_law_doing") (k := 32)
  d33 := def_ X G c 19 19 (x := "_law_row") (k := 33)
  d34 := def_ X G c 20 20 (x := "_law_is_row_right") (k := 34)
  d35 := def_ X G c 21 21 (x := "_law_is_most_right") (k := 35)
  d36 := def_ X G c 22 22 (x := "_law_is_least_right") (k := 36)
  d37 := defc_ X G c 23 23 (x := "_law_are_bounds_right") (k := 37)
  d38 := defc_ X G c 24 24 (x := "_law_right") (k := 38)
  d39 := def_ X G c 25 25 (x := "law") (k := 39)
end
end K49
open PySem PySem.W PySem.Calls PyProof.Rows
theorem PySem.Challenge.cw_waitedandasked_k49_whole_purses_and_rows_holds : PySem.Challenge.rw_waitedandasked_k49_whole_purses_and_rows.Holds := by
  w_on; o_law
  refine HandSHeadRun.head_any (r := OpenLaw.row PySem.Challenge.rw_waitedandasked_k49_whole_purses_and_rows) (q := view (OpenLaw.row PySem.Challenge.rw_waitedandasked_k49_whole_purses_and_rows).prog [39]) (H := K49.hkQ) (ob := K49.ob) (M := 4000) (loose := K49.loose) (d := HandSHeadRun.topDef (OpenLaw.row PySem.Challenge.rw_waitedandasked_k49_whole_purses_and_rows).prog 39) (kwd := []) K49.ob_eq
    (by kernel_rfl) (fun s => by kernel_rfl) K49.runQ (by kernel_rfl) (by kernel_rfl) (by kernel_rfl) (by rfl) (by first | assumption | decide +kernel) (by decide +kernel) ⟨rfl, rfl, rfl, rfl, rfl, by decide +kernel⟩ ?hw ?hc
  case hw => w_witness2
  case hc =>
    refine LamX.walk_ofTsE (l := PySem.Challenge.rw_waitedandasked_k49_whole_purses_and_rows) (n := 63) (k := 15) (x := "script") (CX := fun w => L2.CX K49.Pk w) rfl (by decide) (by kernel_rfl) ⟨rfl, by decide, by decide⟩ ?F ?X
    case X =>
      intro w H s e s' z
      obtain ⟨_, _, _, _, _, _, _, _, _, _, _, _, z⟩ := z
      exact z
    case F =>
      intro w mg fa h Y G hmg0
      obtain ⟨K, KX, c⟩ := Y
      have hmg : mg ("law" : PySem.Str) = some (.ref fa) := by
        have e : (HandSHeadRun.topDef (OpenLaw.row PySem.Challenge.rw_waitedandasked_k49_whole_purses_and_rows).prog 39).name = ("law" : PySem.Str) := by kernel_rfl
        rw [← e]
        exact hmg0
      obtain ⟨fd, F⟩ := c.d.def_ 25 (d := K49.dD "law" 39) rfl
      have g1 := K49.glo_ KX G c 25 (x := "law")
      have e := hmg.symm.trans g1
      cases e
      refine ⟨K, KX, fd, [(K49.cdA K "is_row", K49.tD K "is_row"), (K49.cdA K "_law_are_bounds_right", K49.tD K "_law_are_bounds_right"), (K49.cdA K "_law_right", K49.tD K "_law_right")], K49.spLaw K (K49.TbQ K c), ?_, ?_, ?_, ?_, ?_, ?_⟩
      · intro p hp
        simp only [List.mem_cons, List.not_mem_nil, or_false] at hp
        rcases hp with e | e | e <;> rw [e]
        · exact c.empty ("is_row", none) (by simp [K49.tf])
        · exact c.empty ("_law_are_bounds_right", none) (by simp [K49.tf])
        · exact c.empty ("_law_right", none) (by simp [K49.tf])
      · intro p hp
        simp only [List.mem_cons, List.not_mem_nil, or_false] at hp
        rcases hp with e | e | e <;> rw [e]
        · exact c.out ("is_row", none) (by simp [K49.tf])
        · exact c.out ("_law_are_bounds_right", none) (by simp [K49.tf])
        · exact c.out ("_law_right", none) (by simp [K49.tf])
      · intro p hp
        simp only [List.mem_cons, List.not_mem_nil, or_false] at hp
        rcases hp with e | e | e <;> rw [e]
        · exact codeHd_of_K KX (c.hd ("is_row", none) (by simp [K49.tf]))
        · exact codeHd_of_K KX (c.hd ("_law_are_bounds_right", none) (by simp [K49.tf]))
        · exact codeHd_of_K KX (c.hd ("_law_right", none) (by simp [K49.tf]))
      · have b := L2.FunD.bindsA (ps := ["script"]) F fun _ _ _ _ _ _ us hl => match us, hl with | [_], _ => rfl
        exact fun s v => b s [v] rfl
      · intro H a ns hl _ hT hS
        have t1 := hT (K49.cdA K "is_row", K49.tD K "is_row") (by simp)
        have t2 := hT (K49.cdA K "_law_are_bounds_right", K49.tD K "_law_are_bounds_right") (by simp)
        have t3 := hT (K49.cdA K "_law_right", K49.tD K "_law_right") (by simp)
        refine ⟨a, ns, rfl, hS, hl, ⟨?_, ?_⟩, fun _ => rfl⟩
        · intro x hx
          rw [List.mem_singleton.mp (show x ∈ [K49.tD K "is_row"] from hx)]
          exact ⟨#[], t1, True.intro⟩
        · intro p hp
          have hp2 : p ∈ [(K49.tD K "_law_are_bounds_right", K49.lq "_law_are_bounds_right"), (K49.tD K "_law_right", K49.lq "_law_right")] := hp
          simp only [List.mem_cons, List.not_mem_nil, or_false] at hp2
          rcases hp2 with e | e <;> rw [e]
          · exact LamX.TabS.nil t2
          · exact LamX.TabS.nil t3
      · intro base KB GB hT
        exact K49.ok_law (K49.ty_ KB GB c (hT (K49.cdA K "is_row", K49.tD K "is_row") (by simp)) (hT (K49.cdA K "_law_are_bounds_right", K49.tD K "_law_are_bounds_right") (by simp)) (hT (K49.cdA K "_law_right", K49.tD K "_law_right") (by simp))) F
