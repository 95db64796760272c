import PyProof.Rows.All
import Wide.All
import OpenK.AllK
import Wide.FinOn
import KE.KExcSuper
import HandS.ForExc
import HandS.ExcInit
import HandS.ExcSuper
import HandS.ExcField
import HandS.TryMany
import HandS.CallSlots
import HandS.Defaults
import KE.KExcIs
import HandS.IsInst
import HandS.ForMost
import HandS.Wide
import HandS.TupAny
import HandS.TupLe
import HandS.Style
import HandS.Deep
import HandS.Codes
import HandS.TryOnly
import HandS.WordsDict
import HandS.TupLen
import HandS.HeadHook2
import HandS.HeadEnd
import PySem.Challenge.RW_dueagain_k02_weekdays_and_weeks
import HandS.Head0
import HandS.Head1
import HandS.Head2
import HandS.Conv
import HandS.Iter
set_option Elab.async false
set_option linter.all false
set_option maxRecDepth 100000
set_option maxHeartbeats 4000000
namespace PySem
namespace DueE
open PySem.W PySem.Calls PyProof.Rows PySem.HandSPX
/-! the text of DueError.__init__: super().__init__(given); self.given = given -/
def iA (p1 p2 p3 : Pos) : Arguments := { posonlyargs := [], args := [{ arg := "self", annotation := none, pos := p1 }, { arg := "given", annotation := none, pos := p2 }], vararg := none, kwonlyargs := [], kw_defaults := [], kwarg := none, defaults := [.Constant .none 0 p3] }
def iB (q1 q2 q3 q4 q5 q6 r1 r2 r3 r4 : Pos) : List Stmt :=
  [.Expr (.Call (.Attribute (.Call (.Name "super" q1) [] [] q2) "__init__" q3) [.Name "given" q4] [] q5) q6, .Assign [.Attribute (.Name "self" r1) "given" r2] (.Name "given" r3) r4]
def iS : Scope := { kind := .function, names := [(PySem.Str.ofString "self", .local), (PySem.Str.ofString "given", .local), (PySem.Str.ofString "__class__", .free), (PySem.Str.ofString "super", .globalImplicit)], isGenerator := false, isCoroutine := false, more := [] }
/-- what the written part says of DueError, at D, of its __init__, at fI -/
structure InitTxt (P : Program) (K : Frag) (D fI : Addr) : Prop where
  fn : ∃ (cc cda TD : Addr) (oD : Obj) (itD : Value) (nD : Nat) (oc : Value) (od : Option Addr) (kV doc pm : Value) (an : Option Addr) (ct : Value) (osl : Array (Option Value)) (p1 p2 p3 q1 q2 q3 q4 q5 q6 r1 r2 r3 r4 : Pos)
      (ccl : Value) (cdd : Option Addr) (ccs : Array (Option Value)) (vs : Array Value) (file : Str) (tf : Tok) (cl : Value) (cld : Option Addr) (csl : Array (Option Value)) (cdD : ClassData),
    K.lookup fI = some ⟨oc, od, .func (fnX "__init__" "DueError.__init__" (iA p1 p2 p3) (iB q1 q2 q3 q4 q5 q6 r1 r2 r3 r4) iS [("__class__", cc)] (.ref TD) kV doc pm an (.ref cda) ct), osl⟩ ∧ K.lookup TD = some oD ∧ oD.data = .seq #[itD] nD ∧ codeIn K (.ref cda) "DueError.__init__" = true ∧
    K.lookup cda = some ⟨ccl, cdd, .fields vs, ccs⟩ ∧ vs[2]? = some (.str file tf) ∧ ((P.main.file : Str) == file) = true ∧ (q3.endLine == q5.line) = true ∧
    K.lookup cc = some ⟨cl, cld, .cell (some (.ref D)), csl⟩ ∧ clsIn K D = some cdD
  top : (P.main.scope.names.lookup ("super" : Str)).isSome = false
  noSuper : nsIn K mainGlobals "super" = some none
  stat : nsIn K cStatics "thirdparty.any" = some none
/-- what it says of a class of the family, at C -/
structure ClsTxt (K : Frag) (D C fI : Addr) : Prop where
  cls : ∃ nm q N bs bm sn sub ab col dd k0 k1 k2 k3 k5, K.lookup C = some (excClassObj nm q C N bs bm true sn sub ab col dd k0 k1 k2 k3 k5 "ValueError.__new__") ∧ refsVE bm = true
  sup : ks_superIn K C D "__init__" = some (some (.builtin "ValueError.__init__"))
  isD : mroIn K C (.ref D) = some true
  isV : subIn K (.ref C) (.type "ValueError") = some true
  sa : findIn K (.ref C) "__setattr__" = some (some (.builtin "object.__setattr__"))
  noN : findIn K (.ref C) "given" = some none
  iC : findIn K (.ref C) "__init__" = some (some (.ref fI))
  tI : typeIn K (.ref fI) = some (.type "function")
  kC : keepIn K (.ref C) = true
  exC : subIn K (.ref C) (.type "BaseException") = some true
  tyC : typeIn K (.ref C) = some (.type "type")
theorem one_size (v : Value) : [v].length ≤ sizeLine := by
  rw [sizeLine_eq]
  exact (by decide : 1 ≤ 16777216)
theorem kept_but {K : Frag} {h h' : Heap} {x : Addr} (X : K.In h) (hx : K.lookup x = none) (k : ∀ b o, b ≠ x → h.get? b = some o → h'.get? b = some o) : K.In h' := fun a o e =>
  k a o (fun z => by rw [z, hx] at e; cases e) (X a o e)
theorem ldL {M : Model} {s : Shared} {env : Env} {m : Str → Option Value} {x : Str} {pos : Pos} {v : Value} {Q : Value → Shared → Prop} {A : Around} {E : Value → Shared → Prop} (hn : s.heap.Ns env.locals m) (hv : m x = some v) (h : Q v s)
    (hk : env.scope.kind = .function := by rfl) (hl : env.kindOf x = some .local := by rfl) (hd : (x == ("__debug__" : Str)) = false := by decide) :
    wpAny M A (eval (.Name x pos) env) Q E s := wpAny_Name (wpAny_loadName_local hk hl hn hv h) hd
/-- what __init__ leaves of a fresh exception at x -/
structure InitEnd (h h' : Heap) (x C dx t1 : Addr) (v : Value) : Prop where
  keep : ∀ b o, b ≠ x → h.get? b = some o → h'.get? b = some o
  obj : h'.get? x = some { cls := .ref C, dict := some dx, data := .fields #[.ref t1, .none, .none, .none, .bool false, .none] }
  dbig : h.objs.size ≤ dx
  dne : dx ≠ x
  ns : h'.Ns1 dx (fun y => if y = "given" then some v else none)
/-- a made one -/
structure OwnMade (h h' : Heap) (e C d : Addr) (v : Value) : Prop where
  keep : ∀ b o, h.get? b = some o → h'.get? b = some o
  new : h.objs.size ≤ e
  obj : ∃ oe vs, h'.get? e = some oe ∧ oe.cls = .ref C ∧ oe.dict = some d ∧ oe.data = .fields vs ∧ vs[1]? = some .none
  dbig : h.objs.size ≤ d
  dne : d ≠ e
  ns : h'.Ns1 d (fun y => if y = "given" then some v else none)
section
variable {prog : Program} {w : World} {A : Around} {E : Value → Shared → Prop} {R : Result → Shared → Prop} {s : Shared} {K : Frag} {mg mb : Str → Option Value} {C D fI : Addr}
theorem bind_looks {M : Model} {cc cda TD : Addr} {oD : Obj} {itD : Value} {nD : Nat} {h : Heap} {kV doc pm : Value} {an : Option Addr} {ct u v : Value} {p1 p2 p3 : Pos} {body : List Stmt} (X : K.In h) (lT : K.lookup TD = some oD) (oT : oD.data = .seq #[itD] nD) :
    Looks M h (bindArgs (fnX "__init__" "DueError.__init__" (iA p1 p2 p3) body iS [("__class__", cc)] (.ref TD) kV doc pm an (.ref cda) ct) ⟨[u, v], []⟩) [("self", u), ("given", v)] := by
  have e : ∃ k, bindArgs (fnX "__init__" "DueError.__init__" (iA p1 p2 p3) body iS [("__class__", cc)] (.ref TD) kV doc pm an (.ref cda) ct) ⟨[u, v], []⟩ = seqItems? (.ref TD) >>= k ∧ k (some #[itD]) = (pure [("self", u), ("given", v)] : Sem (List (Str × Value))) := ⟨_, by first | rfl | with_unfolding_all rfl, by first | with_unfolding_all rfl | kernel_rfl⟩
  obtain ⟨k, e1, e2⟩ := e
  rw [e1]
  exact L2.looks_items X lT oT (.of_pure e2)
/-- super().__init__(v), the built-in's wrapper called -/
theorem call_mw {u e t0 : Addr} {rest : List Value} {Q : Value → Shared → Prop} {nm q : Str} {N : Addr} {bs bm : List Value} {hdct : Bool} {sn : List Str} {sub : List Value} {ab : Bool} {col : Option Bool} {dd : Option Addr} {k0 k1 k2 k3 k5 : Option Value}
    {h : Heap} {g : Array GenState} {d : Drawn} {t : Nat} {os : OsState}
    (hC : h.get? C = some (excClassObj nm q C N bs bm hdct sn sub ab col dd k0 k1 k2 k3 k5 "ValueError.__new__")) (he : h.get? e = some (excO C t0)) (hu : h.get? u = some (kxs_mw "ValueError.__init__" e)) (hrest : rest.length ≤ sizeLine)
    (hq : ∀ h' t1, (∀ b o, b ≠ e → h.get? b = some o → h'.get? b = some o) → h'.get? e = some (excO C t1) → Q .none ⟨h', g, d, t, os⟩) :
    wpAny (model prog w) A (call (.ref u) rest) Q E ⟨h, g, d, t, os⟩ := by
  refine wpAny_call (codeAny_of_tree ?_)
  show wpAny _ A.in1 (callAny (.ref u) ⟨rest, []⟩) _ _ _
  simp only [callAny]
  refine wpAny_bind (wpAny_load hu ?_)
  simp only [kxs_mw, show (Value.type "method-wrapper" == Value.type "method" || Value.type "method-wrapper" == Value.type "builtin_function_or_method" || Value.type "method-wrapper" == Value.type "method-wrapper") = true by decide, if_true]
  refine KFB.if_so (by decide) ?_
  refine wpAny_bind (check_bound_init F.excBase_ValueError.toExcCallFacts hC he rfl ?_)
  refine wpAny_bind (wpAny_pure (wpAny_pure ?_))
  refine ⟨Code.quiet_builtin _ (by decide +kernel), codeAny_builtin F.excBase_ValueError.initEntry ?_⟩
  rw [Around.under_plainId F.excBase_ValueError.init.plain _]
  wp_walk
  refine hq _ h.objs.size (fun b o hb ho => ?_) ?_
  · rw [Heap.get?_update_other _ _ (Ne.symm hb)]
    exact Heap.get?_push_of_some _ ho
  · rw [Heap.get?_update_self _ (Heap.get?_push_of_some _ he) rfl]
    rfl
theorem he_of {o g : Expr} {name : Str} {apos pos : Pos} {env : Env} (hl : (apos.endLine == pos.line) = true) (hf : methodCallForm 1 (backTo pos (starEach [g] env)) [] = true) :
    eval (.Call (.Attribute o name apos) [g] [] pos) env = (do
      let ov ← attributeBase o name env (eval o env)
      standAt apos.atName
      let (f, first) ← holding [ov] (getMethod ov name (do return (← importBound o env).getD true))
      callWith pos f first (backTo pos (starEach [g] env)) []) := by
  rw [arm_eval_Call]
  have e0 : backToKw pos (keywordEach [] env) = [] := rfl
  have e1 : (([g] : List Expr).length + ([] : List Keyword).length) = 1 := rfl
  rw [e0, e1]
  unfold methodCall methodCallPos calleeOf
  rw [hf, hl]
  simp only [Bool.not_true, Bool.false_or, if_true, pure_bind]
theorem due_init (T : InitTxt prog K D fI) (U : ClsTxt K D C fI) {x t0 : Addr} {v : Value} (X : K.In s.heap) (G : s.heap.Ns mainGlobals mg) (B : s.heap.Ns builtinsNs mb) (hmg : mg "super" = none) (hmb : mb "super" = some (.type "super"))
    (hlim : s.heap.NoLimit) (hx : s.heap.get? x = some (excO C t0)) (hnx : K.lookup x = none) (hroom : A.depth < recursionLimit)
    (hq : ∀ h' tk dx t1, InitEnd s.heap h' x C dx t1 v → R (.ok (.ret .none)) { s with heap := h', toks := tk }) :
    codeAny (model prog w) A (.call (.ref fI) ⟨[.ref x, v], []⟩) R s := by
  obtain ⟨cc, cda, TD, oD, itD, nD, oc, od, kV, doc, pm, an, ct, osl, p1, p2, p3, q1, q2, q3, q4, q5, q6, r1, r2, r3, r4, ccl, cdd, ccs, vs, file, tf, cl, cld, csl, cdD, ho, lT, oT, hcd, hcda, hvs, hfile, hln, hcell, hD⟩ := T.fn
  obtain ⟨nm, q, N, bs, bm, sn, sub, ab, col, dd, k0, k1, k2, k3, k5, hC, hbm⟩ := U.cls
  have hcl : clsIn K C = some { name := nm, bases := bs, mro := .ref C :: bm, ns := N, qualname := q, hasDict := true, slotNames := sn, subclasses := sub, abstract := ab, collection := col, hasDel := false } := by unfold clsIn; rw [hC] <;> rfl
  have I : InstAt s.heap x (excO C t0) C none := ⟨hx, rfl, rfl, trivial⟩
  refine ks_codeAny_call_defAt (binds := [("self", .ref x), ("given", v)]) hroom (X _ _ ho) rfl hlim (codeRec_of X hcd) rfl (L2.BindsTo.of_looks fun M => bind_looks X lT oT) (by show ∀ z ∈ iS.names, z.2 ≠ .cell; decide)
    (by
      intro z hz
      rcases List.mem_cons.mp hz with rfl | hz
      · rfl
      · rcases List.mem_cons.mp hz with rfl | hz
        · rfl
        · cases hz) (fun h₁ hn k => ?_) rfl rfl rfl
  have X₁ : K.In h₁ := X.keeps k
  have hx₁ := k _ _ hx
  have hxL : s.heap.objs.size ≠ x := Nat.ne_of_gt (Heap.lt_size hx)
  have G₁ := G.keeps k
  have B₁ := B.keeps k
  have I₁ : InstAt h₁ x (excO C t0) C none := ⟨hx₁, rfl, rfl, trivial⟩
  -- super().__init__(given)
  refine ks_wpAt_execs_cons (ks_wpAt_Expr_any (ks_wpAt_MethodCall (he := he_of hln rfl) ?_))
  obtain ⟨oDD, hD1, hD2⟩ : ∃ o, h₁.get? D = some o ∧ o.data = .cls cdD := by
    unfold clsIn at hD
    split at hD
    · rename_i c d cd' sl ho
      cases hD
      exact ⟨_, X₁ _ _ ho, rfl⟩
    · cases hD
  refine ks_wpAt_super_base (by rfl) (by rfl) (by rfl) rfl (X₁ _ _ ho) rfl rfl rfl (X₁ _ _ hcda) rfl hvs hfile T.top ?_
  refine ks_loadName_global rfl (by rfl) (loadGlobal_builtin G₁ hmg B₁ hmb ⟨rfl, ?_⟩)
  refine wpAny_loadName_free rfl (by rfl) rfl ⟨_, X₁ _ _ hcell, rfl⟩ ?_
  refine wpAny_loadName_local rfl (by rfl) hn rfl ?_
  refine ks_wpAny_isType_cls hD1 hD2 ⟨rfl, ?_⟩
  refine ks_wpAny_call_super hD1 hD2 hx₁ rfl (fun c e => by cases e) (looks_mroIn X₁ U.isD) (fun h₂ hso k₂ => ?_)
  have X₂ : K.In h₂ := X₁.keeps k₂
  have hx₂ := k₂ _ _ hx₁
  have I₂ : InstAt h₂ x (excO C t0) C none := ⟨hx₂, rfl, rfl, trivial⟩
  have hsup := U.sup
  unfold ks_superIn at hsup
  rw [hcl] at hsup
  refine kxs_getMethod kxs_ValueError hso (looks_opaque X₂ T.stat) (l₀ := .ref C :: bm) (fun A Q E s k q => wpAny_bind ((looks_clsIn X₂ hcl) A _ E s k (wpAny_pure q))) rfl X₂ hsup (I₂.type.andThen (looks_subIn X₂ U.isV)) (ks_ne X₂ I₂ hcl) rfl ?_
  have hn₂ := hn.keeps k₂
  have k₃ : ∀ b o, h₂.get? b = some o → (h₂.push (kxs_mw "ValueError.__init__" x)).get? b = some o := fun b o e => Heap.get?_push_of_some _ e
  have hu₃ : (h₂.push (kxs_mw "ValueError.__init__" x)).get? h₂.objs.size = some (kxs_mw "ValueError.__init__" x) := Heap.get?_push_at rfl rfl
  have X₃ := X₂.keeps k₃
  refine kxs_callWith (i := "ValueError.__init__") (x := x) rfl ?_
  refine evalArgs_plain (spliced_more (ldL (v := v) (hn₂.keeps k₃) rfl (spliced_none ?_)))
  refine ⟨hu₃, ?_⟩
  refine call_mw (X₃ _ _ hC) (k₃ _ _ hx₂) hu₃ (one_size v) fun h₄ t1 k₄ hx₄ => ?_
  -- self.given = given
  have hxL' : ∀ {b : Addr}, b = s.heap.objs.size → b ≠ x := fun {b} e z => hxL (e.symm.trans z)
  have hn₄ : h₄.Ns s.heap.objs.size fun x_1 => List.lookup x_1 [(Str.ofString "self", Value.ref x), (Str.ofString "given", v)].reverse := (hn₂.keeps k₃).at fun o e => k₄ _ o hxL e
  have X₄ : K.In h₄ := kept_but X₃ hnx k₄
  refine ks_wpAt_execs_cons (wpAt_of_wpAny (plainObj_wpAny_Assign_Attribute ?_))
  refine ldL (v := v) hn₄ rfl (ldL (v := .ref x) hn₄ rfl ?_)
  refine set_plain X₄ (ox := excO C t1) (od := none) ⟨hx₄, rfl, rfl, trivial⟩ U.sa ?_
  refine exc_osa X₄ hx₄ hcl (show refsVE (.ref C :: bm) = true from hbm) rfl U.noN (fun h₅ tk₅ dx k₅ dn dne hx₅ hn₅ => ?_)
  show wpAt _ _ _ (execs _ _) _ _ _
  have z : s.heap.objs.size < h₄.objs.size := hn₄.lt
  exact wpAt_of_wpAny (wpAny_execs_nil (hq h₅ tk₅ dx t1 ⟨fun b o hb e => k₅ b o hb (k₄ b o hb (k₃ b o (k₂ b o (k b o e)))), hx₅, Nat.le_of_lt (Nat.lt_of_lt_of_le z dn), dne, hn₅⟩))
theorem due_made (T : InitTxt prog K D fI) (U : ClsTxt K D C fI) {v : Value} (X : K.In s.heap) (G : s.heap.Ns mainGlobals mg) (B : s.heap.Ns builtinsNs mb) (hmg : mg "super" = none) (hmb : mb "super" = some (.type "super"))
    (hlim : s.heap.NoLimit) (hroom : A.depth + 1 < recursionLimit)
    (hq : ∀ h' tk e d, OwnMade s.heap h' e C d v → R (.ok (.ret (.ref e))) { s with heap := h', toks := tk }) :
    codeAny (model prog w) A (.call (.ref C) ⟨[v], []⟩) R s := by
  obtain ⟨nm, q, N, bs, bm, sn, sub, ab, col, dd, k0, k1, k2, k3, k5, hC, hbm⟩ := id U.cls
  obtain ⟨hp, g, dr, tk, os⟩ := s
  have k : ∀ b o, hp.get? b = some o → ((hp.push (kdv_tup [v])).push (excO C hp.objs.size)).get? b = some o := fun b o e => Heap.get?_push_of_some _ (Heap.get?_push_of_some _ e)
  have hget : ((hp.push (kdv_tup [v])).push (excO C hp.objs.size)).get? (hp.objs.size + 1) = some (excO C hp.objs.size) := by heap_get
  have hnx : K.lookup (hp.objs.size + 1) = none := by
    cases e : K.lookup (hp.objs.size + 1) with
    | none => rfl
    | some o =>
      have z : hp.get? (hp.objs.size + 1) = some o := X _ _ e
      exact absurd (Nat.lt_of_succ_lt (Heap.lt_size z)) (Nat.lt_irrefl _)
  refine call_own F.excBase_ValueError (fun X => refsVE_contains X bm hbm) (X _ _ hC) (looks_findIn X U.iC) (fun self => bind_fn X self U.tI) (one_size v) ?_
  refine due_init (s := ⟨(hp.push (kdv_tup [v])).push (excO C hp.objs.size), g, dr, tk, os⟩) T U (X.keeps k) (G.keeps k) (B.keeps k) hmg hmb (hlim.keeps k) hget hnx ?_ fun h' tk' dx t1 ⟨k', hx, dn, dne, hns⟩ => ?_
  · show A.depth + 1 < recursionLimit
    exact hroom
  · have old : ∀ b o, hp.get? b = some o → h'.get? b = some o := fun b o e => k' b o (Nat.ne_of_lt (Nat.lt_succ_of_lt (Heap.lt_size e))) (k b o e)
    have z : hp.objs.size + 1 + 1 ≤ dx := by
      first
        | (simpa only [Heap.size_push] using dn)
        | exact dn
        | (have q := dn; rw [Heap.size_push, Heap.size_push] at q; exact q)
    exact ⟨rfl, hq h' tk' (hp.objs.size + 1) dx ⟨old, Nat.le_succ _, ⟨_, _, hx, rfl, rfl, rfl, rfl⟩, Nat.le_trans (Nat.le_trans (Nat.le_succ _) (Nat.le_succ _)) z, dne, hns⟩⟩
end
end DueE
end PySem
namespace L2
open PySem PySem.Spec PyProof.Rows
theorem relO_given {v : V} {v' : Value} (r : RelV v v') (f : Str) : RelO (List.lookup f [(("given" : Str), v)]) (if f = "given" then some v' else none) := by
  by_cases hw : f = "given"
  · subst hw
    rw [if_pos rfl]
    have q : List.lookup ("given" : Str) [(("given" : Str), v)] = some v := by simp [List.lookup]
    rw [q]
    exact r
  · rw [if_neg hw]
    have qw : (f == ("given" : Str)) = false := by simpa using hw
    have q2 : List.lookup f [(("given" : Str), v)] = none := by simp [List.lookup, qw]
    rw [q2]
    trivial
/-- X(e), X of DueError's family: its class, its own dict -/
def tMkDue (C : Addr) (ta : TA) : St → Hp → XK → Prop := fun σ H Q => ta σ H fun vs H1 => ∃ v, vs = [v] ∧ ∀ d, H1 d = none → Q (.ref C) (some d) (upd H1 d (.xd [(("given" : Str), v)]))
section
variable {X : Cx} {C D fI : Addr}
theorem pmk_due {x : Str} {a : Expr} {ta : TA} {p pos : Pos} {k : Nat} (T : PySem.DueE.InitTxt X.prog X.K D fI) (U : PySem.DueE.ClsTxt X.K D C fI) (hr : Room k X.A) (hgC : X.mg x = some (.ref C)) (hsu : X.mg "super" = none) (ha : PA X [a] ta) (hg : Gl X x := by rfl)
    (hdb : (x == ("__debug__" : Str)) = false := by decide)
    (he : starEach (a :: []) X.env = (false, eval a X.env) :: starEach [] X.env := by rfl) (hpl : (backTo pos (starEach [] X.env)).any (·.1) = false := by rfl) :
    PMk X (.Call (.Name x p) [a] [] pos) (tMkDue C ta) := by
  intro pins s σ H Q I h
  refine wpAny_Call_Name_kw (ld_glob I hg hgC ?_ hdb)
  refine PySem.W.callWith_K (h₀ := X.base) I.ok.mod.kin U.kC (thn (ha.run pos pins s σ H _ I h) fun us s1 hh => ?_) he hpl
  obtain ⟨vs, H1, I1, r1, v, ev, q1⟩ := hh
  subst ev
  refine ⟨I1.kIn, ?_⟩
  cases r1 with
  | cons rv rn =>
    rename_i v' us'
    cases rn
    show wpAny _ _ (call (.ref C) [v']) _ _ _
    have hlim := I1.nolimit
    obtain ⟨mb, hB, hbb⟩ := I1.mod.blt
    have G1 := I1.mod.glob.keeps I1.bk
    have B1 := hB.keeps I1.bk
    obtain ⟨hp, g, dr, tk, os⟩ := s1
    refine wpAny_call (PySem.DueE.due_made T U I1.kIn G1 B1 hsu ((hbb "super" (by decide)).trans PyProof.Rows.Boot.«super») hlim (by have := hr.dp; omega) fun h' tk' e d M => ?_)
    show MkP X pins σ Q (.ref e) ⟨h', g, dr, tk', os⟩
    obtain ⟨oe, fv, hoe, hc, hd, hdat, h1⟩ := M.obj
    have hns := M.ns
    obtain ⟨G', g1, g2⟩ := restrict h' fun b => decide (b ≠ e)
    have gk : ∀ b, b ≠ e → G'.get? b = h'.get? b := fun b hb => g1 b (decide_eq_true hb)
    have ge : G'.get? e = none := g2 e (by simp)
    have old : ∀ b o, hp.get? b = some o → G'.get? b = some o := fun b o q => (gk b (Nat.ne_of_lt (Nat.lt_of_lt_of_le (Heap.lt_size q) M.new))).trans (M.keep b o q)
    have ob : ObjOk X.prog X.w (upd H1 d (.xd [(("given" : Str), v)])) G' d (.xd [(("given" : Str), v)]) :=
      ⟨_, hns.at (fun o q => (gk d M.dne).trans q), fun f => relO_given rv f⟩
    have J : Inv X pins σ (upd H1 d (.xd [(("given" : Str), v)])) ⟨G', g, dr, tk', os⟩ := I1.laid (t' := tk') old M.dbig ob
    refine ⟨e, oe, fv, ⟨G', g, dr, tk', os⟩, _, .ref C, some d, rfl, J, fun b o q => ?_, ge, hoe, ⟨hc, hd⟩, hdat, h1, ?_, rfl, I1.bare, raises_own U.exC U.tyC, q1 d (I1.hok.fresh M.dbig)⟩
    · by_cases hb : b = e
      · have q' : G'.get? b = some o := q
        rw [hb, ge] at q'; cases q'
      · exact (gk b hb).symm.trans q
    · rw [upd_ne (Ne.symm M.dne)]
      exact I1.hok.fresh M.new
/-- raise X(e) -/
def tRaiseDue (C : Addr) (W : WX) (ta : TA) : TS := fun _ σ H => tMkDue C ta σ H fun cls d H' => W cls d σ H'
theorem ps_raiseDue {x : Str} {a : Expr} {ta : TA} {W : WX} {p pos pos2 : Pos} {k : Nat} (hc : X.calm = true) (T : PySem.DueE.InitTxt X.prog X.K D fI) (U : PySem.DueE.ClsTxt X.K D C fI) (hr : Room k X.A) (hgC : X.mg x = some (.ref C)) (hsu : X.mg "super" = none) (tk : Takes X W) (ha : PA X [a] ta) (hg : Gl X x := by rfl)
    (hdb : (x == ("__debug__" : Str)) = false := by decide)
    (he : starEach (a :: []) X.env = (false, eval a X.env) :: starEach [] X.env := by rfl) (hpl : (backTo pos (starEach [] X.env)).any (·.1) = false := by rfl) :
    PS X (.Raise (some (.Call (.Name x p) [a] [] pos)) none pos2) (tRaiseDue C W ta) := ps_raise hc tk (pmk_due T U hr hgC hsu ha hg hdb he hpl)
end
end L2
set_option Elab.async false
set_option linter.all false
set_option maxRecDepth 100000
set_option maxHeartbeats 4000000
namespace L2
open PySem PySem.Spec PyProof.Rows
/-! several except clauses, each with a name or without -/
def dAs (o : Option Nat) (D : Ends) : Ends := match o with
  | none => D
  | some i => { nx := fun σ' H' => D.nx (σ'.set i none) H', rt := D.rt, bk := fun σ' H' => D.bk (σ'.set i none) H', ct := fun σ' H' => D.ct (σ'.set i none) H' }
def sAs (o : Option Nat) (σ : St) (a : Addr) : St := match o with
  | none => σ
  | some i => σ.set i (some (.ref a))
/-- what the clauses wish, one after the other: the class, the name's slot, the suite -/
def wManyA (K : PySem.W.Frag) (Wout : WX) (D : Ends) : List (Value × Option Nat × (Addr → Value → Option Addr → TS)) → WX
  | [] => Wout
  | (c, o, ts) :: r => fun cls d σ H => ∃ b, PySem.W.exmOne K cls c = some b ∧ (b = true → ∀ a, H a = none → ts a cls d (dAs o D) (sAs o σ a) H) ∧ (b = false → wManyA K Wout D r cls d σ H)
inductive HdsA (X : Cx) : List ExceptHandler → List (Value × Option Nat × (Addr → Value → Option Addr → TS)) → Prop
  | nil : HdsA X [] []
  | bare {x : Str} {c : Value} {ts : Addr → Value → Option Addr → TS} {b₀ : Stmt} {suite : List Stmt} {np pos' : Pos} {hds : List ExceptHandler} {l : List (Value × Option Nat × (Addr → Value → Option Addr → TS))} (hc : Names X x c)
      (hsu : ∀ (a : Addr) (oe : Obj) (cls : Value) (d : Option Addr) (pn : List (Addr × Obj)), Zc cls d oe → (∃ vs, oe.data = .fields vs) → PSs (X.suite a ((a, oe) :: pn)) (b₀ :: suite) (ts a cls d)) (r : HdsA X hds l) :
      HdsA X (.ExceptHandler (some (.Name x np)) none (b₀ :: suite) pos' :: hds) ((c, none, ts) :: l)
  | named {x n : Str} {c : Value} {i : Nat} {ts : Addr → Value → Option Addr → TS} {b₀ : Stmt} {suite : List Stmt} {np pos' : Pos} {hds : List ExceptHandler} {l : List (Value × Option Nat × (Addr → Value → Option Addr → TS))} (hN : X.N.Nodup) (hi : X.N[i]? = some n) (hln : X.env.kindOf n = some .local) (hc : Names X x c)
      (hsu : ∀ (a : Addr) (oe : Obj) (cls : Value) (d : Option Addr) (pn : List (Addr × Obj)), Zc cls d oe → (∃ vs, oe.data = .fields vs) → PSs (X.suite a ((a, oe) :: pn)) (b₀ :: suite) (ts a cls d)) (r : HdsA X hds l) :
      HdsA X (.ExceptHandler (some (.Name x np)) (some n) (b₀ :: suite) pos' :: hds) ((c, some i, ts) :: l)
section
variable {X : Cx} {body : List Stmt} {h₀ : ExceptHandler} {hds : List ExceptHandler} {l : List (Value × Option Nat × (Addr → Value → Option Addr → TS))} {pos : Pos} {tb : WX → TS} {Wout : WX}
theorem ps_try_manyA (hs : X.stack = X.env :: X.outer) (hf : X.env.frame = some X.env.locals) (tk : Takes X Wout)
    (hb : ∀ (W : WX) (pn : List (Addr × Obj)) (xe : Value → Shared → Prop), Takes (X.tr pn xe) W → PassesOwn (model X.prog X.w) X.A X.env xe → PSs (X.tr pn xe) body (tb W))
    (hh : HdsA X (h₀ :: hds) l) : PS X (.Try body (h₀ :: hds) [] [] pos) (fun D σ H => tb (wManyA X.K Wout D l) D σ H) := by
  refine ⟨fun pins s σ H D I h => ?_⟩
  have ok := I.ok
  have hfr : X.A.frames = some (X.env :: X.outer) := by rw [ok.frames, hs]
  refine wpAny_Try_except ?_
  refine wpAny_mono ((hb (wManyA X.K Wout D l) (X.pn ++ pins) (fun e s₁ => wpAny (model X.prog X.w) X.A (noteFrame e X.env) (fun _ s₂ => wpAny (model X.prog X.w) X.A (setFlight e none) (fun _ s₃ =>
    wpAny (model X.prog X.w) X.A (handleBy e X.env (h₀ :: hds)) (SP X pins D) X.xe s₃) X.xe s₂) X.xe s₁) (fun u s' xx => ?_) PassesOwn.looking).run [] s σ H D (I.toTry _) h) (fun f s1 hsp => ?_) (fun e s1 he => he)
  · obtain ⟨a, B, sI, pins', σ', H', cls, d, rfl, J', nb, up, sky, na, os, ag, w⟩ := xx
    have J : Inv X pins σ' H' sI := J'.ofTry ok
    have sky' : Sky B (X.env :: X.outer) a (Zc cls d) X.env.locals s'.heap := by rw [← hs]; exact sky
    show wpAny (model X.prog X.w) X.A (noteFrame (.ref a) X.env) _ _ _
    refine Sky.land Zc.steady hfr hf sky' fun h3 fl3 up3 => ?_
    have J3 : Inv X pins σ' H' { s' with heap := h3 } := J.landed nb fl3.1 (up.trans up3) os ag
    obtain ⟨oe3, vs3, he3, hz3, hd3⟩ := fl3.there
    have notFr : ∀ {h : Heap} {o : Obj} {vs : Array Value}, h.FunFrames B (X.env :: X.outer) → h.get? a = some o → o.data = .fields vs → a ∉ frs (X.env :: X.outer) := fun {h o vs} ff e dd hm => by
      obtain ⟨_, o', e', hnf⟩ := ff.mem hm
      rw [e] at e'; cases e'
      exact hnf _ dd
    have nfr := notFr fl3.2.2.1 he3 hd3
    have nL : a ≠ X.env.locals := fun z => nfr (List.mem_filterMap.mpr ⟨X.env, List.mem_cons_self, by rw [hf, z]⟩)
    have nF : a ∉ X.fs := fun hm => by
      obtain ⟨e, he, q⟩ := List.mem_filterMap.mp hm
      exact nfr (List.mem_filterMap.mpr ⟨e, List.mem_cons_of_mem _ he, q⟩)
    have S3 := J3.suite he3 hd3 na nL nF
    have LT : PySem.W.Looks (model X.prog X.w) h3 (typeOf (.ref a)) cls := fun A Q E s k q => wpAny_typeOf_ref (k _ _ he3) (by rw [hz3.1]; exact q)
    have test : ∀ {x : Str} {c : Value} {np : Pos} {Q : Value → Shared → Prop} {E : Value → Shared → Prop}, Names X x c → Q c { s' with heap := h3 } → wpAny (model X.prog X.w) (X.A.mark (some (.ref a))) (eval (.Name x np) X.env) Q E { s' with heap := h3 } := fun {x c np Q E} hc q => by
      obtain ⟨hg, hdbg, hm | ⟨hm, hv, hnn⟩⟩ := hc
      · exact ld_glob (X := X.suite a ((a, oe3) :: (X.pn ++ pins))) S3 hg hm q hdbg
      · exact ld_blt (X := X.suite a ((a, oe3) :: (X.pn ++ pins))) S3 hg hm hv q hnn hdbg
    have go : ∀ {hds' : List ExceptHandler} {l' : List (Value × Option Nat × (Addr → Value → Option Addr → TS))}, HdsA X hds' l' → wManyA X.K Wout D l' cls d σ' H' →
        wpAny (model X.prog X.w) X.A (handleBy (.ref a) X.env hds') (SP X pins D) X.xe { s' with heap := h3 } := by
      intro hds' l' hk
      induction hk with
      | nil =>
        intro w
        refine wpAny_handleBy_nil ?_
        obtain ⟨k1, k2, k3, oe, vs, T, oT, ts', he, hz, hd, h1, hr⟩ := id fl3
        unfold PySem.passOn
        refine wpAny_bind (wpAny_field he hd h1 ?_)
        rw [if_neg (show ¬ ((Value.ref T == Value.none) = true) from by simp)]
        have fin : wpAny (model X.prog X.w) X.A (setFlight (.ref a) X.env.frame) (fun _ s4 => wpAny (model X.prog X.w) X.A (throw (.ref a) : Sem Flow) (SP X pins D) X.xe s4) X.xe { s' with heap := h3 } := by
          rw [hf]
          refine HandSPX.setFlight_upZ fl3 fun h4 hh4 up4 => wpAny_throw (tk _ _ ?_)
          exact ⟨a, B, sI, pins, σ', H', cls, d, rfl, J, nb, (up.trans up3).trans up4, .inr (.inr (by rw [hs]; exact hh4)), na, os, ag, w⟩
        first
          | exact wpAny_bind (wpAny_pure (wpAny_bind fin))
          | exact wpAny_bind fin
      | @bare x c ts b₀ suite np pos' hds2 l2 hc hsu r ih =>
        intro w
        obtain ⟨b, hb1, hyes, hno⟩ := w
        refine wpAny_handleBy_cons (codeAny_handlers_test ?_) (by intro q; cases q)
        have LM := PySem.W.exm_one (M := model X.prog X.w) (J3.kIn) LT hb1
        refine test hc (LM.here ?_)
        cases b with
        | true =>
          refine codeAny_handlers_suite ?_
          refine HandSPX.lands_againZ fl3 fun h4 fl4 up4 => ?_
          have J4 : Inv X pins σ' H' { s' with heap := h4 } := J.landed nb fl4.1 ((up.trans up3).trans up4) os ag
          obtain ⟨oe4, vs4, he4, hz4, hd4⟩ := fl4.there
          have S4 := J4.suite he4 hd4 na nL nF
          refine wpAny_mono ((hsu a oe4 cls d (X.pn ++ pins) hz4 ⟨_, hd4⟩).run [] _ _ H' _ S4 (hyes rfl a na)) (fun f s6 hsp => ?_) (fun _ _ z => False.elim z)
          cases f with
          | next =>
            obtain ⟨σ6, H6, S6, q6⟩ := hsp
            exact ⟨_, _, S6.unsuite ok, q6⟩
          | brk =>
            obtain ⟨σ6, H6, S6, q6⟩ := hsp
            exact ⟨_, _, S6.unsuite ok, q6⟩
          | cont =>
            obtain ⟨σ6, H6, S6, q6⟩ := hsp
            exact ⟨_, _, S6.unsuite ok, q6⟩
          | ret u =>
            obtain ⟨v6, σ6, H6, S6, r6, q6⟩ := hsp
            exact ⟨_, _, _, S6.unsuite ok, r6, q6⟩
        | false =>
          show wpAny _ X.A (handleBy (.ref a) X.env hds2) _ _ _
          exact ih (hno rfl)
      | @named x n c i ts b₀ suite np pos' hds2 l2 hN hi hln hc hsu r ih =>
        intro w
        have hloc : Loc X.env.scope n := .inl hln
        obtain ⟨b, hb1, hyes, hno⟩ := w
        refine wpAny_handleBy_cons (codeAny_handlers_test ?_) (by intro q; cases q)
        have LM := PySem.W.exm_one (M := model X.prog X.w) (J3.kIn) LT hb1
        refine test hc (LM.here ?_)
        cases b with
        | true =>
          refine codeAny_handlers_suite_as ?_
          refine HandSPX.lands_againZ fl3 fun h4 fl4 up4 => ?_
          have J4 : Inv X pins σ' H' { s' with heap := h4 } := J.landed nb fl4.1 ((up.trans up3).trans up4) os ag
          obtain ⟨oe4, vs4, he4, hz4, hd4⟩ := fl4.there
          have S4 := J4.suite he4 hd4 na nL nF
          refine store_ok (X := X.suite a ((a, oe4) :: (X.pn ++ pins))) (v := .ref a) S4 hN hi hloc rfl (fun s5 S5 => ?_) (.inr hln)
          refine wpAny_mono ((hsu a oe4 cls d (X.pn ++ pins) hz4 ⟨_, hd4⟩).run [] s5 _ H' _ S5 (hyes rfl a na)) (fun f s6 hsp => ?_) (fun _ _ z => False.elim z)
          have end_ : ∀ {σ6 : St} {H6 : Hp} {Q : Shared → Prop}, Inv (X.suite a ((a, oe4) :: (X.pn ++ pins))) [] σ6 H6 s6 → (∀ s7, Inv X pins (σ6.set i none) H6 s7 → Q s7) →
              wpAny (model X.prog X.w) X.A (do bindName X.env n .none; unbindBehindTheSuite X.env n pos') (fun _ s7 => Q s7) X.xe s6 := fun {σ6 H6 Q} S6 hq => gone_ok (S6.unsuite ok) hN hi hln hq
          cases f with
          | next =>
            obtain ⟨σ6, H6, S6, q6⟩ := hsp
            exact end_ S6 fun s7 J7 => ⟨_, _, J7, q6⟩
          | brk =>
            obtain ⟨σ6, H6, S6, q6⟩ := hsp
            exact end_ S6 fun s7 J7 => ⟨_, _, J7, q6⟩
          | cont =>
            obtain ⟨σ6, H6, S6, q6⟩ := hsp
            exact end_ S6 fun s7 J7 => ⟨_, _, J7, q6⟩
          | ret u =>
            obtain ⟨v6, σ6, H6, S6, r6, q6⟩ := hsp
            exact end_ S6 fun s7 J7 => ⟨_, _, _, J7, r6, q6⟩
        | false =>
          show wpAny _ X.A (handleBy (.ref a) X.env hds2) _ _ _
          exact ih (hno rfl)
    exact go hh w
  · cases f with
    | next =>
      obtain ⟨σ', H', J', q⟩ := hsp
      exact wpAny_execs_nil ⟨σ', H', J'.ofTry ok, q⟩
    | brk =>
      obtain ⟨σ', H', J', q⟩ := hsp
      exact ⟨σ', H', J'.ofTry ok, q⟩
    | cont =>
      obtain ⟨σ', H', J', q⟩ := hsp
      exact ⟨σ', H', J'.ofTry ok, q⟩
    | ret u =>
      obtain ⟨v, σ', H', J', r, q⟩ := hsp
      exact ⟨v, σ', H', J'.ofTry ok, r, q⟩
end
/-! isinstance(e, c), e the exception that the suite holds, with its own dict -/
structure ExcX (K : PySem.W.Frag) (D : Addr) : Prop where
  hc : (PySem.W.clsIn K D).isSome = true
  hg : PySem.W.findIn K (.ref D) "__getattribute__" = some (some (.builtin "BaseException.__getattribute__"))
  hk : PySem.W.findIn K (.ref D) "__getattr__" = some none
  hs : PySem.W.subIn K (.ref D) (.type "BaseException") = some true
  ha : PySem.W.findIn K (.ref D) "__class__" = some (some (.builtin "object.__class__"))
  hn : PySem.W.specialIn K (.builtin "object.__class__") "__get__" = some (some (.builtin "getset_descriptor.__get__"))
  ht : PySem.W.takesIn K (.builtin "object.__class__") = some true
  hm : PySem.W.mroIn K D (.type "object") = some true
def rIsX (K : PySem.W.Frag) (cls : Value) (d : Option Addr) (a : Addr) : List V → Hp → VK → Prop := fun xs H Q => ∃ (D : Addr) (dd : Addr) (fs : List (Str × V)) (c : V) (cv : Value) (b : Bool), cls = .ref D ∧ ExcX K D ∧ d = some dd ∧ H dd = some (.xd fs) ∧ xs = [.ref a, c] ∧ ClsV c cv ∧ PySem.W.kitOne K (.ref D) cv = some b ∧ Q (.bl b) H
theorem call_isX {X : Cx} {a : Addr} {cls : Value} {d : Option Addr} {oe : Obj} {pn : List (Addr × Obj)} (hz : Zc cls d oe) (hf : ∃ vs, oe.data = .fields vs) : CallR (X.suite a ((a, oe) :: pn)) (.builtin "isinstance") (rIsX X.K cls d a) := by
  intro pins s σ H xs us Q I r h
  obtain ⟨D, dd, fs, c, cv, b, rfl, C, rfl, ed, rfl, hcv, e, q⟩ := h
  cases r with
  | cons rx rr =>
    cases rr with
    | cons rt rr =>
      cases rr
      cases rx
      have ec := hcv.eq rt
      subst ec
      obtain ⟨hget, _⟩ := I.pin (a, oe) (List.mem_append.mpr (.inl List.mem_cons_self))
      obtain ⟨vs, hv⟩ := hf
      have hx : ObjOk X.prog X.w H s.heap dd (.xd fs) := I.hok dd _ ed
      obtain ⟨mA, hns, hr⟩ := hx
      obtain ⟨od, ho, hl⟩ := lookIn_ns hns
      have J : PySem.W.InstAt s.heap a oe D (some od) := ⟨hget, hz.1, by unfold PySem.W.notCls; rw [hv] <;> rfl, by rw [hz.2]; exact ho⟩
      exact PySem.W.kia_one (PySem.W.kitx_exc C.hc C.hg C.hk C.hs C.ha C.hn C.ht C.hm) I.kIn J e (fun z => nomatch z) fun tk => ⟨.bl b, H, I.kept (t' := tk) fun _ _ z => z, rfl, q⟩
end L2
set_option Elab.async false
set_option linter.all false
set_option maxRecDepth 100000
set_option maxHeartbeats 4000000
namespace Kx
open PySem PySem.Spec PyProof.Rows L2
/-! operators by whatever their operands are -/
def rStr2 (g : Str → Str → V) : R2 := fun x y H Q => ∃ i j, x = .str i ∧ y = .str j ∧ Q (g i j) H
def uAdd (K : PySem.W.Frag) : R2 := fun x y H Q => rI0 (fun i j => .int (i + j)) x y H Q ∨ rCat x y H Q ∨ rCatA K x y H Q ∨
  (∃ i j, x = .str i ∧ y = .str j ∧ i.length + j.length ≤ sizeLine ∧ Q (.str (i ++ j)) H) ∨ (∃ i k, x = .int i ∧ y = .bl k ∧ Q (.int (i + b2i k)) H)
def uSub : R2 := rI0 fun i j => .int (i - j)
def uMul : R2 := fun x y H Q => rI CMulW (fun i j => .int (i * j)) x y H Q ∨ rRep x y H Q
def uFdv : R2 := rI CDivW fun i j => .int (i / j)
def uMod : R2 := rI (fun _ j => 0 < j) fun i j => .int (i % j)
def uPow : R2 := rI CPow fun i j => .int (i ^ j.toNat)
def uLt (K : PySem.W.Frag) : R2 := fun x y H Q => rI0 (fun i j => .bl (decide (i < j))) x y H Q ∨ rLtT K x y H Q ∨ (∃ i j, x = .str i ∧ y = .str j ∧ Q (.bl (decide (i.cps.toList < j.cps.toList))) H)
def uLe : R2 := rI0 fun i j => .bl (decide (i ≤ j))
def uGt : R2 := rI0 fun i j => .bl (decide (j < i))
def uGe : R2 := rI0 fun i j => .bl (decide (j ≤ i))
def uEq (K : PySem.W.Frag) : R2 := fun x y H Q => rEq x y H Q ∨ rEqD K x y H Q
def uNe (K : PySem.W.Frag) : R2 := fun x y H Q => rNe x y H Q ∨ rNeD K x y H Q
def uIs : R2 := fun x y H Q => (y = .non ∧ Q (.bl (decide (x = .non))) H) ∨ rIsB x y H Q
def uIsn : R2 := fun x y H Q => (y = .non ∧ Q (.bl (!decide (x = .non))) H) ∨ rNotB x y H Q
def uIn (K : PySem.W.Frag) : R2 := fun x y H Q => rIn K false x y H Q ∨ (∃ i j, x = .str i ∧ y = .str j ∧ Q (.bl (!(Builtin.Str.occurrences j i 0 j.length 1).isEmpty)) H) ∨ rInD K x y H Q
def uNin (K : PySem.W.Frag) : R2 := fun x y H Q => rIn K true x y H Q ∨ (∃ i j, x = .str i ∧ y = .str j ∧ Q (.bl (!(!(Builtin.Str.occurrences j i 0 j.length 1).isEmpty))) H) ∨ rNotInD K x y H Q
def uNeg : V → Hp → VK → Prop := rU fun i => .int (-i)
section
variable {X : Cx}
theorem u_add : OpR X (binaryOp .Add) (uAdd X.K) := op_add.or (op_cat.or (op_catA.or (op_add_str.or op_add_ib)))
theorem u_sub : OpR X (binaryOp .Sub) uSub := op_sub
theorem u_mul : OpR X (binaryOp .Mult) uMul := op_mulW.or op_rep
theorem u_fdv : OpR X (binaryOp .FloorDiv) uFdv := op_fdivW
theorem u_mod : OpR X (binaryOp .Mod) uMod := op_mod
theorem u_pow : OpR X (binaryOp .Pow) uPow := op_pow
theorem u_lt (hu : X.A.units < cLine) : OpR X (compareOp .Lt) (uLt X.K) := op_lt.or ((op_ltT hu).or op_lt_str)
theorem u_le : OpR X (compareOp .LtE) uLe := op_le
theorem u_gt : OpR X (compareOp .Gt) uGt := op_gt
theorem u_ge : OpR X (compareOp .GtE) uGe := op_ge
theorem u_eq (hu : X.A.units + 64 < cLine) : OpR X (compareOp .Eq) (uEq X.K) := op_eq.or (op_eqD hu)
theorem u_ne (hu : X.A.units + 64 < cLine) : OpR X (compareOp .NotEq) (uNe X.K) := op_ne.or (op_neD hu)
theorem u_is : OpR X (compareOp .Is) uIs := op_isN.or op_isBl
theorem u_isn : OpR X (compareOp .IsNot) uIsn := op_notN.or op_notBl
theorem u_in (hu : X.A.units + 65 < cLine) : OpR X (compareOp .In) (uIn X.K) := op_in_seq.or (op_in_str.or (op_inD hu))
theorem u_nin (hu : X.A.units + 65 < cLine) : OpR X (compareOp .NotIn) (uNin X.K) := op_notIn_seq.or (op_notin_str.or (op_notInD hu))
theorem u_neg : UnR X (unaryOp .USub) uNeg := un_neg
end
/-- a test by truth -/
def tTr (K : PySem.W.Frag) (ta : TE) : TT := fun σ H Q => ta σ H fun x H' => ∃ k, TruV K x H' k ∧ Q k H'
theorem pt_tr {X : Cx} {a : Expr} {ta : TE} (ha : PE X a ta) (he : ∀ whole, isTrue a X.env whole = (do let v ← whole; standAt a.pos; holding [v] (truthy v))) : PT X a (tTr X.K ta) := pt_truth ha he
/-! built-ins by their names -/
def uLen (K : PySem.W.Frag) : List V → Hp → VK → Prop := fun xs H Q => (∃ x n, xs = [x] ∧ LenV K x H n ∧ Q (.int n) H) ∨ (∃ a kvs, xs = [V.ref a] ∧ H a = some (.dK kvs) ∧ Q (.int kvs.length) H) ∨ rLenT xs H Q
theorem c_len {X : Cx} : CallR X (.builtin "len") (uLen X.K) := call_len.or (call_lenD.or call_len_dT)
def uInt : List V → Hp → VK → Prop := fun xs H Q => (∃ i, xs = [.int i] ∧ Q (.int i) H) ∨ ∃ k, xs = [.bl k] ∧ Q (.int (if k then 1 else 0)) H
theorem c_int {X : Cx} : CallR X (.type "int") uInt := call_int1
def uAbs : List V → Hp → VK → Prop := fun xs H Q => ∃ i, xs = [.int i] ∧ Q (.int (if i < 0 then -i else i)) H
theorem c_abs {X : Cx} : CallR X (.builtin "abs") uAbs := call_abs
def uMax : List V → Hp → VK → Prop := fun xs H Q => ∃ i j, xs = [.int i, .int j] ∧ Q (.int (if j > i then j else i)) H
theorem c_max {X : Cx} (hc : X.calm = true) : CallR X (.builtin "max") uMax := call_max2 hc
def uMin : List V → Hp → VK → Prop := fun xs H Q => ∃ i j, xs = [.int i, .int j] ∧ Q (.int (if j < i then j else i)) H
theorem c_min {X : Cx} (hc : X.calm = true) : CallR X (.builtin "min") uMin := call_min2 hc
def uIsi (K : PySem.W.Frag) : List V → Hp → VK → Prop := fun xs H Q => rIsi K xs H Q ∨ rIsiT K xs H Q
theorem c_isi {X : Cx} : CallR X (.builtin "isinstance") (uIsi X.K) := call_isi.or call_isiT
/-! a def that may be called by its name; it may raise -/
structure Kn (P : Program) (w : World) (K : PySem.W.Frag) (mg : Str → Option Value) (base : Heap) (k : Nat) (x : Str) (ps : List Str) (sp : Sp) : Prop where
  ex : ∃ (f : Addr) (fd : FuncData), FnOk P w K mg base (L2.CX P w) k f fd ps sp ∧ mg x = some (.ref f) ∧ PySem.W.keepIn K (.ref f) = true ∧ Binds K fd ps []
/-- .. by keywords alone, ks their order, g puts them in the parameters' order -/
structure Kk (P : Program) (w : World) (K : PySem.W.Frag) (mg : Str → Option Value) (base : Heap) (k : Nat) (x : Str) (ps ks : List Str) (g : {α : Type} → List α → List α) (sp : Sp) : Prop where
  ex : ∃ (f : Addr) (fd : FuncData), FnOk P w K mg base (L2.CX P w) k f fd ps sp ∧ mg x = some (.ref f) ∧ PySem.W.keepIn K (.ref f) = true ∧
    (∀ (s : Shared) (ws : List Value), K.In s.heap → (g ws).length = ps.length → BindsTo s fd ⟨[], ks.zip ws⟩ (ps.zip (g ws))) ∧ ∀ {zs : List V} {ws : List Value}, Vals zs ws → Vals (g zs) (g ws)
abbrev E00 : XK := fun _ _ _ => False
/-- a call that raises nothing -/
def tKn (sp : Sp) (t : TA) : TE := fun σ H Q => t σ H fun vs H1 => sp vs H1 Q E00
/-- a call that may raise: W what is wished then -/
def tKx (sp : Sp) (W : WX) (t : TA) : TE := fun σ H Q => t σ H fun vs H1 => sp vs H1 Q fun cls d H' => W cls d σ H'
/-- by keywords -/
def tKk (sp : Sp) (g : {α : Type} → List α → List α) (W : WX) (t : TA) : TE := fun σ H Q => t σ H fun vs H1 => sp (g vs) H1 Q fun cls d H' => W cls d σ H'
section
variable {X : Cx} {k j : Nat} {x : Str} {ps ks : List Str} {sp : Sp} {p pos : Pos} {e : Expr} {es : List Expr} {t : TA} {W : WX} {kws : List Keyword}
theorem run_kn {E : L2.St → XK} {pins : List (Addr × Obj)} {σ : L2.St} {H : Hp} {s : Shared} {Q : VK} {us : List Value} {vs : List V} {f : Addr} {fd : FuncData} (F : FnOk X.prog X.w X.K X.mg X.base (L2.CX X.prog X.w) k f fd ps sp) (hr : Room k X.A) (hb : Binds X.K fd ps []) (hx : PassesAt (L2.CX X.prog X.w) X σ (E σ))
    (I : Inv X pins σ H s) (r : Vals vs us) (h : sp vs H Q (E σ)) : wpAny (model X.prog X.w) X.A (call (.ref f) us) (EP X pins σ Q) X.xe s := run_fnS F hr hb hx I r h
theorem no_pass {σ : L2.St} : PassesAt (L2.CX X.prog X.w) X σ E00 := fun _ _ _ _ _ _ c => by
  obtain ⟨_, _, _, _, _, _, _, _, _, _, _, _, z⟩ := c
  exact z.elim
theorem pe_kn (c : Kn X.prog X.w X.K X.mg X.base k x ps sp) (hr : Room j X.A) (hk : k ≤ j) (hg : Gl X x) (ha : PA X (e :: es) t)
    (hdb : (x == ("__debug__" : Str)) = false := by decide) (he : starEach (e :: es) X.env = (false, eval e X.env) :: starEach es X.env := by rfl) (hpl : (backTo pos (starEach es X.env)).any (·.1) = false := by rfl) :
    PE X (.Call (.Name x p) (e :: es) [] pos) (tKn sp t) := by
  obtain ⟨f, fd, F, hm, kp, b⟩ := c.ex
  refine ⟨fun pins s σ H Q I h => ?_⟩
  refine wpAny_Call_Name_kw (ld_glob I hg hm ?_ hdb)
  refine PySem.W.callWith_K (h₀ := X.base) I.ok.mod.kin kp (thn (ha.run pos pins s σ H _ I h) fun us s1 ⟨vs, H1, I1, r, q⟩ => ⟨I1.kIn, ?_⟩) he hpl
  exact run_kn (E := fun _ => E00) F (hr.mono hk) b no_pass I1 r q
theorem pe_kx (c : Kn X.prog X.w X.K X.mg X.base k x ps sp) (hr : Room j X.A) (hk : k ≤ j) (tk : Takes X W) (hg : Gl X x) (ha : PA X (e :: es) t)
    (hdb : (x == ("__debug__" : Str)) = false := by decide) (he : starEach (e :: es) X.env = (false, eval e X.env) :: starEach es X.env := by rfl) (hpl : (backTo pos (starEach es X.env)).any (·.1) = false := by rfl) :
    PE X (.Call (.Name x p) (e :: es) [] pos) (tKx sp W t) := by
  obtain ⟨f, fd, F, hm, kp, b⟩ := c.ex
  refine ⟨fun pins s σ H Q I h => ?_⟩
  refine wpAny_Call_Name_kw (ld_glob I hg hm ?_ hdb)
  refine PySem.W.callWith_K (h₀ := X.base) I.ok.mod.kin kp (thn (ha.run pos pins s σ H _ I h) fun us s1 ⟨vs, H1, I1, r, q⟩ => ⟨I1.kIn, ?_⟩) he hpl
  exact run_kn (E := WE W) F (hr.mono hk) b (passAt tk σ) I1 r q
theorem pe_kk {g : {α : Type} → List α → List α} (c : Kk X.prog X.w X.K X.mg X.base k x ps ks g sp) (hr : Room j X.A) (hk : k ≤ j) (tk : Takes X W) (hg : Gl X x) (hkw : PK X kws t)
    (hall : (backToKw pos (keywordEach kws X.env)).all (·.1.isSome) = true := by rfl) (hks : (backToKw pos (keywordEach kws X.env)).filterMap (·.1) = ks := by rfl) (hdb : (x == ("__debug__" : Str)) = false := by decide)
    (hpl : ((backTo pos (starEach [] X.env)).any (·.1) || (backToKw pos (keywordEach kws X.env)).any (·.1.isNone)) = false := by rfl) :
    PE X (.Call (.Name x p) [] kws pos) (tKk sp g W t) := by
  obtain ⟨f, fd, F, hm, kp, b, rel⟩ := c.ex
  refine ⟨fun pins s σ H Q I h => ?_⟩
  refine wpAny_Call_Name_kw (ld_glob I hg hm ?_ hdb)
  refine PySem.W.callWith_KW0 (h₀ := X.base) I.ok.mod.kin kp hall ?_ hpl
  refine thn (hkw.run pos pins s σ H _ I h) fun ws s2 ⟨zs, H2, I2, rz, q2⟩ => ⟨I2.kIn, ?_⟩
  rw [hks]
  have r2 := rel rz
  have hl : (g ws).length = ps.length := by rw [← r2.length]; exact F.len _ _ _ _ q2
  refine wpAny_call (codeAny_mono (F.run X.A X.stack s2 H2 ⟨[], ks.zip ws⟩ (g ws) (g zs) Q (WE W σ) (hr.mono hk) I2.env0 (b s2 ws I2.kIn hl) r2 q2) fun r s' hq => ?_)
  cases r with
  | error e => exact passAt tk σ pins H2 s2 e s' I2 hq
  | ok fl =>
    cases fl with
    | ret u => exact I2.after hq
    | next => exact False.elim hq
    | brk => exact False.elim hq
    | cont => exact False.elim hq
end
/-- a module's constant -/
theorem pe_cst {X : Cx} {x : Str} {pos : Pos} {v : V} (hg : Gl X x) (h : ∃ u, X.mg x = some u ∧ RelV v u) (hdb : (x == ("__debug__" : Str)) = false := by decide) : PE X (.Name x pos) (tC v) := by
  obtain ⟨u, hm, r⟩ := h
  exact pe_glob hg hm r hdb
/-- a class, built-in, as a value -/
theorem pe_ty {X : Cx} {x : Str} {n : String} {pos : Pos} (hg : Gl X x) (hm : X.mg x = none) (hv : bootBuiltins x = some (.type n)) (hn : x ≠ "__name__" := by decide) (hdb : (x == ("__debug__" : Str)) = false := by decide) : PE X (.Name x pos) (tC (.ty n)) := by
  first | exact pe_bltn hg hm hv rfl | exact pe_bltn hg hm hv rfl hn | exact pe_bltn hg hm hv rfl hn hdb
section
variable {P : Program} {w : World} {K : PySem.W.Frag} {mg : Str → Option Value} {base : Heap}
/-- a def by its body's walk (hd) and the reading's law (hp) -/
theorem kn_ok {x qual : Str} {st : Stmt} {f : Addr} {fd : FuncData} {N ps : List Str} {k : Nat} {sp : Sp} (F : FunD K x qual (defArgs st) (defBody st) (defScope st) [] [] f fd) (S : FnScope N ps (defScope st)) (len : ∀ vs H Q E, sp vs H Q E → vs.length = ps.length) (t : XK → TS)
    (hd : ∀ (cdv : Value) (A : Around) (outer : List Env) (s : Shared) (H : Hp) (E : XK), Room k (A.deeper (envOfC qual (defScope st) s.heap.objs.size f cdv)) → PSs (cxOf (L2.CX P w) P w K mg base N qual (defScope st) f cdv A outer s H E) (defBody st) (t E))
    (hp : ∀ (vs : List V) (H : Hp) (Q : VK) (E : XK), sp vs H Q E → t E { nx := fun _ H' => Q .non H', rt := Q } (start N vs) H) : FnOk P w K mg base (L2.CX P w) (k + 1) f fd ps sp :=
  F.ok S len fun cdv A outer s H vs Q E hr h => ⟨t E, hd cdv A outer s H E hr, hp vs H Q E h⟩
end
theorem hu0_of {A : Around} {k : Nat} (hr : Room k A) : A.units < cLine := by have := hr.un; omega
theorem hu64_of {A : Around} {k : Nat} (hr : Room k A) : A.units + 64 < cLine := by have := hr.un; omega
theorem hu65_of {A : Around} {k : Nat} (hr : Room k A) : A.units + 65 < cLine := by have := hr.un; omega
abbrev W0 (E : XK) : WX := fun cls d _ H => E cls d H
def tTryM (K : PySem.W.Frag) (Wout : WX) (tb : WX → TS) (l : List (Value × Option Nat × (Addr → Value → Option Addr → TS))) : TS := fun D σ H => tb (wManyA K Wout D l) D σ H
def iSeq (K : PySem.W.Frag) (tl : TE) : TI := fun σ H R => iList K tl σ H R ∨ iTup K tl σ H R
theorem pi_seq {X : Cx} {tg l : Expr} {tl : TE} (hl : PE X l tl) : PI X tg l (iSeq X.K tl) :=
  ⟨fun pins s σ H R I h => h.elim ((pi_list hl).run pins s σ H R I) ((pi_tup hl).run pins s σ H R I)⟩
/-- (a, b, ..) = a tuple or a list of that length -/
def gSq (K : PySem.W.Frag) (n : Nat) (t : TGs) : TG := fun v σ H Q => gTup K n t v σ H Q ∨ gLst K n t v σ H Q
theorem pg_sq {X : Cx} {pos : Pos} {es : List Expr} {k : Nat} {t : TGs} {n : Nat} (hc : X.calm = true) (h : PGs X es t)
    (hn : (assignEach es X.env).length = n := by rfl) (hst : (assignEach es X.env).findIdx? (·.1) = none := by rfl) : PG X (.Tuple es k pos) (gSq X.K n t) :=
  ⟨fun pins s σ H v u Q I r hw => hw.elim ((pg_tup hc h hn hst).run pins s σ H v u Q I r) ((pg_lst hc h hn hst).run pins s σ H v u Q I r)⟩
def uSl (K : PySem.W.Frag) : V → Option Int → Option Int → Hp → VK → Prop := fun x lo hi H Q => rSlL K x lo hi H Q ∨ rSlA K x lo hi H Q ∨ rSlS x lo hi H Q
theorem u_sl {X : Cx} : SlR X (uSl X.K) := fun pins s σ H x v vl vu lo hi sl Q I rx hs pl pu h => by
  rcases h with h | h | h
  · exact sl_list pins s σ H x v vl vu lo hi sl Q I rx hs pl pu h
  · exact sl_tupA pins s σ H x v vl vu lo hi sl Q I rx hs pl pu h
  · exact sl_str pins s σ H x v vl vu lo hi sl Q I rx hs pl pu h
def uSum (K : PySem.W.Frag) : List V → Hp → VK → Prop := rSum K
theorem c_sum {X : Cx} (hc : X.calm = true) : CallR X (.builtin "sum") (uSum X.K) := cr_sum hc
def uAll (K : PySem.W.Frag) : List V → Hp → VK → Prop := rAll K
theorem c_all {X : Cx} (hc : X.calm = true) : CallR X (.builtin "all") (uAll X.K) := cr_all hc
def uAny (K : PySem.W.Frag) : List V → Hp → VK → Prop := rAny K
theorem c_any {X : Cx} (hc : X.calm = true) : CallR X (.builtin "any") (uAny X.K) := cr_any hc
def tpAdd : TIp := ipI fun i j => i + j
def tpSub : TIp := ipI fun i j => i - j
/-- e.n, e the error that the suite holds -/
def tXg (K : PySem.W.Frag) (a : Addr) (cls : Value) (d : Option Addr) (f : Str) (te : TE) : TE := fun σ H Q => te σ H fun x H1 => x = .ref a ∧ ∃ (C dd : Addr) (fs : List (Str × V)) (v : V), cls = .ref C ∧ XfC K C ∧ PySem.W.findIn K (.ref C) f = some none ∧ d = some dd ∧ H1 dd = some (.xd fs) ∧ fs.lookup f = some v ∧ Q v H1
theorem pe_xg {X : Cx} {a : Addr} {oe : Obj} {cls : Value} {d : Option Addr} {pn : List (Addr × Obj)} {e : Expr} {te : TE} {pos : Pos} {n : Str} (hz : Zc cls d oe) (hf : ∃ vs, oe.data = .fields vs) (he : PE (X.suite a ((a, oe) :: pn)) e te)
    (hb : attributeBase e n X.env (eval e X.env) = eval e X.env := by rfl) :
    PE (X.suite a ((a, oe) :: pn)) (.Attribute e n pos) (tXg X.K a cls d n te) := by
  refine ⟨fun pins s σ H Q I h => ?_⟩
  refine attr_of hb (thn (he.run pins s σ H _ I h) fun u s1 hh => ?_)
  obtain ⟨x, H1, I1, rx, ex, C, dd, fs, v, ec, T, hno, ed, ea, l, q⟩ := hh
  subst ex
  obtain rfl : u = Value.ref a := rx
  subst ec
  subst ed
  obtain ⟨ha, _⟩ := I1.pin (a, oe) (List.mem_append_left _ List.mem_cons_self)
  obtain ⟨vs, hd⟩ := hf
  have hx : ObjOk X.prog X.w H1 s1.heap dd (.xd fs) := I1.hok dd _ ea
  obtain ⟨mA, hns, hr⟩ := hx
  obtain ⟨od, ho, hl⟩ := lookIn_ns hns
  obtain ⟨u, hu, ru⟩ := RelO.some_of (v := v) (o := mA n) (by rw [← l]; exact hr n)
  have J : PySem.W.InstAt s1.heap a oe C (some od) := ⟨ha, hz.1, by unfold PySem.W.notCls; rw [hd] <;> rfl, by rw [hz.2]; exact ho⟩
  exact HandSPX.exc_get I1.kIn J T.ga T.gg T.exC (PySem.W.findObj_own T.hdC hno rfl (by rw [hl, hu])) (handed_of ru) ⟨v, H1, I1.tok _, ru, q⟩
end Kx
set_option Elab.async false
set_option linter.all false
set_option maxRecDepth 100000
set_option maxHeartbeats 4000000
namespace Kx
open PySem PySem.Spec PyProof.Rows L2
section
variable {K : PySem.W.Frag} {σ : L2.St} {H : Hp} {Q : VK} {QB : Bool → Hp → Prop} {QA : List V → Hp → Prop} {D : Ends} {E : XK} {W : WX} {ta tb tc te : TE} {tr : TA} {c u : TT} {t t2 : TS} {g : TG} {gs : TGs} {r r' : R2} {x y v : V} {xs vs : List V} {i j : Int} {n : Nat} {b k : Bool} {s z : Str} {sp : Sp} {p q a d : Addr} {wi : TI}
/-! expressions -/
theorem w_var {n : Nat} (h : σ[n]? = some (some v)) (q : Q v H) : tVar n σ H Q := ⟨v, h, q⟩
theorem w_c (q : Q v H) : tC v σ H Q := q
theorem w_op (q : ta σ H fun x H1 => tb σ H1 fun y H2 => r x y H2 Q) : tOp r ta tb σ H Q := q
theorem w_un {r : V → Hp → VK → Prop} (q : ta σ H fun x H1 => r x H1 Q) : tUn r ta σ H Q := q
theorem w_cons (q : ta σ H fun x H1 => tr σ H1 fun xs H2 => QA (x :: xs) H2) : tCons ta tr σ H QA := q
theorem w_nil (q : QA [] H) : tNil σ H QA := q
theorem w_kn (q : tr σ H fun vs H1 => sp vs H1 Q E00) : tKn sp tr σ H Q := q
theorem w_kx (q : tr σ H fun vs H1 => sp vs H1 Q fun cls d H' => W cls d σ H') : tKx sp W tr σ H Q := q
theorem w_kk {g : {α : Type} → List α → List α} (q : tr σ H fun vs H1 => sp (g vs) H1 Q fun cls d H' => W cls d σ H') : tKk sp g W tr σ H Q := q
theorem w_cb {r : List V → Hp → VK → Prop} (q : tr σ H fun vs H1 => r vs H1 Q) : tCB r tr σ H Q := q
theorem w_chain (q : ta σ H fun x H1 => tb σ H1 fun y H2 => r x y H2 fun z H3 => ∃ k, z = .bl k ∧ (if k = true then tc σ H3 fun w' H4 => r' y w' H4 Q else Q (.bl false) H3)) : tChain r r' ta tb tc σ H Q := q
theorem w_andV (q : ta σ H fun x H1 => ∃ c, x = .bl c ∧ if c = true then tb σ H1 Q else Q (.bl false) H1) : tAndV ta tb σ H Q := q
theorem w_orV (q : ta σ H fun x H1 => ∃ c, x = .bl c ∧ if c = true then Q (.bl true) H1 else tb σ H1 Q) : tOrV ta tb σ H Q := q
theorem w_notV (q : ta σ H fun x H1 => ∃ c, x = .bl c ∧ Q (.bl (!c)) H1) : tNotV ta σ H Q := q
theorem w_ifx (q : c σ H fun b H1 => if b = true then ta σ H1 Q else tb σ H1 Q) : tIf c ta tb σ H Q := q
theorem w_tup (q : tr σ H fun xs H1 => xs.length ≤ sizeLine ∧ ∀ p, H1 p = none → Q (.ref p) (upd H1 p (.tup xs))) : tTup tr σ H Q := q
theorem w_lst (q : tr σ H fun xs H1 => xs.length ≤ sizeLine ∧ ∀ p, H1 p = none → Q (.ref p) (upd H1 p (.lst xs))) : tLst tr σ H Q := q
theorem w_tupE {F : Addr → Prop} (h : xs.length ≤ 1000) (q : ∀ p, H p = none → F p) : xs.length ≤ sizeLine ∧ ∀ p, H p = none → F p := ⟨Nat.le_trans h (by decide), q⟩
/-! tests -/
theorem w_test (q : te σ H fun x H' => ∃ k, x = .bl k ∧ QB k H') : tTest te σ H QB := q
theorem w_tr (q : te σ H fun x H' => ∃ k, TruV K x H' k ∧ QB k H') : tTr K te σ H QB := q
theorem w_and (q : c σ H fun b H1 => if b = true then u σ H1 QB else QB false H1) : tAnd c u σ H QB := q
theorem w_or (q : c σ H fun b H1 => if b = true then QB true H1 else u σ H1 QB) : tOr c u σ H QB := q
theorem w_not (q : c σ H fun b H1 => QB (!b) H1) : tNot c σ H QB := q
theorem w_yes (q : QB true H) : tYes σ H QB := q
theorem w_exb {P : Bool → Prop} (q : P b) : ∃ c, V.bl b = V.bl c ∧ P c := ⟨b, rfl, q⟩
theorem w_tru_bl {P : Bool → Prop} (q : P b) : ∃ k, TruV K (.bl b) H k ∧ P k := ⟨b, rfl, q⟩
theorem w_tru_int {P : Bool → Prop} (q : P (i != 0)) : ∃ k, TruV K (.int i) H k ∧ P k := ⟨_, rfl, q⟩
theorem w_tru_non {P : Bool → Prop} (q : P false) : ∃ k, TruV K .non H k ∧ P k := ⟨_, rfl, q⟩
theorem w_ite_t {c : Prop} [Decidable c] {A B : Prop} (h : c) (q : A) : if c then A else B := by rw [if_pos h]; exact q
theorem w_ite_f {c : Prop} [Decidable c] {A B : Prop} (h : ¬ c) (q : B) : if c then A else B := by rw [if_neg h]; exact q
theorem w_bt {A B : Prop} (h : b = true) (q : A) : if b = true then A else B := by rw [if_pos h]; exact q
theorem w_bf {A B : Prop} (h : b = false) (q : B) : if b = true then A else B := by rw [if_neg (by rw [h]; exact Bool.false_ne_true)]; exact q
theorem w_b2 {A B : Prop} (q1 : b = true → A) (q2 : b = false → B) : if b = true then A else B := by
  cases b
  · rw [if_neg Bool.false_ne_true]; exact q2 rfl
  · rw [if_pos rfl]; exact q1 rfl
/-! statements -/
theorem w_seq (q : t { D with nx := t2 D } σ H) : tSeq t t2 D σ H := q
theorem w_asg (q : te σ H fun x H1 => g x σ H1 D.nx) : tAsg te g D σ H := q
theorem w_name {Q : L2.St → Hp → Prop} {n : Nat} (q : Q (σ.set n (some v)) H) : gName n v σ H Q := q
theorem w_ret (q : te σ H D.rt) : tRet te D σ H := q
theorem w_retN (q : D.rt .non H) : tRetN D σ H := q
theorem w_drop (q : te σ H fun _ H1 => D.nx σ H1) : tDrop te D σ H := q
theorem w_if (q : c σ H fun b H1 => if b = true then t D σ H1 else t2 D σ H1) : tIfS c t t2 D σ H := q
theorem w_next (q : D.nx σ H) : tNext D σ H := q
theorem w_brk (q : D.bk σ H) : tBreak D σ H := q
theorem w_cont (q : D.ct σ H) : tCont D σ H := q
theorem w_par {n m : Nat} (q : tr σ H fun vs H1 => ∃ v w, vs = [v, w] ∧ D.nx ((σ.set n (some v)).set m (some w)) H1) : tPar n m tr D σ H := q
theorem w_par2 {P : V → V → Prop} (q : P x y) : ∃ v w, [x, y] = [v, w] ∧ P v w := ⟨x, y, rfl, q⟩
theorem w_par3 {n m l : Nat} (q : tr σ H fun vs H1 => ∃ u v w, vs = [u, v, w] ∧ D.nx (((σ.set n (some u)).set m (some v)).set l (some w)) H1) : tPar3 n m l tr D σ H := q
theorem w_par33 {P : V → V → V → Prop} {z : V} (q : P x y z) : ∃ u v w, [x, y, z] = [u, v, w] ∧ P u v w := ⟨x, y, z, rfl, q⟩
theorem w_aug {n : Nat} {ti : TIp} (h : σ[n]? = some (some x)) (q : te σ H fun y H1 => ti x y H1 fun z H2 => D.nx (σ.set n (some z)) H2) : tAug n te ti D σ H := ⟨x, h, q⟩
theorem w_raise {C : Addr} (q : tMkDue C tr σ H fun cls d H' => W cls d σ H') : tRaiseDue C W tr D σ H := q
theorem w_mkdue {C : Addr} {QX : XK} (q : tr σ H fun vs H1 => ∃ v, vs = [v] ∧ ∀ d, H1 d = none → QX (.ref C) (some d) (upd H1 d (.xd [(("given" : Str), v)]))) : tMkDue C tr σ H QX := q
theorem w_one {P : V → Prop} (q : P x) : ∃ v, [x] = [v] ∧ P v := ⟨x, rfl, q⟩
theorem w_gtup {Q : L2.St → Hp → Prop} {n : Nat} (h : SqT K H a xs) (hn : xs.length = n) (q : gs xs σ H Q) : gSq K n gs (.ref a) σ H Q := .inl ⟨a, xs, rfl, h, hn, q⟩
theorem w_glst {Q : L2.St → Hp → Prop} {n : Nat} (h : SqL K H a xs) (hn : xs.length = n) (q : gs xs σ H Q) : gSq K n gs (.ref a) σ H Q := .inr ⟨a, xs, rfl, h, hn, q⟩
theorem w_gcons {Q : L2.St → Hp → Prop} (q : g x σ H fun σ' H' => gs xs σ' H' Q) : gCons g gs (x :: xs) σ H Q := ⟨x, xs, rfl, q⟩
theorem w_gnil {Q : L2.St → Hp → Prop} (q : Q σ H) : gNil [] σ H Q := ⟨rfl, q⟩
theorem w_bm {T : String} {rr : V → List V → Hp → VK → Prop} (q : te σ H fun x H1 => tyV K T x H1 ∧ tr σ H1 fun xs H2 => rr x xs H2 Q) : tBM K T rr te tr σ H Q := q
theorem w_tyl {P : Prop} (h : SqL K H a xs) (q : P) : tyV K "list" (.ref a) H ∧ P := ⟨.inl ⟨rfl, _, h⟩, q⟩
theorem w_append {l : Addr} (h : H l = some (.lst xs)) (hn : xs.length < 1000000) (q : Q .non (upd H l (.lst (xs ++ [y])))) : rAppend (.ref l) [y] H Q := ⟨l, xs, y, rfl, rfl, h, Nat.lt_of_lt_of_le hn (by decide), q⟩
theorem w_for (q : wi σ H fun J H1 => ∃ W : Nat → Nat → L2.St → Hp → Prop, (∃ m, W 0 m σ H1) ∧ ∀ i m σ H, W i m σ H → ((J.stop i H ∧ D.nx σ H) ∨ (J.go i H ∧ ∃ N : L2.St → Hp → Prop, (∀ σ' H', N σ' H' → ∃ m', m' < m ∧ W (i + 1) m' σ' H') ∧ ∀ x H', J.yld i H x H' → g x σ H' fun σ2 H2 => t { D with nx := N, ct := N, bk := D.nx } σ2 H2))) : tFor wi g t D σ H := q
theorem w_rng1 {R : It → Hp → Prop} (q : tr σ H fun vs H1 => ∃ j : Int, vs = [.int j] ∧ -(2 ^ 62) ≤ j ∧ j < 2 ^ 62 ∧ R (Itr 0 j.toNat) H1) : iRng1 tr σ H R := q
theorem w_rng2 {R : It → Hp → Prop} (q : tr σ H fun vs H1 => ∃ i j : Int, vs = [.int i, .int j] ∧ (-(2 ^ 62) ≤ i ∧ i < 2 ^ 62 ∧ -(2 ^ 62) ≤ j ∧ j < 2 ^ 62) ∧ R (Itr i (j - i).toNat) H1) : iRng2 tr σ H R := q
theorem w_rng1e {P : Int → Prop} (h1 : -(2 ^ 62) ≤ i) (h2 : i < 2 ^ 62) (q : P i) : ∃ j : Int, [V.int i] = [.int j] ∧ -(2 ^ 62) ≤ j ∧ j < 2 ^ 62 ∧ P j := ⟨i, rfl, h1, h2, q⟩
theorem w_rng2e {P : Int → Int → Prop} (h : -(2 ^ 62) ≤ i ∧ i < 2 ^ 62 ∧ -(2 ^ 62) ≤ j ∧ j < 2 ^ 62) (q : P i j) : ∃ i' j' : Int, [V.int i, V.int j] = [.int i', .int j'] ∧ (-(2 ^ 62) ≤ i' ∧ i' < 2 ^ 62 ∧ -(2 ^ 62) ≤ j' ∧ j' < 2 ^ 62) ∧ P i' j' := ⟨i, j, rfl, h, q⟩
/-! operators by their operands -/
theorem w_add_ii (q : Q (.int (i + j)) H) : uAdd K (.int i) (.int j) H Q := .inl ⟨_, _, rfl, rfl, q⟩
theorem w_add_ll (h1 : H p = some (.lst xs)) (h2 : H a = some (.lst vs)) (hn : xs.length + vs.length ≤ 1000000) (q : ∀ p, H p = none → Q (.ref p) (upd H p (.lst (xs ++ vs)))) : uAdd K (.ref p) (.ref a) H Q :=
  .inr (.inl ⟨p, a, xs, vs, rfl, rfl, h1, h2, Nat.le_trans hn (by decide), q⟩)
theorem w_add_ss (hn : s.length + z.length ≤ 1000000) (q : Q (.str (s ++ z)) H) : uAdd K (.str s) (.str z) H Q := .inr (.inr (.inr (.inl ⟨_, _, rfl, rfl, Nat.le_trans hn (by decide), q⟩)))
theorem w_sub_ii (q : Q (.int (i - j)) H) : uSub (.int i) (.int j) H Q := ⟨_, _, rfl, rfl, q⟩
theorem w_mul_ii (h : i.natAbs < 2 ^ 500000) (h2 : j.natAbs < 2 ^ 400000) (q : Q (.int (i * j)) H) : uMul (.int i) (.int j) H Q := .inl ⟨_, _, rfl, rfl, wide_mul h h2 (by decide) (by decide) (by decide), q⟩
theorem w_mul_b (h : -1000000000000000000000000000000 < i ∧ i < 1000000000000000000000000000000) (h2 : -1000000000000000000000000000000 < j ∧ j < 1000000000000000000000000000000) (q : Q (.int (i * j)) H) : uMul (.int i) (.int j) H Q := by
  refine .inl ⟨_, _, rfl, rfl, wide_mul (a := 200) (b := 200) ?_ ?_ (by decide) (by decide) (by decide), q⟩
  · have : (1000000000000000000000000000000 : Nat) < 2 ^ 200 := by decide
    omega
  · have : (1000000000000000000000000000000 : Nat) < 2 ^ 200 := by decide
    omega
theorem w_mul_li (h1 : H p = some (.lst xs)) (h2 : 0 ≤ j) (h3 : j < 1000) (h4 : xs.length ≤ 1000) (q : ∀ q, H q = none → Q (.ref q) (upd H q (.lst ((List.replicate j.toNat xs).flatten)))) : uMul (.ref p) (.int j) H Q := by
  refine .inr ⟨p, j, xs, rfl, rfl, h1, by omega, by omega, ?_, q⟩
  have : xs.length * j.toNat ≤ 1000 * 1000 := Nat.mul_le_mul h4 (by omega)
  exact Nat.le_trans this (by decide)
theorem w_fdv_ii (h : 0 < j) (h2 : j < 1000000000000000000000000000000) (q : Q (.int (i / j)) H) : uFdv (.int i) (.int j) H Q := by
  refine ⟨_, _, rfl, rfl, wide_div h (b := 200) ?_ (by decide) (by decide), q⟩
  have : (1000000000000000000000000000000 : Nat) < 2 ^ 200 := by decide
  omega
theorem w_mod_ii (h : 0 < j) (q : Q (.int (i % j)) H) : uMod (.int i) (.int j) H Q := ⟨_, _, rfl, rfl, h, q⟩
theorem w_pow_ii (h : 0 ≤ j ∧ j ≤ 1000000 ∧ i.natAbs < 2 ^ 64) (q : Q (.int (i ^ j.toNat)) H) : uPow (.int i) (.int j) H Q := ⟨_, _, rfl, rfl, h, q⟩
theorem w_neg_i (q : Q (.int (-i)) H) : uNeg (.int i) H Q := ⟨_, rfl, q⟩
theorem w_lt_ii (q : Q (.bl (decide (i < j))) H) : uLt K (.int i) (.int j) H Q := .inl ⟨_, _, rfl, rfl, q⟩
theorem w_le_ii (q : Q (.bl (decide (i ≤ j))) H) : uLe (.int i) (.int j) H Q := ⟨_, _, rfl, rfl, q⟩
theorem w_gt_ii (q : Q (.bl (decide (j < i))) H) : uGt (.int i) (.int j) H Q := ⟨_, _, rfl, rfl, q⟩
theorem w_ge_ii (q : Q (.bl (decide (j ≤ i))) H) : uGe (.int i) (.int j) H Q := ⟨_, _, rfl, rfl, q⟩
theorem dec_ii : decide (V.int i = V.int j) = decide (i = j) := by
  by_cases h : i = j
  · rw [h]; simp
  · rw [decide_eq_false h, decide_eq_false (fun e => h (V.int.inj e))]
theorem dec_ss : decide (V.str s = V.str z) = decide (s = z) := by
  by_cases h : s = z
  · rw [h]; simp
  · rw [decide_eq_false h, decide_eq_false (fun e => h (V.str.inj e))]
theorem dec_bb {b c : Bool} : decide (V.bl b = V.bl c) = decide (b = c) := by
  by_cases h : b = c
  · rw [h]; simp
  · rw [decide_eq_false h, decide_eq_false (fun e => h (V.bl.inj e))]
theorem w_eq_ii (q : Q (.bl (decide (i = j))) H) : uEq K (.int i) (.int j) H Q := .inl ⟨rfl, by rw [dec_ii]; exact q⟩
theorem w_ne_ii (q : Q (.bl (!decide (i = j))) H) : uNe K (.int i) (.int j) H Q := .inl ⟨rfl, by rw [dec_ii]; exact q⟩
theorem w_eq_ss (q : Q (.bl (decide (s = z))) H) : uEq K (.str s) (.str z) H Q := .inl ⟨rfl, by rw [dec_ss]; exact q⟩
theorem w_ne_ss (q : Q (.bl (!decide (s = z))) H) : uNe K (.str s) (.str z) H Q := .inl ⟨rfl, by rw [dec_ss]; exact q⟩
theorem w_eq_bb {b c : Bool} (q : Q (.bl (decide (b = c))) H) : uEq K (.bl b) (.bl c) H Q := .inl ⟨rfl, by rw [dec_bb]; exact q⟩
theorem w_ne_bb {b c : Bool} (q : Q (.bl (!decide (b = c))) H) : uNe K (.bl b) (.bl c) H Q := .inl ⟨rfl, by rw [dec_bb]; exact q⟩
theorem w_eq_d {d e : PyData} (h1 : Dp K H x d) (h2 : Dp K H y e) (s1 : SeqAt.shaped d = true) (s2 : SeqAt.shaped e = true) (q : Q (.bl (PyData.eqv d e)) H) : uEq K x y H Q := .inr ⟨d, e, h1, h2, s1, s2, q⟩
theorem w_ne_d {d e : PyData} (h1 : Dp K H x d) (h2 : Dp K H y e) (s1 : SeqAt.shaped d = true) (s2 : SeqAt.shaped e = true) (q : Q (.bl (!PyData.eqv d e)) H) : uNe K x y H Q := .inr ⟨d, e, h1, h2, s1, s2, q⟩
theorem w_is_n (q : Q (.bl (decide (x = .non))) H) : uIs x .non H Q := .inl ⟨rfl, q⟩
theorem w_isn_n (q : Q (.bl (!decide (x = .non))) H) : uIsn x .non H Q := .inl ⟨rfl, q⟩
theorem w_is_bb {b c : Bool} (q : Q (.bl (decide (b = c))) H) : uIs (.bl b) (.bl c) H Q := .inr ⟨_, _, rfl, rfl, q⟩
theorem w_isn_bb {b c : Bool} (q : Q (.bl (!decide (b = c))) H) : uIsn (.bl b) (.bl c) H Q := .inr ⟨_, _, rfl, rfl, q⟩
theorem w_in_f (h : SqL K H p xs ∨ SqT K H p xs) (h1 : flatV x = true) (h2 : xs.all flatV = true) (q : Q (.bl (inV x xs)) H) : uIn K x (.ref p) H Q := .inl ⟨p, xs, rfl, h, h1, h2, q⟩
theorem w_nin_f (h : SqL K H p xs ∨ SqT K H p xs) (h1 : flatV x = true) (h2 : xs.all flatV = true) (q : Q (.bl (!inV x xs)) H) : uNin K x (.ref p) H Q := .inl ⟨p, xs, rfl, h, h1, h2, q⟩
theorem w_ixl (h : SqL K H p xs) (e : atI xs i = some v) (q : Q v H) : rIx K (.ref p) (.int i) H Q := .inl ⟨p, xs, i, v, rfl, rfl, h, e, q⟩
theorem w_ixt (h : SqT K H p xs) (e : atI xs i = some v) (q : Q v H) : rIx K (.ref p) (.int i) H Q := .inr (.inl ⟨p, xs, i, v, rfl, rfl, h, e, q⟩)
theorem w_ipadd {P : V → Hp → Prop} (q : P (.int (i + j)) H) : tpAdd (.int i) (.int j) H P := ⟨_, _, rfl, rfl, q⟩
theorem w_ipsub {P : V → Hp → Prop} (q : P (.int (i - j)) H) : tpSub (.int i) (.int j) H P := ⟨_, _, rfl, rfl, q⟩
/-! built-ins -/
theorem w_int_i (q : Q (.int i) H) : uInt [.int i] H Q := .inl ⟨_, rfl, q⟩
theorem w_int_b (q : Q (.int (if k then 1 else 0)) H) : uInt [.bl k] H Q := .inr ⟨_, rfl, q⟩
theorem w_abs (q : Q (.int (if i < 0 then -i else i)) H) : uAbs [.int i] H Q := ⟨_, rfl, q⟩
theorem w_max2 (q : Q (.int (if j > i then j else i)) H) : uMax [.int i, .int j] H Q := ⟨_, _, rfl, q⟩
theorem w_min2 (q : Q (.int (if j < i then j else i)) H) : uMin [.int i, .int j] H Q := ⟨_, _, rfl, q⟩
theorem w_len_l (h : SqL K H p xs) (q : Q (.int (xs.length : Nat)) H) : uLen K [.ref p] H Q := .inl ⟨_, _, rfl, .inl ⟨_, h, rfl⟩, q⟩
theorem w_len_t (h : SqT K H p xs) (q : Q (.int (xs.length : Nat)) H) : uLen K [.ref p] H Q := .inl ⟨_, _, rfl, .inr ⟨_, h, rfl⟩, q⟩
theorem w_len_d {kvs : List (Key × V)} (h : H p = some (.dK kvs)) (q : Q (.int (kvs.length : Nat)) H) : uLen K [.ref p] H Q := .inr (.inl ⟨_, _, rfl, h, q⟩)
theorem w_len_s (h : s.length ≤ 1000000) (q : Q (.int (s.length : Nat)) H) : uLen K [.str s] H Q := .inl ⟨_, _, rfl, ⟨Nat.le_trans h (by decide), rfl⟩, q⟩
theorem w_sum {ns : List Int} (h : SqL K H p (ns.map V.int)) (q : Q (.int ns.sum) H) : uSum K [.ref p] H Q := ⟨p, ns, rfl, h, q⟩
theorem w_isi {T : String} {n : String} (h : TyX K H x (.type T)) (e : kitB T n = some b) (q : Q (.bl b) H) : uIsi K [x, .ty n] H Q := .inl ⟨x, .ty n, .type T, .type n, b, rfl, .ty n, h, kit_ty e, q⟩
theorem w_isi2 {T : String} {n m : String} {b1 b2 : Bool} (ht : H p = some (.tup [.ty n, .ty m])) (h : TyX K H x (.type T)) (e1 : kitB T n = some b1) (e2 : kitB T m = some b2) (q : Q (.bl (b1 || b2)) H) : uIsi K [x, .ref p] H Q := by
  refine .inr ⟨x, p, [.ty n, .ty m], .type T, [.type n, .type m], b1 || b2, rfl, ht, .cons (.ty n) (.cons (.ty m) .nil), h, ?_, q⟩
  cases b1
  · cases b2
    · exact kitAny_cons (kit_ty e1) (fun _ => kitAny_cons (kit_ty e2) (fun _ => kitAny_nil) (by decide)) (by decide)
    · exact kitAny_cons (kit_ty e1) (fun _ => kitAny_cons (kit_ty e2) (fun z => by cases z) (fun _ => rfl)) (by decide)
  · exact kitAny_cons (kit_ty e1) (fun z => by cases z) (fun _ => rfl)
end
/-! heaps -/
theorem ty_l {K : PySem.W.Frag} {H : Hp} {a : Addr} {xs : List V} (h : SqL K H a xs) : TyX K H (.ref a) (.type "list") := by
  rcases h with (h | ⟨o, h⟩) | ⟨o, its, n, h1, h2, _⟩
  · exact .base (.lst h)
  · exact .base (.frz h)
  · exact .kList h1 h2
theorem ty_t {K : PySem.W.Frag} {H : Hp} {a : Addr} {xs : List V} (h : SqT K H a xs) : TyX K H (.ref a) (.type "tuple") := by
  rcases h with (h | ⟨o, h⟩) | ⟨o, its, n, h1, h2, _⟩
  · exact .base (.tup h)
  · exact .fTuple h
  · exact .kTuple h1 h2
theorem l_of {K : PySem.W.Frag} {H : Hp} {a : Addr} {xs : List V} (h : H a = some (.lst xs)) : SqL K H a xs := .inl (.inl h)
theorem t_of {K : PySem.W.Frag} {H : Hp} {a : Addr} {xs : List V} (h : H a = some (.tup xs)) : SqT K H a xs := .inl (.inl h)
theorem up_new {H : Hp} {a p : Addr} {o u : HO} (hp : H p = none) (h : H a = some o) : upd H p u a = some o := (upd_ne (ne_of_none h hp)).trans h
theorem up_other {H : Hp} {a p : Addr} {o u : HO} (hp : a ≠ p) (h : H a = some o) : upd H p u a = some o := (upd_ne hp).trans h
theorem sm_new {H : Hp} {p : Addr} {u : HO} (hp : H p = none) : Same H (upd H p u) := fun _ _ h => up_new hp h
theorem Same.tup {K : PySem.W.Frag} {H H' : Hp} {a : Addr} {xs : List V} (e : Same H H') (h : SqT K H a xs) : SqT K H' a xs := by
  rcases h with (h | ⟨o, h⟩) | h
  · exact .inl (.inl (e _ _ h))
  · exact .inl (.inr ⟨o, e _ _ h⟩)
  · exact .inr h
/-! isinstance by kinds -/
def tys : List String := ["NoneType", "bool", "int", "str", "list", "tuple", "dict"]
def kT (T n : String) : Bool := T == n || (T == "bool" && n == "int")
theorem kb_all : ∀ T ∈ tys, ∀ n ∈ tys, kitB T n = some (kT T n) := by decide +kernel
/-- what a value is, as far as the tests ask -/
inductive Kd (K : PySem.W.Frag) (H : Hp) : V → String → Prop
  | non : Kd K H .non "NoneType"
  | bl (b : Bool) : Kd K H (.bl b) "bool"
  | int (i : Int) : Kd K H (.int i) "int"
  | str (s : Str) : Kd K H (.str s) "str"
  | lst {a : Addr} {xs : List V} (h : SqL K H a xs) : Kd K H (.ref a) "list"
  | tup {a : Addr} {xs : List V} (h : SqT K H a xs) : Kd K H (.ref a) "tuple"
  | dic {a : Addr} {kvs : List (Key × V)} (h : H a = some (.dK kvs)) : Kd K H (.ref a) "dict"
theorem Kd.ty {K : PySem.W.Frag} {H : Hp} {x : V} {T : String} (h : Kd K H x T) : TyX K H x (.type T) := by
  cases h with
  | non => exact .base .non
  | bl b => exact .base (.bl b)
  | int i => exact .base (.int i)
  | str s => exact .base (.str s)
  | lst h => exact ty_l h
  | tup h => exact ty_t h
  | dic h => exact .base (.dK h)
theorem Kd.mem {K : PySem.W.Frag} {H : Hp} {x : V} {T : String} (h : Kd K H x T) : T ∈ tys := by cases h <;> decide
theorem Kd.same {K : PySem.W.Frag} {H H' : Hp} {x : V} {T : String} (e : Same H H') (h : Kd K H x T) : Kd K H' x T := by
  cases h with
  | non => exact .non
  | bl b => exact .bl b
  | int i => exact .int i
  | str s => exact .str s
  | lst h => exact .lst (e.seq h)
  | tup h => exact .tup (Kx.Same.tup e h)
  | dic h => exact .dic (e _ _ h)
section
variable {K : PySem.W.Frag} {H : Hp} {Q : VK} {x : V} {T n m : String} {p : Addr}
theorem w_isk (h : Kd K H x T) (hn : n ∈ tys) (q : Q (.bl (kT T n)) H) : uIsi K [x, .ty n] H Q := w_isi h.ty (kb_all T h.mem n hn) q
theorem w_isk2 (ht : H p = some (.tup [.ty n, .ty m])) (h : Kd K H x T) (hn : n ∈ tys) (hm : m ∈ tys) (q : Q (.bl (kT T n || kT T m)) H) : uIsi K [x, .ref p] H Q := w_isi2 ht h.ty (kb_all T h.mem n hn) (kb_all T h.mem m hm) q
end
theorem wN_le {n : Nat} (h : Nat.ble n 1000 = true) : n ≤ 1000 := Nat.le_of_ble_eq_true h
end Kx
set_option Elab.async false
set_option linter.all false
set_option maxRecDepth 100000
set_option maxHeartbeats 4000000
namespace Kx
open PySem PySem.Spec PyProof.Rows L2
/-! loops -/
section
variable {K : PySem.W.Frag} {c tt : TT} {tb : TS} {D : Ends} {σ : L2.St} {H H1 H2 H4 : Hp} {g : TG} {te : TE} {wi : TI} {vs : List Nat} {Q : VK} {a A : Addr} {xs : List V} {y : V} {i n : Nat}
theorem w_while (Pv : Nat → L2.St → Hp → Prop) (m0 : Nat) (h0 : Pv m0 σ H)
    (hs : ∀ m σ H, Pv m σ H → c σ H fun b H1 => if b = true then ∃ N : L2.St → Hp → Prop, (∀ σ' H', N σ' H' → ∃ m', m' < m ∧ Pv m' σ' H') ∧ tb { D with nx := N, ct := N, bk := D.nx } σ H1 else D.nx σ H1) : tWhile c tb D σ H := ⟨Pv, ⟨m0, h0⟩, hs⟩
theorem w_wN {W : Nat → L2.St → Hp → Prop} {m : Nat} (q : tb { D with nx := fun σ' H' => ∃ m', m' < m ∧ W m' σ' H', ct := fun σ' H' => ∃ m', m' < m ∧ W m' σ' H', bk := D.nx } σ H) :
    ∃ N : L2.St → Hp → Prop, (∀ σ' H', N σ' H' → ∃ m', m' < m ∧ W m' σ' H') ∧ tb { D with nx := N, ct := N, bk := D.nx } σ H := ⟨_, fun _ _ z => z, q⟩
/-- a list for the for: read as a list, as a tuple -/
theorem w_sqL {te : TE} {R : It → Hp → Prop} (q : te σ H fun x H1 => ∃ a, x = .ref a ∧ (∃ xs, SqL K H1 a xs) ∧ R (Itl K a) H1) : iSeq K te σ H R := .inl q
theorem w_sqT {te : TE} {R : It → Hp → Prop} (q : te σ H fun x H1 => ∃ a, x = .ref a ∧ (∃ xs, SqT K H1 a xs) ∧ R (Itt K a) H1) : iSeq K te σ H R := .inr q
theorem w_sqLe {P : Addr → Prop} (h : SqL K H a xs) (q : P a) : ∃ a', V.ref a = .ref a' ∧ (∃ xs, SqL K H a' xs) ∧ P a' := ⟨a, rfl, ⟨_, h⟩, q⟩
theorem w_sqTe {P : Addr → Prop} (h : SqT K H a xs) (q : P a) : ∃ a', V.ref a = .ref a' ∧ (∃ xs, SqT K H a' xs) ∧ P a' := ⟨a, rfl, ⟨_, h⟩, q⟩
/-! comprehensions -/
theorem w_lc (q : wi σ H fun J H1 => ∀ D, H1 D = none → ∃ W : Nat → Nat → Hp → Prop, (∃ m, W 0 m (upd H1 D (.lst []))) ∧ ∀ i m H, W i m H →
  (J.stop i H ∧ Q (.ref D) H) ∨ (J.go i H ∧ ∃ Nx : Hp → Prop, (∀ H', Nx H' → ∃ m', m' < m ∧ W (i + 1) m' H') ∧ ∀ x H', J.yld i H x H' → g x (wipe σ vs) H' fun σ2 H2 => wipe σ2 vs = wipe σ vs ∧ tt σ2 H2 fun b H3 =>
    if b = true then te σ2 H3 fun y H4 => ∃ acc, H4 D = some (.lst acc) ∧ acc.length < sizeLine ∧ Nx (upd H4 D (.lst (acc ++ [y]))) else Nx H3)) : tLc wi g tt te vs σ H Q := q
theorem sm_mut {p : Addr} {o : HO} (e : Same H H1) (h : H p = none) : Same H (upd H1 p o) := fun a u ha => by
  rw [upd_ne (ne_of_none ha h)]
  exact e a u ha
/-- the list at A holds acc i behind i turns; all that stood before stands -/
def LcP (H1 : Hp) (A : Addr) (acc : Nat → List V) : Nat → Hp → Prop := fun i H => Same H1 H ∧ H A = some (.lst (acc i))
theorem LcP.zero {acc : Nat → List V} (h : H1 A = none) (h0 : acc 0 = []) : LcP H1 A acc 0 (upd H1 A (.lst [])) := ⟨sm_new h, by rw [h0]; exact upd_same⟩
theorem LcP.one {acc : Nat → List V} (P : LcP H1 A acc i H) (e : Same H H4) (hA : H1 A = none) (hl : (acc i).length < 1000000) (hy : acc (i + 1) = acc i ++ [y]) :
    ∃ l, H4 A = some (.lst l) ∧ l.length < sizeLine ∧ LcP H1 A acc (i + 1) (upd H4 A (.lst (l ++ [y]))) :=
  ⟨acc i, e _ _ P.2, Nat.lt_of_lt_of_le hl (by decide), sm_mut (Same.trans P.1 e) hA, by rw [hy]; exact upd_same⟩
theorem LcP.no {acc : Nat → List V} (P : LcP H1 A acc i H) (e : Same H H4) (hy : acc (i + 1) = acc i) : LcP H1 A acc (i + 1) H4 := ⟨Same.trans P.1 e, by rw [hy]; exact e _ _ P.2⟩
end
theorem w_wipe {σ : L2.St} {vs : List Nat} {P : Prop} (h : wipe σ vs = wipe σ vs) (q : P) : wipe σ vs = wipe σ vs ∧ P := ⟨h, q⟩
end Kx
set_option Elab.async false
set_option linter.all false
set_option maxRecDepth 100000
set_option maxHeartbeats 4000000
namespace Kx
open PySem PySem.Spec PyProof.Rows L2
section
variable {K : PySem.W.Frag} {σ : L2.St} {H H' : Hp} {Q : VK} {QA : List V → Hp → Prop} {QO : Option Int → Hp → Prop} {D : Ends} {E : XK} {ta tb tc te to ti tv : TE} {tr : TA} {tl th : TO} {x y v : V} {xs vs : List V} {i j : Int} {n : Nat} {b k : Bool} {s z : Str} {p q a d : Addr}
/-! slices -/
theorem w_slc {r : V → Option Int → Option Int → Hp → VK → Prop} (q : te σ H fun x H1 => tl σ H1 fun l H2 => th σ H2 fun u H3 => r x l u H3 Q) : L2.tSl r te tl th σ H Q := q
theorem w_nop (q : QO none H) : tNoPart σ H QO := q
theorem w_part (q : te σ H fun x H1 => ∃ i, x = .int i ∧ QO (some i) H1) : tPart te σ H QO := q
theorem w_exi {P : Int → Prop} (q : P i) : ∃ j, V.int i = .int j ∧ P j := ⟨i, rfl, q⟩
theorem w_slL {lo hi : Option Int} (h : SqL K H a xs) (q : ∀ p, H p = none → Q (.ref p) (upd H p (.lst (cutV xs lo hi)))) : uSl K (.ref a) lo hi H Q := .inl ⟨a, xs, rfl, h, q⟩
theorem cut_int {ns : List Int} {lo hi : Option Int} : ∃ ms : List Int, cutV (ns.map V.int) lo hi = ms.map V.int ∧ ms.length ≤ ns.length := by
  refine ⟨(ns.drop (HT.sIx (ns.map V.int).length 0 lo)).take (HT.sIx (ns.map V.int).length (ns.map V.int).length hi - HT.sIx (ns.map V.int).length 0 lo), ?_, ?_⟩
  · rw [List.map_take, List.map_drop]; rfl
  · rw [List.length_take, List.length_drop]; omega
/-! an index that is known by its bounds alone -/
theorem at_mem (h0 : 0 ≤ i) (h1 : i < xs.length) : ∃ v, atI xs i = some v ∧ v ∈ xs := by
  have e : ((i.toNat : Nat) : Int) = i := by omega
  have hn : i.toNat < xs.length := by omega
  have h := atI_nat (List.getElem?_eq_getElem hn)
  rw [e] at h
  exact ⟨_, h, List.getElem_mem hn⟩
theorem w_ixl_mem (h : SqL K H p xs) (h0 : 0 ≤ i) (h1 : i < xs.length) (q : ∀ v, v ∈ xs → Q v H) : rIx K (.ref p) (.int i) H Q := by
  obtain ⟨v, e, m⟩ := at_mem h0 h1
  exact .inl ⟨p, xs, i, v, rfl, rfl, h, e, q v m⟩
theorem w_ixlc (h : SqL K H p xs) (g : decide (i ≤ 100000) = true) (e : atI xs i = some v) (q : Q v H) : rIx K (.ref p) (.int i) H Q := w_ixl h e q
theorem w_ixtc (h : SqT K H p xs) (g : decide (i ≤ 100000) = true) (e : atI xs i = some v) (q : Q v H) : rIx K (.ref p) (.int i) H Q := w_ixt h e q
/-! setting an item -/
theorem w_gsub {Q : L2.St → Hp → Prop} {t : TSet} (q : to σ H fun o H1 => ti σ H1 fun i H2 => t o i v H2 fun H3 => Q σ H3) : gSub to ti t v σ H Q := q
theorem w_setl {Q : Hp → Prop} {j : Nat} (h : H p = some (.lst xs)) (e : ixN xs.length i = some j) (q : Q (upd H p (.lst (xs.set j v)))) : rSetL (.ref p) (.int i) v H Q := ⟨p, xs, i, j, rfl, rfl, h, e, q⟩
/-! powers of ten -/
theorem w_pow_9 (q : Q (.int 1000000000) H) : uPow (.int 10) (.int 9) H Q := w_pow_ii (by decide) q
theorem w_pow_12 (q : Q (.int 1000000000000) H) : uPow (.int 10) (.int 12) H Q := w_pow_ii (by decide) q
theorem w_pow_13 (q : Q (.int 10000000000000) H) : uPow (.int 10) (.int 13) H Q := w_pow_ii (by decide) q
theorem w_pow_18 (q : Q (.int 1000000000000000000) H) : uPow (.int 10) (.int 18) H Q := w_pow_ii (by decide) q
theorem w_pow_29 (q : Q (.int 100000000000000000000000000000) H) : uPow (.int 10) (.int 29) H Q := w_pow_ii (by decide) q
theorem w_pow_x (h : -10000000000000000000 < i ∧ i < 10000000000000000000) (h2 : 0 ≤ j ∧ j ≤ 1000000) (q : Q (.int (i ^ j.toNat)) H) : uPow (.int i) (.int j) H Q := w_pow_ii ⟨h2.1, h2.2, by omega⟩ q
theorem w_mod_x (h : 0 < j) (q : ∀ r, 0 ≤ r → r < j → r = i % j → Q (.int r) H) : uMod (.int i) (.int j) H Q := w_mod_ii h (q _ (Int.emod_nonneg _ (by omega)) (Int.emod_lt_of_pos _ h) rfl)
/-! dicts -/
theorem w_dput {te1 te2 te3 : TE} (q : te3 σ H fun v H1 => te1 σ H1 fun x H2 => te2 σ H2 fun y H3 => ∃ a H4, x = .ref a ∧ DPut H3 a y v H4 ∧ D.nx σ H4) : sDPut te1 te2 te3 D σ H := q
theorem w_dputS {P : Hp → Prop} {kvs : List (Key × V)} (h : H a = some (.dK kvs)) (hl : kvs.length ≤ 1000) (q : P (upd H a (.dK (putK kvs (.inr s) v)))) : ∃ a' H4, V.ref a = .ref a' ∧ DPut H a' (.str s) v H4 ∧ P H4 :=
  ⟨a, _, rfl, DPut.k (k := .inr s) h (Nat.lt_of_le_of_lt hl (by decide)), q⟩
theorem w_disp {trs : List (TE × TE)} (q : ∀ p, H p = none → tPairs trs σ (upd H p (.dK [])) fun ps H2 => H2 p = some (.dK []) ∧ ∃ kvs : List (Key × V), ps = kvs.map (fun kv => (kV kv.1, kv.2)) ∧ kvs.length ≤ 15 ∧ Q (.ref p) (upd H2 p (.dK (mergeK [] kvs)))) : tDisp trs σ H Q := q
theorem w_disp1 {ks : Str} (q : ∀ p, H p = none → Q (.ref p) (upd (upd H p (.dK [])) p (.dK [(.inr ks, v)]))) : tDisp [(tC (.str ks), tC v)] σ H Q := fun p hp => ⟨upd_same, [(.inr ks, v)], rfl, by simp, q p hp⟩
/-! try, and what the suite asks of the error that it holds -/
variable {W : WX} {tb : WX → TS} {l : List (Value × Option Nat × (Addr → Value → Option Addr → TS))} {cls c : Value} {o : Option Nat} {ts : Addr → Value → Option Addr → TS} {dd : Option Addr} {C : Addr} {fs : List (Str × V)}
theorem w_try (q : tb (wManyA K W D l) D σ H) : tTryM K W tb l D σ H := q
theorem w_hit (e : PySem.W.exmOne K cls c = some true) (q : ∀ a, H a = none → ts a cls dd (dAs o D) (sAs o σ a) H) : wManyA K W D ((c, o, ts) :: l) cls dd σ H := ⟨true, e, fun _ => q, fun z => (by cases z)⟩
theorem w_miss (e : PySem.W.exmOne K cls c = some false) (q : wManyA K W D l cls dd σ H) : wManyA K W D ((c, o, ts) :: l) cls dd σ H := ⟨false, e, fun z => (by cases z), fun _ => q⟩
theorem w_xg {f : Str} (q : te σ H fun x H1 => x = .ref a ∧ ∃ (C dd : Addr) (fs : List (Str × V)) (v : V), cls = .ref C ∧ XfC K C ∧ PySem.W.findIn K (.ref C) f = some none ∧ some d = some dd ∧ H1 dd = some (.xd fs) ∧ fs.lookup f = some v ∧ Q v H1) : tXg K a cls (some d) f te σ H Q := q
theorem w_xge {f : Str} {P : V → Prop} (T : XfC K C) (hn : PySem.W.findIn K (.ref C) f = some none) (h : H d = some (.xd [(f, v)])) (q : P v) :
    V.ref a = .ref a ∧ ∃ (C' dd : Addr) (fs : List (Str × V)) (v : V), Value.ref C = .ref C' ∧ XfC K C' ∧ PySem.W.findIn K (.ref C') f = some none ∧ some d = some dd ∧ H dd = some (.xd fs) ∧ fs.lookup f = some v ∧ P v :=
  ⟨rfl, C, d, _, v, rfl, T, hn, rfl, h, by simp [List.lookup], q⟩
theorem w_isx {X : Addr} (T : ExcX K C) (e : PySem.W.kitOne K (.ref C) (.ref X) = some b) (h : H d = some (.xd fs)) (q : Q (.bl b) H) : rIsX K (.ref C) (some d) a [.ref a, .ref X] H Q := ⟨C, d, fs, .ref X, .ref X, b, rfl, T, rfl, h, rfl, .own X, e, q⟩
end
/-- the package's errors of these names, as the module lays them -/
structure ExT (K : PySem.W.Frag) (ns : List Str) (base : Str) : Prop where
  ex : ∀ c ∈ ns, ∀ c' ∈ ns, PySem.W.exmOne K (.ref (He.ga K c)) (.ref (He.ga K c')) = some (c == c')
  xf : ∀ c ∈ ns, XfC K (He.ga K c)
  fg : ∀ c ∈ ns, PySem.W.findIn K (.ref (He.ga K c)) "given" = some none
  xx : ∀ c ∈ ns, ExcX K (He.ga K c)
  kd : ∀ c ∈ ns, PySem.W.kitOne K (.ref (He.ga K c)) (.ref (He.ga K base)) = some true
end Kx
set_option Elab.async false
set_option linter.all false
set_option maxRecDepth 100000
set_option maxHeartbeats 4000000
namespace Kx
open PySem PySem.Spec PyProof.Rows L2
section
variable {K : PySem.W.Frag} {σ : L2.St} {H H' : Hp} {Q : VK} {D : Ends} {E : XK} {x y v : V} {xs vs : List V} {i j lo hi : Int} {n : Nat} {b k : Bool} {p q a d : Addr}
theorem w_max2r (q : ∀ r, i ≤ r → j ≤ r → (r = i ∨ r = j) → Q (.int r) H) : uMax [.int i, .int j] H Q := by
  refine w_max2 ?_
  by_cases h : j > i
  · rw [if_pos h]; exact q j (by omega) (by omega) (.inr rfl)
  · rw [if_neg h]; exact q i (by omega) (by omega) (.inl rfl)
theorem w_min2r (q : ∀ r, r ≤ i → r ≤ j → (r = i ∨ r = j) → Q (.int r) H) : uMin [.int i, .int j] H Q := by
  refine w_min2 ?_
  by_cases h : j < i
  · rw [if_pos h]; exact q j (by omega) (by omega) (.inr rfl)
  · rw [if_neg h]; exact q i (by omega) (by omega) (.inl rfl)
/-- an index known by its bounds, into ints known by theirs -/
theorem w_ixl_int (lo hi : Int) (n : Nat) (h : SqL K H p xs) (hn : xs.length = n) (h0 : 0 ≤ i) (h1 : i < n) (hr : ∀ v ∈ xs, ∃ j, v = .int j ∧ lo ≤ j ∧ j ≤ hi) (q : ∀ j, lo ≤ j → j ≤ hi → Q (.int j) H) : rIx K (.ref p) (.int i) H Q :=
  w_ixl_mem h h0 (by rw [hn]; exact h1) fun v hv => by
    obtain ⟨j, rfl, j0, j1⟩ := hr v hv
    exact q j j0 j1
/-- .. into any values -/
theorem w_ixl_v (n : Nat) (h : SqL K H p xs) (hn : xs.length = n) (h0 : 0 ≤ i) (h1 : i < n) (q : ∀ v ∈ xs, Q v H) : rIx K (.ref p) (.int i) H Q := w_ixl_mem h h0 (by rw [hn]; exact h1) q
theorem rg_nil : ∀ v ∈ ([] : List V), ∃ j, v = .int j ∧ lo ≤ j ∧ j ≤ hi := fun _ h => by cases h
theorem rg_cons (h0 : lo ≤ i) (h1 : i ≤ hi) (h : ∀ v ∈ xs, ∃ j, v = .int j ∧ lo ≤ j ∧ j ≤ hi) : ∀ v ∈ V.int i :: xs, ∃ j, v = .int j ∧ lo ≤ j ∧ j ≤ hi := fun v hv => by
  rcases List.mem_cons.mp hv with rfl | hv
  · exact ⟨i, rfl, h0, h1⟩
  · exact h v hv
theorem fm_nil {P : V → Prop} : ∀ v ∈ ([] : List V), P v := fun _ h => by cases h
theorem fm_cons {P : V → Prop} (h : P x) (r : ∀ v ∈ xs, P v) : ∀ v ∈ x :: xs, P v := fun v hv => by
  rcases List.mem_cons.mp hv with rfl | hv
  · exact h
  · exact r v hv
theorem upd_upd {o o' : HO} : upd (upd H p o) p o' = upd H p o' := by
  funext a
  by_cases e : a = p
  · subst e; rw [upd_same, upd_same]
  · rw [upd_ne e, upd_ne e, upd_ne e]
theorem w_disp1n {ks : Str} (q : ∀ p, H p = none → Q (.ref p) (upd H p (.dK [(.inr ks, v)]))) : tDisp [(tC (.str ks), tC v)] σ H Q := w_disp1 fun p hp => by rw [upd_upd]; exact q p hp
/-! making an object, the heap behind it with a name of its own -/
def kTup (Q : VK) (xs : List V) (H : Hp) : Prop := xs.length ≤ sizeLine ∧ ∀ p, H p = none → Q (.ref p) (upd H p (.tup xs))
def kLst (Q : VK) (xs : List V) (H : Hp) : Prop := xs.length ≤ sizeLine ∧ ∀ p, H p = none → Q (.ref p) (upd H p (.lst xs))
theorem n_tup {tr : TA} (q : tr σ H (kTup Q)) : tTup tr σ H Q := q
theorem n_lst {tr : TA} (q : tr σ H (kLst Q)) : tLst tr σ H Q := q
theorem n_ktup (h : Nat.ble xs.length 1000 = true) (q : ∀ p H', H p = none → Same H H' → H' p = some (.tup xs) → Q (.ref p) H') : kTup Q xs H := ⟨Nat.le_trans (Nat.le_of_ble_eq_true h) (by decide), fun p hp => q p _ hp (sm_new hp) upd_same⟩
theorem n_klst (h : Nat.ble xs.length 1000 = true) (q : ∀ p H', H p = none → Same H H' → H' p = some (.lst xs) → Q (.ref p) H') : kLst Q xs H := ⟨Nat.le_trans (Nat.le_of_ble_eq_true h) (by decide), fun p hp => q p _ hp (sm_new hp) upd_same⟩
theorem n_add_ll (h1 : H p = some (.lst xs)) (h2 : H a = some (.lst vs)) (hn : Nat.ble (xs.length + vs.length) 1000 = true) (q : ∀ p H', H p = none → Same H H' → H' p = some (.lst (xs ++ vs)) → Q (.ref p) H') : uAdd K (.ref p) (.ref a) H Q :=
  w_add_ll h1 h2 (Nat.le_trans (Nat.le_of_ble_eq_true hn) (by decide)) fun p hp => q p _ hp (sm_new hp) upd_same
theorem n_slL {lo hi : Option Int} (h : SqL K H a xs) (q : ∀ p H', H p = none → Same H H' → H' p = some (.lst (cutV xs lo hi)) → Q (.ref p) H') : uSl K (.ref a) lo hi H Q := w_slL h fun p hp => q p _ hp (sm_new hp) upd_same
theorem n_disp1 {ks : Str} (q : ∀ p H', H p = none → Same H H' → H' p = some (.dK [(.inr ks, v)]) → Q (.ref p) H') : tDisp [(tC (.str ks), tC v)] σ H Q := w_disp1n fun p hp => q p _ hp (sm_new hp) upd_same
/-! an item, the length: by the object that stands there -/
def ixO : HO → Int → Option V
  | .lst xs, i => atI xs i
  | .tup xs, i => atI xs i
  | _, _ => none
theorem n_ix {o : HO} (g : decide (i ≤ 100000) = true) (h : H p = some o) (e : ixO o i = some v) (q : Q v H) : rIx K (.ref p) (.int i) H Q := by
  cases o with
  | lst xs => exact w_ixl (l_of h) e q
  | tup xs => exact w_ixt (t_of h) e q
  | _ => cases e
theorem n_ixl (g : decide (i ≤ 100000) = true) (h : SqL K H p xs) (e : atI xs i = some v) (q : Q v H) : rIx K (.ref p) (.int i) H Q := w_ixl h e q
theorem n_ixt (g : decide (i ≤ 100000) = true) (h : SqT K H p xs) (e : atI xs i = some v) (q : Q v H) : rIx K (.ref p) (.int i) H Q := w_ixt h e q
def lenO : HO → Option Nat
  | .lst xs => some xs.length
  | .tup xs => some xs.length
  | .dK kvs => some kvs.length
  | _ => none
theorem n_len {o : HO} {n : Nat} (h : H p = some o) (e : lenO o = some n) (q : Q (.int (n : Nat)) H) : uLen K [.ref p] H Q := by
  cases o with
  | lst xs => cases e; exact w_len_l (l_of h) q
  | tup xs => cases e; exact w_len_t (t_of h) q
  | dK kvs => cases e; exact w_len_d h q
  | _ => cases e
def itsO : HO → Option (List V)
  | .lst xs => some xs
  | .tup xs => some xs
  | _ => none
theorem n_gsq {Q : L2.St → Hp → Prop} {n : Nat} {gs : TGs} {o : HO} (h : H a = some o) (e : itsO o = some xs) (hn : xs.length = n) (q : gs xs σ H Q) : gSq K n gs (.ref a) σ H Q := by
  cases o with
  | lst xs => cases e; exact w_glst (l_of h) hn q
  | tup xs => cases e; exact w_gtup (t_of h) hn q
  | _ => cases e
theorem n_ne_same (q : Q (.bl false) H) {s : Str} : uNe K (.str s) (.str s) H Q := w_ne_ss (by simpa using q)
theorem n_eq_same (q : Q (.bl true) H) {s : Str} : uEq K (.str s) (.str s) H Q := w_eq_ss (by simpa using q)
theorem bN_le {a b : Nat} (h : Nat.ble a b = true) : a ≤ b := Nat.le_of_ble_eq_true h
end
end Kx
set_option Elab.async false
set_option linter.all false
set_option maxRecDepth 100000
set_option maxHeartbeats 4000000
/-! the written part's facts: own tests -/
namespace PySem
namespace DueE
open PySem.W PySem.Calls PyProof.Rows PySem.HandSPX
def dueInitB (file : Str) (D fI : Addr) (K : Frag) : Bool := match K.lookup fI with
  | some ⟨_, _, .func fd, _⟩ => (match fd.closure, fd.defaults, fd.code with
    | [(_, cc)], .ref TD, .ref cda => (match K.lookup TD with
        | some ⟨_, _, .seq xs _, _⟩ => (match xs.toList with
          | [_] => true
          | _ => false)
        | _ => false) && (codeIn K (.ref cda) "DueError.__init__" && ((match K.lookup cda with
        | some ⟨_, _, .fields vs, _⟩ => (match vs[2]? with
          | some (Value.str f _) => file == f
          | _ => false)
        | _ => false) && ((match K.lookup cc with
        | some ⟨_, _, .cell (some (.ref D')), _⟩ => D' == D
        | _ => false) && (clsIn K D).isSome)))
    | _, _, _ => false)
  | _ => false
/-- a function object, its cells' places left out -/
def fnC (K : Frag) (p : Str × Option Str) : He.FnW := match K.lookup (He.fAd K p) with
  | some ⟨_, _, .func fd, _⟩ => some (fd.name, fd.qualname, fd.params, fd.body, fd.scope, fd.globals, fd.closure.map (fun c => (c.1, 0)), fd.builtins)
  | _ => none
def iFn (p1 p2 p3 q1 q2 q3 q4 q5 q6 r1 r2 r3 r4 : Pos) : He.FnW := some (PySem.Str.ofString "__init__", PySem.Str.ofString "DueError.__init__", iA p1 p2 p3, FuncBody.stmts (iB q1 q2 q3 q4 q5 q6 r1 r2 r3 r4), iS, mainGlobals, [(PySem.Str.ofString "__class__", 0)], builtinsNs)
theorem init_ok {P : Program} {K : Frag} {p1 p2 p3 q1 q2 q3 q4 q5 q6 r1 r2 r3 r4 : Pos} (hf : fnC K ("DueError", some "__init__") = iFn p1 p2 p3 q1 q2 q3 q4 q5 q6 r1 r2 r3 r4)
    (hl : (q3.endLine == q5.line) = true) (hb : dueInitB P.main.file (He.ga K "DueError") (He.ma K (He.ga K "DueError") "__init__") K = true) (htop : (P.main.scope.names.lookup ("super" : Str)).isSome = false)
    (hs : He.eqO (nsIn K mainGlobals "super") (some none) = true) (hst : He.eqO (nsIn K cStatics "thirdparty.any") (some none) = true) : InitTxt P K (He.ga K "DueError") (He.ma K (He.ga K "DueError") "__init__") := by
  refine ⟨?_, htop, He.eqO_ok hs, He.eqO_ok hst⟩
  have hf : (match K.lookup (He.ma K (He.ga K "DueError") "__init__") with
    | some ⟨_, _, .func fd, _⟩ => some (fd.name, fd.qualname, fd.params, fd.body, fd.scope, fd.globals, fd.closure.map (fun c => (c.1, 0)), fd.builtins)
    | _ => (none : He.FnW)) = some (PySem.Str.ofString "__init__", PySem.Str.ofString "DueError.__init__", iA p1 p2 p3, FuncBody.stmts (iB q1 q2 q3 q4 q5 q6 r1 r2 r3 r4), iS, mainGlobals, [(PySem.Str.ofString "__class__", 0)], builtinsNs) := hf
  generalize He.ma K (He.ga K "DueError") "__init__" = fI at *
  generalize He.ga K "DueError" = D at *
  unfold dueInitB at hb
  cases e : K.lookup fI with
  | none => rw [e] at hb; cases hb
  | some o =>
    obtain ⟨oc, od, dt, osl⟩ := o
    cases dt with
    | func fd =>
      rw [e] at hb hf
      dsimp only at hb hf
      obtain ⟨name, qual, params, body, scope, gl, cl, dV, kV, doc, pm, an, code, ct, blt⟩ := fd
      have hf := Option.some.inj hf
      simp only [Prod.mk.injEq] at hf
      obtain ⟨rfl, rfl, rfl, rfl, rfl, rfl, hcl, rfl⟩ := hf
      split at hb
      · rename_i nm cc TD cda hc hd hco
        dsimp only at hc hd hco hcl
        subst hc hd hco
        simp only [List.map_cons, List.map_nil, List.cons.injEq, Prod.mk.injEq, and_true] at hcl
        subst hcl
        rw [Bool.and_eq_true, Bool.and_eq_true, Bool.and_eq_true, Bool.and_eq_true] at hb
        obtain ⟨h1, h2, h3, h4, h5⟩ := hb
        split at h1
        · rename_i t1 t2 xs n t3 hT
          split at h1
          · rename_i itD hx
            split at h3
            · rename_i ccl cdd vs ccs hcd
              split at h3
              · rename_i file tf hv
                split at h4
                · rename_i c1 c2 D' c3 hcc
                  have hD : D' = D := beq_iff_eq.mp h4
                  subst hD
                  obtain ⟨cdD, hcl⟩ := Option.isSome_iff_exists.mp h5
                  have hxs : xs = #[itD] := by
                    obtain ⟨l⟩ := xs
                    simp only at hx
                    rw [hx]
                  subst hxs
                  exact ⟨cc, cda, TD, _, itD, n, oc, od, kV, doc, pm, an, ct, osl, p1, p2, p3, q1, q2, q3, q4, q5, q6, r1, r2, r3, r4, ccl, cdd, ccs, vs, file, tf, _, _, _, cdD, rfl, hT, rfl, h2, hcd, hv, h3, hl, hcc, hcl⟩
                · cases h4
              · cases h3
            · cases h3
          · cases h1
        · cases h1
      · cases hb
    | _ => rw [e] at hb; cases hb
def dueClsB (D C fI : Addr) (K : Frag) : Bool := (match K.lookup C with
  | some ⟨.type "type", _, .cls cd, sl⟩ => (match cd.mro, sl.toList with
    | .ref C' :: bm, [_, _, _, _, some (.builtin n), _] => C' == C && (n == "ValueError.__new__" && (!cd.hasDel && (cd.hasDict && refsVE bm)))
    | _, _ => false)
  | _ => false) && (decide (ks_superIn K C D "__init__" = some (some (.builtin "ValueError.__init__"))) && (decide (mroIn K C (.ref D) = some true) && (decide (subIn K (.ref C) (.type "ValueError") = some true) &&
  (He.eqO (findIn K (.ref C) "__setattr__") (some (some (.builtin "object.__setattr__"))) && (He.eqO (findIn K (.ref C) "given") (some none) && (He.eqO (findIn K (.ref C) "__init__") (some (some (.ref fI))) &&
  (decide (typeIn K (.ref fI) = some (.type "function")) && (keepIn K (.ref C) && (decide (subIn K (.ref C) (.type "BaseException") = some true) && decide (typeIn K (.ref C) = some (.type "type")))))))))))
theorem cls_ok {K : Frag} {D C fI : Addr} (h : dueClsB D C fI K = true) : ClsTxt K D C fI := by
  unfold dueClsB at h
  obtain ⟨h0, h⟩ := Bool.and_eq_true_iff.mp h
  obtain ⟨h1, h⟩ := Bool.and_eq_true_iff.mp h
  obtain ⟨h2, h⟩ := Bool.and_eq_true_iff.mp h
  obtain ⟨h3, h⟩ := Bool.and_eq_true_iff.mp h
  obtain ⟨h4, h⟩ := Bool.and_eq_true_iff.mp h
  obtain ⟨h5, h⟩ := Bool.and_eq_true_iff.mp h
  obtain ⟨h6, h⟩ := Bool.and_eq_true_iff.mp h
  obtain ⟨h7, h⟩ := Bool.and_eq_true_iff.mp h
  obtain ⟨h8, h⟩ := Bool.and_eq_true_iff.mp h
  obtain ⟨h9, h⟩ := Bool.and_eq_true_iff.mp h
  refine ⟨?_, of_decide_eq_true h1, of_decide_eq_true h2, of_decide_eq_true h3, He.eqO_ok h4, He.eqO_ok h5, He.eqO_ok h6, of_decide_eq_true h7, h8, of_decide_eq_true h9, of_decide_eq_true h⟩
  split at h0
  · rename_i dd cd sl ho
    split at h0
    · rename_i C' bm k0 k1 k2 k3 n k5 hm hs
      obtain ⟨g1, g⟩ := Bool.and_eq_true_iff.mp h0
      obtain ⟨g2, g⟩ := Bool.and_eq_true_iff.mp g
      obtain ⟨g3, g⟩ := Bool.and_eq_true_iff.mp g
      obtain ⟨g4, g5⟩ := Bool.and_eq_true_iff.mp g
      have g1 := beq_iff_eq.mp g1
      have g2 := beq_iff_eq.mp g2
      rw [Bool.not_eq_true'] at g3
      subst g1 g2
      obtain ⟨nm, bs, mro, ns, qn, hd, sn, sub, ab, col, del⟩ := cd
      dsimp only at hm g3 g4
      subst hm g3 g4
      have hsl : sl = #[k0, k1, k2, k3, some (.builtin "ValueError.__new__"), k5] := by
        obtain ⟨l⟩ := sl
        simp only at hs
        rw [hs]
      subst hsl
      exact ⟨nm, qn, ns, bs, bm, sn, sub, ab, col, dd, k0, k1, k2, k3, k5, ho, g5⟩
    · cases h0
  · cases h0
end DueE
end PySem
namespace Kx
open PySem PySem.Spec PyProof.Rows L2
def excXB (D : Addr) (K : PySem.W.Frag) : Bool := (PySem.W.clsIn K D).isSome && (He.eqO (PySem.W.findIn K (.ref D) "__getattribute__") (some (some (.builtin "BaseException.__getattribute__"))) && (He.eqO (PySem.W.findIn K (.ref D) "__getattr__") (some none) &&
  (decide (PySem.W.subIn K (.ref D) (.type "BaseException") = some true) && (He.eqO (PySem.W.findIn K (.ref D) "__class__") (some (some (.builtin "object.__class__"))) && (He.eqO (PySem.W.specialIn K (.builtin "object.__class__") "__get__") (some (some (.builtin "getset_descriptor.__get__"))) &&
  (decide (PySem.W.takesIn K (.builtin "object.__class__") = some true) && decide (PySem.W.mroIn K D (.type "object") = some true)))))))
theorem excX_ok {K : PySem.W.Frag} {D : Addr} (h : excXB D K = true) : ExcX K D := by
  unfold excXB at h
  obtain ⟨h0, h⟩ := Bool.and_eq_true_iff.mp h
  obtain ⟨h1, h⟩ := Bool.and_eq_true_iff.mp h
  obtain ⟨h2, h⟩ := Bool.and_eq_true_iff.mp h
  obtain ⟨h3, h⟩ := Bool.and_eq_true_iff.mp h
  obtain ⟨h4, h⟩ := Bool.and_eq_true_iff.mp h
  obtain ⟨h5, h⟩ := Bool.and_eq_true_iff.mp h
  obtain ⟨h6, h⟩ := Bool.and_eq_true_iff.mp h
  exact ⟨h0, He.eqO_ok h1, He.eqO_ok h2, of_decide_eq_true h3, He.eqO_ok h4, He.eqO_ok h5, of_decide_eq_true h6, of_decide_eq_true h⟩
/-- the package's errors of these names -/
def extB (ns : List Str) (base : Str) (K : PySem.W.Frag) : Bool := ns.all fun c => (ns.all fun c' => decide (PySem.W.exmOne K (.ref (He.ga K c)) (.ref (He.ga K c')) = some (c == c'))) && (xfB K (He.ga K c) && (He.eqO (PySem.W.findIn K (.ref (He.ga K c)) "given") (some none) &&
  (excXB (He.ga K c) K && decide (PySem.W.kitOne K (.ref (He.ga K c)) (.ref (He.ga K base)) = some true))))
theorem ext_ok {K : PySem.W.Frag} {ns : List Str} {base : Str} (h : extB ns base K = true) : ExT K ns base := by
  have h := List.all_eq_true.mp h
  refine ⟨fun c hc c' hc' => ?_, fun c hc => ?_, fun c hc => ?_, fun c hc => ?_, fun c hc => ?_⟩
  all_goals
    obtain ⟨h0, h1⟩ := Bool.and_eq_true_iff.mp (h c hc)
    obtain ⟨h1, h2⟩ := Bool.and_eq_true_iff.mp h1
    obtain ⟨h2, h3⟩ := Bool.and_eq_true_iff.mp h2
    obtain ⟨h3, h4⟩ := Bool.and_eq_true_iff.mp h3
  · exact of_decide_eq_true (List.all_eq_true.mp h0 c' hc')
  · exact xfB_ok h1
  · exact He.eqO_ok h2
  · exact excX_ok h3
  · exact of_decide_eq_true h4
/-! the Hook: tests, defs, function objects with a cell -/
abbrev Fx : Type := PySem.W.Frag → Bool
abbrev Pn : Type := Str × Option Str
def obsM (fs : List Fx) (fn : List He.DefD) (fc : List (Pn × He.FnW)) (K : PySem.W.Frag) : He.AlD := ((fs.all fun f => f K) && fn.all fun d => d.ok K, (fn.map fun d => He.fnW K d.at_) ++ fc.map fun p => PySem.DueE.fnC K p.1)
def valM (fn : List He.DefD) (fc : List (Pn × He.FnW)) : He.AlD := (true, fn.map He.DefD.val ++ fc.map (·.2))
def SaysM (fs : List Fx) (fn : List He.DefD) (fc : List (Pn × He.FnW)) (K : PySem.W.Frag) : Prop := obsM fs fn fc K = valM fn fc
def frM (g : Addr → Option Obj) (n : Nat) : PySem.W.Frag := He.frG g (cStatics :: He.asD g n)
def obsMG (n : Nat) (fs : List Fx) (fn : List He.DefD) (fc : List (Pn × He.FnW)) (g : Addr → Option Obj) : He.AlD := obsM fs fn fc (frM g n)
def hookM (n : Nat) (fs : List Fx) (fn : List He.DefD) (fc : List (Pn × He.FnW)) : PySem.W.Hook where
  α := He.AlD
  obs := fun s => obsMG n fs fn fc s.heap.get?
  val := fun _ => valM fn fc
  says := fun _ h => ∃ K : PySem.W.Frag, K.In h ∧ SaysM fs fn fc K
  of := fun _ _ e => ⟨_, He.frG_in, e⟩
  keeps := fun _ _ _ ⟨K, hK, c⟩ k => ⟨K, PySem.W.Frag.In.keeps hK k, c⟩
theorem obsMG_eq {n : Nat} {fs : List Fx} {fn : List He.DefD} {fc : List (Pn × He.FnW)} {g : Addr → Option Obj} {s : Shared} (h : ∀ a, g a = s.heap.get? a) : obsMG n fs fn fc g = (hookM n fs fn fc).obs s := by
  have e : g = s.heap.get? := funext h
  rw [e] <;> rfl
section
variable {fs : List Fx} {fn : List He.DefD} {fc : List (Pn × He.FnW)} {K : PySem.W.Frag}
theorem SaysM.fact (c : SaysM fs fn fc K) (i : Nat) {f : Fx} (h : fs[i]? = some f := by rfl) : f K = true := by
  have c1 := (Bool.and_eq_true_iff.mp (show ((fs.all fun f => f K) && fn.all fun d => d.ok K) = true from congrArg (fun z : He.AlD => z.1) c)).1
  exact List.all_eq_true.mp c1 f (List.mem_of_getElem? h)
theorem SaysM.lists (c : SaysM fs fn fc K) : (fn.map fun d => He.fnW K d.at_) = fn.map He.DefD.val ∧ (fc.map fun p => PySem.DueE.fnC K p.1) = fc.map (·.2) :=
  List.append_inj (congrArg (fun z : He.AlD => z.2) c) (by simp)
theorem map_at {α β : Type} {f g : α → β} : ∀ {l : List α}, l.map f = l.map g → ∀ {i : Nat} {x : α}, l[i]? = some x → f x = g x
  | _ :: _, e, 0, x, h => by
    cases h
    exact (List.cons.inj e).1
  | _ :: _, e, i + 1, x, h => map_at (List.cons.inj e).2 h
theorem SaysM.def_ (c : SaysM fs fn fc K) (i : Nat) {d : He.DefD} (h : fn[i]? = some d := by rfl) : ∃ fd, FunD K d.name d.qual d.params d.body d.scope (d.dvs K) (d.kws K) (He.fAd K d.at_) fd := by
  have c2 := (Bool.and_eq_true_iff.mp (show ((fs.all fun f => f K) && fn.all fun d => d.ok K) = true from congrArg (fun z : He.AlD => z.1) c)).2
  exact He.DefD.funD (map_at c.lists.1 h) (List.all_eq_true.mp c2 d (List.mem_of_getElem? h))
theorem SaysM.cell (c : SaysM fs fn fc K) (i : Nat) {p : Pn × He.FnW} (h : fc[i]? = some p := by rfl) : PySem.DueE.fnC K p.1 = p.2 := map_at c.lists.2 h
end
/-! a def behind its name -/
section
variable {P : Program} {w : World} {K : PySem.W.Frag} {mg : Str → Option Value} {base : Heap} {x qual : Str} {params : Arguments} {body : List Stmt} {scope : Scope} {kws : List (Str × V)} {f : Addr} {fd : FuncData} {k : Nat} {ps ks : List Str} {sp : Sp} {g : {α : Type} → List α → List α}
theorem FunD.bindsW (F : FunD K x qual params body scope [] kws f fd)
    (h : ∀ (kV doc pm : Value) (an : Option Addr) (cdv ct : Value) (ws : List Value), (g ws).length = ps.length → bindArgs (PySem.W.fnOf x qual params body scope .none kV doc pm an cdv ct) ⟨[], ks.zip ws⟩ = pure (ps.zip (g ws))) (s : Shared) (ws : List Value) (hl : (g ws).length = ps.length) : BindsTo s fd ⟨[], ks.zip ws⟩ (ps.zip (g ws)) := by
  obtain ⟨oc, od, dV, kV, doc, pm, an, cdv, ct, osl, rfl, lk, hcd, hD, hK⟩ := F.ex
  rcases hD with ⟨_, rfl⟩ | ⟨e, _⟩
  · exact .of_eq (h kV doc pm an cdv ct ws hl)
  · exact absurd rfl e
theorem Kn.of {y : Str} (F : FunD K x qual params body scope [] kws f fd) (ok : FnOk P w K mg base (L2.CX P w) k f fd ps sp) (hm : mg y = some (.ref f)) (b : Binds K fd ps []) : Kn P w K mg base k y ps sp := ⟨f, fd, ok, hm, F.kp, b⟩
theorem Kk.of {y : Str} (F : FunD K x qual params body scope [] kws f fd) (ok : FnOk P w K mg base (L2.CX P w) k f fd ps sp) (hm : mg y = some (.ref f))
    (h : ∀ (kV doc pm : Value) (an : Option Addr) (cdv ct : Value) (ws : List Value), (g ws).length = ps.length → bindArgs (PySem.W.fnOf x qual params body scope .none kV doc pm an cdv ct) ⟨[], ks.zip ws⟩ = pure (ps.zip (g ws)))
    (hg : ∀ {zs : List V} {ws : List Value}, Vals zs ws → Vals (g zs) (g ws)) : Kk P w K mg base k y ps ks g sp := ⟨f, fd, ok, hm, F.kp, fun s ws _ hl => FunD.bindsW F h s ws hl, hg⟩
end
/-- the law's end, where calls may let errors out -/
theorem walk_ofX {l : PySem.W.OpenLaw} {n k : Nat} {q : Program} {loose : List Str} {XP : (Str → Option Value) → Heap → Prop} {YP : World → Heap → Prop} {d : DefRec} {x : Str}
    (hn : l.most = some n) (hn2 : n ≤ sizeLine) (hdf : d.params.defaults = []) (hr : Room k callerA)
    (F : ∀ (w : World) (mg : Str → Option Value) (fa : Addr) (h : Heap), YP w h → h.Ns mainGlobals mg → mg d.name = some (.ref fa) →
      ∃ (K : PySem.W.Frag) (fd : FuncData) (sp : Sp), K.In h ∧ (∀ (s : Shared) (u : Value), BindsTo s fd ⟨[u], []⟩ [(x, u)]) ∧
        (∀ (H : Hp) (a : Addr) (ns : List Int), ns.length ≤ n → Only H → SqL K H a (ns.map V.int) → sp [.ref a] H (fun v _ => v = .bl true) fun _ _ _ => False) ∧
        ∀ base : Heap, K.In base → base.Ns mainGlobals mg → FnOk l.prog w K mg base (L2.CX l.prog w) k fa fd [x] sp) :
    PySem.W.WalkO q loose XP YP l.row.toRowW d [] (fun f vs => PySem.call f vs) := by
  refine Att.attach_call hn hdf fun w s₀ s₁ mg mb fa o pm cd doc a vs ns G Y ho hd hcd hmg hobj hints hlen hg => ?_
  obtain ⟨K, fd, sp, KX, hb, hsp, hF⟩ := F w mg fa _ Y G.T.g hmg
  exact law_call KX G.T.g G.T.b G.T.builtins G.T.nolimit hg hobj hints (Nat.le_trans hlen hn2) hr hF hb (fun H hO hS => hsp H a ns hlen hO hS) fun H e s' c => by
    obtain ⟨_, _, _, _, _, _, _, _, _, _, _, _, z⟩ := c
    exact z
end Kx
set_option Elab.async false
set_option linter.all false
set_option maxRecDepth 100000
set_option maxHeartbeats 0
namespace My
open PySem PySem.Spec PyProof.Rows L2 Kx
def top (i : Nat) : Stmt := PySem.Challenge.pw_dueagain_k02_weekdays_and_weeks.main.body.getD i (.Pass ⟨0, 0, 0, 0⟩)
abbrev PR : Program := (PySem.Challenge.rw_dueagain_k02_weekdays_and_weeks).prog
abbrev RR : PySem.W.OpenRow := PySem.W.OpenLaw.row PySem.Challenge.rw_dueagain_k02_weekdays_and_weeks
theorem Kn_mono {P : Program} {w : World} {K : PySem.W.Frag} {mg : Str → Option Value} {base : Heap} {j k : Nat} {x : Str} {ps : List Str} {sp : Sp} (c : Kn P w K mg base j x ps sp) (h : j ≤ k) : Kn P w K mg base k x ps sp := by
  obtain ⟨f, fd, ok, r⟩ := c.ex
  exact ⟨f, fd, ok.mono h, r⟩
abbrev dd (x : Str) (i : Nat) : He.DefD := ⟨(x, none), x, x, defArgs (top i), defBody (top i), defScope (top i), [], []⟩
def clsBody (s : Stmt) : List Stmt := match s with
  | .ClassDef _ _ _ b _ _ _ _ _ _ _ => b
  | _ => []
def iniS : Stmt := (clsBody (top 1)).getD 0 (.Pass ⟨0, 0, 0, 0⟩)
abbrev iniP : Pn × He.FnW := ((PySem.Str.ofString "DueError", some (PySem.Str.ofString "__init__")), some (PySem.Str.ofString "__init__", PySem.Str.ofString "DueError.__init__", defArgs iniS, FuncBody.stmts (defBody iniS), defScope iniS, mainGlobals, [(PySem.Str.ofString "__class__", 0)], builtinsNs))
theorem ini_eq : ∃ p1 p2 p3 q1 q2 q3 q4 q5 q6 r1 r2 r3 r4 : Pos, iniP.2 = PySem.DueE.iFn p1 p2 p3 q1 q2 q3 q4 q5 q6 r1 r2 r3 r4 ∧ (q3.endLine == q5.line) = true := ⟨_, _, _, _, _, _, _, _, _, _, _, _, _, rfl, by decide +kernel⟩
abbrev fc : List (Pn × He.FnW) := [iniP]
abbrev fn : List He.DefD := [dd "is_whole" 10, dd "is_between" 11, dd "is_day" 12, dd "is_leap_year" 21, dd "length_of" 22, dd "check_year" 23, dd "check_month" 24, dd "check_weekday" 25, dd "check_day" 26, dd "year_begin" 27, dd "month_begin" 28, dd "year_of" 29, dd "date_at" 30, dd "weekday_at" 31, dd "weekday_of" 32, dd "nth_in_month" 33, dd "nth_weekday" 34, dd "first_monday" 36, dd "weeks_of" 37, dd "week_of" 38, dd "weeks_in" 39, dd "day_of_week" 40, dd "_law_cell" 42, dd "_law_box" 43, dd "_law_take" 44, dd "_law_same" 45, dd "_law_very" 46, dd "_law_leap" 47, dd "_law_length" 48, dd "_law_date" 49, dd "_law_next" 50, dd "_law_ask" 51, dd "_law_begin" 52, dd "_law_week" 53, dd "_law_weeks" 54, dd "_law_year" 55, dd "_law_told" 56, dd "_law_days_right" 57, dd "_law_months_right" 58, dd "_law_weeks_right" 59, dd "_law_no_number" 60, dd "_law_refused" 61, dd "law" 62]
def fs : List Fx := [fun K => (He.Fa.free "abs").ok K,
  fun K => (He.Fa.free "bool").ok K,
  fun K => (He.Fa.free "dict").ok K,
  fun K => (He.Fa.free "int").ok K,
  fun K => (He.Fa.free "isinstance").ok K,
  fun K => (He.Fa.free "len").ok K,
  fun K => (He.Fa.free "list").ok K,
  fun K => (He.Fa.free "max").ok K,
  fun K => (He.Fa.free "min").ok K,
  fun K => (He.Fa.free "range").ok K,
  fun K => (He.Fa.free "str").ok K,
  fun K => (He.Fa.free "sum").ok K,
  fun K => (He.Fa.free "super").ok K,
  fun K => (He.Fa.free "tuple").ok K,
  fun K => (He.Fa.int "FEBRUARY" 2).ok K,
  fun K => (He.Fa.int "FIRST_WEEKDAY" 5).ok K,
  fun K => (He.Fa.int "FIRST_YEAR" 2000).ok K,
  fun K => (He.Fa.int "LAST_YEAR" 2700000000).ok K,
  fun K => (He.Fa.glo "LENGTHS").ok K,
  fun K => (He.Fa.int "LONG_DAYS" 146097).ok K,
  fun K => (He.Fa.int "LONG_YEARS" 400).ok K,
  fun K => (He.Fa.int "MOST_DAY" 1000000000000).ok K,
  fun K => (He.Fa.glo "DueError").ok K,
  fun K => PySem.DueE.dueClsB (He.ga K "DueError") (He.ga K "DueError") (He.ma K (He.ga K "DueError") "__init__") K,
  fun K => (He.Fa.glo "InvalidDay").ok K,
  fun K => PySem.DueE.dueClsB (He.ga K "DueError") (He.ga K "InvalidDay") (He.ma K (He.ga K "DueError") "__init__") K,
  fun K => (He.Fa.glo "InvalidMonth").ok K,
  fun K => PySem.DueE.dueClsB (He.ga K "DueError") (He.ga K "InvalidMonth") (He.ma K (He.ga K "DueError") "__init__") K,
  fun K => (He.Fa.glo "InvalidNumber").ok K,
  fun K => PySem.DueE.dueClsB (He.ga K "DueError") (He.ga K "InvalidNumber") (He.ma K (He.ga K "DueError") "__init__") K,
  fun K => (He.Fa.glo "InvalidWeek").ok K,
  fun K => PySem.DueE.dueClsB (He.ga K "DueError") (He.ga K "InvalidWeek") (He.ma K (He.ga K "DueError") "__init__") K,
  fun K => (He.Fa.glo "InvalidWeekday").ok K,
  fun K => PySem.DueE.dueClsB (He.ga K "DueError") (He.ga K "InvalidWeekday") (He.ma K (He.ga K "DueError") "__init__") K,
  fun K => (He.Fa.glo "InvalidYear").ok K,
  fun K => PySem.DueE.dueClsB (He.ga K "DueError") (He.ga K "InvalidYear") (He.ma K (He.ga K "DueError") "__init__") K,
  fun K => PySem.DueE.dueInitB PR.main.file (He.ga K "DueError") (He.ma K (He.ga K "DueError") "__init__") K,
  fun K => He.eqO (PySem.W.nsIn K mainGlobals "super") (some none),
  fun K => He.eqO (PySem.W.nsIn K cStatics "thirdparty.any") (some none),
  fun K => He.tupB K "LENGTHS" ([31, 28, 31, 30, 31, 30, 31, 31, 30, 31, 30, 31].map He.Dv.int),
  fun K => extB ["InvalidDay", "InvalidYear", "InvalidMonth", "InvalidNumber", "InvalidWeek", "InvalidWeekday"] "DueError" K,
  fun K => (He.Fa.glo "is_whole").ok K,
  fun K => (He.Fa.glo "is_between").ok K,
  fun K => (He.Fa.glo "is_day").ok K,
  fun K => (He.Fa.glo "is_leap_year").ok K,
  fun K => (He.Fa.glo "length_of").ok K,
  fun K => (He.Fa.glo "check_year").ok K,
  fun K => (He.Fa.glo "check_month").ok K,
  fun K => (He.Fa.glo "check_weekday").ok K,
  fun K => (He.Fa.glo "check_day").ok K,
  fun K => (He.Fa.glo "year_begin").ok K,
  fun K => (He.Fa.glo "month_begin").ok K,
  fun K => (He.Fa.glo "year_of").ok K,
  fun K => (He.Fa.glo "date_at").ok K,
  fun K => (He.Fa.glo "weekday_at").ok K,
  fun K => (He.Fa.glo "weekday_of").ok K,
  fun K => (He.Fa.glo "nth_in_month").ok K,
  fun K => (He.Fa.glo "nth_weekday").ok K,
  fun K => (He.Fa.glo "first_monday").ok K,
  fun K => (He.Fa.glo "weeks_of").ok K,
  fun K => (He.Fa.glo "week_of").ok K,
  fun K => (He.Fa.glo "weeks_in").ok K,
  fun K => (He.Fa.glo "day_of_week").ok K,
  fun K => (He.Fa.glo "_law_cell").ok K,
  fun K => (He.Fa.glo "_law_box").ok K,
  fun K => (He.Fa.glo "_law_take").ok K,
  fun K => (He.Fa.glo "_law_same").ok K,
  fun K => (He.Fa.glo "_law_very").ok K,
  fun K => (He.Fa.glo "_law_leap").ok K,
  fun K => (He.Fa.glo "_law_length").ok K,
  fun K => (He.Fa.glo "_law_date").ok K,
  fun K => (He.Fa.glo "_law_next").ok K,
  fun K => (He.Fa.glo "_law_ask").ok K,
  fun K => (He.Fa.glo "_law_begin").ok K,
  fun K => (He.Fa.glo "_law_week").ok K,
  fun K => (He.Fa.glo "_law_weeks").ok K,
  fun K => (He.Fa.glo "_law_year").ok K,
  fun K => (He.Fa.glo "_law_told").ok K,
  fun K => (He.Fa.glo "_law_days_right").ok K,
  fun K => (He.Fa.glo "_law_months_right").ok K,
  fun K => (He.Fa.glo "_law_weeks_right").ok K,
  fun K => (He.Fa.glo "_law_no_number").ok K,
  fun K => (He.Fa.glo "_law_refused").ok K,
  fun K => (He.Fa.glo "law").ok K]
abbrev hk : PySem.W.Hook := hookM 5 fs fn fc
def ob (s : PySem.W.SharedT) : He.AlD := obsMG 5 fs fn fc (HandSHeadRun.getT s)
theorem ob_eq (s : PySem.W.SharedT) : ob s = hk.obs s.abs := obsMG_eq (HandSHeadRun.getT_eq s)
def names0 : List Str := ["DueError", "InvalidDay", "InvalidMonth", "InvalidNumber", "InvalidWeek", "InvalidWeekday", "InvalidYear", "MOST_DAY", "is_whole", "is_between", "is_day", "FIRST_YEAR", "LAST_YEAR", "LONG_YEARS", "LONG_DAYS", "LENGTHS", "FEBRUARY", "FIRST_WEEKDAY", "is_leap_year", "length_of"]
def names1 : List Str := ["check_year", "check_month", "check_weekday", "check_day", "year_begin", "month_begin", "year_of", "date_at", "weekday_at", "weekday_of", "nth_in_month", "nth_weekday", "first_monday", "weeks_of", "week_of", "weeks_in", "day_of_week", "_law_cell", "_law_box", "_law_take"]
def names2 : List Str := ["_law_same", "_law_very", "_law_leap", "_law_length", "_law_date", "_law_next", "_law_ask", "_law_begin", "_law_week", "_law_weeks", "_law_year", "_law_told", "_law_days_right", "_law_months_right", "_law_weeks_right", "_law_no_number", "_law_refused"]
def names : List Str := names0 ++ names1 ++ names2
theorem run (w : World) : HandSHeadRun.RunEq RR (PySem.W.view RR.prog [62]) hk ob 4000 names w := by
  intro os
  kernel_rfl
end My
set_option Elab.async false
set_option linter.all false
set_option maxRecDepth 100000
set_option maxHeartbeats 4000000
/-! parallel assignment to any names of the def; list(range(a, b, c)) -/
namespace Kx
open PySem PySem.Spec PyProof.Rows L2
section
variable {X : Cx} {pos : Pos} {ta : TA}
abbrev Fl (X : Cx) (x : Str) : Prop := X.fn x = true ∨ X.env.scope.names.lookup x = some .local
theorem ps_parL {i j : Nat} {x y : Str} {a b : Expr} {px py pt : Pos} {kt k2 pt2} (hc : X.calm = true) (hN : X.N.Nodup) (hi : X.N[i]? = some x) (hj : X.N[j]? = some y) (hij : i ≠ j)
    (hx : Loc X.env.scope x) (hy : Loc X.env.scope y) (fx : Fl X x) (fy : Fl X y) (ha : PA X [a, b] ta)
    (hw : swappedStores [.Tuple [.Name x px, .Name y py] kt pt] (.Tuple [a, b] k2 pt2) X.env = pure (some [x, y]))
    (hs : swapsWithSole [.Tuple [.Name x px, .Name y py] kt pt] (.Tuple [a, b] k2 pt2) pos.line X.env = pure false := by rfl) :
    PS X (.Assign [.Tuple [.Name x px, .Name y py] kt pt] (.Tuple [a, b] k2 pt2) pos) (tPar i j ta) := by
  refine ⟨fun pins s σ H D I h => ?_⟩
  rw [exec_Assign_arm]
  refine wpAny_bind (wpAny_standAt ?_)
  rw [hs]
  refine wpAny_bind (wpAny_pure ?_)
  rw [if_neg (by decide)]
  refine wpAny_bind (Tuple_ (thn (ha.run _ pins s σ H _ I h) fun us s1 ⟨vs, H1, I1, r1, q1⟩ => ?_))
  obtain ⟨v, w, e1, q1⟩ := q1
  subst e1
  obtain ⟨u1, u2, rfl, rv, rw'⟩ : ∃ u1 u2, us = [u1, u2] ∧ RelV v u1 ∧ RelV w u2 := by
    cases r1 with
    | cons p q =>
      cases q with
      | cons p' q' =>
        cases q'
        exact ⟨_, _, rfl, p, p'⟩
  refine wpAny_newObj_type ?_ (by show 2 ≤ sizeLine; decide)
  have I2 : Inv X pins σ H1 { s1 with heap := s1.heap.push { cls := .type "tuple", data := .seq [u1, u2].toArray } } := I1.kept (t' := s1.toks) fun b o e => Heap.get?_push_of_some _ e
  rw [hw]
  refine wpAny_bind (wpAny_pure ?_)
  show wpAny (model X.prog X.w) X.A (do rule "assign.swapped-stores"; let items ← unpackItems (.ref s1.heap.objs.size) 2 none; assignInOrder [fun v => bindName X.env y v, fun v => bindName X.env x v] items.reverse; pure Flow.next) _ _ _
  refine wpAny_bind (wpAny_rule (wpAny_bind (unpackItems_tuple (items := #[u1, u2]) (I.ok.hd hc) (IsTup.new s1.heap _) fun h' hx' => ?_)))
  have I3 := I2.kept (h' := h') (t' := s1.toks) fun b o e => hx' b o (Nat.ne_of_lt (Heap.lt_size e)) e
  show wpAny _ _ (assignInOrder [fun v => bindName X.env y v, fun v => bindName X.env x v] [u2, u1] >>= fun _ => pure Flow.next) _ _ _
  refine wpAny_bind (assignInOrder_cons (wpAny_bindName (store_ok I3 hN hj hy rw' (fun s2 I4 => ?_) fy)))
  refine assignInOrder_cons (wpAny_bindName (store_ok I4 hN hi hx rv (fun s3 I5 => assignInOrder_nil (wpAny_pure ?_)) fx))
  rw [List.set_comm _ _ (Ne.symm hij)] at I5
  exact ⟨_, H1, I5, q1⟩
theorem ps_parL3 {i j l : Nat} {x y z : Str} {a b c : Expr} {px py pz pt pos : Pos} {kt k2 pt2} (hc : X.calm = true) (hN : X.N.Nodup) (hi : X.N[i]? = some x) (hj : X.N[j]? = some y) (hl : X.N[l]? = some z) (hij : i ≠ j) (hil : i ≠ l) (hjl : j ≠ l)
    (hx : Loc X.env.scope x) (hy : Loc X.env.scope y) (hz : Loc X.env.scope z) (fx : Fl X x) (fy : Fl X y) (fz : Fl X z) (ha : PA X [a, b, c] ta)
    (hw : swappedStores [.Tuple [.Name x px, .Name y py, .Name z pz] kt pt] (.Tuple [a, b, c] k2 pt2) X.env = pure (some [x, y, z]))
    (hs : swapsWithSole [.Tuple [.Name x px, .Name y py, .Name z pz] kt pt] (.Tuple [a, b, c] k2 pt2) pos.line X.env = pure false := by rfl) :
    PS X (.Assign [.Tuple [.Name x px, .Name y py, .Name z pz] kt pt] (.Tuple [a, b, c] k2 pt2) pos) (tPar3 i j l ta) := by
  refine ⟨fun pins s σ H D I h => ?_⟩
  rw [exec_Assign_arm]
  refine wpAny_bind (wpAny_standAt ?_)
  rw [hs]
  refine wpAny_bind (wpAny_pure ?_)
  rw [if_neg (by decide)]
  refine wpAny_bind (Tuple_ (thn (ha.run _ pins s σ H _ I h) fun us s1 ⟨vs, H1, I1, r1, q1⟩ => ?_))
  obtain ⟨v1, v2, v3, e1, q1⟩ := q1
  subst e1
  obtain ⟨u1, u2, u3, rfl, r1', r2', r3'⟩ : ∃ u1 u2 u3, us = [u1, u2, u3] ∧ RelV v1 u1 ∧ RelV v2 u2 ∧ RelV v3 u3 := by
    cases r1 with
    | cons p q =>
      cases q with
      | cons p' q' =>
        cases q' with
        | cons p'' q'' =>
          cases q''
          exact ⟨_, _, _, rfl, p, p', p''⟩
  refine wpAny_newObj_type ?_ (by show 3 ≤ sizeLine; decide)
  have I2 : Inv X pins σ H1 { s1 with heap := s1.heap.push { cls := .type "tuple", data := .seq [u1, u2, u3].toArray } } := I1.kept (t' := s1.toks) fun b o e => Heap.get?_push_of_some _ e
  rw [hw]
  refine wpAny_bind (wpAny_pure ?_)
  show wpAny (model X.prog X.w) X.A (do rule "assign.swapped-stores"; let items ← unpackItems (.ref s1.heap.objs.size) 3 none; assignInOrder [fun v => bindName X.env z v, fun v => bindName X.env y v, fun v => bindName X.env x v] items.reverse; pure Flow.next) _ _ _
  refine wpAny_bind (wpAny_rule (wpAny_bind (unpackItems_tuple (items := #[u1, u2, u3]) (I.ok.hd hc) (IsTup.new s1.heap _) fun h' hx' => ?_)))
  have I3 := I2.kept (h' := h') (t' := s1.toks) fun b o e => hx' b o (Nat.ne_of_lt (Heap.lt_size e)) e
  show wpAny _ _ (assignInOrder [fun v => bindName X.env z v, fun v => bindName X.env y v, fun v => bindName X.env x v] [u3, u2, u1] >>= fun _ => pure Flow.next) _ _ _
  refine wpAny_bind (assignInOrder_cons (wpAny_bindName (store_ok I3 hN hl hz r3' (fun s2 I4 => ?_) fz)))
  refine assignInOrder_cons (wpAny_bindName (store_ok I4 hN hj hy r2' (fun s3 I5 => ?_) fy))
  refine assignInOrder_cons (wpAny_bindName (store_ok I5 hN hi hx r1' (fun s4 I6 => assignInOrder_nil (wpAny_pure ?_)) fx))
  rw [List.set_comm _ _ (Ne.symm hjl), List.set_comm _ _ (Ne.symm hil), List.set_comm _ _ (Ne.symm hij)] at I6
  exact ⟨_, H1, I6, q1⟩
/-- the ints of range(a, b, c), n of them -/
def stV (a c : Int) (n : Nat) : List V := (List.range n).map fun (i : Nat) => V.int (a + (i : Int) * c)
def tLstRg3 (ta : TA) : TE := fun σ H Q => ta σ H fun vs H1 => ∃ (a b c : Int) (n : Nat), vs = [.int a, .int b, .int c] ∧ RgC a b c n ∧ n ≤ 1000 ∧ ∀ q, H1 q = none → Q (.ref q) (upd H1 q (.lst (stV a c n)))
theorem pe_listRg3 {a b c : Expr} {p p2 pos pos2 : Pos} (hc : X.calm = true) (hg : Gl X "list") (hm : X.mg "list" = none) (hg2 : Gl X "range") (hm2 : X.mg "range" = none) (ha : PA X [a, b, c] ta)
    (hs : starEach [a, b, c] X.env = (false, eval a X.env) :: starEach [b, c] X.env := by rfl) (hpl : (backTo pos2 (starEach [b, c] X.env)).any (·.1) = false := by rfl)
    (na : starEach [.Call (.Name "range" p2) [a, b, c] [] pos2] X.env = (false, eval (.Call (.Name "range" p2) [a, b, c] [] pos2) X.env) :: starEach [] X.env := by rfl) :
    PE X (.Call (.Name "list" p) [.Call (.Name "range" p2) [a, b, c] [] pos2] [] pos) (tLstRg3 ta) := by
  refine ⟨fun pins s σ H Q I h => ?_⟩
  have he : wpAny (model X.prog X.w) X.A (eval (.Call (.Name "range" p2) [a, b, c] [] pos2) X.env) (fun x s' => ∃ r i j k t u v H' n, x = .ref r ∧ IsRange s'.heap r i j k t u v ∧ Inv X pins σ H' s' ∧ RgC i j k n ∧ n ≤ 1000 ∧ ∀ q, H' q = none → Q (.ref q) (upd H' q (.lst (stV i k n)))) X.xe s := by
    refine Call_ (ld_blt I hg2 hm2 boot_range (PyProof.Rows.callWith_type1 (thn (ha.run pos2 pins s σ H _ I h) fun us s1 ⟨vs, H1, I1, r1, q1⟩ => ?_) hs hpl))
    obtain ⟨i, j, k, n, e, rg, hn, q⟩ := q1
    subst e
    cases r1 with
    | cons r rr =>
      cases rr with
      | cons r' rr =>
        cases rr with
        | cons r'' rr =>
          cases rr
          obtain ⟨t, rfl⟩ := r
          obtain ⟨t', rfl⟩ := r'
          obtain ⟨t'', rfl⟩ := r''
          exact call_range_3 rg.1 ⟨_, i, j, k, _, _, _, H1, n, rfl, IsRange.new _ _ _ _ _ _ _, I1.kept fun b u e => Heap.get?_push_of_some _ e, rg, hn, q⟩ (.inl (PyProof.noPylong_small rg.2.1))
  refine Call_ (ld_blt I hg hm boot_list (PyProof.Rows.callWith_type1 (args_cons (thn he fun x s1 ⟨r, i, j, k, t, u, v, H1, n, ex, hr, I1, rg, hn, q⟩ => args_nil ?_) na) na))
  subst ex
  refine call_list_range (n := n) (I1.ok.hd hc) hr rg.2.2.1 rg.2.2.2 (Nat.le_trans hn (by decide)) fun h' tk acc c' hk e' hi => ?_
  have hv : Vals (stV i k n) acc.toList := by
    have e : acc.toList.length = n := by rw [Array.length_toList]; exact hi.1
    unfold stV
    rw [← e]
    refine vals_of_get acc.toList _ fun j u hj => ?_
    obtain ⟨t, rfl⟩ := hi.2 j u (by rw [← hj, Array.getElem?_toList])
    exact ⟨t, rfl⟩
  refine ⟨.ref s1.heap.objs.size, upd H1 s1.heap.objs.size (.lst (stV i k n)), I1.laid hk (Nat.le_refl _) (show ObjOk X.prog X.w _ _ _ (.lst (stV i k n)) from ⟨?_, acc.toList, c', hv, ?_⟩), rfl, q _ (I1.hok.fresh (Nat.le_refl _))⟩
  · unfold stV
    rw [List.length_map, List.length_range]
    exact Nat.le_trans hn (by decide)
  · rw [Array.toArray_toList]; exact e'
end
end Kx
set_option linter.all false
set_option maxRecDepth 100000
set_option maxHeartbeats 2000000
namespace My
/-! ## days and dates, in plain Lean -/
def leap (y : Int) : Bool := decide (y % 4 = 0) && (!decide (y % 100 = 0) || decide (y % 400 = 0))
def lp (y : Int) : Int := if leap y = true then 1 else 0
/-- the day on which a year begins -/
def yb (y : Int) : Int := 365 * (y - 2000) + (y - 2000 + 3) / 4 - (y - 2000 + 99) / 100 + (y - 2000 + 399) / 400
def mtab (m : Int) : Int := if m = 2 then 28 else if m = 4 ∨ m = 6 ∨ m = 9 ∨ m = 11 then 30 else 31
def mlen (y m : Int) : Int := mtab m + (if m = 2 then lp y else 0)
/-- the days of the year ahead of a month -/
def ahead (y : Int) : Nat → Int
  | 0 => 0
  | n + 1 => ahead y n + mlen y (n + 1)
def mb (y m : Int) : Int := yb y + ahead y (m - 1).toNat
theorem lp_eq (y : Int) : lp y = if (y % 4 = 0 ∧ (¬ y % 100 = 0 ∨ y % 400 = 0)) then 1 else 0 := by
  unfold lp leap
  simp
theorem lp_01 (y : Int) : lp y = 0 ∨ lp y = 1 := by
  unfold lp
  split <;> simp
theorem yb_succ (y : Int) : yb (y + 1) = yb y + 365 + lp y := by
  rw [lp_eq]
  unfold yb
  split <;> omega
theorem yb_lt {y z : Int} (h : y < z) : yb y + 365 ≤ yb z := by
  unfold yb
  omega
theorem yb_400 (y : Int) : yb (y + 400) = yb y + 146097 := by
  unfold yb
  omega
theorem lp_400 (y : Int) : lp (y + 400) = lp y := by
  rw [lp_eq, lp_eq]
  have : (y + 400) % 4 = y % 4 := by omega
  have : (y + 400) % 100 = y % 100 := by omega
  have : (y + 400) % 400 = y % 400 := by omega
  simp [*]
theorem mlen_le (y m : Int) : 28 ≤ mlen y m ∧ mlen y m ≤ 31 := by
  have := lp_01 y
  unfold mlen mtab
  split <;> (try split) <;> omega
theorem ahead_12 (y : Int) : ahead y 12 = 365 + lp y := by
  unfold ahead ahead ahead ahead ahead ahead ahead ahead ahead ahead ahead ahead ahead
  unfold mlen mtab
  simp
  omega
theorem ahead_mono (y : Int) : ∀ {a b : Nat}, a ≤ b → ahead y a ≤ ahead y b
  | a, 0, h => by have : a = 0 := by omega
                  rw [this]; exact Int.le_refl _
  | a, b + 1, h => by
    by_cases e : a = b + 1
    · rw [e]; exact Int.le_refl _
    · have := ahead_mono y (a := a) (b := b) (by omega)
      have := (mlen_le y (b + 1)).1
      show ahead y a ≤ ahead y b + mlen y ((b : Int) + 1)
      omega
/-- y, m, d is the date of the day n -/
structure IsD (n y m d : Int) : Prop where
  m1 : 1 ≤ m
  m2 : m ≤ 12
  d1 : 1 ≤ d
  d2 : d ≤ mlen y m
  eq : mb y m + d - 1 = n
theorem mb_next (y m : Int) (h : 1 ≤ m) : mb y (m + 1) = mb y m + mlen y m := by
  unfold mb
  have e : (m + 1 - 1).toNat = (m - 1).toNat + 1 := by omega
  rw [e]
  show yb y + (ahead y (m - 1).toNat + mlen y (((m - 1).toNat : Int) + 1)) = _
  have : (((m - 1).toNat : Int) + 1) = m := by omega
  rw [this]
  omega
theorem mb_one (y : Int) : mb y 1 = yb y := by
  unfold mb
  show yb y + ahead y 0 = yb y
  unfold ahead
  omega
theorem mb_13 (y : Int) : mb y 13 = yb (y + 1) := by
  rw [yb_succ]
  unfold mb
  show yb y + ahead y 12 = _
  rw [ahead_12]
  omega
theorem mb_mono {y a b : Int} (h1 : 1 ≤ a) (h : a ≤ b) : mb y a ≤ mb y b := by
  unfold mb
  have := ahead_mono y (a := (a - 1).toNat) (b := (b - 1).toNat) (by omega)
  omega
theorem IsD.year {n y m d : Int} (h : IsD n y m d) : yb y ≤ n ∧ n < yb (y + 1) := by
  have h1 := mb_mono (y := y) (a := 1) (b := m) (by omega) h.m1
  have h2 := mb_mono (y := y) (a := m + 1) (b := 13) (by have := h.m1; omega) (by have := h.m2; omega)
  rw [mb_one] at h1
  rw [mb_13, mb_next y m h.m1] at h2
  have := h.eq
  have := h.d1
  have := h.d2
  omega
theorem IsD.uniq {n y m d y' m' d' : Int} (h : IsD n y m d) (h' : IsD n y' m' d') : y = y' ∧ m = m' ∧ d = d' := by
  have a := h.year
  have a' := h'.year
  have ey : y = y' := by
    rcases Int.lt_trichotomy y y' with z | z | z
    · have := yb_lt (y := y + 1) (z := y' + 1) (by omega)
      by_cases e : y + 1 = y'
      · rw [e] at a; omega
      · have := yb_lt (y := y + 1) (z := y') (by omega)
        omega
    · exact z
    · by_cases e : y' + 1 = y
      · rw [e] at a'; omega
      · have := yb_lt (y := y' + 1) (z := y) (by omega)
        omega
  subst ey
  have em : m = m' := by
    have e1 := h.eq
    have e2 := h'.eq
    have b1 := h.d1
    have b2 := h.d2
    have b3 := h'.d1
    have b4 := h'.d2
    have c1 := h.m1
    have c3 := h'.m1
    rcases Int.lt_trichotomy m m' with z | z | z
    · have := mb_mono (y := y) (a := m + 1) (b := m') (by omega) (by omega)
      rw [mb_next y m c1] at this
      omega
    · exact z
    · have := mb_mono (y := y) (a := m' + 1) (b := m) (by omega) (by omega)
      rw [mb_next y m' c3] at this
      omega
  subst em
  have e1 := h.eq
  have e2 := h'.eq
  exact ⟨rfl, rfl, by omega⟩
/-- the next day's date -/
def nextD (y m d : Int) : Int × Int × Int := if d < mlen y m then (y, m, d + 1) else if m < 12 then (y, m + 1, 1) else (y + 1, 1, 1)
theorem IsD.next {n y m d : Int} (h : IsD n y m d) : IsD (n + 1) (nextD y m d).1 (nextD y m d).2.1 (nextD y m d).2.2 := by
  have e := h.eq
  have b1 := h.d1
  have b2 := h.d2
  have c1 := h.m1
  have c2 := h.m2
  unfold nextD
  by_cases q : d < mlen y m
  · rw [if_pos q]
    exact ⟨c1, c2, by show 1 ≤ d + 1; omega, by show d + 1 ≤ mlen y m; omega, by show mb y m + (d + 1) - 1 = n + 1; omega⟩
  · rw [if_neg q]
    by_cases r : m < 12
    · rw [if_pos r]
      have := mlen_le y (m + 1)
      refine ⟨by show 1 ≤ m + 1; omega, by show m + 1 ≤ 12; omega, by show (1 : Int) ≤ 1; omega, by show 1 ≤ mlen y (m + 1); omega, ?_⟩
      show mb y (m + 1) + 1 - 1 = n + 1
      rw [mb_next y m c1]
      omega
    · rw [if_neg r]
      have := mlen_le (y + 1) 1
      refine ⟨by show (1 : Int) ≤ 1; omega, by show (1 : Int) ≤ 12; omega, by show (1 : Int) ≤ 1; omega, by show 1 ≤ mlen (y + 1) 1; omega, ?_⟩
      show mb (y + 1) 1 + 1 - 1 = n + 1
      have e12 : m = 12 := by omega
      subst e12
      have := mb_next y 12 (by omega)
      rw [show (12 : Int) + 1 = 13 from rfl, mb_13] at this
      rw [mb_one]
      omega
theorem mlen_400 (y m : Int) : mlen (y + 400) m = mlen y m := by
  unfold mlen
  rw [lp_400]
theorem ahead_400 (y : Int) : ∀ n, ahead (y + 400) n = ahead y n
  | 0 => rfl
  | n + 1 => by
    unfold ahead
    rw [ahead_400 y n, mlen_400]
theorem mb_400 (y m : Int) : mb (y + 400) m = mb y m + 146097 := by
  unfold mb
  rw [yb_400, ahead_400]
  omega
theorem IsD.add400 {n y m d : Int} (h : IsD n y m d) : IsD (n + 146097) (y + 400) m d :=
  ⟨h.m1, h.m2, h.d1, by rw [mlen_400]; exact h.d2, by rw [mb_400]; have := h.eq; omega⟩
end My
set_option linter.all false
set_option maxRecDepth 100000
namespace My
open PySem PySem.Spec PyProof.Rows L2 Kx
def whole (x : V) : Bool := match x with
  | .int _ => true
  | _ => false
def betw (x : V) (lo hi : Int) : Bool := match x with
  | .int i => decide (lo ≤ i) && decide (i ≤ hi)
  | _ => false
/-- the box of draws: never mind what it holds, but how many draws it counts at most -/
def BoxAt (H : Hp) (b : Addr) (c : Int) : Prop := ∃ (n m c0 : Int) (bo : Bool), H b = some (.lst [.int n, .bl bo, .int m, .int c0]) ∧ 0 ≤ n ∧ 0 ≤ m ∧ m < 2147483629 ∧ 0 ≤ c0 ∧ c0 ≤ c
def notBox : HO → Bool
  | .lst [.int _, .bl _, .int _, .int _] => false
  | _ => true
/-- all but boxes of draws stands as it stood -/
def Ks (H H' : Hp) : Prop := ∀ a o, H a = some o → ∃ o', H' a = some o' ∧ (notBox o = true → o' = o)
/-- all but b stands as it stood -/
def Kb (b : Addr) (H H' : Hp) : Prop := ∀ a o, a ≠ b → H a = some o → H' a = some o
/-- the error of the package's class x, with its value -/
def Er (K : PySem.W.Frag) (E : XK) (H : Hp) (c : Str) (x : V) : Prop := ∀ d, H d = none → E (.ref (He.ga K c)) (some d) (upd H d (.xd [(("given" : Str), x)]))
def MOST : Int := 1000000000000
def dateOk : List V → Bool
  | [a, b, c] => betw a 2000 MOST && (betw b 1 12 && (match a, b, c with
    | .int y, .int m, .int d => decide (1 ≤ d) && (decide (d ≤ mlen y m) && decide (mb y m + d - 1 ≤ MOST))
    | _, _, _ => false))
  | _ => false
def sca : V → Bool
  | .non => true
  | .bl _ => true
  | .int _ => true
  | .str _ => true
  | _ => false
/-- a value that a test may be asked of: a tuple of plain ones, or no tuple -/
inductive Va (K : PySem.W.Frag) (H : Hp) : V → Prop
  | tup {a : Addr} {xs : List V} (h : SqT K H a xs) (hs : xs.all sca = true) : Va K H (.ref a)
  | other {x : V} {T : String} (h : Kd K H x T) (hT : T ≠ "tuple") : Va K H x
def sp_is_whole (K : PySem.W.Frag) : Sp := fun vs H Q _ => ∃ x T, vs = [x] ∧ Kd K H x T ∧ Q (.bl (whole x)) H
def sp_is_between (K : PySem.W.Frag) : Sp := fun vs H Q _ => ∃ x T lo hi, vs = [x, .int lo, .int hi] ∧ Kd K H x T ∧ Q (.bl (betw x lo hi)) H
def sp_is_day (K : PySem.W.Frag) : Sp := fun vs H Q _ => ∃ x T, vs = [x] ∧ Kd K H x T ∧ Q (.bl (betw x 0 MOST)) H
def sp_is_tuple_of (K : PySem.W.Frag) : Sp := fun vs H Q _ => ∃ x n, vs = [x, .int n] ∧ ((∃ a xs, x = .ref a ∧ SqT K H a xs ∧ Q (.bl (decide ((xs.length : Int) = n))) H) ∨ ∃ T, Kd K H x T ∧ T ≠ "tuple" ∧ Q (.bl false) H)
def sp_is_leap_year (K : PySem.W.Frag) : Sp := fun vs H Q _ => ∃ y, vs = [.int y] ∧ Q (.bl (leap y)) H
def sp_length_of (K : PySem.W.Frag) : Sp := fun vs H Q _ => ∃ y m, vs = [.int y, .int m] ∧ 1 ≤ m ∧ m ≤ 12 ∧ Q (.int (mlen y m)) H
def sp_check_year (K : PySem.W.Frag) : Sp := fun vs H Q E => ∃ x T, vs = [x] ∧ Kd K H x T ∧ (betw x 2000 2700000000 = true → Q .non H) ∧ (betw x 2000 2700000000 = false → Er K E H "InvalidYear" x)
def sp_check_month (K : PySem.W.Frag) : Sp := fun vs H Q E => ∃ x T, vs = [x] ∧ Kd K H x T ∧ (betw x 1 12 = true → Q .non H) ∧ (betw x 1 12 = false → Er K E H "InvalidMonth" x)
def sp_check_day (K : PySem.W.Frag) : Sp := fun vs H Q E => ∃ x T, vs = [x] ∧ Kd K H x T ∧ (betw x 0 MOST = true → Q .non H) ∧ (betw x 0 MOST = false → Er K E H "InvalidDay" x)
def sp_is_leap (K : PySem.W.Frag) : Sp := fun vs H Q E => ∃ x T, vs = [x] ∧ Kd K H x T ∧ (∀ y, x = .int y → betw x 2000 2700000000 = true → Q (.bl (leap y)) H) ∧ (betw x 2000 2700000000 = false → Er K E H "InvalidYear" x)
def sp_month_length (K : PySem.W.Frag) : Sp := fun vs H Q E => ∃ x T z U, vs = [x, z] ∧ Kd K H x T ∧ Kd K H z U ∧ (∀ y m, x = .int y → z = .int m → betw x 2000 2700000000 = true → betw z 1 12 = true → Q (.int (mlen y m)) H) ∧
  (betw x 2000 2700000000 = false → Er K E H "InvalidYear" x) ∧ (betw x 2000 2700000000 = true → betw z 1 12 = false → Er K E H "InvalidMonth" z)
def sp_year_begin (K : PySem.W.Frag) : Sp := fun vs H Q _ => ∃ y, vs = [.int y] ∧ -1000000000000000 < y ∧ y < 1000000000000000 ∧ Q (.int (yb y)) H
def sp_month_begin (K : PySem.W.Frag) : Sp := fun vs H Q _ => ∃ y m, vs = [.int y, .int m] ∧ 1 ≤ m ∧ m ≤ 12 ∧ -1000000000000000 < y ∧ y < 1000000000000000 ∧ ∀ H', Same H H' → Q (.int (mb y m)) H'
def sp_year_of (K : PySem.W.Frag) : Sp := fun vs H Q _ => ∃ n, vs = [.int n] ∧ 0 ≤ n ∧ n < 100000000000000 ∧ ∀ y, yb y ≤ n → n < yb (y + 1) → Q (.int y) H
/-- a new date -/
def NewDate (H : Hp) (Q : VK) (n : Int) : Prop := ∀ y m d p H', IsD n y m d → Same H H' → H' p = some (.tup [.int y, .int m, .int d]) → Q (.ref p) H'
def sp_date_at (K : PySem.W.Frag) : Sp := fun vs H Q _ => ∃ n, vs = [.int n] ∧ 0 ≤ n ∧ n < 100000000000000 ∧ NewDate H Q n
def sp_date_of (K : PySem.W.Frag) : Sp := fun vs H Q E => ∃ x T, vs = [x] ∧ Kd K H x T ∧ (∀ n, x = .int n → betw x 0 MOST = true → NewDate H Q n) ∧ (betw x 0 MOST = false → Er K E H "InvalidDay" x)
def sp_is_date (K : PySem.W.Frag) : Sp := fun vs H Q _ => ∃ x, vs = [x] ∧ ((∃ a xs, x = .ref a ∧ SqT K H a xs ∧ xs.all sca = true ∧ ∀ H', Same H H' → Q (.bl (dateOk xs)) H') ∨ ∃ T, Kd K H x T ∧ T ≠ "tuple" ∧ Q (.bl false) H)
def sp_day_of (K : PySem.W.Frag) : Sp := fun vs H Q E => ∃ x, vs = [x] ∧ ((∃ a xs, x = .ref a ∧ SqT K H a xs ∧ xs.all sca = true ∧
    (dateOk xs = false → ∀ H', Same H H' → Er K E H' "InvalidDate" x) ∧ (∀ y m d, xs = [.int y, .int m, .int d] → dateOk xs = true → ∀ H', Same H H' → Q (.int (mb y m + d - 1)) H')) ∨
  ∃ T, Kd K H x T ∧ T ≠ "tuple" ∧ Er K E H "InvalidDate" x)
/-! the law's own -/
def sp__law_cell (K : PySem.W.Frag) : Sp := fun vs H Q _ => ∃ (a : Addr) (ns : List Int) (k : Int), vs = [.ref a, .int k] ∧ SqL K H a (ns.map V.int) ∧ ns.length ≤ 63 ∧ 0 ≤ k ∧ k ≤ 1000 ∧ ∀ i H', Same H H' → Q (.int i) H'
def sp__law_box (K : PySem.W.Frag) : Sp := fun vs H Q _ => ∃ g, vs = [.int g] ∧ ∀ b H', Same H H' → BoxAt H' b 0 → Q (.ref b) H'
def sp__law_take (K : PySem.W.Frag) : Sp := fun vs H Q _ => ∃ b c many, vs = [.ref b, .int many] ∧ BoxAt H b c ∧ c < 1000000000 ∧ 0 < many ∧ many < 1000000000000000000000000000000 ∧ ∀ r H', 0 ≤ r → r < many → Ks H H' → Kb b H H' → BoxAt H' b (c + 1) → Q (.int r) H'
def sp__law_leap (K : PySem.W.Frag) : Sp := fun vs H Q _ => ∃ y, vs = [.int y] ∧ Q (.bl (leap y)) H
def sp__law_length (K : PySem.W.Frag) : Sp := fun vs H Q _ => ∃ y m, vs = [.int y, .int m] ∧ 1 ≤ m ∧ m ≤ 12 ∧ ∀ H', Same H H' → Q (.int (mlen y m)) H'
def sp__law_date (K : PySem.W.Frag) : Sp := fun vs H Q _ => ∃ n, vs = [.int n] ∧ 0 ≤ n ∧ n < 100000000000000 ∧ NewDate H Q n
def sp__law_next (K : PySem.W.Frag) : Sp := fun vs H Q _ => ∃ a y m d, vs = [.ref a] ∧ SqT K H a [.int y, .int m, .int d] ∧ 1 ≤ m ∧ m ≤ 12 ∧
  ∀ p H', Same H H' → H p = none → H' p = some (.tup [.int (nextD y m d).1, .int (nextD y m d).2.1, .int (nextD y m d).2.2]) → Q (.ref p) H'
/-! data of bounded depth and width -/
mutual
def okD : Nat → PyData → Prop
  | n, .list ds => ∃ m, n = m + 1 ∧ ds.length ≤ 100000 ∧ okAll m ds
  | n, .tuple ds => ∃ m, n = m + 1 ∧ ds.length ≤ 100000 ∧ okAll m ds
  | _, .none => True
  | _, .bool _ => True
  | _, .int _ => True
  | _, .str _ => True
  | _, .dict _ => False
def okAll : Nat → List PyData → Prop
  | _, [] => True
  | n, d :: ds => okD n d ∧ okAll n ds
end
def sp_same (K : PySem.W.Frag) (n : Nat) : Sp := fun vs H Q _ => ∃ x y d, vs = [x, y] ∧ Dp K H x d ∧ Dp K H y d ∧ okD n d ∧ ∀ H', Same H H' → Q (.bl true) H'
def sp__law_same (K : PySem.W.Frag) : Sp := sp_same K 8
/-- all but a stands as it stood -/
def But (a : Addr) (H H' : Hp) : Prop := ∀ b o, b ≠ a → H b = some o → H' b = some o
/-- a value that the law lets grow: its own list, its own dict; or plain data -/
inductive Gv (K : PySem.W.Frag) (H : Hp) : V → Prop
  | lst {a : Addr} {xs : List V} (h : H a = some (.lst xs)) (hn : xs.length ≤ 1000) : Gv K H (.ref a)
  | dic {a : Addr} {kvs : List (Key × V)} (h : H a = some (.dK kvs)) (hn : kvs.length ≤ 1000) (hg : valV kvs (.inr "grown") = none) : Gv K H (.ref a)
  | tup {a : Addr} {xs : List V} (h : SqT K H a xs) (hs : xs.all sca = true) (hn : xs.length ≤ 1000) : Gv K H (.ref a)
  | sc {x : V} (h : sca x = true) : Gv K H x
/-- what may have grown: nothing, or the value itself -/
def Grw (x : V) (H H' : Hp) : Prop := Same H H' ∨ ∃ a, x = .ref a ∧ But a H H' ∧ ((∃ xs, H a = some (.lst xs) ∧ H' a = some (.lst (xs ++ [.str "grown"]))) ∨ ∃ kvs, H a = some (.dK kvs) ∧ H' a = some (.dK (putK kvs (.inr "grown") (.int 1))))
def sp__law_very (K : PySem.W.Frag) : Sp := fun vs H Q _ => ∃ x, vs = [x, x] ∧ Gv K H x ∧ ∀ H', Grw x H H' → Q (.bl true) H'
/-- a new list is handed back -/
def Ans (H : Hp) (Q : VK) (xs : List V) : Prop := ∀ l H', Same H H' → H' l = some (.lst xs) → Q (.ref l) H'
/-- a value that is asked in vain -/
inductive Ob (H : Hp) : V → Prop
  | sc {x : V} (h : sca x = true) : Ob H x
  | lst {a : Addr} {xs : List V} (h : H a = some (.lst xs)) (hn : xs.length ≤ 10) (hb : notBox (.lst xs) = true) : Ob H (.ref a)
  | tup {a : Addr} {xs : List V} (h : H a = some (.tup xs)) (hs : xs.all sca = true) (hn : xs.length ≤ 10) : Ob H (.ref a)
  | dic {a : Addr} (h : H a = some (.dK [(.inr "a", .int 1)])) : Ob H (.ref a)
/-- made since H -/
def Fresh (H : Hp) (v : V) : Prop := ∀ a, v = .ref a → H a = none
def sp__law_no_number (K : PySem.W.Frag) : Sp := fun vs H Q _ => ∃ b c lo hi, vs = [.ref b, .int lo, .int hi] ∧ BoxAt H b c ∧ c < 900000000 ∧ -(10 ^ 20) < lo ∧ hi < 10 ^ 20 ∧ ∀ v H', Ks H H' → Kb b H H' → BoxAt H' b (c + 2) → Ob H' v → betw v lo hi = false → Fresh H v → Q v H'
end My
set_option linter.all false
set_option maxRecDepth 100000
set_option maxHeartbeats 2000000
namespace My
open PySem PySem.Spec PyProof.Rows L2 Kx
variable {K : PySem.W.Frag}
abbrev D0 (Q : VK) : Ends := { nx := fun _ H' => Q .non H', rt := Q }
theorem betw_int {x : V} {lo hi : Int} (c : betw x lo hi = true) : ∃ i, x = .int i ∧ lo ≤ i ∧ i ≤ hi := by
  cases x with
  | int i => exact ⟨i, rfl, by simpa [betw] using c⟩
  | _ => cases c
theorem ahead_sum (y : Int) : ∀ n, ((List.range n).map fun (i : Nat) => mlen y (1 + (i : Int))).sum = ahead y n
  | 0 => rfl
  | n + 1 => by
    rw [List.range_succ, List.map_append, List.sum_append, ahead_sum y n]
    show ahead y n + (mlen y (1 + (n : Int)) + 0) = ahead y n + mlen y ((n : Int) + 1)
    have : (1 + (n : Int)) = (n : Int) + 1 := by omega
    rw [this]
    omega
theorem yb_start {n : Int} (h : 0 ≤ n) : yb (2000 + n / 146097 * 400 + n % 146097 / 366) ≤ n := by
  unfold yb
  omega
theorem NewDate.fin {H H1 : Hp} {Q : VK} {n y m d : Int} {p : Addr} (q : NewDate H Q n) (h : IsD n y m d) (e : Same H H1) (hp : H1 p = none) : Q (.ref p) (upd H1 p (.tup [.int y, .int m, .int d])) := q y m d p _ h (Same.trans e (sm_new hp)) upd_same
theorem yb_bd {y n : Int} (h : yb y ≤ n) (h0 : 0 ≤ n) (h2 : n < 100000000000000) : y < 1000000000000 := by
  unfold yb at h
  omega
theorem yb_bd0 {y n : Int} (h : n < yb (y + 1)) (h0 : 0 ≤ n) : 2000 ≤ y := by
  unfold yb at h
  omega
theorem Kd.sca {H : Hp} {x : V} (h : sca x = true) : ∃ T, Kd K H x T ∧ T ≠ "tuple" := by
  cases x with
  | non => exact ⟨_, .non, by decide⟩
  | bl b => exact ⟨_, .bl b, by decide⟩
  | int i => exact ⟨_, .int i, by decide⟩
  | str s => exact ⟨_, .str s, by decide⟩
  | _ => cases h
/-! heaps but for boxes -/
theorem ks_get {H H' : Hp} {a : Addr} {o : HO} (e : Ks H H') (h : H a = some o) (n : notBox o = true) : H' a = some o := by
  obtain ⟨o', h', k⟩ := e a o h
  rw [h', k n]
theorem ks_tup {K : PySem.W.Frag} {H H' : Hp} {a : Addr} {xs : List V} (e : Ks H H') (h : SqT K H a xs) : SqT K H' a xs := by
  rcases h with (h | ⟨o, h⟩) | h
  · exact .inl (.inl (ks_get e h rfl))
  · exact .inl (.inr ⟨o, ks_get e h rfl⟩)
  · exact .inr h
theorem Ks.refl (H : Hp) : Ks H H := fun _ o h => ⟨o, h, fun _ => rfl⟩
theorem Ks.of {H H' : Hp} (e : Same H H') : Ks H H' := fun a o h => ⟨o, e a o h, fun _ => rfl⟩
theorem Ks.trans {H1 H2 H3 : Hp} (e : Ks H1 H2) (f : Ks H2 H3) : Ks H1 H3 := fun a o h => by
  obtain ⟨o', h', k⟩ := e a o h
  obtain ⟨o2, h2, k2⟩ := f a o' h'
  refine ⟨o2, h2, fun n => ?_⟩
  have := k n
  subst this
  exact k2 n
theorem Kb.refl (b : Addr) (H : Hp) : Kb b H H := fun _ _ _ h => h
theorem Kb.of {b : Addr} {H H' : Hp} (e : Same H H') : Kb b H H' := fun a o _ h => e a o h
theorem Kb.trans {b : Addr} {H1 H2 H3 : Hp} (e : Kb b H1 H2) (f : Kb b H2 H3) : Kb b H1 H3 := fun a o n h => f a o n (e a o n h)
theorem Ks.fresh {H H' : Hp} {p : Addr} (e : Ks H H') (hp : H' p = none) : H p = none := by
  cases h : H p with
  | none => rfl
  | some o =>
    obtain ⟨o', h', _⟩ := e p o h
    rw [hp] at h'
    cases h'
theorem Ks.box {H : Hp} {b : Addr} {n m c : Int} {bo : Bool} {o : HO} (h : H b = some (.lst [.int n, .bl bo, .int m, .int c])) : Ks H (upd H b o) := fun a u hu => by
  by_cases e : a = b
  · subst e
    rw [h] at hu
    cases hu
    exact ⟨o, upd_same, fun z => by cases z⟩
  · exact ⟨u, by rw [upd_ne e]; exact hu, fun _ => rfl⟩
theorem notBox_int : ∀ ns : List Int, notBox (.lst (ns.map V.int)) = true
  | [] => rfl
  | [_] => rfl
  | _ :: _ :: _ => rfl
theorem ks_ints {K : PySem.W.Frag} {H H' : Hp} {a : Addr} {ns : List Int} (e : Ks H H') (h : SqL K H a (ns.map V.int)) : SqL K H' a (ns.map V.int) := by
  rcases h with (h | ⟨o, h⟩) | h
  · exact .inl (.inl (ks_get e h (notBox_int ns)))
  · exact .inl (.inr ⟨o, ks_get e h rfl⟩)
  · exact .inr h
theorem BoxAt.same {H H' : Hp} {b : Addr} {c : Int} (e : Same H H') (h : BoxAt H b c) : BoxAt H' b c := by
  obtain ⟨n, m, c0, bo, h, r⟩ := h
  exact ⟨n, m, c0, bo, e _ _ h, r⟩
theorem BoxAt.new {H : Hp} {b p : Addr} {c : Int} {o : HO} (hp : H p = none) (h : BoxAt H b c) : BoxAt (upd H p o) b c := h.same (sm_new hp)
theorem sm_fresh {H H' : Hp} {p : Addr} (e : Same H H') (hp : H' p = none) : H p = none := by
  cases h : H p with
  | none => rfl
  | some o => rw [e p o h] at hp; cases hp
/-! data that stands -/
mutual
theorem Dp.same {H H' : Hp} (e : Same H H') : ∀ {x : V} {d : PyData}, Dp K H x d → Dp K H' x d
  | _, _, .non => .non
  | _, _, .bl b => .bl b
  | _, _, .int i => .int i
  | _, _, .str s => .str s
  | _, _, .lst h r => .lst (e.seq h) (DpAll.same e r)
  | _, _, .tup h r => .tup (Kx.Same.tup e h) (DpAll.same e r)
theorem DpAll.same {H H' : Hp} (e : Same H H') : ∀ {xs : List V} {ds : List PyData}, DpAll K H xs ds → DpAll K H' xs ds
  | _, _, .nil => .nil
  | _, _, .cons h r => .cons (Dp.same e h) (DpAll.same e r)
end
theorem DpAll.len {H : Hp} : ∀ {xs : List V} {ds : List PyData}, DpAll K H xs ds → xs.length = ds.length
  | _, _, .nil => rfl
  | _, _, .cons h r => congrArg (· + 1) (DpAll.len r)
theorem DpAll.get {H : Hp} : ∀ {xs : List V} {ds : List PyData}, DpAll K H xs ds → ∀ i, i < ds.length → ∃ x d, xs[i]? = some x ∧ ds[i]? = some d ∧ Dp K H x d
  | _, _, .cons h r, 0, _ => ⟨_, _, rfl, rfl, h⟩
  | _, _, .cons h r, i + 1, hi => by
    obtain ⟨x, d, e1, e2, k⟩ := DpAll.get r i (Nat.lt_of_succ_lt_succ hi)
    exact ⟨x, d, e1, e2, k⟩
theorem okAll.get : ∀ {n : Nat} {ds : List PyData}, okAll n ds → ∀ {i : Nat} {d : PyData}, ds[i]? = some d → okD n d
  | _, _ :: _, h, 0, _, e => by cases e; exact h.1
  | _, _ :: _, h, i + 1, _, e => okAll.get h.2 e
theorem sca_dp {H : Hp} (n : Nat) : ∀ {x : V}, sca x = true → ∃ d, Dp K H x d ∧ okD n d
  | .non, _ => ⟨.none, .non, by simp [okD]⟩
  | .bl b, _ => ⟨.bool b, .bl b, by simp [okD]⟩
  | .int i, _ => ⟨.int i, .int i, by simp [okD]⟩
  | .str s, _ => ⟨.str s, .str s, by simp [okD]⟩
theorem scas_dp {H : Hp} (n : Nat) : ∀ {xs : List V}, xs.all sca = true → ∃ ds, DpAll K H xs ds ∧ okAll n ds
  | [], _ => ⟨[], .nil, by simp [okAll]⟩
  | x :: xs, h => by
    rw [List.all_cons, Bool.and_eq_true] at h
    obtain ⟨d, k, o⟩ := sca_dp (K := K) (H := H) n h.1
    obtain ⟨ds, ks, os⟩ := scas_dp (H := H) n h.2
    exact ⟨d :: ds, .cons k ks, by simp only [okAll]; exact ⟨o, os⟩⟩
theorem But.upd {H : Hp} {a : Addr} {o : HO} : But a H (upd H a o) := fun b u n h => by rw [upd_ne n]; exact h
theorem put_new {κ : Type} [DecidableEq κ] {kvs : List (κ × V)} {k : κ} {v : V} (h : valV kvs k = none) : putK kvs k v = kvs ++ [(k, v)] := by
  unfold putK
  rw [if_neg]
  rw [valV_any, h]
  simp
theorem BoxAt.mono {H : Hp} {b : Addr} {c c' : Int} (h : BoxAt H b c) (l : c ≤ c') : BoxAt H b c' := by
  obtain ⟨n, m, c0, bo, h, r1, r2, r3, r4, r5⟩ := h
  exact ⟨n, m, c0, bo, h, r1, r2, r3, r4, by omega⟩
theorem betw_t {i lo hi : Int} (h0 : lo ≤ i) (h1 : i ≤ hi) : betw (.int i) lo hi = true := by
  show (decide (lo ≤ i) && decide (i ≤ hi)) = true
  rw [decide_eq_true h0, decide_eq_true h1]; rfl
theorem dateOk_of {n y m d : Int} (h : IsD n y m d) (h0 : 0 ≤ n) (h1 : n ≤ 1000000000000) : dateOk [.int y, .int m, .int d] = true := by
  have a := h.year
  have y1 := yb_bd a.1 h0 (by omega)
  have y0 := yb_bd0 a.2 h0
  have e := h.eq
  have c1 := h.m1
  have c2 := h.m2
  have c3 := h.d1
  have c4 := h.d2
  have hM : MOST = 1000000000000 := rfl
  have b1 : betw (.int y) 2000 MOST = true := betw_t (by omega) (by omega)
  have b2 : betw (.int m) 1 12 = true := betw_t (by omega) (by omega)
  have e3 : mb y m + d - 1 ≤ MOST := by omega
  simp only [dateOk]
  rw [b1, b2, decide_eq_true c3, decide_eq_true c4, decide_eq_true e3]
  rfl
theorem fresh_of {H H' : Hp} {p : Addr} (hp : H' p = none) (e : Ks H H') : Fresh H (.ref p) := fun a h => by
  cases h
  exact e.fresh hp
theorem fresh_sc {H : Hp} {v : V} (h : sca v = true) : Fresh H v := fun a e => by
  subst e
  cases h
theorem betw_f {i lo hi : Int} (h : i < lo ∨ hi < i) : betw (.int i) lo hi = false := by
  cases e : betw (.int i) lo hi with
  | false => rfl
  | true =>
    obtain ⟨j, e2, h1, h2⟩ := betw_int e
    cases e2
    omega
theorem dateOk_f {y m d : Int} (h : y < 2000 ∨ 1000000000000 < y ∨ m < 1 ∨ 12 < m ∨ d < 1 ∨ mlen y m < d ∨ 1000000000000 < mb y m + d - 1) : dateOk [.int y, .int m, .int d] = false := by
  cases e : dateOk [.int y, .int m, .int d] with
  | false => rfl
  | true =>
    simp only [dateOk, Bool.and_eq_true] at e
    obtain ⟨e1, e2, e3, e4, e5⟩ := e
    obtain ⟨_, h1, e1, f1⟩ := betw_int e1
    cases h1
    obtain ⟨_, h1, e2, f2⟩ := betw_int e2
    cases h1
    have e3 := of_decide_eq_true e3
    have e4 := of_decide_eq_true e4
    have e5 := of_decide_eq_true e5
    have hM : MOST = 1000000000000 := rfl
    omega
/-- asked as a date, it is refused -/
structure NoD (H H' : Hp) (v : V) : Prop where
  ob : Ob H' v
  no : ∀ a xs, v = .ref a → H' a = some (.tup xs) → dateOk xs = false
  fr : Fresh H v
theorem NoD.sca {H H' : Hp} {v : V} (h : My.sca v = true) : NoD H H' v := ⟨.sc h, fun a xs e => (by subst e; cases h), fresh_sc h⟩
theorem NoD.tup {H H1 H' : Hp} {p : Addr} {xs : List V} (hp : H1 p = none) (e : Ks H H1) (h : H' p = some (.tup xs)) (hs : xs.all My.sca = true) (hn : xs.length ≤ 10) (hd : dateOk xs = false) : NoD H H' (.ref p) :=
  ⟨.tup h hs hn, fun a ys e h' => (by cases e; rw [h] at h'; cases h'; exact hd), fresh_of hp e⟩
theorem NoD.lst {H H1 H' : Hp} {p : Addr} {xs : List V} (hp : H1 p = none) (e : Ks H H1) (h : H' p = some (.lst xs)) (hn : xs.length ≤ 10) (hb : notBox (.lst xs) = true) : NoD H H' (.ref p) :=
  ⟨.lst h hn hb, fun a ys e h' => (by cases e; rw [h] at h'; cases h'), fresh_of hp e⟩
theorem NoD.dic {H H1 H' : Hp} {p : Addr} (hp : H1 p = none) (e : Ks H H1) (h : H' p = some (.dK [(.inr "a", .int 1)])) : NoD H H' (.ref p) :=
  ⟨.dic h, fun a ys e h' => (by cases e; rw [h] at h'; cases h'), fresh_of hp e⟩

theorem dateOk_b2 {y d : Int} {b : Bool} : dateOk [.int y, .bl b, .int d] = false := by simp [dateOk, betw]
theorem dateOk_s2 {y d : Int} {b : Str} : dateOk [.int y, .str b, .int d] = false := by simp [dateOk, betw]
theorem dateOk_b3 {y d : Int} {b : Bool} : dateOk [.int y, .int d, .bl b] = false := by simp [dateOk, betw]
theorem dateOk_n3 {y d : Int} : dateOk [.int y, .int d, .non] = false := by simp [dateOk, betw]
theorem mlen_29 (k : Int) (k0 : 0 ≤ k) : mlen (2001 + 4 * k) 2 = 28 := by
  have e : mlen (2001 + 4 * k) 2 = 28 + lp (2001 + 4 * k) := rfl
  rw [e, lp_eq, if_neg (by omega)]
  rfl
theorem dateOk_29 {k : Int} (h : 0 ≤ k) : dateOk [.int (2001 + 4 * k), .int 2, .int 29] = false := dateOk_f (by have := mlen_29 k h; omega)
theorem notBox_len {xs : List V} (h : Nat.beq xs.length 4 = false) : notBox (.lst xs) = true := by
  match xs, h with
  | [], _ => rfl
  | [_], _ => unfold notBox; split <;> simp_all
  | [_, _], _ => unfold notBox; split <;> simp_all
  | [_, _, _], _ => unfold notBox; split <;> simp_all
  | _ :: _ :: _ :: _ :: _ :: _, _ => unfold notBox; split <;> simp_all
theorem Ob.kd {H : Hp} {v : V} (h : Ob H v) : ∃ T, Kd K H v T := by
  cases h with
  | sc h => obtain ⟨T, k, _⟩ := Kd.sca (K := K) (H := H) h; exact ⟨T, k⟩
  | lst h _ _ => exact ⟨_, .lst (l_of h)⟩
  | tup h _ _ => exact ⟨_, .tup (t_of h)⟩
  | dic h => exact ⟨_, .dic h⟩
theorem Ob.gv {H : Hp} {v : V} (h : Ob H v) : Gv K H v := by
  cases h with
  | sc h => exact .sc h
  | lst h hn _ => exact .lst h (Nat.le_trans hn (by decide))
  | tup h hs hn => exact .tup (t_of h) hs (Nat.le_trans hn (by decide))
  | dic h => exact .dic h (by decide) (by decide)
/-- what v names stands -/
def Std (H0 H : Hp) (v : V) : Prop := ∀ a o, v = .ref a → H0 a = some o → H a = some o
theorem Ob.std {H0 H : Hp} {v : V} (h : Ob H0 v) (e : Std H0 H v) : Ob H v := by
  cases h with
  | sc h => exact .sc h
  | lst h hn hb => exact .lst (e _ _ rfl h) hn hb
  | tup h hs hn => exact .tup (e _ _ rfl h) hs hn
  | dic h => exact .dic (e _ _ rfl h)
theorem Ob.same {H H' : Hp} {v : V} (e : Same H H') (h : Ob H v) : Ob H' v := h.std fun a o _ ha => e a o ha
theorem Ob.ks {H H' : Hp} {v : V} (e : Ks H H') (h : Ob H v) : Ob H' v := by
  cases h with
  | sc h => exact .sc h
  | lst h hn hb => exact .lst (ks_get e h hb) hn hb
  | tup h hs hn => exact .tup (ks_get e h rfl) hs hn
  | dic h => exact .dic (ks_get e h rfl)
/-- one row of what is asked in vain; t: the value that the error carries -/
structure Rw where
  r : Addr
  w : Str
  one : V
  more : V
  e : Str
  n : Int
  t : V
/-- .. and no date -/
structure Nd (H : Hp) (v : V) : Prop where
  ob : Ob H v
  no : ∀ a xs, v = .ref a → H a = some (.tup xs) → dateOk xs = false
theorem Nd.std {H0 H : Hp} {v : V} (g : Nd H0 v) (e : Std H0 H v) : Nd H v := ⟨g.ob.std e, fun a xs ev h' => by
  obtain ⟨ob, no⟩ := g
  cases ob with
  | sc h => subst ev; cases h
  | lst h _ _ => cases ev; rw [e _ _ rfl h] at h'; cases h'
  | tup h _ _ => cases ev; rw [e _ _ rfl h] at h'; cases h'; exact no _ _ rfl h
  | dic h => cases ev; rw [e _ _ rfl h] at h'; cases h'⟩
theorem Nd.same {H H' : Hp} {v : V} (e : Same H H') (h : Nd H v) : Nd H' v := h.std fun a o _ ha => e a o ha
theorem Nd.ks {H H' : Hp} {v : V} (e : Ks H H') (g : Nd H v) : Nd H' v := g.std fun a o ev ha => by
  obtain ⟨ob, no⟩ := g
  cases ob with
  | sc h => subst ev; cases h
  | lst h hn hb => cases ev; rw [ha] at h; cases h; exact ks_get e ha hb
  | tup h hs hn => cases ev; rw [ha] at h; cases h; exact ks_get e ha rfl
  | dic h => cases ev; rw [ha] at h; cases h; exact ks_get e ha rfl
/-- two names are not of one object -/
def Df (u v : V) : Prop := ∀ a, u = .ref a → v ≠ .ref a
theorem Df.symm {u v : V} (h : Df u v) : Df v u := fun a e e2 => h a e2 e
theorem df_sc {u v : V} (h : sca v = true) : Df u v := fun a _ e => by subst e; cases h
theorem df_vv {H : Hp} {u v : V} (fr : Fresh H u) (ob : Ob H v) : Df u v := fun a e e2 => by
  have := fr a e
  subst e2
  cases ob with
  | sc h => cases h
  | lst h _ _ => rw [h] at this; cases this
  | tup h _ _ => rw [h] at this; cases this
  | dic h => rw [h] at this; cases this
theorem df_vr {H : Hp} {u : V} {r : Addr} {o : HO} (fr : Fresh H u) (h : H r = some o) : Df u (.ref r) := fun a e e2 => by
  have := fr a e
  cases e2
  rw [h] at this
  cases this
theorem df_rv {H : Hp} {v : V} {r : Addr} (hp : H r = none) (ob : Ob H v) : Df v (.ref r) := fun a e e2 => by
  cases e2
  subst e
  cases ob with
  | sc h => cases h
  | lst h _ _ => rw [h] at hp; cases hp
  | tup h _ _ => rw [h] at hp; cases hp
  | dic h => rw [h] at hp; cases hp
/-- but for the list at L, all stands -/
def Off (L : Addr) (H H0 : Hp) : Prop := ∀ a o, a ≠ L → H a = some o → H0 a = some o
theorem Df.ne {v : V} {L a : Addr} (d : Df v (.ref L)) (e : v = .ref a) : a ≠ L := fun z => d a e (by rw [z])
theorem Ob.off {H H0 : Hp} {L : Addr} {v : V} (h : Ob H v) (d : Df v (.ref L)) (e : Off L H H0) : Ob H0 v := h.std fun a o ev ha => e a o (d.ne ev) ha
theorem Nd.off {H H0 : Hp} {L : Addr} {v : V} (h : Nd H v) (d : Df v (.ref L)) (e : Off L H H0) : Nd H0 v := h.std fun a o ev ha => e a o (d.ne ev) ha
theorem Fresh.back {H H' : Hp} {v : V} (f : Fresh H' v) (e : Ks H H') : Fresh H v := fun a ev => e.fresh (f a ev)
theorem pw_get {α : Type} {R : α → α → Prop} : ∀ {l : List α}, l.Pairwise R → ∀ {i j : Nat} {x y : α}, j < i → l[j]? = some x → l[i]? = some y → R x y
  | _ :: _, .cons h _, i + 1, 0, x, y, _, hx, hy => by
    cases hx
    exact h y (List.mem_of_getElem? hy)
  | _ :: _, .cons _ r, i + 1, j + 1, x, y, hj, hx, hy => pw_get r (Nat.lt_of_succ_lt_succ hj) hx hy
/-- what stands behind i rows -/
def Bt (rows : List Rw) (i : Nat) (H0 H : Hp) : Prop := ∀ a o, (∀ j x, j < i → rows[j]? = some x → x.t ≠ .ref a) → H0 a = some o → H a = some o
theorem Bt.std {rows : List Rw} {i : Nat} {H0 H : Hp} {v : V} (e : Bt rows i H0 H) (d : ∀ j x, j < i → rows[j]? = some x → Df x.t v) : Std H0 H v := fun a o ev h => e a o (fun j x hj hx z => d j x hj hx a z ev) h
theorem Bt.one {rows : List Rw} {i : Nat} {H0 H H1 H2 : Hp} {x : Rw} (e : Bt rows i H0 H) (s : Same H H1) (hx : rows[i]? = some x) (g : Grw x.t H1 H2) : Bt rows (i + 1) H0 H2 := fun a o ha h => by
  have h1 := s a o (e a o (fun j y hj hy => ha j y (Nat.lt_succ_of_lt hj) hy) h)
  rcases g with g | ⟨a', et, b, _⟩
  · exact g a o h1
  · exact b a o (fun z => ha i x (Nat.lt_succ_self i) hx (by rw [et, z])) h1
theorem Ks.off {H H1 H0 : Hp} {L : Addr} (e : Ks H H1) (hL : H L = none) (st : Off L H1 H0) : Ks H H0 := fun a o h => by
  obtain ⟨o', h', k⟩ := e a o h
  exact ⟨o', st a o' (ne_of_none h hL) h', k⟩
theorem Ks.bt {rows : List Rw} {i : Nat} {H H0 H1 : Hp} (e : Ks H H0) (bt : Bt rows i H0 H1) (fr : ∀ x ∈ rows, Fresh H x.t) : Ks H H1 := fun a o h => by
  obtain ⟨o', h', k⟩ := e a o h
  exact ⟨o', bt a o' (fun j x _ hx z => by have := fr x (List.mem_of_getElem? hx) a z; rw [h] at this; cases this) h', k⟩
end My
set_option linter.all false
set_option maxRecDepth 100000
set_option maxHeartbeats 2000000
namespace My
/-! ## weekdays and weeks -/
def wd (n : Int) : Int := (n + 5) % 7
/-- the first monday of a year's weeks -/
def fm (y : Int) : Int := yb y + 3 - (yb y + 8) % 7
def wks (y : Int) : Int := (fm (y + 1) - fm y) / 7
/-- the week k of the year w has the day n: by the thursday of the week -/
structure IsW (n w k : Int) : Prop where
  h1 : yb w ≤ n - wd n + 3
  h2 : n - wd n + 3 < yb (w + 1)
  h3 : k = (n - wd n + 3 - yb w) / 7 + 1
theorem yb_un {y z n : Int} (h1 : yb y ≤ n) (h2 : n < yb (y + 1)) (h3 : yb z ≤ n) (h4 : n < yb (z + 1)) : y = z := by
  rcases Int.lt_trichotomy y z with h | h | h
  · by_cases e : y + 1 = z
    · rw [e] at h2; omega
    · have := yb_lt (y := y + 1) (z := z) (by omega)
      omega
  · exact h
  · by_cases e : z + 1 = y
    · rw [e] at h4; omega
    · have := yb_lt (y := z + 1) (z := y) (by omega)
      omega
theorem IsW.uniq {n w k w' k' : Int} (h : IsW n w k) (h' : IsW n w' k') : w = w' ∧ k = k' := by
  have := yb_un h.h1 h.h2 h'.h1 h'.h2
  subst this
  exact ⟨rfl, by rw [h.h3, h'.h3]⟩
theorem fm_week {n w : Int} (h1 : fm w ≤ n) (h2 : n < fm (w + 1)) : IsW n w ((n - fm w) / 7 + 1) := by
  unfold fm at h1 h2
  refine ⟨?_, ?_, ?_⟩
  · unfold wd; omega
  · unfold wd; omega
  · unfold fm wd; omega
theorem fm_bd (y : Int) : yb y - 3 ≤ fm y ∧ fm y ≤ yb y + 3 := by
  unfold fm; omega
theorem fm_mod (y : Int) : (fm y + 5) % 7 = 0 := by
  unfold fm; omega
theorem fm_later {n y : Int} (h : yb y ≤ n) (h2 : n < yb (y + 1)) (h3 : fm (y + 1) ≤ n) : fm (y + 1) ≤ n ∧ n < fm (y + 1 + 1) := by
  have a := fm_bd (y + 1 + 1)
  have b := yb_lt (y := y + 1) (z := y + 1 + 1) (by omega)
  omega
theorem fm_before {n y : Int} (h : yb y ≤ n) (h3 : n < fm y) : fm (y - 1) ≤ n ∧ n < fm (y - 1 + 1) := by
  have a := fm_bd (y - 1)
  have b := yb_lt (y := y - 1) (z := y) (by omega)
  rw [show y - 1 + 1 = y by omega]
  omega
/-- how many weeks, by the weekday of the first day -/
theorem wks_eq (y : Int) : wks y = if (wd (yb y) = 3 ∨ (wd (yb y) = 2 ∧ leap y = true)) then 53 else 52 := by
  have e := yb_succ y
  have l := lp_01 y
  have e2 : leap y = true ↔ lp y = 1 := by
    unfold lp
    split <;> simp_all
  simp only [e2]
  unfold wks fm wd
  rw [e]
  generalize yb y = a
  generalize lp y = b at *
  rcases l with rfl | rfl
  · split <;> omega
  · split <;> omega
theorem wks_bd (y : Int) : 52 ≤ wks y ∧ wks y ≤ 53 := by
  rw [wks_eq]
  split <;> omega
theorem fm_succ (y : Int) : fm (y + 1) = fm y + 7 * wks y := by
  have a := fm_mod y
  have b := fm_mod (y + 1)
  unfold wks
  omega
/-- the day of a week, back -/
theorem day_week {y k d : Int} (k1 : 1 ≤ k) (k2 : k ≤ wks y) (d0 : 0 ≤ d) (d1 : d ≤ 6) : IsW (fm y + 7 * (k - 1) + d) y k ∧ wd (fm y + 7 * (k - 1) + d) = d := by
  have a := fm_mod y
  have b := fm_succ y
  have h := fm_week (n := fm y + 7 * (k - 1) + d) (w := y) (by omega) (by omega)
  have e : (fm y + 7 * (k - 1) + d - fm y) / 7 + 1 = k := by omega
  rw [e] at h
  exact ⟨h, by unfold wd; omega⟩
end My
set_option linter.all false
set_option maxRecDepth 100000
namespace My
open PySem PySem.Spec PyProof.Rows L2 Kx
def oV : Option Int → V
  | none => .non
  | some r => .int r
def sp_check_weekday (K : PySem.W.Frag) : Sp := fun vs H Q E => ∃ x T, vs = [x] ∧ Kd K H x T ∧ (betw x 0 6 = true → Q .non H) ∧ (betw x 0 6 = false → Er K E H "InvalidWeekday" x)
def sp_weekday_at (K : PySem.W.Frag) : Sp := fun vs H Q _ => ∃ n, vs = [.int n] ∧ Q (.int (wd n)) H
def sp_weekday_of (K : PySem.W.Frag) : Sp := fun vs H Q E => ∃ x T, vs = [x] ∧ Kd K H x T ∧ (∀ n, x = .int n → betw x 0 MOST = true → Q (.int (wd n)) H) ∧ (betw x 0 MOST = false → Er K E H "InvalidDay" x)
/-- the first number with the weekday w, and how many there are -/
def nA (first w : Int) : Int := 1 + (w - first) % 7
def nC (len first w : Int) : Int := (len - nA first w) / 7 + 1
def nthM (len first num w : Int) : Option Int := if nC len first w < (if num < 0 then -num else num) then none else
  some (if 0 < num then nA first w + (num - 1) * 7 else nA first w + (nC len first w + num) * 7)
def sp_nth_in_month (K : PySem.W.Frag) : Sp := fun vs H Q _ => ∃ len first num w, vs = [.int len, .int first, .int num, .int w] ∧ 28 ≤ len ∧ len ≤ 31 ∧ 0 ≤ first ∧ first ≤ 6 ∧ 0 ≤ w ∧ w ≤ 6 ∧ -5 ≤ num ∧ num ≤ 5 ∧ num ≠ 0 ∧ ∀ H', Same H H' → Q (oV (nthM len first num w)) H'
def nthD (y m num w : Int) : Option Int := match nthM (mlen y m) (wd (mb y m)) num w with
  | none => none
  | some f => some (mb y m + f - 1)
def numOk (x : V) : Bool := betw x (-5) 5 && !(match x with
  | .int i => decide (i = 0)
  | _ => false)
def sp_nth_weekday (K : PySem.W.Frag) : Sp := fun vs H Q E => ∃ x T z U u V v W, vs = [x, z, u, v] ∧ Kd K H x T ∧ Kd K H z U ∧ Kd K H u V ∧ Kd K H v W ∧
  (∀ y m k w, x = .int y → z = .int m → u = .int k → v = .int w → betw x 2000 2700000000 = true → betw z 1 12 = true → numOk u = true → betw v 0 6 = true → ∀ H', Same H H' → Q (oV (nthD y m k w)) H') ∧
  (betw x 2000 2700000000 = false → Er K E H "InvalidYear" x) ∧ (betw x 2000 2700000000 = true → betw z 1 12 = false → Er K E H "InvalidMonth" z) ∧
  (betw x 2000 2700000000 = true → betw z 1 12 = true → numOk u = false → Er K E H "InvalidNumber" u) ∧
  (betw x 2000 2700000000 = true → betw z 1 12 = true → numOk u = true → betw v 0 6 = false → Er K E H "InvalidWeekday" v)
def sp_first_monday (K : PySem.W.Frag) : Sp := fun vs H Q _ => ∃ y, vs = [.int y] ∧ -100000000000000 < y ∧ y < 100000000000000 ∧ Q (.int (fm y)) H
def sp_weeks_of (K : PySem.W.Frag) : Sp := fun vs H Q _ => ∃ y, vs = [.int y] ∧ -10000000000000 < y ∧ y < 10000000000000 ∧ Q (.int (wks y)) H
/-- a new pair: the year of the week, its number -/
def NewW (H : Hp) (Q : VK) (n : Int) : Prop := ∀ w k p H', IsW n w k → Same H H' → H' p = some (.tup [.int w, .int k]) → Q (.ref p) H'
def sp_week_of (K : PySem.W.Frag) : Sp := fun vs H Q E => ∃ x T, vs = [x] ∧ Kd K H x T ∧ (∀ n, x = .int n → betw x 0 MOST = true → NewW H Q n) ∧ (betw x 0 MOST = false → Er K E H "InvalidDay" x)
def sp_weeks_in (K : PySem.W.Frag) : Sp := fun vs H Q E => ∃ x T, vs = [x] ∧ Kd K H x T ∧ (∀ y, x = .int y → betw x 2000 2700000000 = true → Q (.int (wks y)) H) ∧ (betw x 2000 2700000000 = false → Er K E H "InvalidYear" x)
def sp_day_of_week (K : PySem.W.Frag) : Sp := fun vs H Q E => ∃ x T z U u V, vs = [x, z, u] ∧ Kd K H x T ∧ Kd K H z U ∧ Kd K H u V ∧
  (∀ y k d, x = .int y → z = .int k → u = .int d → betw x 2000 2700000000 = true → betw z 1 (wks y) = true → betw u 0 6 = true → Q (.int (fm y + 7 * (k - 1) + d)) H) ∧
  (betw x 2000 2700000000 = false → Er K E H "InvalidYear" x) ∧ (∀ y, x = .int y → betw x 2000 2700000000 = true → betw z 1 (wks y) = false → Er K E H "InvalidWeek" z) ∧
  (∀ y, x = .int y → betw x 2000 2700000000 = true → betw z 1 (wks y) = true → betw u 0 6 = false → Er K E H "InvalidWeekday" u)
/-! the law's own -/
def Kds (K : PySem.W.Frag) (H : Hp) (xs : List V) : Prop := ∀ x ∈ xs, ∃ T, Kd K H x T
def sp__law_ask (K : PySem.W.Frag) : Sp := fun vs H Q _ => ∃ (w : Str) (a : Addr) (xs : List V) (nm : Bool), vs = [.str w, .ref a, .bl nm] ∧ H a = some (.lst xs) ∧ Kds K H xs ∧
 ((w = "weekday" ∧ ∃ x, xs = [x] ∧ (∀ n, x = .int n → betw x 0 MOST = true → Ans H Q [.str "told", .int (wd n)]) ∧ (betw x 0 MOST = false → Ans H Q [.str "day", x, .bl true])) ∨
  (w = "week" ∧ ∃ x, xs = [x] ∧ (∀ n, x = .int n → betw x 0 MOST = true → ∀ w k p l H', IsW n w k → Same H H' → H' p = some (.tup [.int w, .int k]) → H' l = some (.lst [.str "told", .ref p]) → Q (.ref l) H') ∧ (betw x 0 MOST = false → Ans H Q [.str "day", x, .bl true])) ∨
  (w = "weeks" ∧ ∃ x, xs = [x] ∧ (∀ y, x = .int y → betw x 2000 2700000000 = true → Ans H Q [.str "told", .int (wks y)]) ∧ (betw x 2000 2700000000 = false → Ans H Q [.str "year", x, .bl true])) ∨
  (w = "day" ∧ ∃ x z u, xs = [x, z, u] ∧ (∀ y k d, x = .int y → z = .int k → u = .int d → betw x 2000 2700000000 = true → betw z 1 (wks y) = true → betw u 0 6 = true → Ans H Q [.str "told", .int (fm y + 7 * (k - 1) + d)]) ∧
    (betw x 2000 2700000000 = false → Ans H Q [.str "year", x, .bl true]) ∧ (∀ y, x = .int y → betw x 2000 2700000000 = true → betw z 1 (wks y) = false → Ans H Q [.str "week", z, .bl true]) ∧
    (∀ y, x = .int y → betw x 2000 2700000000 = true → betw z 1 (wks y) = true → betw u 0 6 = false → Ans H Q [.str "weekday", u, .bl true])) ∨
  (w = "nth" ∧ ∃ x z u v, xs = [x, z, u, v] ∧ (∀ y m k d, x = .int y → z = .int m → u = .int k → v = .int d → betw x 2000 2700000000 = true → betw z 1 12 = true → numOk u = true → betw v 0 6 = true → Ans H Q [.str "told", oV (nthD y m k d)]) ∧
    (betw x 2000 2700000000 = false → Ans H Q [.str "year", x, .bl true]) ∧ (betw x 2000 2700000000 = true → betw z 1 12 = false → Ans H Q [.str "month", z, .bl true]) ∧
    (betw x 2000 2700000000 = true → betw z 1 12 = true → numOk u = false → Ans H Q [.str "number", u, .bl true]) ∧
    (betw x 2000 2700000000 = true → betw z 1 12 = true → numOk u = true → betw v 0 6 = false → Ans H Q [.str "weekday", v, .bl true])))
def sp__law_begin (K : PySem.W.Frag) : Sp := fun vs H Q _ => ∃ y, vs = [.int y] ∧ 2000 ≤ y ∧ y < 10000000000000 ∧ Q (.int (yb y)) H
def sp__law_week (K : PySem.W.Frag) : Sp := fun vs H Q _ => ∃ n, vs = [.int n] ∧ 0 ≤ n ∧ n < 10000000000000 ∧ NewW H Q n
def sp__law_weeks (K : PySem.W.Frag) : Sp := fun vs H Q _ => ∃ y, vs = [.int y] ∧ 2000 ≤ y ∧ y < 10000000000000 ∧ Q (.int (wks y)) H
def sp__law_year (K : PySem.W.Frag) : Sp := fun vs H Q _ => ∃ b c, vs = [.ref b] ∧ BoxAt H b c ∧ c < 800000000 ∧ ∀ y H', 2000 ≤ y → y ≤ 2700000000 → Ks H H' → BoxAt H' b (c + 3) → Q (.int y) H'
def sp__law_told (K : PySem.W.Frag) : Sp := fun vs H Q _ => ∃ w a due d nm, vs = [.str w, .ref a, due, .bl nm] ∧ okD 8 d ∧ Dp K H due d ∧
  (∀ H1 b, Same H H1 → ∀ Q' : VK, (∀ v l H', Same H1 H' → Dp K H' v d → H' l = some (.lst [.str "told", v]) → Q' (.ref l) H') → sp__law_ask K [.str w, .ref a, .bl b] H1 Q' E00) ∧ ∀ H', Same H H' → Q (.bl true) H'
def sp__law_days_right (K : PySem.W.Frag) : Sp := fun vs H Q _ => ∃ b c nm, vs = [.ref b, .bl nm] ∧ BoxAt H b c ∧ c < 700000000 ∧ ∀ H', Ks H H' → BoxAt H' b (c + 40) → Q (.bl true) H'
def sp__law_months_right (K : PySem.W.Frag) : Sp := fun vs H Q _ => ∃ b c nm, vs = [.ref b, .bl nm] ∧ BoxAt H b c ∧ c < 700000000 ∧ ∀ H', Ks H H' → BoxAt H' b (c + 80) → Q (.bl true) H'
def sp__law_weeks_right (K : PySem.W.Frag) : Sp := fun vs H Q _ => ∃ b c nm, vs = [.ref b, .bl nm] ∧ BoxAt H b c ∧ c < 700000000 ∧ ∀ H', Ks H H' → BoxAt H' b (c + 80) → Q (.bl true) H'
def sp__law_refused (K : PySem.W.Frag) : Sp := fun vs H Q _ => ∃ b c nm, vs = [.ref b, .bl nm] ∧ BoxAt H b c ∧ c < 700000000 ∧ ∀ H', Ks H H' → Q (.bl true) H'
def sp_law (K : PySem.W.Frag) : Sp := fun vs H Q _ => ∃ (a : Addr) (ns : List Int), vs = [.ref a] ∧ SqL K H a (ns.map V.int) ∧ ns.length ≤ 63 ∧ ∀ H', Q (.bl true) H'
end My
set_option Elab.async false
set_option linter.all false
set_option maxRecDepth 100000
set_option maxHeartbeats 4000000
namespace My
open PySem PySem.Spec PyProof.Rows L2 Kx
structure Tx (P : Program) (K : PySem.W.Frag) (mg : Str → Option Value) : Prop where
  n_abs : mg "abs" = none
  n_bool : mg "bool" = none
  n_dict : mg "dict" = none
  n_int : mg "int" = none
  n_isinstance : mg "isinstance" = none
  n_len : mg "len" = none
  n_list : mg "list" = none
  n_max : mg "max" = none
  n_min : mg "min" = none
  n_range : mg "range" = none
  n_str : mg "str" = none
  n_sum : mg "sum" = none
  n_super : mg "super" = none
  n_tuple : mg "tuple" = none
  c_FEBRUARY : ∃ u, mg "FEBRUARY" = some u ∧ RelV (.int 2) u
  c_FIRST_WEEKDAY : ∃ u, mg "FIRST_WEEKDAY" = some u ∧ RelV (.int 5) u
  c_FIRST_YEAR : ∃ u, mg "FIRST_YEAR" = some u ∧ RelV (.int 2000) u
  c_LAST_YEAR : ∃ u, mg "LAST_YEAR" = some u ∧ RelV (.int 2700000000) u
  r_LENGTHS : ∃ u, mg "LENGTHS" = some u ∧ RelV (.ref (He.ga K "LENGTHS")) u
  c_LONG_DAYS : ∃ u, mg "LONG_DAYS" = some u ∧ RelV (.int 146097) u
  c_LONG_YEARS : ∃ u, mg "LONG_YEARS" = some u ∧ RelV (.int 400) u
  c_MOST_DAY : ∃ u, mg "MOST_DAY" = some u ∧ RelV (.int 1000000000000) u
  r_DueError : ∃ u, mg "DueError" = some u ∧ RelV (.ref (He.ga K "DueError")) u
  g_DueError : mg "DueError" = some (.ref (He.ga K "DueError"))
  x_DueError : PySem.DueE.ClsTxt K (He.ga K "DueError") (He.ga K "DueError") (He.ma K (He.ga K "DueError") "__init__")
  r_InvalidDay : ∃ u, mg "InvalidDay" = some u ∧ RelV (.ref (He.ga K "InvalidDay")) u
  g_InvalidDay : mg "InvalidDay" = some (.ref (He.ga K "InvalidDay"))
  x_InvalidDay : PySem.DueE.ClsTxt K (He.ga K "DueError") (He.ga K "InvalidDay") (He.ma K (He.ga K "DueError") "__init__")
  r_InvalidMonth : ∃ u, mg "InvalidMonth" = some u ∧ RelV (.ref (He.ga K "InvalidMonth")) u
  g_InvalidMonth : mg "InvalidMonth" = some (.ref (He.ga K "InvalidMonth"))
  x_InvalidMonth : PySem.DueE.ClsTxt K (He.ga K "DueError") (He.ga K "InvalidMonth") (He.ma K (He.ga K "DueError") "__init__")
  r_InvalidNumber : ∃ u, mg "InvalidNumber" = some u ∧ RelV (.ref (He.ga K "InvalidNumber")) u
  g_InvalidNumber : mg "InvalidNumber" = some (.ref (He.ga K "InvalidNumber"))
  x_InvalidNumber : PySem.DueE.ClsTxt K (He.ga K "DueError") (He.ga K "InvalidNumber") (He.ma K (He.ga K "DueError") "__init__")
  r_InvalidWeek : ∃ u, mg "InvalidWeek" = some u ∧ RelV (.ref (He.ga K "InvalidWeek")) u
  g_InvalidWeek : mg "InvalidWeek" = some (.ref (He.ga K "InvalidWeek"))
  x_InvalidWeek : PySem.DueE.ClsTxt K (He.ga K "DueError") (He.ga K "InvalidWeek") (He.ma K (He.ga K "DueError") "__init__")
  r_InvalidWeekday : ∃ u, mg "InvalidWeekday" = some u ∧ RelV (.ref (He.ga K "InvalidWeekday")) u
  g_InvalidWeekday : mg "InvalidWeekday" = some (.ref (He.ga K "InvalidWeekday"))
  x_InvalidWeekday : PySem.DueE.ClsTxt K (He.ga K "DueError") (He.ga K "InvalidWeekday") (He.ma K (He.ga K "DueError") "__init__")
  r_InvalidYear : ∃ u, mg "InvalidYear" = some u ∧ RelV (.ref (He.ga K "InvalidYear")) u
  g_InvalidYear : mg "InvalidYear" = some (.ref (He.ga K "InvalidYear"))
  x_InvalidYear : PySem.DueE.ClsTxt K (He.ga K "DueError") (He.ga K "InvalidYear") (He.ma K (He.ga K "DueError") "__init__")
  due : PySem.DueE.InitTxt P K (He.ga K "DueError") (He.ma K (He.ga K "DueError") "__init__")
theorem Tx.nm_DueError {X : Cx} (T : Tx X.prog X.K X.mg) (hg : Gl X "DueError" := by rfl) : Names X "DueError" (.ref (He.ga X.K "DueError")) := ⟨hg, by decide, .inl T.g_DueError⟩
theorem Tx.nm_InvalidDay {X : Cx} (T : Tx X.prog X.K X.mg) (hg : Gl X "InvalidDay" := by rfl) : Names X "InvalidDay" (.ref (He.ga X.K "InvalidDay")) := ⟨hg, by decide, .inl T.g_InvalidDay⟩
theorem Tx.nm_InvalidMonth {X : Cx} (T : Tx X.prog X.K X.mg) (hg : Gl X "InvalidMonth" := by rfl) : Names X "InvalidMonth" (.ref (He.ga X.K "InvalidMonth")) := ⟨hg, by decide, .inl T.g_InvalidMonth⟩
theorem Tx.nm_InvalidNumber {X : Cx} (T : Tx X.prog X.K X.mg) (hg : Gl X "InvalidNumber" := by rfl) : Names X "InvalidNumber" (.ref (He.ga X.K "InvalidNumber")) := ⟨hg, by decide, .inl T.g_InvalidNumber⟩
theorem Tx.nm_InvalidWeek {X : Cx} (T : Tx X.prog X.K X.mg) (hg : Gl X "InvalidWeek" := by rfl) : Names X "InvalidWeek" (.ref (He.ga X.K "InvalidWeek")) := ⟨hg, by decide, .inl T.g_InvalidWeek⟩
theorem Tx.nm_InvalidWeekday {X : Cx} (T : Tx X.prog X.K X.mg) (hg : Gl X "InvalidWeekday" := by rfl) : Names X "InvalidWeekday" (.ref (He.ga X.K "InvalidWeekday")) := ⟨hg, by decide, .inl T.g_InvalidWeekday⟩
theorem Tx.nm_InvalidYear {X : Cx} (T : Tx X.prog X.K X.mg) (hg : Gl X "InvalidYear" := by rfl) : Names X "InvalidYear" (.ref (He.ga X.K "InvalidYear")) := ⟨hg, by decide, .inl T.g_InvalidYear⟩
def g_day_of_week_weekday_week_year : {α : Type} → List α → List α := fun l => match l with
  | [x0, x1, x2] => [x2, x1, x0]
  | _ => []
def g_nth_weekday_weekday_number_month_year : {α : Type} → List α → List α := fun l => match l with
  | [x0, x1, x2, x3] => [x3, x2, x1, x0]
  | _ => []
def g_week_of_day : {α : Type} → List α → List α := fun l => match l with
  | [x0] => [x0]
  | _ => []
def g_weekday_of_day : {α : Type} → List α → List α := fun l => match l with
  | [x0] => [x0]
  | _ => []
def g_weeks_in_year : {α : Type} → List α → List α := fun l => match l with
  | [x0] => [x0]
  | _ => []
/-! is_whole: 0 value -/
abbrev s_is_whole : Stmt := top 10
abbrev N_is_whole : List Str := ["value"]
theorem sc_is_whole : FnScope ["value"] ["value"] (defScope s_is_whole) := ⟨rfl, rfl, rfl, by decide +kernel, rfl, by decide +kernel, by decide +kernel⟩
abbrev t_is_whole (K : PySem.W.Frag) (E : XK) : TS :=
  tRet (tAndV (tCB (uIsi K) (tCons (tVar 0) (tCons (tC (.ty "int")) tNil))) (tNotV (tCB (uIsi K) (tCons (tVar 0) (tCons (tC (.ty "bool")) tNil)))))
theorem d_is_whole {P : Program} {w : World} {K : PySem.W.Frag} {mg : Str → Option Value} {base : Heap} (T : Tx P K mg) 
    {f : Addr} {cdv : Value} {A : Around} {outer : List Env} {s : Shared} {H : Hp} {E : XK} (hr : Room 2 (A.deeper (envOfC "is_whole" (defScope s_is_whole) s.heap.objs.size f cdv))) :
    PSs (cxOf (L2.CX P w) P w K mg base ["value"] "is_whole" (defScope s_is_whole) f cdv A outer s H E) (defBody s_is_whole) (t_is_whole K E) := by
  have nd := sc_is_whole.nd
  have hu0 := hu0_of hr
  have hu1 := hu_of hr
  have hu64 := hu64_of hr
  have hu65 := hu65_of hr
  exact pss_one (ps_ret (pe_and (pe_callB c_isi (by rfl) T.n_isinstance (by decide +kernel) (pa_cons (pv 0) (pa_cons (pe_ty (by rfl) T.n_int (by decide +kernel)) pa_nil))) (pe_one (pe_not (pe_callB c_isi (by rfl) T.n_isinstance (by decide +kernel) (pa_cons (pv 0) (pa_cons (pe_ty (by rfl) T.n_bool (by decide +kernel)) pa_nil)))))))
/-! is_between: 0 value, 1 least, 2 most -/
abbrev s_is_between : Stmt := top 11
abbrev N_is_between : List Str := ["value", "least", "most"]
theorem sc_is_between : FnScope ["value", "least", "most"] ["value", "least", "most"] (defScope s_is_between) := ⟨rfl, rfl, rfl, by decide +kernel, rfl, by decide +kernel, by decide +kernel⟩
abbrev t_is_between (K : PySem.W.Frag) (E : XK) : TS :=
  tRet (tAndV (tKn (sp_is_whole K) (tCons (tVar 0) tNil)) (tChain uLe uLe (tVar 1) (tVar 0) (tVar 2)))
theorem d_is_between {P : Program} {w : World} {K : PySem.W.Frag} {mg : Str → Option Value} {base : Heap} (T : Tx P K mg) (c_is_whole : Kn P w K mg base 3 "is_whole" ["value"] (sp_is_whole K))
    {f : Addr} {cdv : Value} {A : Around} {outer : List Env} {s : Shared} {H : Hp} {E : XK} (hr : Room 3 (A.deeper (envOfC "is_between" (defScope s_is_between) s.heap.objs.size f cdv))) :
    PSs (cxOf (L2.CX P w) P w K mg base ["value", "least", "most"] "is_between" (defScope s_is_between) f cdv A outer s H E) (defBody s_is_between) (t_is_between K E) := by
  have nd := sc_is_between.nd
  have hu0 := hu0_of hr
  have hu1 := hu_of hr
  have hu64 := hu64_of hr
  have hu65 := hu65_of hr
  exact pss_one (ps_ret (pe_and (pe_kn c_is_whole hr (by decide) (by rfl) (pa_cons (pv 0) pa_nil)) (pe_one (pe_chain u_le u_le (pv 1) (pv 0) (pv 2)))))
/-! is_day: 0 value -/
abbrev s_is_day : Stmt := top 12
abbrev N_is_day : List Str := ["value"]
theorem sc_is_day : FnScope ["value"] ["value"] (defScope s_is_day) := ⟨rfl, rfl, rfl, by decide +kernel, rfl, by decide +kernel, by decide +kernel⟩
abbrev t_is_day (K : PySem.W.Frag) (E : XK) : TS :=
  tRet (tKn (sp_is_between K) (tCons (tVar 0) (tCons (tC (.int 0)) (tCons (tC (.int 1000000000000)) tNil))))
theorem d_is_day {P : Program} {w : World} {K : PySem.W.Frag} {mg : Str → Option Value} {base : Heap} (T : Tx P K mg) (c_is_between : Kn P w K mg base 4 "is_between" ["value", "least", "most"] (sp_is_between K))
    {f : Addr} {cdv : Value} {A : Around} {outer : List Env} {s : Shared} {H : Hp} {E : XK} (hr : Room 4 (A.deeper (envOfC "is_day" (defScope s_is_day) s.heap.objs.size f cdv))) :
    PSs (cxOf (L2.CX P w) P w K mg base ["value"] "is_day" (defScope s_is_day) f cdv A outer s H E) (defBody s_is_day) (t_is_day K E) := by
  have nd := sc_is_day.nd
  have hu0 := hu0_of hr
  have hu1 := hu_of hr
  have hu64 := hu64_of hr
  have hu65 := hu65_of hr
  exact pss_one (ps_ret (pe_kn c_is_between hr (by decide) (by rfl) (pa_cons (pv 0) (pa_cons pe_int (pa_cons (pe_cst (by rfl) T.c_MOST_DAY) pa_nil)))))
/-! is_leap_year: 0 year -/
abbrev s_is_leap_year : Stmt := top 21
abbrev N_is_leap_year : List Str := ["year"]
theorem sc_is_leap_year : FnScope ["year"] ["year"] (defScope s_is_leap_year) := ⟨rfl, rfl, rfl, by decide +kernel, rfl, by decide +kernel, by decide +kernel⟩
abbrev t_is_leap_year (K : PySem.W.Frag) (E : XK) : TS :=
  tRet (tAndV (tOp (uEq K) (tOp uMod (tVar 0) (tC (.int 4))) (tC (.int 0))) (tOrV (tOp (uNe K) (tOp uMod (tVar 0) (tC (.int 100))) (tC (.int 0))) (tOp (uEq K) (tOp uMod (tVar 0) (tC (.int 400))) (tC (.int 0)))))
theorem d_is_leap_year {P : Program} {w : World} {K : PySem.W.Frag} {mg : Str → Option Value} {base : Heap} (T : Tx P K mg) 
    {f : Addr} {cdv : Value} {A : Around} {outer : List Env} {s : Shared} {H : Hp} {E : XK} (hr : Room 2 (A.deeper (envOfC "is_leap_year" (defScope s_is_leap_year) s.heap.objs.size f cdv))) :
    PSs (cxOf (L2.CX P w) P w K mg base ["year"] "is_leap_year" (defScope s_is_leap_year) f cdv A outer s H E) (defBody s_is_leap_year) (t_is_leap_year K E) := by
  have nd := sc_is_leap_year.nd
  have hu0 := hu0_of hr
  have hu1 := hu_of hr
  have hu64 := hu64_of hr
  have hu65 := hu65_of hr
  exact pss_one (ps_ret (pe_and (pe_cmpR (u_eq hu64) (pe_op u_mod (pv 0) pe_int) pe_int (nomark _)) (pe_one (pe_or (pe_cmpR (u_ne hu64) (pe_op u_mod (pv 0) pe_int) pe_int (nomark _)) (pe_one (pe_cmpR (u_eq hu64) (pe_op u_mod (pv 0) (pe_cst (by rfl) T.c_LONG_YEARS)) pe_int (nomark _)))))))
/-! length_of: 0 year, 1 month -/
abbrev s_length_of : Stmt := top 22
abbrev N_length_of : List Str := ["year", "month"]
theorem sc_length_of : FnScope ["year", "month"] ["year", "month"] (defScope s_length_of) := ⟨rfl, rfl, rfl, by decide +kernel, rfl, by decide +kernel, by decide +kernel⟩
abbrev t_length_of (K : PySem.W.Frag) (E : XK) : TS :=
  tRet (tOp (uAdd K) (tOp (rIx K) (tC (.ref (He.ga K "LENGTHS"))) (tOp uSub (tVar 1) (tC (.int 1)))) (tCB uInt (tCons (tAndV (tOp (uEq K) (tVar 1) (tC (.int 2))) (tKn (sp_is_leap_year K) (tCons (tVar 0) tNil))) tNil)))
theorem d_length_of {P : Program} {w : World} {K : PySem.W.Frag} {mg : Str → Option Value} {base : Heap} (T : Tx P K mg) (c_is_leap_year : Kn P w K mg base 3 "is_leap_year" ["year"] (sp_is_leap_year K))
    {f : Addr} {cdv : Value} {A : Around} {outer : List Env} {s : Shared} {H : Hp} {E : XK} (hr : Room 3 (A.deeper (envOfC "length_of" (defScope s_length_of) s.heap.objs.size f cdv))) :
    PSs (cxOf (L2.CX P w) P w K mg base ["year", "month"] "length_of" (defScope s_length_of) f cdv A outer s H E) (defBody s_length_of) (t_length_of K E) := by
  have nd := sc_length_of.nd
  have hu0 := hu0_of hr
  have hu1 := hu_of hr
  have hu64 := hu64_of hr
  have hu65 := hu65_of hr
  exact pss_one (ps_ret (pe_op u_add (pe_ix ix_seq (pe_cst (by rfl) T.r_LENGTHS) (pe_op u_sub (pv 1) pe_int) (fun _ _ => rfl)) (pe_callTy c_int (by rfl) T.n_int (by decide +kernel) (pa_cons (pe_and (pe_cmpR (u_eq hu64) (pv 1) (pe_cst (by rfl) T.c_FEBRUARY) (nomark _)) (pe_one (pe_kn c_is_leap_year hr (by decide) (by rfl) (pa_cons (pv 0) pa_nil)))) pa_nil))))
/-! check_year: 0 year -/
abbrev s_check_year : Stmt := top 23
abbrev N_check_year : List Str := ["year"]
theorem sc_check_year : FnScope ["year"] ["year"] (defScope s_check_year) := ⟨rfl, rfl, rfl, by decide +kernel, rfl, by decide +kernel, by decide +kernel⟩
abbrev t_check_year (K : PySem.W.Frag) (E : XK) : TS :=
  tIfS (tNot (tTr K (tKn (sp_is_between K) (tCons (tVar 0) (tCons (tC (.int 2000)) (tCons (tC (.int 2700000000)) tNil)))))) (tRaiseDue (He.ga K "InvalidYear") (W0 E) (tCons (tVar 0) tNil)) tNext
theorem d_check_year {P : Program} {w : World} {K : PySem.W.Frag} {mg : Str → Option Value} {base : Heap} (T : Tx P K mg) (c_is_between : Kn P w K mg base 4 "is_between" ["value", "least", "most"] (sp_is_between K))
    {f : Addr} {cdv : Value} {A : Around} {outer : List Env} {s : Shared} {H : Hp} {E : XK} (hr : Room 4 (A.deeper (envOfC "check_year" (defScope s_check_year) s.heap.objs.size f cdv))) :
    PSs (cxOf (L2.CX P w) P w K mg base ["year"] "check_year" (defScope s_check_year) f cdv A outer s H E) (defBody s_check_year) (t_check_year K E) := by
  have nd := sc_check_year.nd
  have hu0 := hu0_of hr
  have hu1 := hu_of hr
  have hu64 := hu64_of hr
  have hu65 := hu65_of hr
  exact pss_one (ps_if (pt_not (pt_tr (pe_kn c_is_between hr (by decide) (by rfl) (pa_cons (pv 0) (pa_cons (pe_cst (by rfl) T.c_FIRST_YEAR) (pa_cons (pe_cst (by rfl) T.c_LAST_YEAR) pa_nil)))) (by intro _; rfl))) (pss_one (ps_raiseDue rfl T.due T.x_InvalidYear hr T.g_InvalidYear T.n_super (takes_of rfl rfl rfl rfl) (pa_cons (pv 0) pa_nil))) pss_nil)
/-! check_month: 0 month -/
abbrev s_check_month : Stmt := top 24
abbrev N_check_month : List Str := ["month"]
theorem sc_check_month : FnScope ["month"] ["month"] (defScope s_check_month) := ⟨rfl, rfl, rfl, by decide +kernel, rfl, by decide +kernel, by decide +kernel⟩
abbrev t_check_month (K : PySem.W.Frag) (E : XK) : TS :=
  tIfS (tNot (tTr K (tKn (sp_is_between K) (tCons (tVar 0) (tCons (tC (.int 1)) (tCons (tC (.int 12)) tNil)))))) (tRaiseDue (He.ga K "InvalidMonth") (W0 E) (tCons (tVar 0) tNil)) tNext
theorem d_check_month {P : Program} {w : World} {K : PySem.W.Frag} {mg : Str → Option Value} {base : Heap} (T : Tx P K mg) (c_is_between : Kn P w K mg base 4 "is_between" ["value", "least", "most"] (sp_is_between K))
    {f : Addr} {cdv : Value} {A : Around} {outer : List Env} {s : Shared} {H : Hp} {E : XK} (hr : Room 4 (A.deeper (envOfC "check_month" (defScope s_check_month) s.heap.objs.size f cdv))) :
    PSs (cxOf (L2.CX P w) P w K mg base ["month"] "check_month" (defScope s_check_month) f cdv A outer s H E) (defBody s_check_month) (t_check_month K E) := by
  have nd := sc_check_month.nd
  have hu0 := hu0_of hr
  have hu1 := hu_of hr
  have hu64 := hu64_of hr
  have hu65 := hu65_of hr
  exact pss_one (ps_if (pt_not (pt_tr (pe_kn c_is_between hr (by decide) (by rfl) (pa_cons (pv 0) (pa_cons pe_int (pa_cons pe_int pa_nil)))) (by intro _; rfl))) (pss_one (ps_raiseDue rfl T.due T.x_InvalidMonth hr T.g_InvalidMonth T.n_super (takes_of rfl rfl rfl rfl) (pa_cons (pv 0) pa_nil))) pss_nil)
/-! check_weekday: 0 weekday -/
abbrev s_check_weekday : Stmt := top 25
abbrev N_check_weekday : List Str := ["weekday"]
theorem sc_check_weekday : FnScope ["weekday"] ["weekday"] (defScope s_check_weekday) := ⟨rfl, rfl, rfl, by decide +kernel, rfl, by decide +kernel, by decide +kernel⟩
abbrev t_check_weekday (K : PySem.W.Frag) (E : XK) : TS :=
  tIfS (tNot (tTr K (tKn (sp_is_between K) (tCons (tVar 0) (tCons (tC (.int 0)) (tCons (tC (.int 6)) tNil)))))) (tRaiseDue (He.ga K "InvalidWeekday") (W0 E) (tCons (tVar 0) tNil)) tNext
theorem d_check_weekday {P : Program} {w : World} {K : PySem.W.Frag} {mg : Str → Option Value} {base : Heap} (T : Tx P K mg) (c_is_between : Kn P w K mg base 4 "is_between" ["value", "least", "most"] (sp_is_between K))
    {f : Addr} {cdv : Value} {A : Around} {outer : List Env} {s : Shared} {H : Hp} {E : XK} (hr : Room 4 (A.deeper (envOfC "check_weekday" (defScope s_check_weekday) s.heap.objs.size f cdv))) :
    PSs (cxOf (L2.CX P w) P w K mg base ["weekday"] "check_weekday" (defScope s_check_weekday) f cdv A outer s H E) (defBody s_check_weekday) (t_check_weekday K E) := by
  have nd := sc_check_weekday.nd
  have hu0 := hu0_of hr
  have hu1 := hu_of hr
  have hu64 := hu64_of hr
  have hu65 := hu65_of hr
  exact pss_one (ps_if (pt_not (pt_tr (pe_kn c_is_between hr (by decide) (by rfl) (pa_cons (pv 0) (pa_cons pe_int (pa_cons pe_int pa_nil)))) (by intro _; rfl))) (pss_one (ps_raiseDue rfl T.due T.x_InvalidWeekday hr T.g_InvalidWeekday T.n_super (takes_of rfl rfl rfl rfl) (pa_cons (pv 0) pa_nil))) pss_nil)
/-! check_day: 0 day -/
abbrev s_check_day : Stmt := top 26
abbrev N_check_day : List Str := ["day"]
theorem sc_check_day : FnScope ["day"] ["day"] (defScope s_check_day) := ⟨rfl, rfl, rfl, by decide +kernel, rfl, by decide +kernel, by decide +kernel⟩
abbrev t_check_day (K : PySem.W.Frag) (E : XK) : TS :=
  tIfS (tNot (tTr K (tKn (sp_is_day K) (tCons (tVar 0) tNil)))) (tRaiseDue (He.ga K "InvalidDay") (W0 E) (tCons (tVar 0) tNil)) tNext
theorem d_check_day {P : Program} {w : World} {K : PySem.W.Frag} {mg : Str → Option Value} {base : Heap} (T : Tx P K mg) (c_is_day : Kn P w K mg base 5 "is_day" ["value"] (sp_is_day K))
    {f : Addr} {cdv : Value} {A : Around} {outer : List Env} {s : Shared} {H : Hp} {E : XK} (hr : Room 5 (A.deeper (envOfC "check_day" (defScope s_check_day) s.heap.objs.size f cdv))) :
    PSs (cxOf (L2.CX P w) P w K mg base ["day"] "check_day" (defScope s_check_day) f cdv A outer s H E) (defBody s_check_day) (t_check_day K E) := by
  have nd := sc_check_day.nd
  have hu0 := hu0_of hr
  have hu1 := hu_of hr
  have hu64 := hu64_of hr
  have hu65 := hu65_of hr
  exact pss_one (ps_if (pt_not (pt_tr (pe_kn c_is_day hr (by decide) (by rfl) (pa_cons (pv 0) pa_nil)) (by intro _; rfl))) (pss_one (ps_raiseDue rfl T.due T.x_InvalidDay hr T.g_InvalidDay T.n_super (takes_of rfl rfl rfl rfl) (pa_cons (pv 0) pa_nil))) pss_nil)
/-! year_begin: 0 year, 1 past -/
abbrev s_year_begin : Stmt := top 27
abbrev N_year_begin : List Str := ["year", "past"]
theorem sc_year_begin : FnScope ["year", "past"] ["year"] (defScope s_year_begin) := ⟨rfl, rfl, rfl, by decide +kernel, rfl, by decide +kernel, by decide +kernel⟩
abbrev t_year_begin (K : PySem.W.Frag) (E : XK) : TS :=
  tSeq (tAsg (tOp uSub (tVar 0) (tC (.int 2000))) (gName 1))
    (tRet (tOp (uAdd K) (tOp uSub (tOp (uAdd K) (tOp uMul (tC (.int 365)) (tVar 1)) (tOp uFdv (tOp (uAdd K) (tVar 1) (tC (.int 3))) (tC (.int 4)))) (tOp uFdv (tOp (uAdd K) (tVar 1) (tC (.int 99))) (tC (.int 100)))) (tOp uFdv (tOp (uAdd K) (tVar 1) (tC (.int 399))) (tC (.int 400)))))
theorem d_year_begin {P : Program} {w : World} {K : PySem.W.Frag} {mg : Str → Option Value} {base : Heap} (T : Tx P K mg) 
    {f : Addr} {cdv : Value} {A : Around} {outer : List Env} {s : Shared} {H : Hp} {E : XK} (hr : Room 2 (A.deeper (envOfC "year_begin" (defScope s_year_begin) s.heap.objs.size f cdv))) :
    PSs (cxOf (L2.CX P w) P w K mg base ["year", "past"] "year_begin" (defScope s_year_begin) f cdv A outer s H E) (defBody s_year_begin) (t_year_begin K E) := by
  have nd := sc_year_begin.nd
  have hu0 := hu0_of hr
  have hu1 := hu_of hr
  have hu64 := hu64_of hr
  have hu65 := hu65_of hr
  exact pss_cons (ps_asg (pe_op u_sub (pv 0) (pe_cst (by rfl) T.c_FIRST_YEAR)) (pg_name (i := 1) nd rfl (Or.inl rfl)))
      (pss_one (ps_ret (pe_op u_add (pe_op u_sub (pe_op u_add (pe_op u_mul pe_int (pv 1)) (pe_op u_fdv (pe_op u_add (pv 1) pe_int) pe_int)) (pe_op u_fdv (pe_op u_add (pv 1) pe_int) pe_int)) (pe_op u_fdv (pe_op u_add (pv 1) pe_int) (pe_cst (by rfl) T.c_LONG_YEARS)))))
/-! month_begin: 0 year, 1 month, 2 ahead -/
abbrev s_month_begin : Stmt := top 28
abbrev N_month_begin : List Str := ["year", "month", "ahead"]
theorem sc_month_begin : FnScope ["year", "month", "ahead"] ["year", "month"] (defScope s_month_begin) := ⟨rfl, rfl, rfl, by decide +kernel, rfl, by decide +kernel, by decide +kernel⟩
abbrev t_month_begin (K : PySem.W.Frag) (E : XK) : TS :=
  tRet (tOp (uAdd K) (tKn (sp_year_begin K) (tCons (tVar 0) tNil)) (tCB (uSum K) (tCons (tLc (iRng2 (tCons (tC (.int 1)) (tCons (tVar 1) tNil))) (gName 2) tYes (tKn (sp_length_of K) (tCons (tVar 0) (tCons (tVar 2) tNil))) [2]) tNil)))
theorem d_month_begin {P : Program} {w : World} {K : PySem.W.Frag} {mg : Str → Option Value} {base : Heap} (T : Tx P K mg) (c_length_of : Kn P w K mg base 4 "length_of" ["year", "month"] (sp_length_of K))
    (c_year_begin : Kn P w K mg base 3 "year_begin" ["year"] (sp_year_begin K))
    {f : Addr} {cdv : Value} {A : Around} {outer : List Env} {s : Shared} {H : Hp} {E : XK} (hr : Room 4 (A.deeper (envOfC "month_begin" (defScope s_month_begin) s.heap.objs.size f cdv))) :
    PSs (cxOf (L2.CX P w) P w K mg base ["year", "month", "ahead"] "month_begin" (defScope s_month_begin) f cdv A outer s H E) (defBody s_month_begin) (t_month_begin K E) := by
  have nd := sc_month_begin.nd
  have hu0 := hu0_of hr
  have hu1 := hu_of hr
  have hu64 := hu64_of hr
  have hu65 := hu65_of hr
  exact pss_one (ps_ret (pe_op u_add (pe_kn c_year_begin hr (by decide) (by rfl) (pa_cons (pv 0) pa_nil)) (pe_callB (c_sum rfl) (by rfl) T.n_sum (by decide +kernel) (pa_cons (pe_lc (own := [("ahead", 2)]) rfl nd (pi_range2 (by rfl) T.n_range (pa_cons pe_int (pa_cons (pv 1) pa_nil))) (blkOk_by (N := ["year", "month", "ahead"]) (sc := defScope s_month_begin) (own := [("ahead", 2)]) (by decide +kernel)) (fun _ _ _ _ _ => pg_name (i := 2) nd rfl (Or.inl rfl)) (fun _ _ _ _ _ => pts_nil) (fun _ _ _ _ _ => pe_kn c_length_of hr (by decide) (by rfl) (pa_cons (pv 0) (pa_cons (pv 2) pa_nil)))) pa_nil))))
/-! year_of: 0 day, 1 year -/
abbrev s_year_of : Stmt := top 29
abbrev N_year_of : List Str := ["day", "year"]
theorem sc_year_of : FnScope ["day", "year"] ["day"] (defScope s_year_of) := ⟨rfl, rfl, rfl, by decide +kernel, rfl, by decide +kernel, by decide +kernel⟩
abbrev t_year_of (K : PySem.W.Frag) (E : XK) : TS :=
  tSeq (tAsg (tOp (uAdd K) (tOp (uAdd K) (tC (.int 2000)) (tOp uMul (tOp uFdv (tVar 0) (tC (.int 146097))) (tC (.int 400)))) (tOp uFdv (tOp uMod (tVar 0) (tC (.int 146097))) (tC (.int 366)))) (gName 1))
    (tSeq (tWhile (tTest (tOp uLe (tKn (sp_year_begin K) (tCons (tOp (uAdd K) (tVar 1) (tC (.int 1))) tNil)) (tVar 0))) (tAug 1 (tC (.int 1)) tpAdd))
    (tRet (tVar 1)))
theorem d_year_of {P : Program} {w : World} {K : PySem.W.Frag} {mg : Str → Option Value} {base : Heap} (T : Tx P K mg) (c_year_begin : Kn P w K mg base 3 "year_begin" ["year"] (sp_year_begin K))
    {f : Addr} {cdv : Value} {A : Around} {outer : List Env} {s : Shared} {H : Hp} {E : XK} (hr : Room 3 (A.deeper (envOfC "year_of" (defScope s_year_of) s.heap.objs.size f cdv))) :
    PSs (cxOf (L2.CX P w) P w K mg base ["day", "year"] "year_of" (defScope s_year_of) f cdv A outer s H E) (defBody s_year_of) (t_year_of K E) := by
  have nd := sc_year_of.nd
  have hu0 := hu0_of hr
  have hu1 := hu_of hr
  have hu64 := hu64_of hr
  have hu65 := hu65_of hr
  exact pss_cons (ps_asg (pe_op u_add (pe_op u_add (pe_cst (by rfl) T.c_FIRST_YEAR) (pe_op u_mul (pe_op u_fdv (pv 0) (pe_cst (by rfl) T.c_LONG_DAYS)) (pe_cst (by rfl) T.c_LONG_YEARS))) (pe_op u_fdv (pe_op u_mod (pv 0) (pe_cst (by rfl) T.c_LONG_DAYS)) pe_int)) (pg_name (i := 1) nd rfl (Or.inl rfl)))
      (pss_cons (ps_while (passes_of rfl) (pt_cmpR u_le (pe_kn c_year_begin hr (by decide) (by rfl) (pa_cons (pe_op u_add (pv 1) pe_int) pa_nil)) (pv 0) (nomark _)) (pss_one (ps_aug (i := 1) nd rfl (Or.inl rfl) pe_int ip_add)))
      (pss_one (ps_ret (pv 1))))
/-! date_at: 0 day, 1 year, 2 month, 3 left -/
abbrev s_date_at : Stmt := top 30
abbrev N_date_at : List Str := ["day", "year", "month", "left"]
theorem sc_date_at : FnScope ["day", "year", "month", "left"] ["day"] (defScope s_date_at) := ⟨rfl, rfl, rfl, by decide +kernel, rfl, by decide +kernel, by decide +kernel⟩
abbrev t_date_at (K : PySem.W.Frag) (E : XK) : TS :=
  tSeq (tPar 1 2 (tCons (tKn (sp_year_of K) (tCons (tVar 0) tNil)) (tCons (tC (.int 1)) tNil)))
    (tSeq (tAsg (tOp uSub (tVar 0) (tKn (sp_year_begin K) (tCons (tVar 1) tNil))) (gName 3))
    (tSeq (tWhile (tTest (tOp uGe (tVar 3) (tKn (sp_length_of K) (tCons (tVar 1) (tCons (tVar 2) tNil))))) (tSeq (tAug 3 (tKn (sp_length_of K) (tCons (tVar 1) (tCons (tVar 2) tNil))) tpSub)
    (tAug 2 (tC (.int 1)) tpAdd)))
    (tRet (tTup (tCons (tVar 1) (tCons (tVar 2) (tCons (tOp (uAdd K) (tVar 3) (tC (.int 1))) tNil)))))))
theorem d_date_at {P : Program} {w : World} {K : PySem.W.Frag} {mg : Str → Option Value} {base : Heap} (T : Tx P K mg) (c_length_of : Kn P w K mg base 4 "length_of" ["year", "month"] (sp_length_of K))
    (c_year_begin : Kn P w K mg base 3 "year_begin" ["year"] (sp_year_begin K))
    (c_year_of : Kn P w K mg base 4 "year_of" ["day"] (sp_year_of K))
    {f : Addr} {cdv : Value} {A : Around} {outer : List Env} {s : Shared} {H : Hp} {E : XK} (hr : Room 4 (A.deeper (envOfC "date_at" (defScope s_date_at) s.heap.objs.size f cdv))) :
    PSs (cxOf (L2.CX P w) P w K mg base ["day", "year", "month", "left"] "date_at" (defScope s_date_at) f cdv A outer s H E) (defBody s_date_at) (t_date_at K E) := by
  have nd := sc_date_at.nd
  have hu0 := hu0_of hr
  have hu1 := hu_of hr
  have hu64 := hu64_of hr
  have hu65 := hu65_of hr
  exact pss_cons (ps_par rfl nd rfl rfl (by decide) rfl rfl (pa_cons (pe_kn c_year_of hr (by decide) (by rfl) (pa_cons (pv 0) pa_nil)) (pa_cons pe_int pa_nil)) (by rfl))
      (pss_cons (ps_asg (pe_op u_sub (pv 0) (pe_kn c_year_begin hr (by decide) (by rfl) (pa_cons (pv 1) pa_nil))) (pg_name (i := 3) nd rfl (Or.inl rfl)))
      (pss_cons (ps_while (passes_of rfl) (pt_cmpR u_ge (pv 3) (pe_kn c_length_of hr (by decide) (by rfl) (pa_cons (pv 1) (pa_cons (pv 2) pa_nil))) (nomark _)) (pss_cons (ps_aug (i := 3) nd rfl (Or.inl rfl) (pe_kn c_length_of hr (by decide) (by rfl) (pa_cons (pv 1) (pa_cons (pv 2) pa_nil))) ip_sub)
      (pss_one (ps_aug (i := 2) nd rfl (Or.inl rfl) pe_int ip_add))))
      (pss_one (ps_ret (pe_tup (pa_cons (pv 1) (pa_cons (pv 2) (pa_cons (pe_op u_add (pv 3) pe_int) pa_nil))))))))
/-! weekday_at: 0 day -/
abbrev s_weekday_at : Stmt := top 31
abbrev N_weekday_at : List Str := ["day"]
theorem sc_weekday_at : FnScope ["day"] ["day"] (defScope s_weekday_at) := ⟨rfl, rfl, rfl, by decide +kernel, rfl, by decide +kernel, by decide +kernel⟩
abbrev t_weekday_at (K : PySem.W.Frag) (E : XK) : TS :=
  tRet (tOp uMod (tOp (uAdd K) (tVar 0) (tC (.int 5))) (tC (.int 7)))
theorem d_weekday_at {P : Program} {w : World} {K : PySem.W.Frag} {mg : Str → Option Value} {base : Heap} (T : Tx P K mg) 
    {f : Addr} {cdv : Value} {A : Around} {outer : List Env} {s : Shared} {H : Hp} {E : XK} (hr : Room 2 (A.deeper (envOfC "weekday_at" (defScope s_weekday_at) s.heap.objs.size f cdv))) :
    PSs (cxOf (L2.CX P w) P w K mg base ["day"] "weekday_at" (defScope s_weekday_at) f cdv A outer s H E) (defBody s_weekday_at) (t_weekday_at K E) := by
  have nd := sc_weekday_at.nd
  have hu0 := hu0_of hr
  have hu1 := hu_of hr
  have hu64 := hu64_of hr
  have hu65 := hu65_of hr
  exact pss_one (ps_ret (pe_op u_mod (pe_op u_add (pv 0) (pe_cst (by rfl) T.c_FIRST_WEEKDAY)) pe_int))
/-! weekday_of: 0 day -/
abbrev s_weekday_of : Stmt := top 32
abbrev N_weekday_of : List Str := ["day"]
theorem sc_weekday_of : FnScope ["day"] ["day"] (defScope s_weekday_of) := ⟨rfl, rfl, rfl, by decide +kernel, rfl, by decide +kernel, by decide +kernel⟩
abbrev t_weekday_of (K : PySem.W.Frag) (E : XK) : TS :=
  tSeq (tDrop (tKx (sp_check_day K) (W0 E) (tCons (tVar 0) tNil)))
    (tRet (tKn (sp_weekday_at K) (tCons (tVar 0) tNil)))
theorem d_weekday_of {P : Program} {w : World} {K : PySem.W.Frag} {mg : Str → Option Value} {base : Heap} (T : Tx P K mg) (c_check_day : Kn P w K mg base 6 "check_day" ["day"] (sp_check_day K))
    (c_weekday_at : Kn P w K mg base 3 "weekday_at" ["day"] (sp_weekday_at K))
    {f : Addr} {cdv : Value} {A : Around} {outer : List Env} {s : Shared} {H : Hp} {E : XK} (hr : Room 6 (A.deeper (envOfC "weekday_of" (defScope s_weekday_of) s.heap.objs.size f cdv))) :
    PSs (cxOf (L2.CX P w) P w K mg base ["day"] "weekday_of" (defScope s_weekday_of) f cdv A outer s H E) (defBody s_weekday_of) (t_weekday_of K E) := by
  have nd := sc_weekday_of.nd
  have hu0 := hu0_of hr
  have hu1 := hu_of hr
  have hu64 := hu64_of hr
  have hu65 := hu65_of hr
  exact pss_cons (ps_expr (pe_kx c_check_day hr (by decide) (takes_of rfl rfl rfl rfl) (by rfl) (pa_cons (pv 0) pa_nil)))
      (pss_one (ps_ret (pe_kn c_weekday_at hr (by decide) (by rfl) (pa_cons (pv 0) pa_nil))))
/-! nth_in_month: 0 length, 1 first, 2 number, 3 weekday, 4 numbers -/
abbrev s_nth_in_month : Stmt := top 33
abbrev N_nth_in_month : List Str := ["length", "first", "number", "weekday", "numbers"]
theorem sc_nth_in_month : FnScope ["length", "first", "number", "weekday", "numbers"] ["length", "first", "number", "weekday"] (defScope s_nth_in_month) := ⟨rfl, rfl, rfl, by decide +kernel, rfl, by decide +kernel, by decide +kernel⟩
abbrev t_nth_in_month (K : PySem.W.Frag) (E : XK) : TS :=
  tSeq (tAsg (tLstRg3 (tCons (tOp (uAdd K) (tC (.int 1)) (tOp uMod (tOp uSub (tVar 3) (tVar 1)) (tC (.int 7)))) (tCons (tOp (uAdd K) (tVar 0) (tC (.int 1))) (tCons (tC (.int 7)) tNil)))) (gName 4))
    (tSeq (tIfS (tTest (tOp uGt (tCB uAbs (tCons (tVar 2) tNil)) (tCB (uLen K) (tCons (tVar 4) tNil)))) (tRet (tC .non)) tNext)
    (tRet (tIf (tTest (tOp uGt (tVar 2) (tC (.int 0)))) (tOp (rIx K) (tVar 4) (tOp uSub (tVar 2) (tC (.int 1)))) (tOp (rIx K) (tVar 4) (tVar 2)))))
theorem d_nth_in_month {P : Program} {w : World} {K : PySem.W.Frag} {mg : Str → Option Value} {base : Heap} (T : Tx P K mg) 
    {f : Addr} {cdv : Value} {A : Around} {outer : List Env} {s : Shared} {H : Hp} {E : XK} (hr : Room 2 (A.deeper (envOfC "nth_in_month" (defScope s_nth_in_month) s.heap.objs.size f cdv))) :
    PSs (cxOf (L2.CX P w) P w K mg base ["length", "first", "number", "weekday", "numbers"] "nth_in_month" (defScope s_nth_in_month) f cdv A outer s H E) (defBody s_nth_in_month) (t_nth_in_month K E) := by
  have nd := sc_nth_in_month.nd
  have hu0 := hu0_of hr
  have hu1 := hu_of hr
  have hu64 := hu64_of hr
  have hu65 := hu65_of hr
  exact pss_cons (ps_asg (pe_listRg3 rfl (by rfl) T.n_list (by rfl) T.n_range (pa_cons (pe_op u_add pe_int (pe_op u_mod (pe_op u_sub (pv 3) (pv 1)) pe_int)) (pa_cons (pe_op u_add (pv 0) pe_int) (pa_cons pe_int pa_nil)))) (pg_name (i := 4) nd rfl (Or.inl rfl)))
      (pss_cons (ps_if (pt_cmpR u_gt (pe_callB c_abs (by rfl) T.n_abs (by decide +kernel) (pa_cons (pv 2) pa_nil)) (pe_callB c_len (by rfl) T.n_len (by decide +kernel) (pa_cons (pv 4) pa_nil)) (nomark _)) (pss_one (ps_ret pe_non)) pss_nil)
      (pss_one (ps_ret (pe_ifExp (pt_cmpR u_gt (pv 2) pe_int (nomark _)) (pe_ix ix_seq (pv 4) (pe_op u_sub (pv 2) pe_int) (fun _ _ => rfl)) (pe_ix ix_seq (pv 4) (pv 2) (fun _ _ => rfl))))))
/-! nth_weekday: 0 year, 1 month, 2 number, 3 weekday, 4 begin, 5 found -/
abbrev s_nth_weekday : Stmt := top 34
abbrev N_nth_weekday : List Str := ["year", "month", "number", "weekday", "begin", "found"]
theorem sc_nth_weekday : FnScope ["year", "month", "number", "weekday", "begin", "found"] ["year", "month", "number", "weekday"] (defScope s_nth_weekday) := ⟨rfl, rfl, rfl, by decide +kernel, rfl, by decide +kernel, by decide +kernel⟩
abbrev t_nth_weekday (K : PySem.W.Frag) (E : XK) : TS :=
  tSeq (tDrop (tKx (sp_check_year K) (W0 E) (tCons (tVar 0) tNil)))
    (tSeq (tDrop (tKx (sp_check_month K) (W0 E) (tCons (tVar 1) tNil)))
    (tSeq (tIfS (tOr (tNot (tTr K (tKn (sp_is_between K) (tCons (tVar 2) (tCons (tUn uNeg (tC (.int 5))) (tCons (tC (.int 5)) tNil)))))) (tTest (tOp (uEq K) (tVar 2) (tC (.int 0))))) (tRaiseDue (He.ga K "InvalidNumber") (W0 E) (tCons (tVar 2) tNil)) tNext)
    (tSeq (tDrop (tKx (sp_check_weekday K) (W0 E) (tCons (tVar 3) tNil)))
    (tSeq (tAsg (tKn (sp_month_begin K) (tCons (tVar 0) (tCons (tVar 1) tNil))) (gName 4))
    (tSeq (tAsg (tKn (sp_nth_in_month K) (tCons (tKn (sp_length_of K) (tCons (tVar 0) (tCons (tVar 1) tNil))) (tCons (tKn (sp_weekday_at K) (tCons (tVar 4) tNil)) (tCons (tVar 2) (tCons (tVar 3) tNil))))) (gName 5))
    (tRet (tIf (tTest (tOp uIs (tVar 5) (tC .non))) (tC .non) (tOp uSub (tOp (uAdd K) (tVar 4) (tVar 5)) (tC (.int 1))))))))))
theorem d_nth_weekday {P : Program} {w : World} {K : PySem.W.Frag} {mg : Str → Option Value} {base : Heap} (T : Tx P K mg) (c_check_month : Kn P w K mg base 5 "check_month" ["month"] (sp_check_month K))
    (c_check_weekday : Kn P w K mg base 5 "check_weekday" ["weekday"] (sp_check_weekday K))
    (c_check_year : Kn P w K mg base 5 "check_year" ["year"] (sp_check_year K))
    (c_is_between : Kn P w K mg base 4 "is_between" ["value", "least", "most"] (sp_is_between K))
    (c_length_of : Kn P w K mg base 4 "length_of" ["year", "month"] (sp_length_of K))
    (c_month_begin : Kn P w K mg base 5 "month_begin" ["year", "month"] (sp_month_begin K))
    (c_nth_in_month : Kn P w K mg base 3 "nth_in_month" ["length", "first", "number", "weekday"] (sp_nth_in_month K))
    (c_weekday_at : Kn P w K mg base 3 "weekday_at" ["day"] (sp_weekday_at K))
    {f : Addr} {cdv : Value} {A : Around} {outer : List Env} {s : Shared} {H : Hp} {E : XK} (hr : Room 5 (A.deeper (envOfC "nth_weekday" (defScope s_nth_weekday) s.heap.objs.size f cdv))) :
    PSs (cxOf (L2.CX P w) P w K mg base ["year", "month", "number", "weekday", "begin", "found"] "nth_weekday" (defScope s_nth_weekday) f cdv A outer s H E) (defBody s_nth_weekday) (t_nth_weekday K E) := by
  have nd := sc_nth_weekday.nd
  have hu0 := hu0_of hr
  have hu1 := hu_of hr
  have hu64 := hu64_of hr
  have hu65 := hu65_of hr
  exact pss_cons (ps_expr (pe_kx c_check_year hr (by decide) (takes_of rfl rfl rfl rfl) (by rfl) (pa_cons (pv 0) pa_nil)))
      (pss_cons (ps_expr (pe_kx c_check_month hr (by decide) (takes_of rfl rfl rfl rfl) (by rfl) (pa_cons (pv 1) pa_nil)))
      (pss_cons (ps_if (PW.pt (pw_or (pt_not (pt_tr (pe_kn c_is_between hr (by decide) (by rfl) (pa_cons (pv 2) (pa_cons (pe_un u_neg pe_int) (pa_cons pe_int pa_nil)))) (by intro _; rfl))) (pw_or1 (pt_cmpR (u_eq hu64) (pv 2) pe_int (nomark _))))) (pss_one (ps_raiseDue rfl T.due T.x_InvalidNumber hr T.g_InvalidNumber T.n_super (takes_of rfl rfl rfl rfl) (pa_cons (pv 2) pa_nil))) pss_nil)
      (pss_cons (ps_expr (pe_kx c_check_weekday hr (by decide) (takes_of rfl rfl rfl rfl) (by rfl) (pa_cons (pv 3) pa_nil)))
      (pss_cons (ps_asg (pe_kn c_month_begin hr (by decide) (by rfl) (pa_cons (pv 0) (pa_cons (pv 1) pa_nil))) (pg_name (i := 4) nd rfl (Or.inl rfl)))
      (pss_cons (ps_asg (pe_kn c_nth_in_month hr (by decide) (by rfl) (pa_cons (pe_kn c_length_of hr (by decide) (by rfl) (pa_cons (pv 0) (pa_cons (pv 1) pa_nil))) (pa_cons (pe_kn c_weekday_at hr (by decide) (by rfl) (pa_cons (pv 4) pa_nil)) (pa_cons (pv 2) (pa_cons (pv 3) pa_nil))))) (pg_name (i := 5) nd rfl (Or.inl rfl)))
      (pss_one (ps_ret (pe_ifExp (pt_cmpR u_is (pv 5) pe_non (nomark _)) pe_non (pe_op u_sub (pe_op u_add (pv 4) (pv 5)) pe_int)))))))))
/-! first_monday: 0 year, 1 fourth -/
abbrev s_first_monday : Stmt := top 36
abbrev N_first_monday : List Str := ["year", "fourth"]
theorem sc_first_monday : FnScope ["year", "fourth"] ["year"] (defScope s_first_monday) := ⟨rfl, rfl, rfl, by decide +kernel, rfl, by decide +kernel, by decide +kernel⟩
abbrev t_first_monday (K : PySem.W.Frag) (E : XK) : TS :=
  tSeq (tAsg (tOp (uAdd K) (tKn (sp_year_begin K) (tCons (tVar 0) tNil)) (tC (.int 3))) (gName 1))
    (tRet (tOp uSub (tVar 1) (tKn (sp_weekday_at K) (tCons (tVar 1) tNil))))
theorem d_first_monday {P : Program} {w : World} {K : PySem.W.Frag} {mg : Str → Option Value} {base : Heap} (T : Tx P K mg) (c_weekday_at : Kn P w K mg base 3 "weekday_at" ["day"] (sp_weekday_at K))
    (c_year_begin : Kn P w K mg base 3 "year_begin" ["year"] (sp_year_begin K))
    {f : Addr} {cdv : Value} {A : Around} {outer : List Env} {s : Shared} {H : Hp} {E : XK} (hr : Room 3 (A.deeper (envOfC "first_monday" (defScope s_first_monday) s.heap.objs.size f cdv))) :
    PSs (cxOf (L2.CX P w) P w K mg base ["year", "fourth"] "first_monday" (defScope s_first_monday) f cdv A outer s H E) (defBody s_first_monday) (t_first_monday K E) := by
  have nd := sc_first_monday.nd
  have hu0 := hu0_of hr
  have hu1 := hu_of hr
  have hu64 := hu64_of hr
  have hu65 := hu65_of hr
  exact pss_cons (ps_asg (pe_op u_add (pe_kn c_year_begin hr (by decide) (by rfl) (pa_cons (pv 0) pa_nil)) pe_int) (pg_name (i := 1) nd rfl (Or.inl rfl)))
      (pss_one (ps_ret (pe_op u_sub (pv 1) (pe_kn c_weekday_at hr (by decide) (by rfl) (pa_cons (pv 1) pa_nil)))))
/-! weeks_of: 0 year -/
abbrev s_weeks_of : Stmt := top 37
abbrev N_weeks_of : List Str := ["year"]
theorem sc_weeks_of : FnScope ["year"] ["year"] (defScope s_weeks_of) := ⟨rfl, rfl, rfl, by decide +kernel, rfl, by decide +kernel, by decide +kernel⟩
abbrev t_weeks_of (K : PySem.W.Frag) (E : XK) : TS :=
  tRet (tOp uFdv (tOp uSub (tKn (sp_first_monday K) (tCons (tOp (uAdd K) (tVar 0) (tC (.int 1))) tNil)) (tKn (sp_first_monday K) (tCons (tVar 0) tNil))) (tC (.int 7)))
theorem d_weeks_of {P : Program} {w : World} {K : PySem.W.Frag} {mg : Str → Option Value} {base : Heap} (T : Tx P K mg) (c_first_monday : Kn P w K mg base 4 "first_monday" ["year"] (sp_first_monday K))
    {f : Addr} {cdv : Value} {A : Around} {outer : List Env} {s : Shared} {H : Hp} {E : XK} (hr : Room 4 (A.deeper (envOfC "weeks_of" (defScope s_weeks_of) s.heap.objs.size f cdv))) :
    PSs (cxOf (L2.CX P w) P w K mg base ["year"] "weeks_of" (defScope s_weeks_of) f cdv A outer s H E) (defBody s_weeks_of) (t_weeks_of K E) := by
  have nd := sc_weeks_of.nd
  have hu0 := hu0_of hr
  have hu1 := hu_of hr
  have hu64 := hu64_of hr
  have hu65 := hu65_of hr
  exact pss_one (ps_ret (pe_op u_fdv (pe_op u_sub (pe_kn c_first_monday hr (by decide) (by rfl) (pa_cons (pe_op u_add (pv 0) pe_int) pa_nil)) (pe_kn c_first_monday hr (by decide) (by rfl) (pa_cons (pv 0) pa_nil))) pe_int))
/-! week_of: 0 day, 1 year -/
abbrev s_week_of : Stmt := top 38
abbrev N_week_of : List Str := ["day", "year"]
theorem sc_week_of : FnScope ["day", "year"] ["day"] (defScope s_week_of) := ⟨rfl, rfl, rfl, by decide +kernel, rfl, by decide +kernel, by decide +kernel⟩
abbrev t_week_of (K : PySem.W.Frag) (E : XK) : TS :=
  tSeq (tDrop (tKx (sp_check_day K) (W0 E) (tCons (tVar 0) tNil)))
    (tSeq (tAsg (tOp (rIx K) (tKn (sp_date_at K) (tCons (tVar 0) tNil)) (tC (.int 0))) (gName 1))
    (tSeq (tIfS (tTest (tOp uGe (tVar 0) (tKn (sp_first_monday K) (tCons (tOp (uAdd K) (tVar 1) (tC (.int 1))) tNil)))) (tAug 1 (tC (.int 1)) tpAdd) (tIfS (tTest (tOp (uLt K) (tVar 0) (tKn (sp_first_monday K) (tCons (tVar 1) tNil)))) (tAug 1 (tC (.int 1)) tpSub) tNext))
    (tRet (tTup (tCons (tVar 1) (tCons (tOp (uAdd K) (tOp uFdv (tOp uSub (tVar 0) (tKn (sp_first_monday K) (tCons (tVar 1) tNil))) (tC (.int 7))) (tC (.int 1))) tNil))))))
theorem d_week_of {P : Program} {w : World} {K : PySem.W.Frag} {mg : Str → Option Value} {base : Heap} (T : Tx P K mg) (c_check_day : Kn P w K mg base 6 "check_day" ["day"] (sp_check_day K))
    (c_date_at : Kn P w K mg base 5 "date_at" ["day"] (sp_date_at K))
    (c_first_monday : Kn P w K mg base 4 "first_monday" ["year"] (sp_first_monday K))
    {f : Addr} {cdv : Value} {A : Around} {outer : List Env} {s : Shared} {H : Hp} {E : XK} (hr : Room 6 (A.deeper (envOfC "week_of" (defScope s_week_of) s.heap.objs.size f cdv))) :
    PSs (cxOf (L2.CX P w) P w K mg base ["day", "year"] "week_of" (defScope s_week_of) f cdv A outer s H E) (defBody s_week_of) (t_week_of K E) := by
  have nd := sc_week_of.nd
  have hu0 := hu0_of hr
  have hu1 := hu_of hr
  have hu64 := hu64_of hr
  have hu65 := hu65_of hr
  exact pss_cons (ps_expr (pe_kx c_check_day hr (by decide) (takes_of rfl rfl rfl rfl) (by rfl) (pa_cons (pv 0) pa_nil)))
      (pss_cons (ps_asg (pe_ix ix_seq (pe_kn c_date_at hr (by decide) (by rfl) (pa_cons (pv 0) pa_nil)) pe_int (fun _ _ => rfl)) (pg_name (i := 1) nd rfl (Or.inl rfl)))
      (pss_cons (ps_if (pt_cmpR u_ge (pv 0) (pe_kn c_first_monday hr (by decide) (by rfl) (pa_cons (pe_op u_add (pv 1) pe_int) pa_nil)) (nomark _)) (pss_one (ps_aug (i := 1) nd rfl (Or.inl rfl) pe_int ip_add)) (pss_one (ps_if (pt_cmpR (u_lt hu0) (pv 0) (pe_kn c_first_monday hr (by decide) (by rfl) (pa_cons (pv 1) pa_nil)) (nomark _)) (pss_one (ps_aug (i := 1) nd rfl (Or.inl rfl) pe_int ip_sub)) pss_nil)))
      (pss_one (ps_ret (pe_tup (pa_cons (pv 1) (pa_cons (pe_op u_add (pe_op u_fdv (pe_op u_sub (pv 0) (pe_kn c_first_monday hr (by decide) (by rfl) (pa_cons (pv 1) pa_nil))) pe_int) pe_int) pa_nil)))))))
/-! weeks_in: 0 year -/
abbrev s_weeks_in : Stmt := top 39
abbrev N_weeks_in : List Str := ["year"]
theorem sc_weeks_in : FnScope ["year"] ["year"] (defScope s_weeks_in) := ⟨rfl, rfl, rfl, by decide +kernel, rfl, by decide +kernel, by decide +kernel⟩
abbrev t_weeks_in (K : PySem.W.Frag) (E : XK) : TS :=
  tSeq (tDrop (tKx (sp_check_year K) (W0 E) (tCons (tVar 0) tNil)))
    (tRet (tKn (sp_weeks_of K) (tCons (tVar 0) tNil)))
theorem d_weeks_in {P : Program} {w : World} {K : PySem.W.Frag} {mg : Str → Option Value} {base : Heap} (T : Tx P K mg) (c_check_year : Kn P w K mg base 5 "check_year" ["year"] (sp_check_year K))
    (c_weeks_of : Kn P w K mg base 5 "weeks_of" ["year"] (sp_weeks_of K))
    {f : Addr} {cdv : Value} {A : Around} {outer : List Env} {s : Shared} {H : Hp} {E : XK} (hr : Room 5 (A.deeper (envOfC "weeks_in" (defScope s_weeks_in) s.heap.objs.size f cdv))) :
    PSs (cxOf (L2.CX P w) P w K mg base ["year"] "weeks_in" (defScope s_weeks_in) f cdv A outer s H E) (defBody s_weeks_in) (t_weeks_in K E) := by
  have nd := sc_weeks_in.nd
  have hu0 := hu0_of hr
  have hu1 := hu_of hr
  have hu64 := hu64_of hr
  have hu65 := hu65_of hr
  exact pss_cons (ps_expr (pe_kx c_check_year hr (by decide) (takes_of rfl rfl rfl rfl) (by rfl) (pa_cons (pv 0) pa_nil)))
      (pss_one (ps_ret (pe_kn c_weeks_of hr (by decide) (by rfl) (pa_cons (pv 0) pa_nil))))
/-! day_of_week: 0 year, 1 week, 2 weekday -/
abbrev s_day_of_week : Stmt := top 40
abbrev N_day_of_week : List Str := ["year", "week", "weekday"]
theorem sc_day_of_week : FnScope ["year", "week", "weekday"] ["year", "week", "weekday"] (defScope s_day_of_week) := ⟨rfl, rfl, rfl, by decide +kernel, rfl, by decide +kernel, by decide +kernel⟩
abbrev t_day_of_week (K : PySem.W.Frag) (E : XK) : TS :=
  tSeq (tDrop (tKx (sp_check_year K) (W0 E) (tCons (tVar 0) tNil)))
    (tSeq (tIfS (tNot (tTr K (tKn (sp_is_between K) (tCons (tVar 1) (tCons (tC (.int 1)) (tCons (tKn (sp_weeks_of K) (tCons (tVar 0) tNil)) tNil)))))) (tRaiseDue (He.ga K "InvalidWeek") (W0 E) (tCons (tVar 1) tNil)) tNext)
    (tSeq (tDrop (tKx (sp_check_weekday K) (W0 E) (tCons (tVar 2) tNil)))
    (tRet (tOp (uAdd K) (tOp (uAdd K) (tKn (sp_first_monday K) (tCons (tVar 0) tNil)) (tOp uMul (tC (.int 7)) (tOp uSub (tVar 1) (tC (.int 1))))) (tVar 2)))))
theorem d_day_of_week {P : Program} {w : World} {K : PySem.W.Frag} {mg : Str → Option Value} {base : Heap} (T : Tx P K mg) (c_check_weekday : Kn P w K mg base 5 "check_weekday" ["weekday"] (sp_check_weekday K))
    (c_check_year : Kn P w K mg base 5 "check_year" ["year"] (sp_check_year K))
    (c_first_monday : Kn P w K mg base 4 "first_monday" ["year"] (sp_first_monday K))
    (c_is_between : Kn P w K mg base 4 "is_between" ["value", "least", "most"] (sp_is_between K))
    (c_weeks_of : Kn P w K mg base 5 "weeks_of" ["year"] (sp_weeks_of K))
    {f : Addr} {cdv : Value} {A : Around} {outer : List Env} {s : Shared} {H : Hp} {E : XK} (hr : Room 5 (A.deeper (envOfC "day_of_week" (defScope s_day_of_week) s.heap.objs.size f cdv))) :
    PSs (cxOf (L2.CX P w) P w K mg base ["year", "week", "weekday"] "day_of_week" (defScope s_day_of_week) f cdv A outer s H E) (defBody s_day_of_week) (t_day_of_week K E) := by
  have nd := sc_day_of_week.nd
  have hu0 := hu0_of hr
  have hu1 := hu_of hr
  have hu64 := hu64_of hr
  have hu65 := hu65_of hr
  exact pss_cons (ps_expr (pe_kx c_check_year hr (by decide) (takes_of rfl rfl rfl rfl) (by rfl) (pa_cons (pv 0) pa_nil)))
      (pss_cons (ps_if (pt_not (pt_tr (pe_kn c_is_between hr (by decide) (by rfl) (pa_cons (pv 1) (pa_cons pe_int (pa_cons (pe_kn c_weeks_of hr (by decide) (by rfl) (pa_cons (pv 0) pa_nil)) pa_nil)))) (by intro _; rfl))) (pss_one (ps_raiseDue rfl T.due T.x_InvalidWeek hr T.g_InvalidWeek T.n_super (takes_of rfl rfl rfl rfl) (pa_cons (pv 1) pa_nil))) pss_nil)
      (pss_cons (ps_expr (pe_kx c_check_weekday hr (by decide) (takes_of rfl rfl rfl rfl) (by rfl) (pa_cons (pv 2) pa_nil)))
      (pss_one (ps_ret (pe_op u_add (pe_op u_add (pe_kn c_first_monday hr (by decide) (by rfl) (pa_cons (pv 0) pa_nil)) (pe_op u_mul pe_int (pe_op u_sub (pv 1) pe_int))) (pv 2))))))
/-! _law_cell: 0 script, 1 k -/
abbrev s__law_cell : Stmt := top 42
abbrev N__law_cell : List Str := ["script", "k"]
theorem sc__law_cell : FnScope ["script", "k"] ["script", "k"] (defScope s__law_cell) := ⟨rfl, rfl, rfl, by decide +kernel, rfl, by decide +kernel, by decide +kernel⟩
abbrev t__law_cell (K : PySem.W.Frag) (E : XK) : TS :=
  tRet (tIf (tTest (tOp (uLt K) (tVar 1) (tCB (uLen K) (tCons (tVar 0) tNil)))) (tOp (rIx K) (tVar 0) (tVar 1)) (tOp (uAdd K) (tOp uMul (tC (.int 6469)) (tVar 1)) (tOp uMod (tCB uInt (tCons (tCB (uSum K) (tCons (tSl (uSl K) (tVar 0) tNoPart (tPart (tC (.int 1)))) tNil)) tNil)) (tC (.int 1000033)))))
theorem d__law_cell {P : Program} {w : World} {K : PySem.W.Frag} {mg : Str → Option Value} {base : Heap} (T : Tx P K mg) 
    {f : Addr} {cdv : Value} {A : Around} {outer : List Env} {s : Shared} {H : Hp} {E : XK} (hr : Room 2 (A.deeper (envOfC "_law_cell" (defScope s__law_cell) s.heap.objs.size f cdv))) :
    PSs (cxOf (L2.CX P w) P w K mg base ["script", "k"] "_law_cell" (defScope s__law_cell) f cdv A outer s H E) (defBody s__law_cell) (t__law_cell K E) := by
  have nd := sc__law_cell.nd
  have hu0 := hu0_of hr
  have hu1 := hu_of hr
  have hu64 := hu64_of hr
  have hu65 := hu65_of hr
  exact pss_one (ps_ret (pe_ifExp (pt_cmpR (u_lt hu0) (pv 1) (pe_callB c_len (by rfl) T.n_len (by decide +kernel) (pa_cons (pv 0) pa_nil)) (nomark _)) (pe_ix ix_seq (pv 0) (pv 1) (fun _ _ => rfl)) (pe_op u_add (pe_op u_mul pe_int (pv 1)) (pe_op u_mod (pe_callTy c_int (by rfl) T.n_int (by decide +kernel) (pa_cons (pe_callB (c_sum rfl) (by rfl) T.n_sum (by decide +kernel) (pa_cons (pe_slice u_sl (pv 0) po_none (po_some pe_int)) pa_nil)) pa_nil)) pe_int))))
/-! _law_box: 0 great -/
abbrev s__law_box : Stmt := top 43
abbrev N__law_box : List Str := ["great"]
theorem sc__law_box : FnScope ["great"] ["great"] (defScope s__law_box) := ⟨rfl, rfl, rfl, by decide +kernel, rfl, by decide +kernel, by decide +kernel⟩
abbrev t__law_box (K : PySem.W.Frag) (E : XK) : TS :=
  tRet (tLst (tCons (tCB uAbs (tCons (tVar 0) tNil)) (tCons (tOp uGe (tCB uAbs (tCons (tVar 0) tNil)) (tOp uPow (tC (.int 10)) (tC (.int 18)))) (tCons (tOp uMod (tCB uInt (tCons (tCB uAbs (tCons (tVar 0) tNil)) tNil)) (tC (.int 2147483629))) (tCons (tC (.int 0)) tNil)))))
theorem d__law_box {P : Program} {w : World} {K : PySem.W.Frag} {mg : Str → Option Value} {base : Heap} (T : Tx P K mg) 
    {f : Addr} {cdv : Value} {A : Around} {outer : List Env} {s : Shared} {H : Hp} {E : XK} (hr : Room 2 (A.deeper (envOfC "_law_box" (defScope s__law_box) s.heap.objs.size f cdv))) :
    PSs (cxOf (L2.CX P w) P w K mg base ["great"] "_law_box" (defScope s__law_box) f cdv A outer s H E) (defBody s__law_box) (t__law_box K E) := by
  have nd := sc__law_box.nd
  have hu0 := hu0_of hr
  have hu1 := hu_of hr
  have hu64 := hu64_of hr
  have hu65 := hu65_of hr
  exact pss_one (ps_ret (pe_lst (pa_cons (pe_callB c_abs (by rfl) T.n_abs (by decide +kernel) (pa_cons (pv 0) pa_nil)) (pa_cons (pe_cmpR u_ge (pe_callB c_abs (by rfl) T.n_abs (by decide +kernel) (pa_cons (pv 0) pa_nil)) (pe_op u_pow pe_int pe_int) (nomark _)) (pa_cons (pe_op u_mod (pe_callTy c_int (by rfl) T.n_int (by decide +kernel) (pa_cons (pe_callB c_abs (by rfl) T.n_abs (by decide +kernel) (pa_cons (pv 0) pa_nil)) pa_nil)) pe_int) (pa_cons pe_int pa_nil))))))
/-! _law_take: 0 box, 1 many, 2 digit, 3 mixed -/
abbrev s__law_take : Stmt := top 44
abbrev N__law_take : List Str := ["box", "many", "digit", "mixed"]
theorem sc__law_take : FnScope ["box", "many", "digit", "mixed"] ["box", "many"] (defScope s__law_take) := ⟨rfl, rfl, rfl, by decide +kernel, rfl, by decide +kernel, by decide +kernel⟩
abbrev t__law_take (K : PySem.W.Frag) (E : XK) : TS :=
  tSeq (tIfS (tAnd (tTr K (tOp (rIx K) (tVar 0) (tC (.int 1)))) (tTest (tOp uGt (tOp (rIx K) (tVar 0) (tC (.int 0))) (tC (.int 0))))) (tSeq (tAsg (tOp uMod (tCB uInt (tCons (tOp (rIx K) (tVar 0) (tC (.int 0))) tNil)) (tVar 1)) (gName 2))
    (tSeq (tAsg (tOp uFdv (tOp (rIx K) (tVar 0) (tC (.int 0))) (tVar 1)) (gSub (tVar 0) (tC (.int 0)) rSetL))
    (tRet (tVar 2)))) tNext)
    (tSeq (tAsg (tOp (uAdd K) (tOp (rIx K) (tVar 0) (tC (.int 3))) (tC (.int 1))) (gSub (tVar 0) (tC (.int 3)) rSetL))
    (tSeq (tAsg (tOp uMod (tCB uInt (tCons (tOp uPow (tOp (uAdd K) (tOp (uAdd K) (tOp (rIx K) (tVar 0) (tC (.int 2))) (tOp uMul (tC (.int 15486971)) (tOp (rIx K) (tVar 0) (tC (.int 3))))) (tC (.int 179425579))) (tC (.int 5))) tNil)) (tC (.int 2147483647))) (gName 3))
    (tRet (tOp uMod (tCB uInt (tCons (tOp uFdv (tOp uMod (tCB uInt (tCons (tOp uPow (tOp (uAdd K) (tOp uMul (tVar 3) (tC (.int 48271))) (tOp uMul (tC (.int 105269)) (tOp (rIx K) (tVar 0) (tC (.int 3))))) (tC (.int 3))) tNil)) (tC (.int 2147483587))) (tC (.int 64))) tNil)) (tVar 1)))))
theorem d__law_take {P : Program} {w : World} {K : PySem.W.Frag} {mg : Str → Option Value} {base : Heap} (T : Tx P K mg) 
    {f : Addr} {cdv : Value} {A : Around} {outer : List Env} {s : Shared} {H : Hp} {E : XK} (hr : Room 2 (A.deeper (envOfC "_law_take" (defScope s__law_take) s.heap.objs.size f cdv))) :
    PSs (cxOf (L2.CX P w) P w K mg base ["box", "many", "digit", "mixed"] "_law_take" (defScope s__law_take) f cdv A outer s H E) (defBody s__law_take) (t__law_take K E) := by
  have nd := sc__law_take.nd
  have hu0 := hu0_of hr
  have hu1 := hu_of hr
  have hu64 := hu64_of hr
  have hu65 := hu65_of hr
  exact pss_cons (ps_if (PW.pt (pw_and (pt_tr (pe_ix ix_seq (pv 0) pe_int (fun _ _ => rfl)) (by intro _; rfl)) (pw_and1 (pt_cmpR u_gt (pe_ix ix_seq (pv 0) pe_int (fun _ _ => rfl)) pe_int (nomark _))))) (pss_cons (ps_asg (pe_op u_mod (pe_callTy c_int (by rfl) T.n_int (by decide +kernel) (pa_cons (pe_ix ix_seq (pv 0) pe_int (fun _ _ => rfl)) pa_nil)) (pv 1)) (pg_name (i := 2) nd rfl (Or.inl rfl)))
      (pss_cons (ps_asg (pe_op u_fdv (pe_ix ix_seq (pv 0) pe_int (fun _ _ => rfl)) (pv 1)) (pg_sub (pv 0) pe_int set_list))
      (pss_one (ps_ret (pv 2))))) pss_nil)
      (pss_cons (ps_asg (pe_op u_add (pe_ix ix_seq (pv 0) pe_int (fun _ _ => rfl)) pe_int) (pg_sub (pv 0) pe_int set_list))
      (pss_cons (ps_asg (pe_op u_mod (pe_callTy c_int (by rfl) T.n_int (by decide +kernel) (pa_cons (pe_op u_pow (pe_op u_add (pe_op u_add (pe_ix ix_seq (pv 0) pe_int (fun _ _ => rfl)) (pe_op u_mul pe_int (pe_ix ix_seq (pv 0) pe_int (fun _ _ => rfl)))) pe_int) pe_int) pa_nil)) pe_int) (pg_name (i := 3) nd rfl (Or.inl rfl)))
      (pss_one (ps_ret (pe_op u_mod (pe_callTy c_int (by rfl) T.n_int (by decide +kernel) (pa_cons (pe_op u_fdv (pe_op u_mod (pe_callTy c_int (by rfl) T.n_int (by decide +kernel) (pa_cons (pe_op u_pow (pe_op u_add (pe_op u_mul (pv 3) pe_int) (pe_op u_mul pe_int (pe_ix ix_seq (pv 0) pe_int (fun _ _ => rfl)))) pe_int) pa_nil)) pe_int) pe_int) pa_nil)) (pv 1))))))
/-! _law_same: 0 told, 1 due, 2 k -/
abbrev s__law_same : Stmt := top 45
abbrev N__law_same : List Str := ["told", "due", "k"]
theorem sc__law_same : FnScope ["told", "due", "k"] ["told", "due"] (defScope s__law_same) := ⟨rfl, rfl, rfl, by decide +kernel, rfl, by decide +kernel, by decide +kernel⟩
abbrev t__law_same (K : PySem.W.Frag) (spr : Sp) (E : XK) : TS :=
  tSeq (tIfS (tOr (tTest (tOp uIs (tVar 1) (tC .non))) (tTr K (tCB (uIsi K) (tCons (tVar 1) (tCons (tC (.ty "bool")) tNil))))) (tRet (tIf (tTest (tOp uIs (tVar 1) (tC .non))) (tOp uIs (tVar 0) (tC .non)) (tAndV (tCB (uIsi K) (tCons (tVar 0) (tCons (tC (.ty "bool")) tNil))) (tOp (uEq K) (tOp uIs (tVar 0) (tC (.bl true))) (tOp uIs (tVar 1) (tC (.bl true))))))) tNext)
    (tSeq (tIfS (tTr K (tCB (uIsi K) (tCons (tVar 1) (tCons (tC (.ty "int")) tNil)))) (tRet (tAndV (tCB (uIsi K) (tCons (tVar 0) (tCons (tC (.ty "int")) tNil))) (tAndV (tNotV (tCB (uIsi K) (tCons (tVar 0) (tCons (tC (.ty "bool")) tNil)))) (tOp (uEq K) (tVar 0) (tVar 1))))) tNext)
    (tSeq (tIfS (tTr K (tCB (uIsi K) (tCons (tVar 1) (tCons (tC (.ty "str")) tNil)))) (tRet (tAndV (tCB (uIsi K) (tCons (tVar 0) (tCons (tC (.ty "str")) tNil))) (tOp (uEq K) (tVar 0) (tVar 1)))) tNext)
    (tSeq (tIfS (tOr (tTest (tOp (uNe K) (tCB (uIsi K) (tCons (tVar 0) (tCons (tC (.ty "list")) tNil))) (tCB (uIsi K) (tCons (tVar 1) (tCons (tC (.ty "list")) tNil))))) (tTest (tOp (uNe K) (tCB (uIsi K) (tCons (tVar 0) (tCons (tC (.ty "tuple")) tNil))) (tCB (uIsi K) (tCons (tVar 1) (tCons (tC (.ty "tuple")) tNil)))))) (tRet (tC (.bl false))) tNext)
    (tRet (tAndV (tOp (uEq K) (tCB (uLen K) (tCons (tVar 0) tNil)) (tCB (uLen K) (tCons (tVar 1) tNil))) (tOp (uEq K) (tLc (iRng1 (tCons (tCB (uLen K) (tCons (tVar 1) tNil)) tNil)) (gName 2) (tNot (tTr K (tKn spr (tCons (tOp (rIx K) (tVar 0) (tVar 2)) (tCons (tOp (rIx K) (tVar 1) (tVar 2)) tNil))))) (tVar 2) [2]) (tLst tNil)))))))
theorem d__law_same {P : Program} {w : World} {K : PySem.W.Frag} {mg : Str → Option Value} {base : Heap} (T : Tx P K mg) {kr : Nat} {spr : Sp} (c__law_same : Kn P w K mg base kr "_law_same" ["told", "due"] spr)
    {k : Nat} (hkr : kr ≤ k) (h4 : 4 ≤ k)
    {f : Addr} {cdv : Value} {A : Around} {outer : List Env} {s : Shared} {H : Hp} {E : XK} (hr : Room k (A.deeper (envOfC "_law_same" (defScope s__law_same) s.heap.objs.size f cdv))) :
    PSs (cxOf (L2.CX P w) P w K mg base ["told", "due", "k"] "_law_same" (defScope s__law_same) f cdv A outer s H E) (defBody s__law_same) (t__law_same K spr E) := by
  have nd := sc__law_same.nd
  have hu0 := hu0_of hr
  have hu1 := hu_of hr
  have hu64 := hu64_of hr
  have hu65 := hu65_of hr
  exact pss_cons (ps_if (PW.pt (pw_or (pt_cmpR u_is (pv 1) pe_non (nomark _)) (pw_or1 (pt_tr (pe_callB c_isi (by rfl) T.n_isinstance (by decide +kernel) (pa_cons (pv 1) (pa_cons (pe_ty (by rfl) T.n_bool (by decide +kernel)) pa_nil))) (by intro _; rfl))))) (pss_one (ps_ret (pe_ifExp (pt_cmpR u_is (pv 1) pe_non (nomark _)) (pe_cmpR u_is (pv 0) pe_non (nomark _)) (pe_and (pe_callB c_isi (by rfl) T.n_isinstance (by decide +kernel) (pa_cons (pv 0) (pa_cons (pe_ty (by rfl) T.n_bool (by decide +kernel)) pa_nil))) (pe_one (pe_cmpR (u_eq hu64) (pe_cmpR u_is (pv 0) pe_bl (nomark _)) (pe_cmpR u_is (pv 1) pe_bl (nomark _)) (nomark _))))))) pss_nil)
      (pss_cons (ps_if (pt_tr (pe_callB c_isi (by rfl) T.n_isinstance (by decide +kernel) (pa_cons (pv 1) (pa_cons (pe_ty (by rfl) T.n_int (by decide +kernel)) pa_nil))) (by intro _; rfl)) (pss_one (ps_ret (pe_and (pe_callB c_isi (by rfl) T.n_isinstance (by decide +kernel) (pa_cons (pv 0) (pa_cons (pe_ty (by rfl) T.n_int (by decide +kernel)) pa_nil))) (pe_and (pe_not (pe_callB c_isi (by rfl) T.n_isinstance (by decide +kernel) (pa_cons (pv 0) (pa_cons (pe_ty (by rfl) T.n_bool (by decide +kernel)) pa_nil)))) (pe_one (pe_cmpR (u_eq hu64) (pv 0) (pv 1) (nomark _))))))) pss_nil)
      (pss_cons (ps_if (pt_tr (pe_callB c_isi (by rfl) T.n_isinstance (by decide +kernel) (pa_cons (pv 1) (pa_cons (pe_ty (by rfl) T.n_str (by decide +kernel)) pa_nil))) (by intro _; rfl)) (pss_one (ps_ret (pe_and (pe_callB c_isi (by rfl) T.n_isinstance (by decide +kernel) (pa_cons (pv 0) (pa_cons (pe_ty (by rfl) T.n_str (by decide +kernel)) pa_nil))) (pe_one (pe_cmpR (u_eq hu64) (pv 0) (pv 1) (nomark _)))))) pss_nil)
      (pss_cons (ps_if (PW.pt (pw_or (pt_cmpR (u_ne hu64) (pe_callB c_isi (by rfl) T.n_isinstance (by decide +kernel) (pa_cons (pv 0) (pa_cons (pe_ty (by rfl) T.n_list (by decide +kernel)) pa_nil))) (pe_callB c_isi (by rfl) T.n_isinstance (by decide +kernel) (pa_cons (pv 1) (pa_cons (pe_ty (by rfl) T.n_list (by decide +kernel)) pa_nil))) (nomark _)) (pw_or1 (pt_cmpR (u_ne hu64) (pe_callB c_isi (by rfl) T.n_isinstance (by decide +kernel) (pa_cons (pv 0) (pa_cons (pe_ty (by rfl) T.n_tuple (by decide +kernel)) pa_nil))) (pe_callB c_isi (by rfl) T.n_isinstance (by decide +kernel) (pa_cons (pv 1) (pa_cons (pe_ty (by rfl) T.n_tuple (by decide +kernel)) pa_nil))) (nomark _))))) (pss_one (ps_ret pe_bl)) pss_nil)
      (pss_one (ps_ret (pe_and (pe_cmpR (u_eq hu64) (pe_callB c_len (by rfl) T.n_len (by decide +kernel) (pa_cons (pv 0) pa_nil)) (pe_callB c_len (by rfl) T.n_len (by decide +kernel) (pa_cons (pv 1) pa_nil)) (nomark _)) (pe_one (pe_cmpR (u_eq hu64) (pe_lc (own := [("k", 2)]) rfl nd (pi_range1 (by rfl) T.n_range (pa_cons (pe_callB c_len (by rfl) T.n_len (by decide +kernel) (pa_cons (pv 1) pa_nil)) pa_nil)) (blkOk_by (N := ["told", "due", "k"]) (sc := defScope s__law_same) (own := [("k", 2)]) (by decide +kernel)) (fun _ _ _ _ _ => pg_name (i := 2) nd rfl (Or.inl rfl)) (fun _ _ _ _ _ => pts_one (pt_not (pt_tr (pe_kn c__law_same hr hkr (by rfl) (pa_cons (pe_ix ix_seq (pv 0) (pv 2) (fun _ _ => rfl)) (pa_cons (pe_ix ix_seq (pv 1) (pv 2) (fun _ _ => rfl)) pa_nil))) (by intro _; rfl)))) (fun _ _ _ _ _ => pv 2)) (pe_lst pa_nil) (nomark _)))))))))
/-! _law_very: 0 given, 1 value, 2 size -/
abbrev s__law_very : Stmt := top 46
abbrev N__law_very : List Str := ["given", "value", "size"]
theorem sc__law_very : FnScope ["given", "value", "size"] ["given", "value"] (defScope s__law_very) := ⟨rfl, rfl, rfl, by decide +kernel, rfl, by decide +kernel, by decide +kernel⟩
abbrev t__law_very (K : PySem.W.Frag) (E : XK) : TS :=
  tSeq (tIfS (tTr K (tCB (uIsi K) (tCons (tVar 1) (tCons (tTup (tCons (tC (.ty "list")) (tCons (tC (.ty "dict")) tNil))) tNil)))) (tSeq (tIfS (tOr (tTest (tOp (uNe K) (tCB (uIsi K) (tCons (tVar 0) (tCons (tC (.ty "list")) tNil))) (tCB (uIsi K) (tCons (tVar 1) (tCons (tC (.ty "list")) tNil))))) (tTest (tOp (uNe K) (tCB (uIsi K) (tCons (tVar 0) (tCons (tC (.ty "dict")) tNil))) (tCB (uIsi K) (tCons (tVar 1) (tCons (tC (.ty "dict")) tNil)))))) (tRet (tC (.bl false))) tNext)
    (tSeq (tAsg (tCB (uLen K) (tCons (tVar 1) tNil)) (gName 2))
    (tSeq (tIfS (tTr K (tCB (uIsi K) (tCons (tVar 1) (tCons (tC (.ty "list")) tNil)))) (tDrop (tBM K "list" rAppend (tVar 1) (tCons (tC (.str "grown")) tNil))) (sDPut (tVar 1) (tC (.str "grown")) (tC (.int 1))))
    (tRet (tAndV (tOp (uEq K) (tCB (uLen K) (tCons (tVar 0) tNil)) (tOp (uAdd K) (tVar 2) (tC (.int 1)))) (tOp (uEq K) (tCB (uLen K) (tCons (tVar 1) tNil)) (tOp (uAdd K) (tVar 2) (tC (.int 1))))))))) tNext)
    (tRet (tKn (sp__law_same K) (tCons (tVar 0) (tCons (tVar 1) tNil))))
theorem d__law_very {P : Program} {w : World} {K : PySem.W.Frag} {mg : Str → Option Value} {base : Heap} (T : Tx P K mg) (c__law_same : Kn P w K mg base 40 "_law_same" ["told", "due"] (sp__law_same K))
    {f : Addr} {cdv : Value} {A : Around} {outer : List Env} {s : Shared} {H : Hp} {E : XK} (hr : Room 40 (A.deeper (envOfC "_law_very" (defScope s__law_very) s.heap.objs.size f cdv))) :
    PSs (cxOf (L2.CX P w) P w K mg base ["given", "value", "size"] "_law_very" (defScope s__law_very) f cdv A outer s H E) (defBody s__law_very) (t__law_very K E) := by
  have nd := sc__law_very.nd
  have hu0 := hu0_of hr
  have hu1 := hu_of hr
  have hu64 := hu64_of hr
  have hu65 := hu65_of hr
  exact pss_cons (ps_if (pt_tr (pe_callB c_isi (by rfl) T.n_isinstance (by decide +kernel) (pa_cons (pv 1) (pa_cons (pe_tup (pa_cons (pe_ty (by rfl) T.n_list (by decide +kernel)) (pa_cons (pe_ty (by rfl) T.n_dict (by decide +kernel)) pa_nil))) pa_nil))) (by intro _; rfl)) (pss_cons (ps_if (PW.pt (pw_or (pt_cmpR (u_ne hu64) (pe_callB c_isi (by rfl) T.n_isinstance (by decide +kernel) (pa_cons (pv 0) (pa_cons (pe_ty (by rfl) T.n_list (by decide +kernel)) pa_nil))) (pe_callB c_isi (by rfl) T.n_isinstance (by decide +kernel) (pa_cons (pv 1) (pa_cons (pe_ty (by rfl) T.n_list (by decide +kernel)) pa_nil))) (nomark _)) (pw_or1 (pt_cmpR (u_ne hu64) (pe_callB c_isi (by rfl) T.n_isinstance (by decide +kernel) (pa_cons (pv 0) (pa_cons (pe_ty (by rfl) T.n_dict (by decide +kernel)) pa_nil))) (pe_callB c_isi (by rfl) T.n_isinstance (by decide +kernel) (pa_cons (pv 1) (pa_cons (pe_ty (by rfl) T.n_dict (by decide +kernel)) pa_nil))) (nomark _))))) (pss_one (ps_ret pe_bl)) pss_nil)
      (pss_cons (ps_asg (pe_callB c_len (by rfl) T.n_len (by decide +kernel) (pa_cons (pv 1) pa_nil)) (pg_name (i := 2) nd rfl (Or.inl rfl)))
      (pss_cons (ps_if (pt_tr (pe_callB c_isi (by rfl) T.n_isinstance (by decide +kernel) (pa_cons (pv 1) (pa_cons (pe_ty (by rfl) T.n_list (by decide +kernel)) pa_nil))) (by intro _; rfl)) (pss_one (ps_expr (pe_bm PySem.F.plainAttrs_list PySem.F.slot_list_append PySem.F.type_list_append mt_append (pv 1) (pa_cons pe_str pa_nil)))) (pss_one (ps_dput hu1 (pv 1) pe_str pe_int rfl)))
      (pss_one (ps_ret (pe_and (pe_cmpR (u_eq hu64) (pe_callB c_len (by rfl) T.n_len (by decide +kernel) (pa_cons (pv 0) pa_nil)) (pe_op u_add (pv 2) pe_int) (nomark _)) (pe_one (pe_cmpR (u_eq hu64) (pe_callB c_len (by rfl) T.n_len (by decide +kernel) (pa_cons (pv 1) pa_nil)) (pe_op u_add (pv 2) pe_int) (nomark _))))))))) pss_nil)
      (pss_one (ps_ret (pe_kn c__law_same hr (by decide) (by rfl) (pa_cons (pv 0) (pa_cons (pv 1) pa_nil)))))
/-! _law_leap: 0 year -/
abbrev s__law_leap : Stmt := top 47
abbrev N__law_leap : List Str := ["year"]
theorem sc__law_leap : FnScope ["year"] ["year"] (defScope s__law_leap) := ⟨rfl, rfl, rfl, by decide +kernel, rfl, by decide +kernel, by decide +kernel⟩
abbrev t__law_leap (K : PySem.W.Frag) (E : XK) : TS :=
  tRet (tOrV (tOp (uEq K) (tOp uMod (tCB uInt (tCons (tVar 0) tNil)) (tC (.int 400))) (tC (.int 0))) (tAndV (tOp (uEq K) (tOp uMod (tCB uInt (tCons (tVar 0) tNil)) (tC (.int 4))) (tC (.int 0))) (tOp (uNe K) (tOp uMod (tCB uInt (tCons (tVar 0) tNil)) (tC (.int 100))) (tC (.int 0)))))
theorem d__law_leap {P : Program} {w : World} {K : PySem.W.Frag} {mg : Str → Option Value} {base : Heap} (T : Tx P K mg) 
    {f : Addr} {cdv : Value} {A : Around} {outer : List Env} {s : Shared} {H : Hp} {E : XK} (hr : Room 2 (A.deeper (envOfC "_law_leap" (defScope s__law_leap) s.heap.objs.size f cdv))) :
    PSs (cxOf (L2.CX P w) P w K mg base ["year"] "_law_leap" (defScope s__law_leap) f cdv A outer s H E) (defBody s__law_leap) (t__law_leap K E) := by
  have nd := sc__law_leap.nd
  have hu0 := hu0_of hr
  have hu1 := hu_of hr
  have hu64 := hu64_of hr
  have hu65 := hu65_of hr
  exact pss_one (ps_ret (pe_or (pe_cmpR (u_eq hu64) (pe_op u_mod (pe_callTy c_int (by rfl) T.n_int (by decide +kernel) (pa_cons (pv 0) pa_nil)) pe_int) pe_int (nomark _)) (pe_one (pe_and (pe_cmpR (u_eq hu64) (pe_op u_mod (pe_callTy c_int (by rfl) T.n_int (by decide +kernel) (pa_cons (pv 0) pa_nil)) pe_int) pe_int (nomark _)) (pe_one (pe_cmpR (u_ne hu64) (pe_op u_mod (pe_callTy c_int (by rfl) T.n_int (by decide +kernel) (pa_cons (pv 0) pa_nil)) pe_int) pe_int (nomark _)))))))
/-! _law_length: 0 year, 1 month -/
abbrev s__law_length : Stmt := top 48
abbrev N__law_length : List Str := ["year", "month"]
theorem sc__law_length : FnScope ["year", "month"] ["year", "month"] (defScope s__law_length) := ⟨rfl, rfl, rfl, by decide +kernel, rfl, by decide +kernel, by decide +kernel⟩
abbrev t__law_length (K : PySem.W.Frag) (E : XK) : TS :=
  tRet (tOp (rIx K) (tLst (tCons (tC (.int 31)) (tCons (tIf (tTr K (tKn (sp__law_leap K) (tCons (tVar 0) tNil))) (tC (.int 29)) (tC (.int 28))) (tCons (tC (.int 31)) (tCons (tC (.int 30)) (tCons (tC (.int 31)) (tCons (tC (.int 30)) (tCons (tC (.int 31)) (tCons (tC (.int 31)) (tCons (tC (.int 30)) (tCons (tC (.int 31)) (tCons (tC (.int 30)) (tCons (tC (.int 31)) tNil))))))))))))) (tOp uSub (tVar 1) (tC (.int 1))))
theorem d__law_length {P : Program} {w : World} {K : PySem.W.Frag} {mg : Str → Option Value} {base : Heap} (T : Tx P K mg) (c__law_leap : Kn P w K mg base 3 "_law_leap" ["year"] (sp__law_leap K))
    {f : Addr} {cdv : Value} {A : Around} {outer : List Env} {s : Shared} {H : Hp} {E : XK} (hr : Room 3 (A.deeper (envOfC "_law_length" (defScope s__law_length) s.heap.objs.size f cdv))) :
    PSs (cxOf (L2.CX P w) P w K mg base ["year", "month"] "_law_length" (defScope s__law_length) f cdv A outer s H E) (defBody s__law_length) (t__law_length K E) := by
  have nd := sc__law_length.nd
  have hu0 := hu0_of hr
  have hu1 := hu_of hr
  have hu64 := hu64_of hr
  have hu65 := hu65_of hr
  exact pss_one (ps_ret (pe_ix ix_seq (pe_lst (pa_cons pe_int (pa_cons (pe_ifExp (pt_tr (pe_kn c__law_leap hr (by decide) (by rfl) (pa_cons (pv 0) pa_nil)) (by intro _; rfl)) pe_int pe_int) (pa_cons pe_int (pa_cons pe_int (pa_cons pe_int (pa_cons pe_int (pa_cons pe_int (pa_cons pe_int (pa_cons pe_int (pa_cons pe_int (pa_cons pe_int (pa_cons pe_int pa_nil))))))))))))) (pe_op u_sub (pv 1) pe_int) (fun _ _ => rfl)))
/-! _law_date: 0 day, 1 year, 2 left, 3 month -/
abbrev s__law_date : Stmt := top 49
abbrev N__law_date : List Str := ["day", "year", "left", "month"]
theorem sc__law_date : FnScope ["day", "year", "left", "month"] ["day"] (defScope s__law_date) := ⟨rfl, rfl, rfl, by decide +kernel, rfl, by decide +kernel, by decide +kernel⟩
abbrev t__law_date (K : PySem.W.Frag) (E : XK) : TS :=
  tSeq (tPar 1 2 (tCons (tOp (uAdd K) (tC (.int 2000)) (tOp uMul (tC (.int 400)) (tOp uFdv (tVar 0) (tC (.int 146097))))) (tCons (tOp uMod (tCB uInt (tCons (tVar 0) tNil)) (tC (.int 146097))) tNil)))
    (tSeq (tWhile (tTest (tOp uGe (tVar 2) (tOp (uAdd K) (tC (.int 365)) (tCB uInt (tCons (tKn (sp__law_leap K) (tCons (tVar 1) tNil)) tNil))))) (tSeq (tAsg (tOp uSub (tOp uSub (tVar 2) (tC (.int 365))) (tCB uInt (tCons (tKn (sp__law_leap K) (tCons (tVar 1) tNil)) tNil))) (gName 2))
    (tAsg (tOp (uAdd K) (tVar 1) (tC (.int 1))) (gName 1))))
    (tSeq (tAsg (tC (.int 1)) (gName 3))
    (tSeq (tWhile (tTest (tOp uGe (tVar 2) (tKn (sp__law_length K) (tCons (tVar 1) (tCons (tVar 3) tNil))))) (tSeq (tAsg (tOp uSub (tVar 2) (tKn (sp__law_length K) (tCons (tVar 1) (tCons (tVar 3) tNil)))) (gName 2))
    (tAsg (tOp (uAdd K) (tVar 3) (tC (.int 1))) (gName 3))))
    (tRet (tTup (tCons (tVar 1) (tCons (tVar 3) (tCons (tOp (uAdd K) (tVar 2) (tC (.int 1))) tNil))))))))
theorem d__law_date {P : Program} {w : World} {K : PySem.W.Frag} {mg : Str → Option Value} {base : Heap} (T : Tx P K mg) (c__law_leap : Kn P w K mg base 3 "_law_leap" ["year"] (sp__law_leap K))
    (c__law_length : Kn P w K mg base 4 "_law_length" ["year", "month"] (sp__law_length K))
    {f : Addr} {cdv : Value} {A : Around} {outer : List Env} {s : Shared} {H : Hp} {E : XK} (hr : Room 4 (A.deeper (envOfC "_law_date" (defScope s__law_date) s.heap.objs.size f cdv))) :
    PSs (cxOf (L2.CX P w) P w K mg base ["day", "year", "left", "month"] "_law_date" (defScope s__law_date) f cdv A outer s H E) (defBody s__law_date) (t__law_date K E) := by
  have nd := sc__law_date.nd
  have hu0 := hu0_of hr
  have hu1 := hu_of hr
  have hu64 := hu64_of hr
  have hu65 := hu65_of hr
  exact pss_cons (ps_par rfl nd rfl rfl (by decide) rfl rfl (pa_cons (pe_op u_add pe_int (pe_op u_mul pe_int (pe_op u_fdv (pv 0) pe_int))) (pa_cons (pe_op u_mod (pe_callTy c_int (by rfl) T.n_int (by decide +kernel) (pa_cons (pv 0) pa_nil)) pe_int) pa_nil)) (by rfl))
      (pss_cons (ps_while (passes_of rfl) (pt_cmpR u_ge (pv 2) (pe_op u_add pe_int (pe_callTy c_int (by rfl) T.n_int (by decide +kernel) (pa_cons (pe_kn c__law_leap hr (by decide) (by rfl) (pa_cons (pv 1) pa_nil)) pa_nil))) (nomark _)) (pss_cons (ps_asg (pe_op u_sub (pe_op u_sub (pv 2) pe_int) (pe_callTy c_int (by rfl) T.n_int (by decide +kernel) (pa_cons (pe_kn c__law_leap hr (by decide) (by rfl) (pa_cons (pv 1) pa_nil)) pa_nil))) (pg_name (i := 2) nd rfl (Or.inl rfl)))
      (pss_one (ps_asg (pe_op u_add (pv 1) pe_int) (pg_name (i := 1) nd rfl (Or.inl rfl))))))
      (pss_cons (ps_asg pe_int (pg_name (i := 3) nd rfl (Or.inl rfl)))
      (pss_cons (ps_while (passes_of rfl) (pt_cmpR u_ge (pv 2) (pe_kn c__law_length hr (by decide) (by rfl) (pa_cons (pv 1) (pa_cons (pv 3) pa_nil))) (nomark _)) (pss_cons (ps_asg (pe_op u_sub (pv 2) (pe_kn c__law_length hr (by decide) (by rfl) (pa_cons (pv 1) (pa_cons (pv 3) pa_nil)))) (pg_name (i := 2) nd rfl (Or.inl rfl)))
      (pss_one (ps_asg (pe_op u_add (pv 3) pe_int) (pg_name (i := 3) nd rfl (Or.inl rfl))))))
      (pss_one (ps_ret (pe_tup (pa_cons (pv 1) (pa_cons (pv 3) (pa_cons (pe_op u_add (pv 2) pe_int) pa_nil)))))))))
/-! _law_next: 0 date, 1 year, 2 month, 3 number -/
abbrev s__law_next : Stmt := top 50
abbrev N__law_next : List Str := ["date", "year", "month", "number"]
theorem sc__law_next : FnScope ["date", "year", "month", "number"] ["date"] (defScope s__law_next) := ⟨rfl, rfl, rfl, by decide +kernel, rfl, by decide +kernel, by decide +kernel⟩
abbrev t__law_next (K : PySem.W.Frag) (E : XK) : TS :=
  tSeq (tAsg (tVar 0) (gSq K 3 (gCons (gName 1) (gCons (gName 2) (gCons (gName 3) gNil)))))
    (tSeq (tIfS (tTest (tOp (uLt K) (tVar 3) (tKn (sp__law_length K) (tCons (tVar 1) (tCons (tVar 2) tNil))))) (tRet (tTup (tCons (tVar 1) (tCons (tVar 2) (tCons (tOp (uAdd K) (tVar 3) (tC (.int 1))) tNil))))) tNext)
    (tRet (tIf (tTest (tOp (uLt K) (tVar 2) (tC (.int 12)))) (tTup (tCons (tVar 1) (tCons (tOp (uAdd K) (tVar 2) (tC (.int 1))) (tCons (tC (.int 1)) tNil)))) (tTup (tCons (tOp (uAdd K) (tVar 1) (tC (.int 1))) (tCons (tC (.int 1)) (tCons (tC (.int 1)) tNil)))))))
theorem d__law_next {P : Program} {w : World} {K : PySem.W.Frag} {mg : Str → Option Value} {base : Heap} (T : Tx P K mg) (c__law_length : Kn P w K mg base 4 "_law_length" ["year", "month"] (sp__law_length K))
    {f : Addr} {cdv : Value} {A : Around} {outer : List Env} {s : Shared} {H : Hp} {E : XK} (hr : Room 4 (A.deeper (envOfC "_law_next" (defScope s__law_next) s.heap.objs.size f cdv))) :
    PSs (cxOf (L2.CX P w) P w K mg base ["date", "year", "month", "number"] "_law_next" (defScope s__law_next) f cdv A outer s H E) (defBody s__law_next) (t__law_next K E) := by
  have nd := sc__law_next.nd
  have hu0 := hu0_of hr
  have hu1 := hu_of hr
  have hu64 := hu64_of hr
  have hu65 := hu65_of hr
  exact pss_cons (ps_asg (pv 0) (pg_sq rfl (pgs_cons (pg_name (i := 1) nd rfl (Or.inl rfl)) (pgs_cons (pg_name (i := 2) nd rfl (Or.inl rfl)) (pgs_cons (pg_name (i := 3) nd rfl (Or.inl rfl)) pgs_nil)))))
      (pss_cons (ps_if (pt_cmpR (u_lt hu0) (pv 3) (pe_kn c__law_length hr (by decide) (by rfl) (pa_cons (pv 1) (pa_cons (pv 2) pa_nil))) (nomark _)) (pss_one (ps_ret (pe_tup (pa_cons (pv 1) (pa_cons (pv 2) (pa_cons (pe_op u_add (pv 3) pe_int) pa_nil)))))) pss_nil)
      (pss_one (ps_ret (pe_ifExp (pt_cmpR (u_lt hu0) (pv 2) pe_int (nomark _)) (pe_tup (pa_cons (pv 1) (pa_cons (pe_op u_add (pv 2) pe_int) (pa_cons pe_int pa_nil)))) (pe_tup (pa_cons (pe_op u_add (pv 1) pe_int) (pa_cons pe_int (pa_cons pe_int pa_nil))))))))
/-! _law_ask: 0 word, 1 parts, 2 named, 3 e -/
abbrev s__law_ask : Stmt := top 51
abbrev N__law_ask : List Str := ["word", "parts", "named", "e"]
theorem sc__law_ask : FnScope ["word", "parts", "named", "e"] ["word", "parts", "named"] (defScope s__law_ask) := ⟨rfl, rfl, rfl, by decide +kernel, rfl, by decide +kernel, by decide +kernel⟩
abbrev t__law_ask (K : PySem.W.Frag) (E : XK) : TS :=
  tTryM K (W0 E) (fun W => tSeq (tIfS (tTest (tOp (uEq K) (tVar 0) (tC (.str "weekday")))) (tRet (tLst (tCons (tC (.str "told")) (tCons (tIf (tTr K (tVar 2)) (tKk (sp_weekday_of K) g_weekday_of_day W (tCons (tOp (rIx K) (tVar 1) (tC (.int 0))) tNil)) (tKx (sp_weekday_of K) W (tCons (tOp (rIx K) (tVar 1) (tC (.int 0))) tNil))) tNil)))) tNext)
    (tSeq (tIfS (tTest (tOp (uEq K) (tVar 0) (tC (.str "week")))) (tRet (tLst (tCons (tC (.str "told")) (tCons (tIf (tTr K (tVar 2)) (tKk (sp_week_of K) g_week_of_day W (tCons (tOp (rIx K) (tVar 1) (tC (.int 0))) tNil)) (tKx (sp_week_of K) W (tCons (tOp (rIx K) (tVar 1) (tC (.int 0))) tNil))) tNil)))) tNext)
    (tSeq (tIfS (tTest (tOp (uEq K) (tVar 0) (tC (.str "weeks")))) (tRet (tLst (tCons (tC (.str "told")) (tCons (tIf (tTr K (tVar 2)) (tKk (sp_weeks_in K) g_weeks_in_year W (tCons (tOp (rIx K) (tVar 1) (tC (.int 0))) tNil)) (tKx (sp_weeks_in K) W (tCons (tOp (rIx K) (tVar 1) (tC (.int 0))) tNil))) tNil)))) tNext)
    (tSeq (tIfS (tTest (tOp (uEq K) (tVar 0) (tC (.str "day")))) (tSeq (tIfS (tTr K (tVar 2)) (tRet (tLst (tCons (tC (.str "told")) (tCons (tKk (sp_day_of_week K) g_day_of_week_weekday_week_year W (tCons (tOp (rIx K) (tVar 1) (tC (.int 2))) (tCons (tOp (rIx K) (tVar 1) (tC (.int 1))) (tCons (tOp (rIx K) (tVar 1) (tC (.int 0))) tNil)))) tNil)))) tNext)
    (tRet (tLst (tCons (tC (.str "told")) (tCons (tKx (sp_day_of_week K) W (tCons (tOp (rIx K) (tVar 1) (tC (.int 0))) (tCons (tOp (rIx K) (tVar 1) (tC (.int 1))) (tCons (tOp (rIx K) (tVar 1) (tC (.int 2))) tNil)))) tNil))))) tNext)
    (tSeq (tIfS (tTr K (tVar 2)) (tRet (tLst (tCons (tC (.str "told")) (tCons (tKk (sp_nth_weekday K) g_nth_weekday_weekday_number_month_year W (tCons (tOp (rIx K) (tVar 1) (tC (.int 3))) (tCons (tOp (rIx K) (tVar 1) (tC (.int 2))) (tCons (tOp (rIx K) (tVar 1) (tC (.int 1))) (tCons (tOp (rIx K) (tVar 1) (tC (.int 0))) tNil))))) tNil)))) tNext)
    (tRet (tLst (tCons (tC (.str "told")) (tCons (tKx (sp_nth_weekday K) W (tCons (tOp (rIx K) (tVar 1) (tC (.int 0))) (tCons (tOp (rIx K) (tVar 1) (tC (.int 1))) (tCons (tOp (rIx K) (tVar 1) (tC (.int 2))) (tCons (tOp (rIx K) (tVar 1) (tC (.int 3))) tNil))))) tNil))))))))) [(.ref (He.ga K "InvalidDay"), some 3, (fun a cls d => tRet (tLst (tCons (tC (.str "day")) (tCons (tXg K a cls d "given" (tVar 3)) (tCons (tCB (rIsX K cls d a) (tCons (tVar 3) (tCons (tC (.ref (He.ga K "DueError"))) tNil))) tNil)))))),
   (.ref (He.ga K "InvalidYear"), some 3, (fun a cls d => tRet (tLst (tCons (tC (.str "year")) (tCons (tXg K a cls d "given" (tVar 3)) (tCons (tCB (rIsX K cls d a) (tCons (tVar 3) (tCons (tC (.ref (He.ga K "DueError"))) tNil))) tNil)))))),
   (.ref (He.ga K "InvalidMonth"), some 3, (fun a cls d => tRet (tLst (tCons (tC (.str "month")) (tCons (tXg K a cls d "given" (tVar 3)) (tCons (tCB (rIsX K cls d a) (tCons (tVar 3) (tCons (tC (.ref (He.ga K "DueError"))) tNil))) tNil)))))),
   (.ref (He.ga K "InvalidNumber"), some 3, (fun a cls d => tRet (tLst (tCons (tC (.str "number")) (tCons (tXg K a cls d "given" (tVar 3)) (tCons (tCB (rIsX K cls d a) (tCons (tVar 3) (tCons (tC (.ref (He.ga K "DueError"))) tNil))) tNil)))))),
   (.ref (He.ga K "InvalidWeek"), some 3, (fun a cls d => tRet (tLst (tCons (tC (.str "week")) (tCons (tXg K a cls d "given" (tVar 3)) (tCons (tCB (rIsX K cls d a) (tCons (tVar 3) (tCons (tC (.ref (He.ga K "DueError"))) tNil))) tNil)))))),
   (.ref (He.ga K "InvalidWeekday"), some 3, (fun a cls d => tRet (tLst (tCons (tC (.str "weekday")) (tCons (tXg K a cls d "given" (tVar 3)) (tCons (tCB (rIsX K cls d a) (tCons (tVar 3) (tCons (tC (.ref (He.ga K "DueError"))) tNil))) tNil))))))]
theorem d__law_ask {P : Program} {w : World} {K : PySem.W.Frag} {mg : Str → Option Value} {base : Heap} (T : Tx P K mg) (c_day_of_week : Kn P w K mg base 6 "day_of_week" ["year", "week", "weekday"] (sp_day_of_week K))
    (c_nth_weekday : Kn P w K mg base 6 "nth_weekday" ["year", "month", "number", "weekday"] (sp_nth_weekday K))
    (c_week_of : Kn P w K mg base 7 "week_of" ["day"] (sp_week_of K))
    (c_weekday_of : Kn P w K mg base 7 "weekday_of" ["day"] (sp_weekday_of K))
    (c_weeks_in : Kn P w K mg base 6 "weeks_in" ["year"] (sp_weeks_in K))
    (k_day_of_week_weekday_week_year : Kk P w K mg base 6 "day_of_week" ["year", "week", "weekday"] ["weekday", "week", "year"] g_day_of_week_weekday_week_year (sp_day_of_week K))
    (k_nth_weekday_weekday_number_month_year : Kk P w K mg base 6 "nth_weekday" ["year", "month", "number", "weekday"] ["weekday", "number", "month", "year"] g_nth_weekday_weekday_number_month_year (sp_nth_weekday K))
    (k_week_of_day : Kk P w K mg base 7 "week_of" ["day"] ["day"] g_week_of_day (sp_week_of K))
    (k_weekday_of_day : Kk P w K mg base 7 "weekday_of" ["day"] ["day"] g_weekday_of_day (sp_weekday_of K))
    (k_weeks_in_year : Kk P w K mg base 6 "weeks_in" ["year"] ["year"] g_weeks_in_year (sp_weeks_in K))
    {f : Addr} {cdv : Value} {A : Around} {outer : List Env} {s : Shared} {H : Hp} {E : XK} (hr : Room 7 (A.deeper (envOfC "_law_ask" (defScope s__law_ask) s.heap.objs.size f cdv))) :
    PSs (cxOf (L2.CX P w) P w K mg base ["word", "parts", "named", "e"] "_law_ask" (defScope s__law_ask) f cdv A outer s H E) (defBody s__law_ask) (t__law_ask K E) := by
  have nd := sc__law_ask.nd
  have hu0 := hu0_of hr
  have hu1 := hu_of hr
  have hu64 := hu64_of hr
  have hu65 := hu65_of hr
  exact pss_one (ps_try_manyA (Wout := (W0 E)) (tb := fun W => tSeq (tIfS (tTest (tOp (uEq K) (tVar 0) (tC (.str "weekday")))) (tRet (tLst (tCons (tC (.str "told")) (tCons (tIf (tTr K (tVar 2)) (tKk (sp_weekday_of K) g_weekday_of_day W (tCons (tOp (rIx K) (tVar 1) (tC (.int 0))) tNil)) (tKx (sp_weekday_of K) W (tCons (tOp (rIx K) (tVar 1) (tC (.int 0))) tNil))) tNil)))) tNext)
    (tSeq (tIfS (tTest (tOp (uEq K) (tVar 0) (tC (.str "week")))) (tRet (tLst (tCons (tC (.str "told")) (tCons (tIf (tTr K (tVar 2)) (tKk (sp_week_of K) g_week_of_day W (tCons (tOp (rIx K) (tVar 1) (tC (.int 0))) tNil)) (tKx (sp_week_of K) W (tCons (tOp (rIx K) (tVar 1) (tC (.int 0))) tNil))) tNil)))) tNext)
    (tSeq (tIfS (tTest (tOp (uEq K) (tVar 0) (tC (.str "weeks")))) (tRet (tLst (tCons (tC (.str "told")) (tCons (tIf (tTr K (tVar 2)) (tKk (sp_weeks_in K) g_weeks_in_year W (tCons (tOp (rIx K) (tVar 1) (tC (.int 0))) tNil)) (tKx (sp_weeks_in K) W (tCons (tOp (rIx K) (tVar 1) (tC (.int 0))) tNil))) tNil)))) tNext)
    (tSeq (tIfS (tTest (tOp (uEq K) (tVar 0) (tC (.str "day")))) (tSeq (tIfS (tTr K (tVar 2)) (tRet (tLst (tCons (tC (.str "told")) (tCons (tKk (sp_day_of_week K) g_day_of_week_weekday_week_year W (tCons (tOp (rIx K) (tVar 1) (tC (.int 2))) (tCons (tOp (rIx K) (tVar 1) (tC (.int 1))) (tCons (tOp (rIx K) (tVar 1) (tC (.int 0))) tNil)))) tNil)))) tNext)
    (tRet (tLst (tCons (tC (.str "told")) (tCons (tKx (sp_day_of_week K) W (tCons (tOp (rIx K) (tVar 1) (tC (.int 0))) (tCons (tOp (rIx K) (tVar 1) (tC (.int 1))) (tCons (tOp (rIx K) (tVar 1) (tC (.int 2))) tNil)))) tNil))))) tNext)
    (tSeq (tIfS (tTr K (tVar 2)) (tRet (tLst (tCons (tC (.str "told")) (tCons (tKk (sp_nth_weekday K) g_nth_weekday_weekday_number_month_year W (tCons (tOp (rIx K) (tVar 1) (tC (.int 3))) (tCons (tOp (rIx K) (tVar 1) (tC (.int 2))) (tCons (tOp (rIx K) (tVar 1) (tC (.int 1))) (tCons (tOp (rIx K) (tVar 1) (tC (.int 0))) tNil))))) tNil)))) tNext)
    (tRet (tLst (tCons (tC (.str "told")) (tCons (tKx (sp_nth_weekday K) W (tCons (tOp (rIx K) (tVar 1) (tC (.int 0))) (tCons (tOp (rIx K) (tVar 1) (tC (.int 1))) (tCons (tOp (rIx K) (tVar 1) (tC (.int 2))) (tCons (tOp (rIx K) (tVar 1) (tC (.int 3))) tNil))))) tNil))))))))) rfl rfl (takes_of rfl rfl rfl rfl) (fun W pn xe tk po => pss_cons (ps_if (pt_cmpR (u_eq hu64) (pv 0) pe_str (nomark _)) (pss_one (ps_ret (pe_lst (pa_cons pe_str (pa_cons (pe_ifExp (pt_tr (pv 2) (by intro _; rfl)) (pe_kk k_weekday_of_day hr (by decide) tk (by rfl) (pk_cons (pe_ix ix_seq (pv 1) pe_int (fun _ _ => rfl)) pk_nil)) (pe_kx c_weekday_of hr (by decide) tk (by rfl) (pa_cons (pe_ix ix_seq (pv 1) pe_int (fun _ _ => rfl)) pa_nil))) pa_nil))))) pss_nil)
      (pss_cons (ps_if (pt_cmpR (u_eq hu64) (pv 0) pe_str (nomark _)) (pss_one (ps_ret (pe_lst (pa_cons pe_str (pa_cons (pe_ifExp (pt_tr (pv 2) (by intro _; rfl)) (pe_kk k_week_of_day hr (by decide) tk (by rfl) (pk_cons (pe_ix ix_seq (pv 1) pe_int (fun _ _ => rfl)) pk_nil)) (pe_kx c_week_of hr (by decide) tk (by rfl) (pa_cons (pe_ix ix_seq (pv 1) pe_int (fun _ _ => rfl)) pa_nil))) pa_nil))))) pss_nil)
      (pss_cons (ps_if (pt_cmpR (u_eq hu64) (pv 0) pe_str (nomark _)) (pss_one (ps_ret (pe_lst (pa_cons pe_str (pa_cons (pe_ifExp (pt_tr (pv 2) (by intro _; rfl)) (pe_kk k_weeks_in_year hr (by decide) tk (by rfl) (pk_cons (pe_ix ix_seq (pv 1) pe_int (fun _ _ => rfl)) pk_nil)) (pe_kx c_weeks_in hr (by decide) tk (by rfl) (pa_cons (pe_ix ix_seq (pv 1) pe_int (fun _ _ => rfl)) pa_nil))) pa_nil))))) pss_nil)
      (pss_cons (ps_if (pt_cmpR (u_eq hu64) (pv 0) pe_str (nomark _)) (pss_cons (ps_if (pt_tr (pv 2) (by intro _; rfl)) (pss_one (ps_ret (pe_lst (pa_cons pe_str (pa_cons (pe_kk k_day_of_week_weekday_week_year hr (by decide) tk (by rfl) (pk_cons (pe_ix ix_seq (pv 1) pe_int (fun _ _ => rfl)) (pk_cons (pe_ix ix_seq (pv 1) pe_int (fun _ _ => rfl)) (pk_cons (pe_ix ix_seq (pv 1) pe_int (fun _ _ => rfl)) pk_nil)))) pa_nil))))) pss_nil)
      (pss_one (ps_ret (pe_lst (pa_cons pe_str (pa_cons (pe_kx c_day_of_week hr (by decide) tk (by rfl) (pa_cons (pe_ix ix_seq (pv 1) pe_int (fun _ _ => rfl)) (pa_cons (pe_ix ix_seq (pv 1) pe_int (fun _ _ => rfl)) (pa_cons (pe_ix ix_seq (pv 1) pe_int (fun _ _ => rfl)) pa_nil)))) pa_nil)))))) pss_nil)
      (pss_cons (ps_if (pt_tr (pv 2) (by intro _; rfl)) (pss_one (ps_ret (pe_lst (pa_cons pe_str (pa_cons (pe_kk k_nth_weekday_weekday_number_month_year hr (by decide) tk (by rfl) (pk_cons (pe_ix ix_seq (pv 1) pe_int (fun _ _ => rfl)) (pk_cons (pe_ix ix_seq (pv 1) pe_int (fun _ _ => rfl)) (pk_cons (pe_ix ix_seq (pv 1) pe_int (fun _ _ => rfl)) (pk_cons (pe_ix ix_seq (pv 1) pe_int (fun _ _ => rfl)) pk_nil))))) pa_nil))))) pss_nil)
      (pss_one (ps_ret (pe_lst (pa_cons pe_str (pa_cons (pe_kx c_nth_weekday hr (by decide) tk (by rfl) (pa_cons (pe_ix ix_seq (pv 1) pe_int (fun _ _ => rfl)) (pa_cons (pe_ix ix_seq (pv 1) pe_int (fun _ _ => rfl)) (pa_cons (pe_ix ix_seq (pv 1) pe_int (fun _ _ => rfl)) (pa_cons (pe_ix ix_seq (pv 1) pe_int (fun _ _ => rfl)) pa_nil))))) pa_nil))))))))))
   (HdsA.named nd rfl rfl T.nm_InvalidDay (ts := (fun a cls d => tRet (tLst (tCons (tC (.str "day")) (tCons (tXg K a cls d "given" (tVar 3)) (tCons (tCB (rIsX K cls d a) (tCons (tVar 3) (tCons (tC (.ref (He.ga K "DueError"))) tNil))) tNil)))))) (fun a oe cls d pn hz hf => pss_one (ps_ret (pe_lst (pa_cons pe_str (pa_cons (pe_xg hz hf (pv 3)) (pa_cons (pe_callB (call_isX hz hf) (by rfl) T.n_isinstance (by decide +kernel) (pa_cons (pv 3) (pa_cons (pe_cst (by rfl) T.r_DueError) pa_nil))) pa_nil))))))
   (HdsA.named nd rfl rfl T.nm_InvalidYear (ts := (fun a cls d => tRet (tLst (tCons (tC (.str "year")) (tCons (tXg K a cls d "given" (tVar 3)) (tCons (tCB (rIsX K cls d a) (tCons (tVar 3) (tCons (tC (.ref (He.ga K "DueError"))) tNil))) tNil)))))) (fun a oe cls d pn hz hf => pss_one (ps_ret (pe_lst (pa_cons pe_str (pa_cons (pe_xg hz hf (pv 3)) (pa_cons (pe_callB (call_isX hz hf) (by rfl) T.n_isinstance (by decide +kernel) (pa_cons (pv 3) (pa_cons (pe_cst (by rfl) T.r_DueError) pa_nil))) pa_nil))))))
   (HdsA.named nd rfl rfl T.nm_InvalidMonth (ts := (fun a cls d => tRet (tLst (tCons (tC (.str "month")) (tCons (tXg K a cls d "given" (tVar 3)) (tCons (tCB (rIsX K cls d a) (tCons (tVar 3) (tCons (tC (.ref (He.ga K "DueError"))) tNil))) tNil)))))) (fun a oe cls d pn hz hf => pss_one (ps_ret (pe_lst (pa_cons pe_str (pa_cons (pe_xg hz hf (pv 3)) (pa_cons (pe_callB (call_isX hz hf) (by rfl) T.n_isinstance (by decide +kernel) (pa_cons (pv 3) (pa_cons (pe_cst (by rfl) T.r_DueError) pa_nil))) pa_nil))))))
   (HdsA.named nd rfl rfl T.nm_InvalidNumber (ts := (fun a cls d => tRet (tLst (tCons (tC (.str "number")) (tCons (tXg K a cls d "given" (tVar 3)) (tCons (tCB (rIsX K cls d a) (tCons (tVar 3) (tCons (tC (.ref (He.ga K "DueError"))) tNil))) tNil)))))) (fun a oe cls d pn hz hf => pss_one (ps_ret (pe_lst (pa_cons pe_str (pa_cons (pe_xg hz hf (pv 3)) (pa_cons (pe_callB (call_isX hz hf) (by rfl) T.n_isinstance (by decide +kernel) (pa_cons (pv 3) (pa_cons (pe_cst (by rfl) T.r_DueError) pa_nil))) pa_nil))))))
   (HdsA.named nd rfl rfl T.nm_InvalidWeek (ts := (fun a cls d => tRet (tLst (tCons (tC (.str "week")) (tCons (tXg K a cls d "given" (tVar 3)) (tCons (tCB (rIsX K cls d a) (tCons (tVar 3) (tCons (tC (.ref (He.ga K "DueError"))) tNil))) tNil)))))) (fun a oe cls d pn hz hf => pss_one (ps_ret (pe_lst (pa_cons pe_str (pa_cons (pe_xg hz hf (pv 3)) (pa_cons (pe_callB (call_isX hz hf) (by rfl) T.n_isinstance (by decide +kernel) (pa_cons (pv 3) (pa_cons (pe_cst (by rfl) T.r_DueError) pa_nil))) pa_nil))))))
   (HdsA.named nd rfl rfl T.nm_InvalidWeekday (ts := (fun a cls d => tRet (tLst (tCons (tC (.str "weekday")) (tCons (tXg K a cls d "given" (tVar 3)) (tCons (tCB (rIsX K cls d a) (tCons (tVar 3) (tCons (tC (.ref (He.ga K "DueError"))) tNil))) tNil)))))) (fun a oe cls d pn hz hf => pss_one (ps_ret (pe_lst (pa_cons pe_str (pa_cons (pe_xg hz hf (pv 3)) (pa_cons (pe_callB (call_isX hz hf) (by rfl) T.n_isinstance (by decide +kernel) (pa_cons (pv 3) (pa_cons (pe_cst (by rfl) T.r_DueError) pa_nil))) pa_nil))))))
   (HdsA.nil))))))))
/-! _law_begin: 0 year, 1 past, 2 day, 3 one -/
abbrev s__law_begin : Stmt := top 52
abbrev N__law_begin : List Str := ["year", "past", "day", "one"]
theorem sc__law_begin : FnScope ["year", "past", "day", "one"] ["year"] (defScope s__law_begin) := ⟨rfl, rfl, rfl, by decide +kernel, rfl, by decide +kernel, by decide +kernel⟩
abbrev t__law_begin (K : PySem.W.Frag) (E : XK) : TS :=
  tSeq (tAsg (tOp uSub (tVar 0) (tC (.int 2000))) (gName 1))
    (tSeq (tAsg (tOp uMul (tC (.int 146097)) (tOp uFdv (tVar 1) (tC (.int 400)))) (gName 2))
    (tSeq (tFor (iRng1 (tCons (tOp uMod (tCB uInt (tCons (tVar 1) tNil)) (tC (.int 400))) tNil)) (gName 3) (tAsg (tOp (uAdd K) (tOp (uAdd K) (tVar 2) (tC (.int 365))) (tCB uInt (tCons (tKn (sp__law_leap K) (tCons (tVar 3) tNil)) tNil))) (gName 2)))
    (tRet (tVar 2))))
theorem d__law_begin {P : Program} {w : World} {K : PySem.W.Frag} {mg : Str → Option Value} {base : Heap} (T : Tx P K mg) (c__law_leap : Kn P w K mg base 3 "_law_leap" ["year"] (sp__law_leap K))
    {f : Addr} {cdv : Value} {A : Around} {outer : List Env} {s : Shared} {H : Hp} {E : XK} (hr : Room 3 (A.deeper (envOfC "_law_begin" (defScope s__law_begin) s.heap.objs.size f cdv))) :
    PSs (cxOf (L2.CX P w) P w K mg base ["year", "past", "day", "one"] "_law_begin" (defScope s__law_begin) f cdv A outer s H E) (defBody s__law_begin) (t__law_begin K E) := by
  have nd := sc__law_begin.nd
  have hu0 := hu0_of hr
  have hu1 := hu_of hr
  have hu64 := hu64_of hr
  have hu65 := hu65_of hr
  exact pss_cons (ps_asg (pe_op u_sub (pv 0) pe_int) (pg_name (i := 1) nd rfl (Or.inl rfl)))
      (pss_cons (ps_asg (pe_op u_mul pe_int (pe_op u_fdv (pv 1) pe_int)) (pg_name (i := 2) nd rfl (Or.inl rfl)))
      (pss_cons (ps_for (passes_of rfl) rfl (pi_range1 (by rfl) T.n_range (pa_cons (pe_op u_mod (pe_callTy c_int (by rfl) T.n_int (by decide +kernel) (pa_cons (pv 1) pa_nil)) pe_int) pa_nil)) (pg_name (i := 3) nd rfl (Or.inl rfl)) (pss_one (ps_asg (pe_op u_add (pe_op u_add (pv 2) pe_int) (pe_callTy c_int (by rfl) T.n_int (by decide +kernel) (pa_cons (pe_kn c__law_leap hr (by decide) (by rfl) (pa_cons (pv 3) pa_nil)) pa_nil))) (pg_name (i := 2) nd rfl (Or.inl rfl)))))
      (pss_one (ps_ret (pv 2)))))
/-! _law_week: 0 day, 1 thursday, 2 year -/
abbrev s__law_week : Stmt := top 53
abbrev N__law_week : List Str := ["day", "thursday", "year"]
theorem sc__law_week : FnScope ["day", "thursday", "year"] ["day"] (defScope s__law_week) := ⟨rfl, rfl, rfl, by decide +kernel, rfl, by decide +kernel, by decide +kernel⟩
abbrev t__law_week (K : PySem.W.Frag) (E : XK) : TS :=
  tSeq (tAsg (tOp (uAdd K) (tOp uSub (tVar 0) (tOp uMod (tCB uInt (tCons (tOp (uAdd K) (tVar 0) (tC (.int 5))) tNil)) (tC (.int 7)))) (tC (.int 3))) (gName 1))
    (tSeq (tIfS (tTest (tOp (uLt K) (tVar 1) (tC (.int 0)))) (tRet (tTup (tCons (tC (.int 1999)) (tCons (tOp (uAdd K) (tOp uFdv (tOp (uAdd K) (tC (.int 365)) (tVar 1)) (tC (.int 7))) (tC (.int 1))) tNil)))) tNext)
    (tSeq (tAsg (tOp (rIx K) (tKn (sp__law_date K) (tCons (tVar 1) tNil)) (tC (.int 0))) (gName 2))
    (tRet (tTup (tCons (tVar 2) (tCons (tOp (uAdd K) (tOp uFdv (tOp uSub (tVar 1) (tKn (sp__law_begin K) (tCons (tVar 2) tNil))) (tC (.int 7))) (tC (.int 1))) tNil))))))
theorem d__law_week {P : Program} {w : World} {K : PySem.W.Frag} {mg : Str → Option Value} {base : Heap} (T : Tx P K mg) (c__law_begin : Kn P w K mg base 4 "_law_begin" ["year"] (sp__law_begin K))
    (c__law_date : Kn P w K mg base 5 "_law_date" ["day"] (sp__law_date K))
    {f : Addr} {cdv : Value} {A : Around} {outer : List Env} {s : Shared} {H : Hp} {E : XK} (hr : Room 5 (A.deeper (envOfC "_law_week" (defScope s__law_week) s.heap.objs.size f cdv))) :
    PSs (cxOf (L2.CX P w) P w K mg base ["day", "thursday", "year"] "_law_week" (defScope s__law_week) f cdv A outer s H E) (defBody s__law_week) (t__law_week K E) := by
  have nd := sc__law_week.nd
  have hu0 := hu0_of hr
  have hu1 := hu_of hr
  have hu64 := hu64_of hr
  have hu65 := hu65_of hr
  exact pss_cons (ps_asg (pe_op u_add (pe_op u_sub (pv 0) (pe_op u_mod (pe_callTy c_int (by rfl) T.n_int (by decide +kernel) (pa_cons (pe_op u_add (pv 0) pe_int) pa_nil)) pe_int)) pe_int) (pg_name (i := 1) nd rfl (Or.inl rfl)))
      (pss_cons (ps_if (pt_cmpR (u_lt hu0) (pv 1) pe_int (nomark _)) (pss_one (ps_ret (pe_tup (pa_cons pe_int (pa_cons (pe_op u_add (pe_op u_fdv (pe_op u_add pe_int (pv 1)) pe_int) pe_int) pa_nil))))) pss_nil)
      (pss_cons (ps_asg (pe_ix ix_seq (pe_kn c__law_date hr (by decide) (by rfl) (pa_cons (pv 1) pa_nil)) pe_int (fun _ _ => rfl)) (pg_name (i := 2) nd rfl (Or.inl rfl)))
      (pss_one (ps_ret (pe_tup (pa_cons (pv 2) (pa_cons (pe_op u_add (pe_op u_fdv (pe_op u_sub (pv 1) (pe_kn c__law_begin hr (by decide) (by rfl) (pa_cons (pv 2) pa_nil))) pe_int) pe_int) pa_nil)))))))
/-! _law_weeks: 0 year, 1 first -/
abbrev s__law_weeks : Stmt := top 54
abbrev N__law_weeks : List Str := ["year", "first"]
theorem sc__law_weeks : FnScope ["year", "first"] ["year"] (defScope s__law_weeks) := ⟨rfl, rfl, rfl, by decide +kernel, rfl, by decide +kernel, by decide +kernel⟩
abbrev t__law_weeks (K : PySem.W.Frag) (E : XK) : TS :=
  tSeq (tAsg (tOp uMod (tCB uInt (tCons (tOp (uAdd K) (tKn (sp__law_begin K) (tCons (tVar 0) tNil)) (tC (.int 5))) tNil)) (tC (.int 7))) (gName 1))
    (tRet (tIf (tOr (tTest (tOp (uEq K) (tVar 1) (tC (.int 3)))) (tAnd (tTest (tOp (uEq K) (tVar 1) (tC (.int 2)))) (tTr K (tKn (sp__law_leap K) (tCons (tVar 0) tNil))))) (tC (.int 53)) (tC (.int 52))))
theorem d__law_weeks {P : Program} {w : World} {K : PySem.W.Frag} {mg : Str → Option Value} {base : Heap} (T : Tx P K mg) (c__law_begin : Kn P w K mg base 4 "_law_begin" ["year"] (sp__law_begin K))
    (c__law_leap : Kn P w K mg base 3 "_law_leap" ["year"] (sp__law_leap K))
    {f : Addr} {cdv : Value} {A : Around} {outer : List Env} {s : Shared} {H : Hp} {E : XK} (hr : Room 4 (A.deeper (envOfC "_law_weeks" (defScope s__law_weeks) s.heap.objs.size f cdv))) :
    PSs (cxOf (L2.CX P w) P w K mg base ["year", "first"] "_law_weeks" (defScope s__law_weeks) f cdv A outer s H E) (defBody s__law_weeks) (t__law_weeks K E) := by
  have nd := sc__law_weeks.nd
  have hu0 := hu0_of hr
  have hu1 := hu_of hr
  have hu64 := hu64_of hr
  have hu65 := hu65_of hr
  exact pss_cons (ps_asg (pe_op u_mod (pe_callTy c_int (by rfl) T.n_int (by decide +kernel) (pa_cons (pe_op u_add (pe_kn c__law_begin hr (by decide) (by rfl) (pa_cons (pv 0) pa_nil)) pe_int) pa_nil)) pe_int) (pg_name (i := 1) nd rfl (Or.inl rfl)))
      (pss_one (ps_ret (pe_ifExp (PW.pt (pw_or (pt_cmpR (u_eq hu64) (pv 1) pe_int (nomark _)) (pw_or1 (PW.pt (pw_and (pt_cmpR (u_eq hu64) (pv 1) pe_int (nomark _)) (pw_and1 (pt_tr (pe_kn c__law_leap hr (by decide) (by rfl) (pa_cons (pv 0) pa_nil)) (by intro _; rfl)))))))) pe_int pe_int)))
/-! _law_year: 0 box -/
abbrev s__law_year : Stmt := top 55
abbrev N__law_year : List Str := ["box"]
theorem sc__law_year : FnScope ["box"] ["box"] (defScope s__law_year) := ⟨rfl, rfl, rfl, by decide +kernel, rfl, by decide +kernel, by decide +kernel⟩
abbrev t__law_year (K : PySem.W.Frag) (E : XK) : TS :=
  tRet (tOp (rIx K) (tLst (tCons (tC (.int 2000)) (tCons (tC (.int 2004)) (tCons (tC (.int 2026)) (tCons (tC (.int 2100)) (tCons (tC (.int 2400)) (tCons (tC (.int 2700000000)) (tCons (tOp (uAdd K) (tC (.int 2000)) (tKn (sp__law_take K) (tCons (tVar 0) (tCons (tC (.int 800)) tNil)))) (tCons (tOp (uAdd K) (tC (.int 2000)) (tKn (sp__law_take K) (tCons (tVar 0) (tCons (tOp uPow (tC (.int 10)) (tC (.int 9))) tNil)))) tNil))))))))) (tKn (sp__law_take K) (tCons (tVar 0) (tCons (tC (.int 8)) tNil))))
theorem d__law_year {P : Program} {w : World} {K : PySem.W.Frag} {mg : Str → Option Value} {base : Heap} (T : Tx P K mg) (c__law_take : Kn P w K mg base 3 "_law_take" ["box", "many"] (sp__law_take K))
    {f : Addr} {cdv : Value} {A : Around} {outer : List Env} {s : Shared} {H : Hp} {E : XK} (hr : Room 3 (A.deeper (envOfC "_law_year" (defScope s__law_year) s.heap.objs.size f cdv))) :
    PSs (cxOf (L2.CX P w) P w K mg base ["box"] "_law_year" (defScope s__law_year) f cdv A outer s H E) (defBody s__law_year) (t__law_year K E) := by
  have nd := sc__law_year.nd
  have hu0 := hu0_of hr
  have hu1 := hu_of hr
  have hu64 := hu64_of hr
  have hu65 := hu65_of hr
  exact pss_one (ps_ret (pe_ix ix_seq (pe_lst (pa_cons pe_int (pa_cons pe_int (pa_cons pe_int (pa_cons pe_int (pa_cons pe_int (pa_cons pe_int (pa_cons (pe_op u_add pe_int (pe_kn c__law_take hr (by decide) (by rfl) (pa_cons (pv 0) (pa_cons pe_int pa_nil)))) (pa_cons (pe_op u_add pe_int (pe_kn c__law_take hr (by decide) (by rfl) (pa_cons (pv 0) (pa_cons (pe_op u_pow pe_int pe_int) pa_nil)))) pa_nil))))))))) (pe_kn c__law_take hr (by decide) (by rfl) (pa_cons (pv 0) (pa_cons pe_int pa_nil))) (fun _ _ => rfl)))
/-! _law_told: 0 word, 1 parts, 2 due, 3 named, 4 way, 5 told -/
abbrev s__law_told : Stmt := top 56
abbrev N__law_told : List Str := ["word", "parts", "due", "named", "way", "told"]
theorem sc__law_told : FnScope ["word", "parts", "due", "named", "way", "told"] ["word", "parts", "due", "named"] (defScope s__law_told) := ⟨rfl, rfl, rfl, by decide +kernel, rfl, by decide +kernel, by decide +kernel⟩
abbrev t__law_told (K : PySem.W.Frag) (E : XK) : TS :=
  tSeq (tFor (iSeq K (tLst (tCons (tVar 3) (tCons (tNotV (tVar 3)) tNil)))) (gName 4) (tSeq (tAsg (tKn (sp__law_ask K) (tCons (tVar 0) (tCons (tVar 1) (tCons (tVar 4) tNil)))) (gName 5))
    (tIfS (tOr (tTest (tOp (uNe K) (tOp (rIx K) (tVar 5) (tC (.int 0))) (tC (.str "told")))) (tNot (tTr K (tKn (sp__law_same K) (tCons (tOp (rIx K) (tVar 5) (tC (.int 1))) (tCons (tVar 2) tNil)))))) (tRet (tC (.bl false))) tNext)))
    (tRet (tC (.bl true)))
theorem d__law_told {P : Program} {w : World} {K : PySem.W.Frag} {mg : Str → Option Value} {base : Heap} (T : Tx P K mg) (c__law_ask : Kn P w K mg base 8 "_law_ask" ["word", "parts", "named"] (sp__law_ask K))
    (c__law_same : Kn P w K mg base 40 "_law_same" ["told", "due"] (sp__law_same K))
    {f : Addr} {cdv : Value} {A : Around} {outer : List Env} {s : Shared} {H : Hp} {E : XK} (hr : Room 40 (A.deeper (envOfC "_law_told" (defScope s__law_told) s.heap.objs.size f cdv))) :
    PSs (cxOf (L2.CX P w) P w K mg base ["word", "parts", "due", "named", "way", "told"] "_law_told" (defScope s__law_told) f cdv A outer s H E) (defBody s__law_told) (t__law_told K E) := by
  have nd := sc__law_told.nd
  have hu0 := hu0_of hr
  have hu1 := hu_of hr
  have hu64 := hu64_of hr
  have hu65 := hu65_of hr
  exact pss_cons (ps_for (passes_of rfl) rfl (pi_seq (pe_lst (pa_cons (pv 3) (pa_cons (pe_not (pv 3)) pa_nil)))) (pg_name (i := 4) nd rfl (Or.inl rfl)) (pss_cons (ps_asg (pe_kn c__law_ask hr (by decide) (by rfl) (pa_cons (pv 0) (pa_cons (pv 1) (pa_cons (pv 4) pa_nil)))) (pg_name (i := 5) nd rfl (Or.inl rfl)))
      (pss_one (ps_if (PW.pt (pw_or (pt_cmpR (u_ne hu64) (pe_ix ix_seq (pv 5) pe_int (fun _ _ => rfl)) pe_str (nomark _)) (pw_or1 (pt_not (pt_tr (pe_kn c__law_same hr (by decide) (by rfl) (pa_cons (pe_ix ix_seq (pv 5) pe_int (fun _ _ => rfl)) (pa_cons (pv 2) pa_nil))) (by intro _; rfl)))))) (pss_one (ps_ret pe_bl)) pss_nil))))
      (pss_one (ps_ret pe_bl))
/-! _law_days_right: 0 box, 1 named, 2 turn, 3 year, 4 first, 5 day -/
abbrev s__law_days_right : Stmt := top 57
abbrev N__law_days_right : List Str := ["box", "named", "turn", "year", "first", "day"]
theorem sc__law_days_right : FnScope ["box", "named", "turn", "year", "first", "day"] ["box", "named"] (defScope s__law_days_right) := ⟨rfl, rfl, rfl, by decide +kernel, rfl, by decide +kernel, by decide +kernel⟩
abbrev t__law_days_right (K : PySem.W.Frag) (E : XK) : TS :=
  tSeq (tFor (iRng1 (tCons (tC (.int 4)) tNil)) (gName 2) (tSeq (tAsg (tOp (rIx K) (tLst (tCons (tC (.int 2000)) (tCons (tC (.int 2001)) (tCons (tC (.int 2004)) (tCons (tC (.int 2005)) (tCons (tC (.int 2008)) (tCons (tOp (uAdd K) (tC (.int 2000)) (tKn (sp__law_take K) (tCons (tVar 0) (tCons (tC (.int 400)) tNil)))) (tCons (tOp (uAdd K) (tC (.int 2000)) (tKn (sp__law_take K) (tCons (tVar 0) (tCons (tOp uMul (tC (.int 2)) (tOp uPow (tC (.int 10)) (tC (.int 9)))) tNil)))) tNil)))))))) (tKn (sp__law_take K) (tCons (tVar 0) (tCons (tC (.int 7)) tNil)))) (gName 3))
    (tSeq (tAsg (tOp (rIx K) (tLst (tCons (tCB uMax (tCons (tC (.int 0)) (tCons (tOp uSub (tKn (sp__law_begin K) (tCons (tVar 3) tNil)) (tC (.int 4))) tNil))) (tCons (tC (.int 0)) (tCons (tOp uSub (tOp uPow (tC (.int 10)) (tC (.int 12))) (tC (.int 8))) (tCons (tKn (sp__law_take K) (tCons (tVar 0) (tCons (tOp uSub (tOp uPow (tC (.int 10)) (tC (.int 12))) (tC (.int 8))) tNil))) tNil))))) (tOp (rIx K) (tLst (tCons (tC (.int 0)) (tCons (tC (.int 0)) (tCons (tC (.int 0)) (tCons (tC (.int 1)) (tCons (tC (.int 2)) (tCons (tC (.int 3)) tNil))))))) (tKn (sp__law_take K) (tCons (tVar 0) (tCons (tC (.int 6)) tNil))))) (gName 4))
    (tFor (iRng2 (tCons (tVar 4) (tCons (tOp (uAdd K) (tVar 4) (tC (.int 8))) tNil))) (gName 5) (tIfS (tOr (tNot (tTr K (tKn (sp__law_told K) (tCons (tC (.str "weekday")) (tCons (tLst (tCons (tVar 5) tNil)) (tCons (tOp uMod (tCB uInt (tCons (tOp (uAdd K) (tVar 5) (tC (.int 5))) tNil)) (tC (.int 7))) (tCons (tVar 1) tNil))))))) (tNot (tTr K (tKn (sp__law_told K) (tCons (tC (.str "week")) (tCons (tLst (tCons (tVar 5) tNil)) (tCons (tKn (sp__law_week K) (tCons (tVar 5) tNil)) (tCons (tVar 1) tNil)))))))) (tRet (tC (.bl false))) tNext)))))
    (tRet (tC (.bl true)))
theorem d__law_days_right {P : Program} {w : World} {K : PySem.W.Frag} {mg : Str → Option Value} {base : Heap} (T : Tx P K mg) (c__law_begin : Kn P w K mg base 4 "_law_begin" ["year"] (sp__law_begin K))
    (c__law_take : Kn P w K mg base 3 "_law_take" ["box", "many"] (sp__law_take K))
    (c__law_told : Kn P w K mg base 41 "_law_told" ["word", "parts", "due", "named"] (sp__law_told K))
    (c__law_week : Kn P w K mg base 6 "_law_week" ["day"] (sp__law_week K))
    {f : Addr} {cdv : Value} {A : Around} {outer : List Env} {s : Shared} {H : Hp} {E : XK} (hr : Room 41 (A.deeper (envOfC "_law_days_right" (defScope s__law_days_right) s.heap.objs.size f cdv))) :
    PSs (cxOf (L2.CX P w) P w K mg base ["box", "named", "turn", "year", "first", "day"] "_law_days_right" (defScope s__law_days_right) f cdv A outer s H E) (defBody s__law_days_right) (t__law_days_right K E) := by
  have nd := sc__law_days_right.nd
  have hu0 := hu0_of hr
  have hu1 := hu_of hr
  have hu64 := hu64_of hr
  have hu65 := hu65_of hr
  exact pss_cons (ps_for (passes_of rfl) rfl (pi_range1 (by rfl) T.n_range (pa_cons pe_int pa_nil)) (pg_name (i := 2) nd rfl (Or.inl rfl)) (pss_cons (ps_asg (pe_ix ix_seq (pe_lst (pa_cons pe_int (pa_cons pe_int (pa_cons pe_int (pa_cons pe_int (pa_cons pe_int (pa_cons (pe_op u_add pe_int (pe_kn c__law_take hr (by decide) (by rfl) (pa_cons (pv 0) (pa_cons pe_int pa_nil)))) (pa_cons (pe_op u_add pe_int (pe_kn c__law_take hr (by decide) (by rfl) (pa_cons (pv 0) (pa_cons (pe_op u_mul pe_int (pe_op u_pow pe_int pe_int)) pa_nil)))) pa_nil)))))))) (pe_kn c__law_take hr (by decide) (by rfl) (pa_cons (pv 0) (pa_cons pe_int pa_nil))) (fun _ _ => rfl)) (pg_name (i := 3) nd rfl (Or.inl rfl)))
      (pss_cons (ps_asg (pe_ix ix_seq (pe_lst (pa_cons (pe_callB (c_max rfl) (by rfl) T.n_max (by decide +kernel) (pa_cons pe_int (pa_cons (pe_op u_sub (pe_kn c__law_begin hr (by decide) (by rfl) (pa_cons (pv 3) pa_nil)) pe_int) pa_nil))) (pa_cons pe_int (pa_cons (pe_op u_sub (pe_op u_pow pe_int pe_int) pe_int) (pa_cons (pe_kn c__law_take hr (by decide) (by rfl) (pa_cons (pv 0) (pa_cons (pe_op u_sub (pe_op u_pow pe_int pe_int) pe_int) pa_nil))) pa_nil))))) (pe_ix ix_seq (pe_lst (pa_cons pe_int (pa_cons pe_int (pa_cons pe_int (pa_cons pe_int (pa_cons pe_int (pa_cons pe_int pa_nil))))))) (pe_kn c__law_take hr (by decide) (by rfl) (pa_cons (pv 0) (pa_cons pe_int pa_nil))) (fun _ _ => rfl)) (fun _ _ => rfl)) (pg_name (i := 4) nd rfl (Or.inl rfl)))
      (pss_one (ps_for (passes_of rfl) rfl (pi_range2 (by rfl) T.n_range (pa_cons (pv 4) (pa_cons (pe_op u_add (pv 4) pe_int) pa_nil))) (pg_name (i := 5) nd rfl (Or.inl rfl)) (pss_one (ps_if (PW.pt (pw_or (pt_not (pt_tr (pe_kn c__law_told hr (by decide) (by rfl) (pa_cons pe_str (pa_cons (pe_lst (pa_cons (pv 5) pa_nil)) (pa_cons (pe_op u_mod (pe_callTy c_int (by rfl) T.n_int (by decide +kernel) (pa_cons (pe_op u_add (pv 5) pe_int) pa_nil)) pe_int) (pa_cons (pv 1) pa_nil))))) (by intro _; rfl))) (pw_or1 (pt_not (pt_tr (pe_kn c__law_told hr (by decide) (by rfl) (pa_cons pe_str (pa_cons (pe_lst (pa_cons (pv 5) pa_nil)) (pa_cons (pe_kn c__law_week hr (by decide) (by rfl) (pa_cons (pv 5) pa_nil)) (pa_cons (pv 1) pa_nil))))) (by intro _; rfl)))))) (pss_one (ps_ret pe_bl)) pss_nil)))))))
      (pss_one (ps_ret pe_bl))
/-! _law_months_right: 0 box, 1 named, 2 turn, 3 year, 4 month, 5 weekday, 6 first, 7 days, 8 number, 9 due, 10 one, 11 day -/
abbrev s__law_months_right : Stmt := top 58
abbrev N__law_months_right : List Str := ["box", "named", "turn", "year", "month", "weekday", "first", "days", "number", "due", "one", "day"]
theorem sc__law_months_right : FnScope ["box", "named", "turn", "year", "month", "weekday", "first", "days", "number", "due", "one", "day"] ["box", "named"] (defScope s__law_months_right) := ⟨rfl, rfl, rfl, by decide +kernel, rfl, by decide +kernel, by decide +kernel⟩
abbrev t__law_months_right (K : PySem.W.Frag) (E : XK) : TS :=
  tSeq (tFor (iRng1 (tCons (tC (.int 6)) tNil)) (gName 2) (tSeq (tAsg (tTup (tCons (tKn (sp__law_year K) (tCons (tVar 0) tNil)) (tCons (tOp (rIx K) (tLst (tCons (tC (.int 2)) (tCons (tOp (uAdd K) (tC (.int 1)) (tKn (sp__law_take K) (tCons (tVar 0) (tCons (tC (.int 12)) tNil)))) tNil))) (tKn (sp__law_take K) (tCons (tVar 0) (tCons (tC (.int 2)) tNil)))) (tCons (tKn (sp__law_take K) (tCons (tVar 0) (tCons (tC (.int 7)) tNil))) tNil)))) (gSq K 3 (gCons (gName 3) (gCons (gName 4) (gCons (gName 5) gNil)))))
    (tSeq (tAsg (tOp (uAdd K) (tKn (sp__law_begin K) (tCons (tVar 3) tNil)) (tCB (uSum K) (tCons (tLc (iRng2 (tCons (tC (.int 1)) (tCons (tVar 4) tNil))) (gName 10) tYes (tKn (sp__law_length K) (tCons (tVar 3) (tCons (tVar 10) tNil))) [10]) tNil))) (gName 6))
    (tSeq (tAsg (tLc (iRng2 (tCons (tVar 6) (tCons (tOp (uAdd K) (tVar 6) (tKn (sp__law_length K) (tCons (tVar 3) (tCons (tVar 4) tNil)))) tNil))) (gName 11) (tTest (tOp (uEq K) (tOp uMod (tCB uInt (tCons (tOp (uAdd K) (tVar 11) (tC (.int 5))) tNil)) (tC (.int 7))) (tVar 5))) (tVar 11) [11]) (gName 7))
    (tFor (iSeq K (tLst (tCons (tOp (uAdd K) (tC (.int 1)) (tKn (sp__law_take K) (tCons (tVar 0) (tCons (tC (.int 5)) tNil)))) (tCons (tOp uSub (tOp uSub (tC (.int 0)) (tC (.int 1))) (tKn (sp__law_take K) (tCons (tVar 0) (tCons (tC (.int 5)) tNil)))) (tCons (tC (.int 5)) (tCons (tUn uNeg (tC (.int 5))) tNil)))))) (gName 8) (tSeq (tAsg (tIf (tTest (tOp uGt (tCB uAbs (tCons (tVar 8) tNil)) (tCB (uLen K) (tCons (tVar 7) tNil)))) (tC .non) (tIf (tTest (tOp uGt (tVar 8) (tC (.int 0)))) (tOp (rIx K) (tVar 7) (tOp uSub (tVar 8) (tC (.int 1)))) (tOp (rIx K) (tVar 7) (tVar 8)))) (gName 9))
    (tIfS (tNot (tTr K (tKn (sp__law_told K) (tCons (tC (.str "nth")) (tCons (tLst (tCons (tVar 3) (tCons (tVar 4) (tCons (tVar 8) (tCons (tVar 5) tNil))))) (tCons (tVar 9) (tCons (tVar 1) tNil))))))) (tRet (tC (.bl false))) tNext)))))))
    (tRet (tC (.bl true)))
theorem d__law_months_right {P : Program} {w : World} {K : PySem.W.Frag} {mg : Str → Option Value} {base : Heap} (T : Tx P K mg) (c__law_begin : Kn P w K mg base 4 "_law_begin" ["year"] (sp__law_begin K))
    (c__law_length : Kn P w K mg base 4 "_law_length" ["year", "month"] (sp__law_length K))
    (c__law_take : Kn P w K mg base 3 "_law_take" ["box", "many"] (sp__law_take K))
    (c__law_told : Kn P w K mg base 41 "_law_told" ["word", "parts", "due", "named"] (sp__law_told K))
    (c__law_year : Kn P w K mg base 4 "_law_year" ["box"] (sp__law_year K))
    {f : Addr} {cdv : Value} {A : Around} {outer : List Env} {s : Shared} {H : Hp} {E : XK} (hr : Room 41 (A.deeper (envOfC "_law_months_right" (defScope s__law_months_right) s.heap.objs.size f cdv))) :
    PSs (cxOf (L2.CX P w) P w K mg base ["box", "named", "turn", "year", "month", "weekday", "first", "days", "number", "due", "one", "day"] "_law_months_right" (defScope s__law_months_right) f cdv A outer s H E) (defBody s__law_months_right) (t__law_months_right K E) := by
  have nd := sc__law_months_right.nd
  have hu0 := hu0_of hr
  have hu1 := hu_of hr
  have hu64 := hu64_of hr
  have hu65 := hu65_of hr
  exact pss_cons (ps_for (passes_of rfl) rfl (pi_range1 (by rfl) T.n_range (pa_cons pe_int pa_nil)) (pg_name (i := 2) nd rfl (Or.inl rfl)) (pss_cons (ps_asg (pe_tup (pa_cons (pe_kn c__law_year hr (by decide) (by rfl) (pa_cons (pv 0) pa_nil)) (pa_cons (pe_ix ix_seq (pe_lst (pa_cons pe_int (pa_cons (pe_op u_add pe_int (pe_kn c__law_take hr (by decide) (by rfl) (pa_cons (pv 0) (pa_cons pe_int pa_nil)))) pa_nil))) (pe_kn c__law_take hr (by decide) (by rfl) (pa_cons (pv 0) (pa_cons pe_int pa_nil))) (fun _ _ => rfl)) (pa_cons (pe_kn c__law_take hr (by decide) (by rfl) (pa_cons (pv 0) (pa_cons pe_int pa_nil))) pa_nil)))) (pg_sq rfl (pgs_cons (pg_name (i := 3) nd rfl (Or.inr rfl)) (pgs_cons (pg_name (i := 4) nd rfl (Or.inl rfl)) (pgs_cons (pg_name (i := 5) nd rfl (Or.inr rfl)) pgs_nil)))))
      (pss_cons (ps_asg (pe_op u_add (pe_kn c__law_begin hr (by decide) (by rfl) (pa_cons (pv 3) pa_nil)) (pe_callB (c_sum rfl) (by rfl) T.n_sum (by decide +kernel) (pa_cons (pe_lc (own := [("one", 10)]) rfl nd (pi_range2 (by rfl) T.n_range (pa_cons pe_int (pa_cons (pv 4) pa_nil))) (blkOk_by (N := ["box", "named", "turn", "year", "month", "weekday", "first", "days", "number", "due", "one", "day"]) (sc := defScope s__law_months_right) (own := [("one", 10)]) (by decide +kernel)) (fun _ _ _ _ _ => pg_name (i := 10) nd rfl (Or.inl rfl)) (fun _ _ _ _ _ => pts_nil) (fun _ _ _ _ _ => pe_kn c__law_length hr (by decide) (by rfl) (pa_cons (pv 3) (pa_cons (pv 10) pa_nil)))) pa_nil))) (pg_name (i := 6) nd rfl (Or.inl rfl)))
      (pss_cons (ps_setLc (i := 7) (own := [("day", 11)]) rfl nd rfl rfl (sw_true rfl rfl rfl (by decide +kernel)) (pi_range2 (by rfl) T.n_range (pa_cons (pv 6) (pa_cons (pe_op u_add (pv 6) (pe_kn c__law_length hr (by decide) (by rfl) (pa_cons (pv 3) (pa_cons (pv 4) pa_nil)))) pa_nil))) (blkOk_by (N := ["box", "named", "turn", "year", "month", "weekday", "first", "days", "number", "due", "one", "day"]) (sc := defScope s__law_months_right) (own := [("day", 11)]) (by decide +kernel)) (fun _ _ _ _ _ => pg_name (i := 11) nd rfl (Or.inl rfl)) (fun _ _ _ _ _ => pts_one (pt_cmpR (u_eq hu64) (pe_op u_mod (pe_callTy c_int (by rfl) T.n_int (by decide +kernel) (pa_cons (pe_op u_add (pv 11) pe_int) pa_nil)) pe_int) (pv 5) (nomark _))) (fun _ _ _ _ _ => pv 11))
      (pss_one (ps_for (passes_of rfl) rfl (pi_seq (pe_lst (pa_cons (pe_op u_add pe_int (pe_kn c__law_take hr (by decide) (by rfl) (pa_cons (pv 0) (pa_cons pe_int pa_nil)))) (pa_cons (pe_op u_sub (pe_op u_sub pe_int pe_int) (pe_kn c__law_take hr (by decide) (by rfl) (pa_cons (pv 0) (pa_cons pe_int pa_nil)))) (pa_cons pe_int (pa_cons (pe_un u_neg pe_int) pa_nil)))))) (pg_name (i := 8) nd rfl (Or.inl rfl)) (pss_cons (ps_asg (pe_ifExp (pt_cmpR u_gt (pe_callB c_abs (by rfl) T.n_abs (by decide +kernel) (pa_cons (pv 8) pa_nil)) (pe_callB c_len (by rfl) T.n_len (by decide +kernel) (pa_cons (pv 7) pa_nil)) (nomark _)) pe_non (pe_ifExp (pt_cmpR u_gt (pv 8) pe_int (nomark _)) (pe_ix ix_seq (pv 7) (pe_op u_sub (pv 8) pe_int) (fun _ _ => rfl)) (pe_ix ix_seq (pv 7) (pv 8) (fun _ _ => rfl)))) (pg_name (i := 9) nd rfl (Or.inl rfl)))
      (pss_one (ps_if (pt_not (pt_tr (pe_kn c__law_told hr (by decide) (by rfl) (pa_cons pe_str (pa_cons (pe_lst (pa_cons (pv 3) (pa_cons (pv 4) (pa_cons (pv 8) (pa_cons (pv 5) pa_nil))))) (pa_cons (pv 9) (pa_cons (pv 1) pa_nil))))) (by intro _; rfl))) (pss_one (ps_ret pe_bl)) pss_nil)))))))))
      (pss_one (ps_ret pe_bl))
/-! _law_weeks_right: 0 box, 1 named, 2 turn, 3 year, 4 many, 5 week, 6 weekday, 7 told -/
abbrev s__law_weeks_right : Stmt := top 59
abbrev N__law_weeks_right : List Str := ["box", "named", "turn", "year", "many", "week", "weekday", "told"]
theorem sc__law_weeks_right : FnScope ["box", "named", "turn", "year", "many", "week", "weekday", "told"] ["box", "named"] (defScope s__law_weeks_right) := ⟨rfl, rfl, rfl, by decide +kernel, rfl, by decide +kernel, by decide +kernel⟩
abbrev t__law_weeks_right (K : PySem.W.Frag) (E : XK) : TS :=
  tSeq (tFor (iRng1 (tCons (tC (.int 4)) tNil)) (gName 2) (tSeq (tAsg (tOp (rIx K) (tLst (tCons (tKn (sp__law_year K) (tCons (tVar 0) tNil)) (tCons (tC (.int 2004)) (tCons (tC (.int 2009)) (tCons (tC (.int 2015)) (tCons (tC (.int 2032)) tNil)))))) (tKn (sp__law_take K) (tCons (tVar 0) (tCons (tC (.int 5)) tNil)))) (gName 3))
    (tSeq (tAsg (tKn (sp__law_weeks K) (tCons (tVar 3) tNil)) (gName 4))
    (tSeq (tIfS (tNot (tTr K (tKn (sp__law_told K) (tCons (tC (.str "weeks")) (tCons (tLst (tCons (tVar 3) tNil)) (tCons (tVar 4) (tCons (tVar 1) tNil))))))) (tRet (tC (.bl false))) tNext)
    (tFor (iSeq K (tLst (tCons (tC (.int 1)) (tCons (tVar 4) (tCons (tOp (uAdd K) (tC (.int 1)) (tKn (sp__law_take K) (tCons (tVar 0) (tCons (tVar 4) tNil)))) tNil))))) (gName 5) (tSeq (tAsg (tKn (sp__law_take K) (tCons (tVar 0) (tCons (tC (.int 7)) tNil))) (gName 6))
    (tSeq (tAsg (tKn (sp__law_ask K) (tCons (tC (.str "day")) (tCons (tLst (tCons (tVar 3) (tCons (tVar 5) (tCons (tVar 6) tNil)))) (tCons (tVar 1) tNil)))) (gName 7))
    (tSeq (tIfS (tOr (tTest (tOp (uNe K) (tOp (rIx K) (tVar 7) (tC (.int 0))) (tC (.str "told")))) (tOr (tNot (tTr K (tCB (uIsi K) (tCons (tOp (rIx K) (tVar 7) (tC (.int 1))) (tCons (tC (.ty "int")) tNil))))) (tOr (tTr K (tCB (uIsi K) (tCons (tOp (rIx K) (tVar 7) (tC (.int 1))) (tCons (tC (.ty "bool")) tNil)))) (tTest (tOp (uLt K) (tOp (rIx K) (tVar 7) (tC (.int 1))) (tC (.int 0))))))) (tRet (tC (.bl false))) tNext)
    (tSeq (tIfS (tOr (tTest (tOp (uNe K) (tKn (sp__law_week K) (tCons (tOp (rIx K) (tVar 7) (tC (.int 1))) tNil)) (tTup (tCons (tVar 3) (tCons (tVar 5) tNil))))) (tTest (tOp (uNe K) (tOp uMod (tCB uInt (tCons (tOp (uAdd K) (tOp (rIx K) (tVar 7) (tC (.int 1))) (tC (.int 5))) tNil)) (tC (.int 7))) (tVar 6)))) (tRet (tC (.bl false))) tNext)
    (tIfS (tNot (tTr K (tKn (sp__law_told K) (tCons (tC (.str "day")) (tCons (tLst (tCons (tVar 3) (tCons (tVar 5) (tCons (tVar 6) tNil)))) (tCons (tOp (uAdd K) (tOp (rIx K) (tVar 7) (tC (.int 1))) (tC (.int 0))) (tCons (tNotV (tVar 1)) tNil))))))) (tRet (tC (.bl false))) tNext))))))))))
    (tRet (tC (.bl true)))
theorem d__law_weeks_right {P : Program} {w : World} {K : PySem.W.Frag} {mg : Str → Option Value} {base : Heap} (T : Tx P K mg) (c__law_ask : Kn P w K mg base 8 "_law_ask" ["word", "parts", "named"] (sp__law_ask K))
    (c__law_take : Kn P w K mg base 3 "_law_take" ["box", "many"] (sp__law_take K))
    (c__law_told : Kn P w K mg base 41 "_law_told" ["word", "parts", "due", "named"] (sp__law_told K))
    (c__law_week : Kn P w K mg base 6 "_law_week" ["day"] (sp__law_week K))
    (c__law_weeks : Kn P w K mg base 5 "_law_weeks" ["year"] (sp__law_weeks K))
    (c__law_year : Kn P w K mg base 4 "_law_year" ["box"] (sp__law_year K))
    {f : Addr} {cdv : Value} {A : Around} {outer : List Env} {s : Shared} {H : Hp} {E : XK} (hr : Room 41 (A.deeper (envOfC "_law_weeks_right" (defScope s__law_weeks_right) s.heap.objs.size f cdv))) :
    PSs (cxOf (L2.CX P w) P w K mg base ["box", "named", "turn", "year", "many", "week", "weekday", "told"] "_law_weeks_right" (defScope s__law_weeks_right) f cdv A outer s H E) (defBody s__law_weeks_right) (t__law_weeks_right K E) := by
  have nd := sc__law_weeks_right.nd
  have hu0 := hu0_of hr
  have hu1 := hu_of hr
  have hu64 := hu64_of hr
  have hu65 := hu65_of hr
  exact pss_cons (ps_for (passes_of rfl) rfl (pi_range1 (by rfl) T.n_range (pa_cons pe_int pa_nil)) (pg_name (i := 2) nd rfl (Or.inl rfl)) (pss_cons (ps_asg (pe_ix ix_seq (pe_lst (pa_cons (pe_kn c__law_year hr (by decide) (by rfl) (pa_cons (pv 0) pa_nil)) (pa_cons pe_int (pa_cons pe_int (pa_cons pe_int (pa_cons pe_int pa_nil)))))) (pe_kn c__law_take hr (by decide) (by rfl) (pa_cons (pv 0) (pa_cons pe_int pa_nil))) (fun _ _ => rfl)) (pg_name (i := 3) nd rfl (Or.inl rfl)))
      (pss_cons (ps_asg (pe_kn c__law_weeks hr (by decide) (by rfl) (pa_cons (pv 3) pa_nil)) (pg_name (i := 4) nd rfl (Or.inl rfl)))
      (pss_cons (ps_if (pt_not (pt_tr (pe_kn c__law_told hr (by decide) (by rfl) (pa_cons pe_str (pa_cons (pe_lst (pa_cons (pv 3) pa_nil)) (pa_cons (pv 4) (pa_cons (pv 1) pa_nil))))) (by intro _; rfl))) (pss_one (ps_ret pe_bl)) pss_nil)
      (pss_one (ps_for (passes_of rfl) rfl (pi_seq (pe_lst (pa_cons pe_int (pa_cons (pv 4) (pa_cons (pe_op u_add pe_int (pe_kn c__law_take hr (by decide) (by rfl) (pa_cons (pv 0) (pa_cons (pv 4) pa_nil)))) pa_nil))))) (pg_name (i := 5) nd rfl (Or.inl rfl)) (pss_cons (ps_asg (pe_kn c__law_take hr (by decide) (by rfl) (pa_cons (pv 0) (pa_cons pe_int pa_nil))) (pg_name (i := 6) nd rfl (Or.inl rfl)))
      (pss_cons (ps_asg (pe_kn c__law_ask hr (by decide) (by rfl) (pa_cons pe_str (pa_cons (pe_lst (pa_cons (pv 3) (pa_cons (pv 5) (pa_cons (pv 6) pa_nil)))) (pa_cons (pv 1) pa_nil)))) (pg_name (i := 7) nd rfl (Or.inl rfl)))
      (pss_cons (ps_if (PW.pt (pw_or (pt_cmpR (u_ne hu64) (pe_ix ix_seq (pv 7) pe_int (fun _ _ => rfl)) pe_str (nomark _)) (pw_or (pt_not (pt_tr (pe_callB c_isi (by rfl) T.n_isinstance (by decide +kernel) (pa_cons (pe_ix ix_seq (pv 7) pe_int (fun _ _ => rfl)) (pa_cons (pe_ty (by rfl) T.n_int (by decide +kernel)) pa_nil))) (by intro _; rfl))) (pw_or (pt_tr (pe_callB c_isi (by rfl) T.n_isinstance (by decide +kernel) (pa_cons (pe_ix ix_seq (pv 7) pe_int (fun _ _ => rfl)) (pa_cons (pe_ty (by rfl) T.n_bool (by decide +kernel)) pa_nil))) (by intro _; rfl)) (pw_or1 (pt_cmpR (u_lt hu0) (pe_ix ix_seq (pv 7) pe_int (fun _ _ => rfl)) pe_int (nomark _))))))) (pss_one (ps_ret pe_bl)) pss_nil)
      (pss_cons (ps_if (PW.pt (pw_or (pt_cmpR (u_ne hu64) (pe_kn c__law_week hr (by decide) (by rfl) (pa_cons (pe_ix ix_seq (pv 7) pe_int (fun _ _ => rfl)) pa_nil)) (pe_tup (pa_cons (pv 3) (pa_cons (pv 5) pa_nil))) (nomark _)) (pw_or1 (pt_cmpR (u_ne hu64) (pe_op u_mod (pe_callTy c_int (by rfl) T.n_int (by decide +kernel) (pa_cons (pe_op u_add (pe_ix ix_seq (pv 7) pe_int (fun _ _ => rfl)) pe_int) pa_nil)) pe_int) (pv 6) (nomark _))))) (pss_one (ps_ret pe_bl)) pss_nil)
      (pss_one (ps_if (pt_not (pt_tr (pe_kn c__law_told hr (by decide) (by rfl) (pa_cons pe_str (pa_cons (pe_lst (pa_cons (pv 3) (pa_cons (pv 5) (pa_cons (pv 6) pa_nil)))) (pa_cons (pe_op u_add (pe_ix ix_seq (pv 7) pe_int (fun _ _ => rfl)) pe_int) (pa_cons (pe_not (pv 1)) pa_nil))))) (by intro _; rfl))) (pss_one (ps_ret pe_bl)) pss_nil))))))))))))
      (pss_one (ps_ret pe_bl))
/-! _law_no_number: 0 box, 1 low, 2 high, 3 odd -/
abbrev s__law_no_number : Stmt := top 60
abbrev N__law_no_number : List Str := ["box", "low", "high", "odd"]
theorem sc__law_no_number : FnScope ["box", "low", "high", "odd"] ["box", "low", "high"] (defScope s__law_no_number) := ⟨rfl, rfl, rfl, by decide +kernel, rfl, by decide +kernel, by decide +kernel⟩
abbrev t__law_no_number (K : PySem.W.Frag) (E : XK) : TS :=
  tSeq (tAsg (tLst (tCons (tOp uSub (tVar 1) (tC (.int 1))) (tCons (tOp (uAdd K) (tVar 2) (tC (.int 1))) (tCons (tC .non) (tCons (tC (.bl true)) (tCons (tC (.str "5")) (tCons (tLst (tCons (tC (.int 5)) tNil)) (tCons (tTup (tCons (tC (.int 5)) tNil)) (tCons (tDisp ((tC (.str "a"), tC (.int 1)) :: ([]))) (tCons (tOp uPow (tC (.int 10)) (tC (.int 29))) (tCons (tUn uNeg (tOp uPow (tC (.int 10)) (tC (.int 29)))) tNil))))))))))) (gName 3))
    (tRet (tOp (rIx K) (tVar 3) (tKn (sp__law_take K) (tCons (tVar 0) (tCons (tC (.int 10)) tNil)))))
theorem d__law_no_number {P : Program} {w : World} {K : PySem.W.Frag} {mg : Str → Option Value} {base : Heap} (T : Tx P K mg) (c__law_take : Kn P w K mg base 3 "_law_take" ["box", "many"] (sp__law_take K))
    {f : Addr} {cdv : Value} {A : Around} {outer : List Env} {s : Shared} {H : Hp} {E : XK} (hr : Room 3 (A.deeper (envOfC "_law_no_number" (defScope s__law_no_number) s.heap.objs.size f cdv))) :
    PSs (cxOf (L2.CX P w) P w K mg base ["box", "low", "high", "odd"] "_law_no_number" (defScope s__law_no_number) f cdv A outer s H E) (defBody s__law_no_number) (t__law_no_number K E) := by
  have nd := sc__law_no_number.nd
  have hu0 := hu0_of hr
  have hu1 := hu_of hr
  have hu64 := hu64_of hr
  have hu65 := hu65_of hr
  exact pss_cons (ps_asg (pe_lst (pa_cons (pe_op u_sub (pv 1) pe_int) (pa_cons (pe_op u_add (pv 2) pe_int) (pa_cons pe_non (pa_cons pe_bl (pa_cons pe_str (pa_cons (pe_lst (pa_cons pe_int pa_nil)) (pa_cons (pe_tup (pa_cons pe_int pa_nil)) (pa_cons (pe_disp (pps_cons pe_str pe_int pps_nil) (by rfl) (by rfl) (fun z => by cases z) (by decide)) (pa_cons (pe_op u_pow pe_int pe_int) (pa_cons (pe_un u_neg (pe_op u_pow pe_int pe_int)) pa_nil))))))))))) (pg_name (i := 3) nd rfl (Or.inl rfl)))
      (pss_one (ps_ret (pe_ix ix_seq (pv 3) (pe_kn c__law_take hr (by decide) (by rfl) (pa_cons (pv 0) (pa_cons pe_int pa_nil))) (fun _ _ => rfl))))
/-! _law_refused: 0 box, 1 named, 2 turn, 3 year, 4 month, 5 week, 6 weekday, 7 number, 8 late, 9 wide, 10 asked, 11 word, 12 parts, 13 error, 14 at, 15 told -/
abbrev s__law_refused : Stmt := top 61
abbrev N__law_refused : List Str := ["box", "named", "turn", "year", "month", "week", "weekday", "number", "late", "wide", "asked", "word", "parts", "error", "at", "told"]
theorem sc__law_refused : FnScope ["box", "named", "turn", "year", "month", "week", "weekday", "number", "late", "wide", "asked", "word", "parts", "error", "at", "told"] ["box", "named"] (defScope s__law_refused) := ⟨rfl, rfl, rfl, by decide +kernel, rfl, by decide +kernel, by decide +kernel⟩
abbrev t__law_refused (K : PySem.W.Frag) (E : XK) : TS :=
  tSeq (tFor (iRng1 (tCons (tC (.int 2)) tNil)) (gName 2) (tSeq (tPar3 3 4 5 (tCons (tKn (sp__law_year K) (tCons (tVar 0) tNil)) (tCons (tKn (sp__law_no_number K) (tCons (tVar 0) (tCons (tC (.int 1)) (tCons (tC (.int 12)) tNil)))) (tCons (tKn (sp__law_no_number K) (tCons (tVar 0) (tCons (tC (.int 1)) (tCons (tC (.int 53)) tNil)))) tNil))))
    (tSeq (tPar 6 7 (tCons (tKn (sp__law_no_number K) (tCons (tVar 0) (tCons (tC (.int 0)) (tCons (tC (.int 6)) tNil)))) (tCons (tOp (rIx K) (tLst (tCons (tC (.int 0)) (tCons (tC (.int 6)) (tCons (tUn uNeg (tC (.int 6))) (tCons (tC .non) (tCons (tC (.bl true)) (tCons (tC (.str "1")) (tCons (tLst (tCons (tC (.int 1)) tNil)) (tCons (tOp uPow (tC (.int 10)) (tC (.int 20))) tNil))))))))) (tKn (sp__law_take K) (tCons (tVar 0) (tCons (tC (.int 8)) tNil)))) tNil)))
    (tSeq (tPar 8 9 (tCons (tKn (sp__law_no_number K) (tCons (tVar 0) (tCons (tC (.int 2000)) (tCons (tC (.int 2700000000)) tNil)))) (tCons (tOp (rIx K) (tLst (tCons (tC (.int 3)) (tCons (tKn (sp__law_no_number K) (tCons (tVar 0) (tCons (tC (.int 0)) (tCons (tC (.int 6)) tNil)))) tNil))) (tKn (sp__law_take K) (tCons (tVar 0) (tCons (tC (.int 2)) tNil)))) tNil)))
    (tSeq (tAsg (tLst (tCons (tLst (tCons (tC (.str "weekday")) (tCons (tLst (tCons (tKn (sp__law_no_number K) (tCons (tVar 0) (tCons (tC (.int 0)) (tCons (tOp uPow (tC (.int 10)) (tC (.int 12))) tNil)))) tNil)) (tCons (tC (.str "day")) (tCons (tC (.int 0)) tNil))))) (tCons (tLst (tCons (tC (.str "week")) (tCons (tLst (tCons (tKn (sp__law_no_number K) (tCons (tVar 0) (tCons (tC (.int 0)) (tCons (tOp uPow (tC (.int 10)) (tC (.int 12))) tNil)))) tNil)) (tCons (tC (.str "day")) (tCons (tC (.int 0)) tNil))))) tNil))) (gName 10))
    (tSeq (tAsg (tOp (uAdd K) (tVar 10) (tLst (tCons (tLst (tCons (tC (.str "weeks")) (tCons (tLst (tCons (tKn (sp__law_no_number K) (tCons (tVar 0) (tCons (tC (.int 2000)) (tCons (tC (.int 2700000000)) tNil)))) tNil)) (tCons (tC (.str "year")) (tCons (tC (.int 0)) tNil))))) (tCons (tLst (tCons (tC (.str "day")) (tCons (tLst (tCons (tVar 8) (tCons (tC (.int 1)) (tCons (tVar 9) tNil)))) (tCons (tC (.str "year")) (tCons (tC (.int 0)) tNil))))) tNil)))) (gName 10))
    (tSeq (tAsg (tOp (uAdd K) (tVar 10) (tLst (tCons (tLst (tCons (tC (.str "day")) (tCons (tLst (tCons (tVar 3) (tCons (tVar 5) (tCons (tVar 9) tNil)))) (tCons (tC (.str "week")) (tCons (tC (.int 1)) tNil))))) (tCons (tLst (tCons (tC (.str "day")) (tCons (tLst (tCons (tC (.int 2005)) (tCons (tC (.int 53)) (tCons (tVar 9) tNil)))) (tCons (tC (.str "week")) (tCons (tC (.int 1)) tNil))))) (tCons (tLst (tCons (tC (.str "day")) (tCons (tLst (tCons (tC (.int 2004)) (tCons (tC (.int 53)) (tCons (tVar 6) tNil)))) (tCons (tC (.str "weekday")) (tCons (tC (.int 2)) tNil))))) tNil))))) (gName 10))
    (tSeq (tAsg (tOp (uAdd K) (tVar 10) (tLst (tCons (tLst (tCons (tC (.str "nth")) (tCons (tLst (tCons (tVar 3) (tCons (tVar 4) (tCons (tC (.int 0)) (tCons (tVar 9) tNil))))) (tCons (tC (.str "month")) (tCons (tC (.int 1)) tNil))))) (tCons (tLst (tCons (tC (.str "nth")) (tCons (tLst (tCons (tVar 3) (tCons (tC (.int 2)) (tCons (tVar 7) (tCons (tVar 9) tNil))))) (tCons (tC (.str "number")) (tCons (tC (.int 2)) tNil))))) tNil)))) (gName 10))
    (tSeq (tAsg (tOp (uAdd K) (tVar 10) (tLst (tCons (tLst (tCons (tC (.str "nth")) (tCons (tLst (tCons (tVar 3) (tCons (tC (.int 2)) (tCons (tUn uNeg (tC (.int 1))) (tCons (tKn (sp__law_no_number K) (tCons (tVar 0) (tCons (tC (.int 0)) (tCons (tC (.int 6)) tNil)))) tNil))))) (tCons (tC (.str "weekday")) (tCons (tC (.int 3)) tNil))))) tNil))) (gName 10))
    (tSeq (tDrop (tBM K "list" rAppend (tVar 10) (tCons (tLst (tCons (tC (.str "nth")) (tCons (tLst (tCons (tKn (sp__law_no_number K) (tCons (tVar 0) (tCons (tC (.int 2000)) (tCons (tC (.int 2700000000)) tNil)))) (tCons (tOp (rIx K) (tLst (tCons (tC (.int 1)) (tCons (tC (.int 13)) tNil))) (tKn (sp__law_take K) (tCons (tVar 0) (tCons (tC (.int 2)) tNil)))) (tCons (tC (.int 0)) (tCons (tC (.int 7)) tNil))))) (tCons (tC (.str "year")) (tCons (tC (.int 0)) tNil))))) tNil)))
    (tFor (iSeq K (tVar 10)) (gSq K 4 (gCons (gName 11) (gCons (gName 12) (gCons (gName 13) (gCons (gName 14) gNil))))) (tSeq (tAsg (tKn (sp__law_ask K) (tCons (tVar 11) (tCons (tVar 12) (tCons (tIf (tTest (tOp (uEq K) (tVar 2) (tC (.int 0)))) (tVar 1) (tNotV (tVar 1))) tNil)))) (gName 15))
    (tIfS (tOr (tTest (tOp (uNe K) (tOp (rIx K) (tVar 15) (tC (.int 0))) (tVar 13))) (tOr (tTest (tOp uIsn (tOp (rIx K) (tVar 15) (tC (.int 2))) (tC (.bl true)))) (tNot (tTr K (tKn (sp__law_very K) (tCons (tOp (rIx K) (tVar 15) (tC (.int 1))) (tCons (tOp (rIx K) (tVar 12) (tVar 14)) tNil))))))) (tRet (tC (.bl false))) tNext)))))))))))))
    (tRet (tC (.bl true)))
theorem d__law_refused {P : Program} {w : World} {K : PySem.W.Frag} {mg : Str → Option Value} {base : Heap} (T : Tx P K mg) (c__law_ask : Kn P w K mg base 8 "_law_ask" ["word", "parts", "named"] (sp__law_ask K))
    (c__law_no_number : Kn P w K mg base 4 "_law_no_number" ["box", "low", "high"] (sp__law_no_number K))
    (c__law_take : Kn P w K mg base 3 "_law_take" ["box", "many"] (sp__law_take K))
    (c__law_very : Kn P w K mg base 41 "_law_very" ["given", "value"] (sp__law_very K))
    (c__law_year : Kn P w K mg base 4 "_law_year" ["box"] (sp__law_year K))
    {f : Addr} {cdv : Value} {A : Around} {outer : List Env} {s : Shared} {H : Hp} {E : XK} (hr : Room 41 (A.deeper (envOfC "_law_refused" (defScope s__law_refused) s.heap.objs.size f cdv))) :
    PSs (cxOf (L2.CX P w) P w K mg base ["box", "named", "turn", "year", "month", "week", "weekday", "number", "late", "wide", "asked", "word", "parts", "error", "at", "told"] "_law_refused" (defScope s__law_refused) f cdv A outer s H E) (defBody s__law_refused) (t__law_refused K E) := by
  have nd := sc__law_refused.nd
  have hu0 := hu0_of hr
  have hu1 := hu_of hr
  have hu64 := hu64_of hr
  have hu65 := hu65_of hr
  exact pss_cons (ps_for (passes_of rfl) rfl (pi_range1 (by rfl) T.n_range (pa_cons pe_int pa_nil)) (pg_name (i := 2) nd rfl (Or.inl rfl)) (pss_cons (ps_par3 rfl nd rfl rfl rfl (by decide) (by decide) (by decide) rfl rfl rfl (pa_cons (pe_kn c__law_year hr (by decide) (by rfl) (pa_cons (pv 0) pa_nil)) (pa_cons (pe_kn c__law_no_number hr (by decide) (by rfl) (pa_cons (pv 0) (pa_cons pe_int (pa_cons pe_int pa_nil)))) (pa_cons (pe_kn c__law_no_number hr (by decide) (by rfl) (pa_cons (pv 0) (pa_cons pe_int (pa_cons pe_int pa_nil)))) pa_nil))) (by rfl))
      (pss_cons (ps_par rfl nd rfl rfl (by decide) rfl rfl (pa_cons (pe_kn c__law_no_number hr (by decide) (by rfl) (pa_cons (pv 0) (pa_cons pe_int (pa_cons pe_int pa_nil)))) (pa_cons (pe_ix ix_seq (pe_lst (pa_cons pe_int (pa_cons pe_int (pa_cons (pe_un u_neg pe_int) (pa_cons pe_non (pa_cons pe_bl (pa_cons pe_str (pa_cons (pe_lst (pa_cons pe_int pa_nil)) (pa_cons (pe_op u_pow pe_int pe_int) pa_nil))))))))) (pe_kn c__law_take hr (by decide) (by rfl) (pa_cons (pv 0) (pa_cons pe_int pa_nil))) (fun _ _ => rfl)) pa_nil)) (by rfl))
      (pss_cons (ps_par rfl nd rfl rfl (by decide) rfl rfl (pa_cons (pe_kn c__law_no_number hr (by decide) (by rfl) (pa_cons (pv 0) (pa_cons pe_int (pa_cons pe_int pa_nil)))) (pa_cons (pe_ix ix_seq (pe_lst (pa_cons pe_int (pa_cons (pe_kn c__law_no_number hr (by decide) (by rfl) (pa_cons (pv 0) (pa_cons pe_int (pa_cons pe_int pa_nil)))) pa_nil))) (pe_kn c__law_take hr (by decide) (by rfl) (pa_cons (pv 0) (pa_cons pe_int pa_nil))) (fun _ _ => rfl)) pa_nil)) (by rfl))
      (pss_cons (ps_asg (pe_lst (pa_cons (pe_lst (pa_cons pe_str (pa_cons (pe_lst (pa_cons (pe_kn c__law_no_number hr (by decide) (by rfl) (pa_cons (pv 0) (pa_cons pe_int (pa_cons (pe_op u_pow pe_int pe_int) pa_nil)))) pa_nil)) (pa_cons pe_str (pa_cons pe_int pa_nil))))) (pa_cons (pe_lst (pa_cons pe_str (pa_cons (pe_lst (pa_cons (pe_kn c__law_no_number hr (by decide) (by rfl) (pa_cons (pv 0) (pa_cons pe_int (pa_cons (pe_op u_pow pe_int pe_int) pa_nil)))) pa_nil)) (pa_cons pe_str (pa_cons pe_int pa_nil))))) pa_nil))) (pg_name (i := 10) nd rfl (Or.inl rfl)))
      (pss_cons (ps_asg (pe_op u_add (pv 10) (pe_lst (pa_cons (pe_lst (pa_cons pe_str (pa_cons (pe_lst (pa_cons (pe_kn c__law_no_number hr (by decide) (by rfl) (pa_cons (pv 0) (pa_cons pe_int (pa_cons pe_int pa_nil)))) pa_nil)) (pa_cons pe_str (pa_cons pe_int pa_nil))))) (pa_cons (pe_lst (pa_cons pe_str (pa_cons (pe_lst (pa_cons (pv 8) (pa_cons pe_int (pa_cons (pv 9) pa_nil)))) (pa_cons pe_str (pa_cons pe_int pa_nil))))) pa_nil)))) (pg_name (i := 10) nd rfl (Or.inl rfl)))
      (pss_cons (ps_asg (pe_op u_add (pv 10) (pe_lst (pa_cons (pe_lst (pa_cons pe_str (pa_cons (pe_lst (pa_cons (pv 3) (pa_cons (pv 5) (pa_cons (pv 9) pa_nil)))) (pa_cons pe_str (pa_cons pe_int pa_nil))))) (pa_cons (pe_lst (pa_cons pe_str (pa_cons (pe_lst (pa_cons pe_int (pa_cons pe_int (pa_cons (pv 9) pa_nil)))) (pa_cons pe_str (pa_cons pe_int pa_nil))))) (pa_cons (pe_lst (pa_cons pe_str (pa_cons (pe_lst (pa_cons pe_int (pa_cons pe_int (pa_cons (pv 6) pa_nil)))) (pa_cons pe_str (pa_cons pe_int pa_nil))))) pa_nil))))) (pg_name (i := 10) nd rfl (Or.inl rfl)))
      (pss_cons (ps_asg (pe_op u_add (pv 10) (pe_lst (pa_cons (pe_lst (pa_cons pe_str (pa_cons (pe_lst (pa_cons (pv 3) (pa_cons (pv 4) (pa_cons pe_int (pa_cons (pv 9) pa_nil))))) (pa_cons pe_str (pa_cons pe_int pa_nil))))) (pa_cons (pe_lst (pa_cons pe_str (pa_cons (pe_lst (pa_cons (pv 3) (pa_cons pe_int (pa_cons (pv 7) (pa_cons (pv 9) pa_nil))))) (pa_cons pe_str (pa_cons pe_int pa_nil))))) pa_nil)))) (pg_name (i := 10) nd rfl (Or.inl rfl)))
      (pss_cons (ps_asg (pe_op u_add (pv 10) (pe_lst (pa_cons (pe_lst (pa_cons pe_str (pa_cons (pe_lst (pa_cons (pv 3) (pa_cons pe_int (pa_cons (pe_un u_neg pe_int) (pa_cons (pe_kn c__law_no_number hr (by decide) (by rfl) (pa_cons (pv 0) (pa_cons pe_int (pa_cons pe_int pa_nil)))) pa_nil))))) (pa_cons pe_str (pa_cons pe_int pa_nil))))) pa_nil))) (pg_name (i := 10) nd rfl (Or.inl rfl)))
      (pss_cons (ps_expr (pe_bm PySem.F.plainAttrs_list PySem.F.slot_list_append PySem.F.type_list_append mt_append (pv 10) (pa_cons (pe_lst (pa_cons pe_str (pa_cons (pe_lst (pa_cons (pe_kn c__law_no_number hr (by decide) (by rfl) (pa_cons (pv 0) (pa_cons pe_int (pa_cons pe_int pa_nil)))) (pa_cons (pe_ix ix_seq (pe_lst (pa_cons pe_int (pa_cons pe_int pa_nil))) (pe_kn c__law_take hr (by decide) (by rfl) (pa_cons (pv 0) (pa_cons pe_int pa_nil))) (fun _ _ => rfl)) (pa_cons pe_int (pa_cons pe_int pa_nil))))) (pa_cons pe_str (pa_cons pe_int pa_nil))))) pa_nil)))
      (pss_one (ps_for (passes_of rfl) rfl (pi_seq (pv 10)) (pg_sq rfl (pgs_cons (pg_name (i := 11) nd rfl (Or.inl rfl)) (pgs_cons (pg_name (i := 12) nd rfl (Or.inl rfl)) (pgs_cons (pg_name (i := 13) nd rfl (Or.inl rfl)) (pgs_cons (pg_name (i := 14) nd rfl (Or.inl rfl)) pgs_nil))))) (pss_cons (ps_asg (pe_kn c__law_ask hr (by decide) (by rfl) (pa_cons (pv 11) (pa_cons (pv 12) (pa_cons (pe_ifExp (pt_cmpR (u_eq hu64) (pv 2) pe_int (nomark _)) (pv 1) (pe_not (pv 1))) pa_nil)))) (pg_name (i := 15) nd rfl (Or.inl rfl)))
      (pss_one (ps_if (PW.pt (pw_or (pt_cmpR (u_ne hu64) (pe_ix ix_seq (pv 15) pe_int (fun _ _ => rfl)) (pv 13) (nomark _)) (pw_or (pt_cmpR u_isn (pe_ix ix_seq (pv 15) pe_int (fun _ _ => rfl)) pe_bl (nomark _)) (pw_or1 (pt_not (pt_tr (pe_kn c__law_very hr (by decide) (by rfl) (pa_cons (pe_ix ix_seq (pv 15) pe_int (fun _ _ => rfl)) (pa_cons (pe_ix ix_seq (pv 12) (pv 14) (fun _ _ => rfl)) pa_nil))) (by intro _; rfl))))))) (pss_one (ps_ret pe_bl)) pss_nil)))))))))))))))
      (pss_one (ps_ret pe_bl))
/-! law: 0 script, 1 k, 2 box, 3 named -/
abbrev s_law : Stmt := top 62
abbrev N_law : List Str := ["script", "k", "box", "named"]
theorem sc_law : FnScope ["script", "k", "box", "named"] ["script"] (defScope s_law) := ⟨rfl, rfl, rfl, by decide +kernel, rfl, by decide +kernel, by decide +kernel⟩
abbrev t_law (K : PySem.W.Frag) (E : XK) : TS :=
  tSeq (tFor (iRng1 (tCons (tCB uMax (tCons (tC (.int 1)) (tCons (tCB uMin (tCons (tC (.int 3)) (tCons (tCB (uLen K) (tCons (tVar 0) tNil)) tNil))) tNil))) tNil)) (gName 1) (tSeq (tAsg (tKn (sp__law_box K) (tCons (tKn (sp__law_cell K) (tCons (tVar 0) (tCons (tVar 1) tNil))) tNil)) (gName 2))
    (tSeq (tAsg (tOp (uEq K) (tKn (sp__law_take K) (tCons (tVar 2) (tCons (tC (.int 2)) tNil))) (tC (.int 0))) (gName 3))
    (tSeq (tIfS (tOr (tNot (tTr K (tKn (sp__law_days_right K) (tCons (tVar 2) (tCons (tVar 3) tNil))))) (tNot (tTr K (tKn (sp__law_months_right K) (tCons (tVar 2) (tCons (tNotV (tVar 3)) tNil)))))) (tRet (tC (.bl false))) tNext)
    (tIfS (tOr (tNot (tTr K (tKn (sp__law_weeks_right K) (tCons (tVar 2) (tCons (tVar 3) tNil))))) (tNot (tTr K (tKn (sp__law_refused K) (tCons (tVar 2) (tCons (tNotV (tVar 3)) tNil)))))) (tRet (tC (.bl false))) tNext)))))
    (tRet (tC (.bl true)))
theorem d_law {P : Program} {w : World} {K : PySem.W.Frag} {mg : Str → Option Value} {base : Heap} (T : Tx P K mg) (c__law_box : Kn P w K mg base 3 "_law_box" ["great"] (sp__law_box K))
    (c__law_cell : Kn P w K mg base 3 "_law_cell" ["script", "k"] (sp__law_cell K))
    (c__law_days_right : Kn P w K mg base 42 "_law_days_right" ["box", "named"] (sp__law_days_right K))
    (c__law_months_right : Kn P w K mg base 42 "_law_months_right" ["box", "named"] (sp__law_months_right K))
    (c__law_refused : Kn P w K mg base 42 "_law_refused" ["box", "named"] (sp__law_refused K))
    (c__law_take : Kn P w K mg base 3 "_law_take" ["box", "many"] (sp__law_take K))
    (c__law_weeks_right : Kn P w K mg base 42 "_law_weeks_right" ["box", "named"] (sp__law_weeks_right K))
    {f : Addr} {cdv : Value} {A : Around} {outer : List Env} {s : Shared} {H : Hp} {E : XK} (hr : Room 42 (A.deeper (envOfC "law" (defScope s_law) s.heap.objs.size f cdv))) :
    PSs (cxOf (L2.CX P w) P w K mg base ["script", "k", "box", "named"] "law" (defScope s_law) f cdv A outer s H E) (defBody s_law) (t_law K E) := by
  have nd := sc_law.nd
  have hu0 := hu0_of hr
  have hu1 := hu_of hr
  have hu64 := hu64_of hr
  have hu65 := hu65_of hr
  exact pss_cons (ps_for (passes_of rfl) rfl (pi_range1 (by rfl) T.n_range (pa_cons (pe_callB (c_max rfl) (by rfl) T.n_max (by decide +kernel) (pa_cons pe_int (pa_cons (pe_callB (c_min rfl) (by rfl) T.n_min (by decide +kernel) (pa_cons pe_int (pa_cons (pe_callB c_len (by rfl) T.n_len (by decide +kernel) (pa_cons (pv 0) pa_nil)) pa_nil))) pa_nil))) pa_nil)) (pg_name (i := 1) nd rfl (Or.inl rfl)) (pss_cons (ps_asg (pe_kn c__law_box hr (by decide) (by rfl) (pa_cons (pe_kn c__law_cell hr (by decide) (by rfl) (pa_cons (pv 0) (pa_cons (pv 1) pa_nil))) pa_nil)) (pg_name (i := 2) nd rfl (Or.inl rfl)))
      (pss_cons (ps_asg (pe_cmpR (u_eq hu64) (pe_kn c__law_take hr (by decide) (by rfl) (pa_cons (pv 2) (pa_cons pe_int pa_nil))) pe_int (nomark _)) (pg_name (i := 3) nd rfl (Or.inl rfl)))
      (pss_cons (ps_if (PW.pt (pw_or (pt_not (pt_tr (pe_kn c__law_days_right hr (by decide) (by rfl) (pa_cons (pv 2) (pa_cons (pv 3) pa_nil))) (by intro _; rfl))) (pw_or1 (pt_not (pt_tr (pe_kn c__law_months_right hr (by decide) (by rfl) (pa_cons (pv 2) (pa_cons (pe_not (pv 3)) pa_nil))) (by intro _; rfl)))))) (pss_one (ps_ret pe_bl)) pss_nil)
      (pss_one (ps_if (PW.pt (pw_or (pt_not (pt_tr (pe_kn c__law_weeks_right hr (by decide) (by rfl) (pa_cons (pv 2) (pa_cons (pv 3) pa_nil))) (by intro _; rfl))) (pw_or1 (pt_not (pt_tr (pe_kn c__law_refused hr (by decide) (by rfl) (pa_cons (pv 2) (pa_cons (pe_not (pv 3)) pa_nil))) (by intro _; rfl)))))) (pss_one (ps_ret pe_bl)) pss_nil))))))
      (pss_one (ps_ret pe_bl))
end My
set_option linter.all false
set_option maxRecDepth 100000
set_option maxHeartbeats 4000000
namespace My
open PySem PySem.Spec PyProof.Rows L2 Kx
local macro_rules | `(tactic| walk_at "lk") => `(tactic| first | assumption | ((with_reducible show upd _ _ _ _ = _); (first | exact upd_same | (exact up_new (by assumption) (by walk_at "lk")) | (exact up_other (by assumption) (by walk_at "lk")))) | (exact (by assumption : Same _ _) _ _ (by walk_at "lk")) | (exact ks_get (by assumption) (by walk_at "lk") (by rfl)))
local macro_rules | `(tactic| walk_at "sl") => `(tactic| first | assumption | (exact l_of (by walk_at "lk")) | (exact Same.seq (by assumption) (by walk_at "sl")) | ((with_reducible show SqL _ (upd _ _ _) _ _); (exact Same.seq (sm_new (by assumption)) (by walk_at "sl"))))
local macro_rules | `(tactic| walk_at "st") => `(tactic| first | assumption | (exact t_of (by walk_at "lk")) | (exact Kx.Same.tup (by assumption) (by walk_at "st")) | ((with_reducible show SqT _ (upd _ _ _) _ _); (exact Kx.Same.tup (sm_new (by assumption)) (by walk_at "st"))) | (exact ks_tup (by assumption) (by walk_at "st")))
local macro_rules | `(tactic| walk_at "kd") => `(tactic| first | assumption | exact .non | exact .bl _ | exact .int _ | exact .str _ | (exact .lst (by walk_at "sl")) | (exact .tup (by walk_at "st")) | (exact .dic (by walk_at "lk")) | (exact Kd.same (by assumption) (by walk_at "kd")) | ((with_reducible show Kd _ (upd _ _ _) _ _); (exact Kd.same (sm_new (by assumption)) (by walk_at "kd"))))
local macro_rules | `(tactic| walk_at "tt") => `(tactic| first | rfl | assumption | decide +kernel | (simp only [decide_eq_true_eq, Bool.not_eq_true', decide_eq_false_iff_not, Bool.and_eq_true, Bool.or_eq_true]; omega))
local macro_rules | `(tactic| walk_at "ff") => `(tactic| first | rfl | assumption | decide +kernel | (simp only [decide_eq_true_eq, Bool.not_eq_false', decide_eq_false_iff_not, Bool.and_eq_false_imp, Bool.or_eq_false_iff]; omega))
local macro_rules | `(tactic| walk_at "hc") => `(tactic| fail)
local macro_rules | `(tactic| walk_at "hif") => `(tactic| ((with_reducible refine w_b2 ?_ ?_) <;> intro))
local macro_rules | `(tactic| walk_at "hs1") => `(tactic| first
  | (with_reducible refine w_seq ?_)
  | (with_reducible refine w_asg ?_)
  | ((with_reducible refine' w_var ?k1 ?_); (case k1 => exact rfl))
  | (with_reducible refine w_c ?_)
  | (with_reducible refine w_op ?_)
  | (with_reducible refine w_cons ?_)
  | (with_reducible refine w_nil ?_)
  | (with_reducible refine w_name ?_)
  | (with_reducible refine w_kn ?_)
  | (with_reducible refine w_kx ?_)
  | (with_reducible refine w_kk ?_)
  | (with_reducible refine w_cb ?_)
  | (with_reducible refine w_if ?_)
  | (with_reducible refine w_test ?_)
  | (with_reducible refine w_exb ?_)
  | (with_reducible refine iteT ?_)
  | (with_reducible refine iteF ?_)
  | ((with_reducible refine w_bt ?_ ?_); (first | rfl | decide +kernel))
  | ((with_reducible refine w_bf ?_ ?_); (first | rfl | decide +kernel))
  | ((with_reducible refine w_bt ?_ ?_); (walk_at "tt"))
  | ((with_reducible refine w_bf ?_ ?_); (walk_at "ff"))
  | (with_reducible refine w_ret ?_)
  | (with_reducible refine w_retN ?_)
  | (with_reducible refine w_drop ?_)
  | (with_reducible refine w_next ?_)
  | (with_reducible refine w_brk ?_)
  | (with_reducible refine w_cont ?_)
  | (with_reducible refine w_and ?_)
  | (with_reducible refine w_or ?_)
  | (with_reducible refine w_not ?_)
  | (with_reducible refine w_tr ?_)
  | (with_reducible refine w_yes ?_)
  | (with_reducible refine w_tru_bl ?_)
  | (with_reducible refine w_tru_int ?_)
  | (with_reducible refine w_tru_non ?_)
  | (with_reducible refine w_andV ?_)
  | (with_reducible refine w_orV ?_)
  | (with_reducible refine w_notV ?_)
  | (with_reducible refine w_ifx ?_)
  | (with_reducible refine w_chain ?_)
  | (with_reducible refine w_un ?_)
  | (with_reducible refine w_tup ?_)
  | (with_reducible refine w_lst ?_)
  | ((with_reducible refine w_tupE (wN_le rfl) ?_); intro _ _)
  | (with_reducible refine w_par ?_)
  | (with_reducible refine w_par2 ?_)
  | (with_reducible refine w_par3 ?_)
  | (with_reducible refine w_par33 ?_)
  | ((with_reducible refine' w_aug ?k1 ?_); (case k1 => exact rfl))
  | (with_reducible refine w_raise ?_)
  | (with_reducible refine w_mkdue ?_)
  | (with_reducible refine w_one ?_)
  | ((with_reducible show gSq _ _ _ (V.ref _) _ _ _); (first | (refine w_gtup (by walk_at "st") (by exact rfl) ?_) | (refine w_glst (by walk_at "sl") (by exact rfl) ?_)))
  | (with_reducible refine w_gcons ?_)
  | (with_reducible refine w_gnil ?_)
  | (with_reducible refine w_bm ?_)
  | ((with_reducible show tyV _ "list" (V.ref _) _ ∧ _); (refine w_tyl (by walk_at "sl") ?_))
  | (with_reducible refine w_for ?_)
  | (with_reducible refine w_rng1 ?_)
  | (with_reducible refine w_rng2 ?_)
  | (with_reducible refine w_add_ii ?_)
  | (with_reducible refine w_sub_ii ?_)
  | ((with_reducible refine w_fdv_ii ?_ ?_ ?_); (first | decide | omega); (first | decide | omega))
  | ((with_reducible refine w_mul_b ?_ ?_ ?_); (refine ⟨?_, ?_⟩ <;> omega); (refine ⟨?_, ?_⟩ <;> omega))
  | ((with_reducible refine w_mod_ii ?_ ?_); (first | decide | omega))
  | (with_reducible refine w_neg_i ?_)
  | (with_reducible refine w_lt_ii ?_)
  | (with_reducible refine w_le_ii ?_)
  | (with_reducible refine w_gt_ii ?_)
  | (with_reducible refine w_ge_ii ?_)
  | (with_reducible refine w_eq_ii ?_)
  | (with_reducible refine w_ne_ii ?_)
  | (with_reducible refine w_eq_ss ?_)
  | (with_reducible refine w_ne_ss ?_)
  | (with_reducible refine w_eq_bb ?_)
  | (with_reducible refine w_ne_bb ?_)
  | (with_reducible refine w_is_n ?_)
  | (with_reducible refine w_isn_n ?_)
  | (with_reducible refine w_is_bb ?_)
  | (with_reducible refine w_isn_bb ?_)
  | ((with_reducible show rIx _ (V.ref _) (V.int _) _ _); (first | (refine w_ixlc (by walk_at "sl") (by decide) (by exact rfl) ?_) | (refine w_ixtc (by walk_at "st") (by decide) (by exact rfl) ?_)))
  | (with_reducible refine w_ipadd ?_)
  | (with_reducible refine w_ipsub ?_)
  | (with_reducible refine w_int_i ?_)
  | (with_reducible refine w_int_b ?_)
  | (with_reducible refine w_abs ?_)
  | ((with_reducible refine w_max2r ?_); intro _ _ _ _)
  | ((with_reducible refine w_min2r ?_); intro _ _ _ _)
  | ((with_reducible show uLen _ [V.ref _] _ _); (first | (refine w_len_l (by walk_at "sl") ?_) | (refine w_len_t (by walk_at "st") ?_) | (refine w_len_d (by walk_at "lk") ?_)))
  | ((with_reducible show uIsi _ [_, V.ty _] _ _); (refine w_isk (by walk_at "kd") (by decide) ?_))
  | ((with_reducible show uIsi _ [_, V.ref _] _ _); (refine w_isk2 (by walk_at "lk") (by walk_at "kd") (by decide) (by decide) ?_))
  | (with_reducible refine w_wN ?_)
  | (with_reducible refine w_lc ?_)
  | ((with_reducible refine' w_rng2e ?k1 ?_); (case k1 => (refine ⟨?_, ?_, ?_, ?_⟩ <;> omega)))
  | ((with_reducible refine' w_rng1e ?k1 ?k2 ?_); (case k1 => omega); (case k2 => omega))
  | ((with_reducible show ∃ a', V.ref _ = .ref a' ∧ (∃ xs, SqL _ _ a' xs) ∧ _); (refine w_sqLe (by walk_at "sl") ?_))
  | ((with_reducible show ∃ a', V.ref _ = .ref a' ∧ (∃ xs, SqT _ _ a' xs) ∧ _); (refine w_sqTe (by walk_at "st") ?_))
  | (with_reducible refine w_slc ?_)
  | (with_reducible refine w_nop ?_)
  | (with_reducible refine w_part ?_)
  | (with_reducible refine w_exi ?_)
  | ((with_reducible show uSl _ (V.ref _) _ _ _ _); (refine w_slL (by walk_at "sl") ?_); intro _ _)
  | (with_reducible refine w_gsub ?_)
  | ((with_reducible show rSetL (V.ref _) (V.int _) _ _ _); (refine w_setl (by walk_at "lk") (by exact rfl) ?_))
  | (with_reducible refine w_pow_9 ?_)
  | (with_reducible refine w_pow_12 ?_)
  | (with_reducible refine w_pow_13 ?_)
  | (with_reducible refine w_pow_18 ?_)
  | (with_reducible refine w_pow_29 ?_)
  | ((with_reducible refine w_disp1n ?_); intro _ _)
  | (with_reducible refine w_dput ?_)
  | ((with_reducible show rAppend (V.ref _) [_] _ _); (refine w_append (by walk_at "lk") (by first | omega | (exact Nat.lt_of_le_of_lt (wN_le rfl) (by decide))) ?_))
  | ((with_reducible show ∃ a' H4, V.ref _ = .ref a' ∧ DPut _ a' (V.str _) _ H4 ∧ _); (refine w_dputS (by walk_at "lk") (by first | omega | exact wN_le rfl) ?_))
  | (with_reducible refine w_try ?_)
  | ((with_reducible show wManyA _ _ _ _ (.ref (He.ga _ _)) _ _ _); (first | ((refine w_hit (ExT.ex (by assumption) _ (by decide) _ (by decide)) ?_); intro _ _) | (refine w_miss (ExT.ex (by assumption) _ (by decide) _ (by decide)) ?_)))
  | (with_reducible refine w_xg ?_)
  | ((with_reducible show V.ref _ = .ref _ ∧ ∃ _ _ _ _, Value.ref (He.ga _ _) = _ ∧ _); (refine w_xge (ExT.xf (by assumption) _ (by decide)) (ExT.fg (by assumption) _ (by decide)) (by walk_at "lk") ?_))
  | ((with_reducible show rIsX _ (.ref (He.ga _ _)) _ _ _ _ _); (refine w_isx (ExT.xx (by assumption) _ (by decide)) (ExT.kd (by assumption) _ (by decide)) (by walk_at "lk") ?_))
  | ((with_reducible show uAdd _ (V.ref _) (V.ref _) _ _); (refine w_add_ll (by walk_at "lk") (by walk_at "lk") (bN_le rfl) ?_); intro _ _)
  | ((with_reducible show iSeq _ (tLst _) _ _ _); (refine w_sqL ?_))
  | ((with_reducible show iSeq _ (tTup _) _ _ _); (refine w_sqT ?_))
  | (refine ⟨(rfl : wipe _ _ = wipe _ _), ?_⟩)
  | (walk_at "hc"))
local macro_rules | `(tactic| walk_at "hs") => `(tactic| repeat' (walk_at "hs1"))

local macro_rules | `(tactic| walk_at "rg") => `(tactic| repeat' (first | exact rg_nil | (refine rg_cons (by omega) (by omega) ?_)))
local macro_rules | `(tactic| walk_at "sm") => `(tactic| first | exact Same.refl _ | assumption | ((with_reducible show Same _ (upd _ _ _)); (refine Same.trans ?_ (sm_new (by assumption))); walk_at "sm") | ((refine Same.trans ?_ (by assumption)); walk_at "sm"))
local macro_rules | `(tactic| walk_at "bx") => `(tactic| first | assumption | ((with_reducible show BoxAt (upd _ _ _) _ _); (exact BoxAt.new (by assumption) (by walk_at "bx"))) | (exact BoxAt.same (by assumption) (by walk_at "bx")))
local macro_rules | `(tactic| walk_at "ks") => `(tactic| first | exact Ks.refl _ | assumption | ((with_reducible show Ks _ (upd _ _ _)); (refine Ks.trans ?_ (Ks.of (sm_new (by assumption))); walk_at "ks")) | (refine Ks.trans ?_ (by assumption); walk_at "ks") | (refine Ks.trans ?_ (Ks.of (by assumption)); walk_at "ks"))
local macro_rules | `(tactic| walk_at "ob") => `(tactic| first | assumption | exact .sc rfl | (exact Ob.same (by assumption) (by walk_at "ob")) | (exact Ob.ks (by assumption) (by walk_at "ob")))
local macro_rules | `(tactic| walk_at "nd") => `(tactic| first | assumption | (exact Nd.same (by assumption) (by walk_at "nd")) | (exact Nd.ks (by assumption) (by walk_at "nd")))
local macro_rules | `(tactic| walk_at "df") => `(tactic| first | assumption | exact df_sc rfl | (exact df_vr (by assumption) (by walk_at "lk")) | (exact df_rv (by assumption) (by walk_at "ob")) | (exact df_vv (by assumption) (by walk_at "ob")) | (exact Df.symm (df_vv (by assumption) (by walk_at "ob"))))
variable {K : PySem.W.Frag}
theorem p_is_whole (vs : List V) (H : Hp) (Q : VK) (E : XK) (h : sp_is_whole K vs H Q E) : t_is_whole K E (D0 Q) (start N_is_whole vs) H := by
  obtain ⟨x, T, rfl, hk, q⟩ := h
  cases hk <;> walk_at "hs" <;> exact q
/-! the calls' uses -/
theorem u_is_whole {H : Hp} {Q : VK} {E : XK} {x : V} {T : String} (h : Kd K H x T) (q : Q (.bl (whole x)) H) : sp_is_whole K [x] H Q E := ⟨x, T, rfl, h, q⟩
local macro_rules | `(tactic| walk_at "hc") => `(tactic| (with_reducible show sp_is_whole _ _ _ _ _); (refine u_is_whole (by walk_at "kd") ?_))
theorem p_is_between (vs : List V) (H : Hp) (Q : VK) (E : XK) (h : sp_is_between K vs H Q E) : t_is_between K E (D0 Q) (start N_is_between vs) H := by
  obtain ⟨x, T, lo, hi, rfl, hk, q⟩ := h
  cases hk <;> walk_at "hs" 
  case int i =>
    refine w_b2 (fun c1 => ?_) (fun c1 => ?_) <;> walk_at "hs"
    · simpa [betw, c1] using q
    · simpa [betw, c1] using q
  all_goals exact q
theorem u_is_between {H : Hp} {Q : VK} {E : XK} {x : V} {T : String} {lo hi : Int} (h : Kd K H x T) (q : Q (.bl (betw x lo hi)) H) : sp_is_between K [x, .int lo, .int hi] H Q E := ⟨x, T, lo, hi, rfl, h, q⟩
local macro_rules | `(tactic| walk_at "hc") => `(tactic| (with_reducible show sp_is_between _ _ _ _ _); (refine u_is_between (by walk_at "kd") ?_))
theorem p_is_day (vs : List V) (H : Hp) (Q : VK) (E : XK) (h : sp_is_day K vs H Q E) : t_is_day K E (D0 Q) (start N_is_day vs) H := by
  obtain ⟨x, T, rfl, hk, q⟩ := h
  walk_at "hs"
  exact q
theorem u_is_day {H : Hp} {Q : VK} {E : XK} {x : V} {T : String} (h : Kd K H x T) (q : Q (.bl (betw x 0 MOST)) H) : sp_is_day K [x] H Q E := ⟨x, T, rfl, h, q⟩
local macro_rules | `(tactic| walk_at "hc") => `(tactic| (with_reducible show sp_is_day _ _ _ _ _); (refine u_is_day (by walk_at "kd") ?_))
theorem p_is_leap_year (vs : List V) (H : Hp) (Q : VK) (E : XK) (h : sp_is_leap_year K vs H Q E) : t_is_leap_year K E (D0 Q) (start N_is_leap_year vs) H := by
  obtain ⟨y, rfl, q⟩ := h
  walk_at "hs"
  refine w_b2 (fun c1 => ?_) (fun c1 => ?_) <;> walk_at "hs"
  · refine w_b2 (fun c2 => ?_) (fun c2 => ?_) <;> walk_at "hs"
    · simpa [leap, c1, c2] using q
    · simpa [leap, c1, c2] using q
  · simpa [leap, c1] using q
theorem u_is_leap_year {H : Hp} {Q : VK} {E : XK} {y : Int} (q : Q (.bl (leap y)) H) : sp_is_leap_year K [.int y] H Q E := ⟨y, rfl, q⟩
local macro_rules | `(tactic| walk_at "hc") => `(tactic| (with_reducible refine u_is_leap_year ?_))
theorem p_length_of (hL : ∀ H, SqT K H (He.ga K "LENGTHS") ([31, 28, 31, 30, 31, 30, 31, 31, 30, 31, 30, 31].map V.int)) (vs : List V) (H : Hp) (Q : VK) (E : XK) (h : sp_length_of K vs H Q E) : t_length_of K E (D0 Q) (start N_length_of vs) H := by
  obtain ⟨y, m, rfl, h1, h2, q⟩ := h
  have hL := hL H
  have et : atI ([31, 28, 31, 30, 31, 30, 31, 31, 30, 31, 30, 31].map V.int) (m - 1) = some (.int (mtab m)) := by
    obtain ⟨n, e, hn⟩ : ∃ n : Nat, m = (n : Int) + 1 ∧ n < 12 := ⟨(m - 1).toNat, by omega, by omega⟩
    subst e
    have : ((n : Int) + 1 - 1) = (n : Int) := by omega
    rw [this]
    refine atI_nat ?_
    match n, hn with
    | 0, _ => rfl
    | 1, _ => rfl
    | 2, _ => rfl
    | 3, _ => rfl
    | 4, _ => rfl
    | 5, _ => rfl
    | 6, _ => rfl
    | 7, _ => rfl
    | 8, _ => rfl
    | 9, _ => rfl
    | 10, _ => rfl
    | 11, _ => rfl
  walk_at "hs"
  refine w_ixt hL et ?_
  walk_at "hs"
  refine w_b2 (fun c1 => ?_) (fun c1 => ?_) <;> walk_at "hs"
  · have e : m = 2 := by simpa using c1
    have : mlen y m = mtab m + (if leap y = true then 1 else 0) := by unfold mlen lp; rw [if_pos e]
    rw [this] at q
    exact q
  · have e : ¬ m = 2 := by simpa using c1
    have : mlen y m = mtab m + 0 := by unfold mlen; rw [if_neg e]
    rw [this] at q
    exact q
theorem u_length_of {H : Hp} {Q : VK} {E : XK} {y m : Int} (h1 : 1 ≤ m) (h2 : m ≤ 12) (q : Q (.int (mlen y m)) H) : sp_length_of K [.int y, .int m] H Q E := ⟨y, m, rfl, h1, h2, q⟩
local macro_rules | `(tactic| walk_at "hc") => `(tactic| (with_reducible refine' u_length_of ?k1 ?k2 ?_); (case k1 => omega); (case k2 => omega))
theorem p_check_year (vs : List V) (H : Hp) (Q : VK) (E : XK) (h : sp_check_year K vs H Q E) : t_check_year K E (D0 Q) (start N_check_year vs) H := by
  obtain ⟨x, T, rfl, hk, q1, q2⟩ := h
  walk_at "hs"
  cases c : betw x 2000 2700000000 <;> walk_at "hs"
  · exact q2 c
  · exact q1 c
theorem p_check_month (vs : List V) (H : Hp) (Q : VK) (E : XK) (h : sp_check_month K vs H Q E) : t_check_month K E (D0 Q) (start N_check_month vs) H := by
  obtain ⟨x, T, rfl, hk, q1, q2⟩ := h
  walk_at "hs"
  cases c : betw x 1 12 <;> walk_at "hs"
  · exact q2 c
  · exact q1 c
theorem p_check_day (vs : List V) (H : Hp) (Q : VK) (E : XK) (h : sp_check_day K vs H Q E) : t_check_day K E (D0 Q) (start N_check_day vs) H := by
  obtain ⟨x, T, rfl, hk, q1, q2⟩ := h
  walk_at "hs"
  cases c : betw x 0 MOST <;> walk_at "hs"
  · exact q2 c
  · exact q1 c
theorem p_year_begin (vs : List V) (H : Hp) (Q : VK) (E : XK) (h : sp_year_begin K vs H Q E) : t_year_begin K E (D0 Q) (start N_year_begin vs) H := by
  obtain ⟨y, rfl, h1, h2, q⟩ := h
  walk_at "hs"
  exact q
theorem u_year_begin {H : Hp} {Q : VK} {E : XK} {y : Int} (h1 : -1000000000000000 < y) (h2 : y < 1000000000000000) (q : Q (.int (yb y)) H) : sp_year_begin K [.int y] H Q E := ⟨y, rfl, h1, h2, q⟩
local macro_rules | `(tactic| walk_at "hc") => `(tactic| (with_reducible refine' u_year_begin ?k1 ?k2 ?_); (case k1 => omega); (case k2 => omega))
theorem p_month_begin (vs : List V) (H : Hp) (Q : VK) (E : XK) (h : sp_month_begin K vs H Q E) : t_month_begin K E (D0 Q) (start N_month_begin vs) H := by
  obtain ⟨y, m, rfl, h1, h2, h3, h4, q⟩ := h
  walk_at "hs"
  intro D hD
  refine lc_range (lo := 1) (n := (m - 1).toNat) (LcP H D fun i => ((List.range i).map fun (j : Nat) => mlen y (1 + (j : Int))).map V.int) (LcP.zero hD rfl) ?_ ?_
  · intro i H' hi P
    walk_at "hs"
    refine LcP.one P (Same.refl _) hD ?_ ?_
    · simp; omega
    · simp [List.range_succ]
  · intro H' P
    walk_at "hs"
    refine w_sum (l_of P.2) ?_
    walk_at "hs"
    rw [ahead_sum]
    exact q _ P.1
theorem u_month_begin {H : Hp} {Q : VK} {E : XK} {y m : Int} (h1 : 1 ≤ m) (h2 : m ≤ 12) (h3 : -1000000000000000 < y) (h4 : y < 1000000000000000) (q : ∀ H', Same H H' → Q (.int (mb y m)) H') : sp_month_begin K [.int y, .int m] H Q E := ⟨y, m, rfl, h1, h2, h3, h4, q⟩
local macro_rules | `(tactic| walk_at "hc") => `(tactic| (with_reducible refine' u_month_begin ?k1 ?k2 ?k3 ?k4 ?_); (case k1 => omega); (case k2 => omega); (case k3 => omega); (case k4 => omega); intro _ _)
theorem p_year_of (vs : List V) (H : Hp) (Q : VK) (E : XK) (h : sp_year_of K vs H Q E) : t_year_of K E (D0 Q) (start N_year_of vs) H := by
  obtain ⟨n, rfl, h1, h2, q⟩ := h
  walk_at "hs"
  refine w_while (fun m σ H1 => ∃ y, σ = [some (.int n), some (.int y)] ∧ H1 = H ∧ yb y ≤ n ∧ 1000 ≤ y ∧ m = (n - yb y).toNat) _ ⟨_, rfl, rfl, yb_start h1, by omega, rfl⟩ ?_
  rintro m σ H1 ⟨y, rfl, rfl, hy, hy1, rfl⟩
  have hy2 : y < 100000000000000 := by unfold yb at hy; omega
  walk_at "hs"
  have e := yb_succ y
  have e2 := lp_01 y
  refine w_b2 (fun c => ?_) (fun c => ?_) <;> walk_at "hs"
  · have c' : yb (y + 1) ≤ n := by simpa using c
    exact ⟨_, by omega, _, rfl, rfl, c', by omega, rfl⟩
  · have c' : n < yb (y + 1) := by simpa using c
    exact q y hy c'
theorem u_year_of {H : Hp} {Q : VK} {E : XK} {n : Int} (h1 : 0 ≤ n) (h2 : n < 100000000000000) (q : ∀ y, yb y ≤ n → n < yb (y + 1) → Q (.int y) H) : sp_year_of K [.int n] H Q E := ⟨n, rfl, h1, h2, q⟩
theorem p_date_at (vs : List V) (H : Hp) (Q : VK) (E : XK) (h : sp_date_at K vs H Q E) : t_date_at K E (D0 Q) (start N_date_at vs) H := by
  obtain ⟨n, rfl, h1, h2, q⟩ := h
  walk_at "hs"
  refine u_year_of h1 h2 fun y y1 y2 => ?_
  have y3 := yb_bd y1 h1 h2
  have y4 := yb_bd0 y2 h1
  walk_at "hs"
  refine w_while (fun k σ H1 => ∃ m l, σ = [some (.int n), some (.int y), some (.int m), some (.int l)] ∧ H1 = H ∧ 1 ≤ m ∧ m ≤ 12 ∧ 0 ≤ l ∧ mb y m + l = n ∧ k = (12 - m).toNat) _ ⟨1, n - yb y, rfl, rfl, by omega, by omega, by omega, by rw [mb_one]; omega, rfl⟩ ?_
  rintro k σ H1 ⟨m, l, rfl, rfl, m1, m2, l1, e, rfl⟩
  walk_at "hs"
  refine w_b2 (fun c => ?_) (fun c => ?_) <;> walk_at "hs"
  · have c' : mlen y m ≤ l := by simpa using c
    have e2 := mb_next y m m1
    have m3 : m < 12 := by
      by_cases z : m < 12
      · exact z
      · have : m = 12 := by omega
        subst this
        rw [show (12 : Int) + 1 = 13 from rfl, mb_13] at e2
        omega
    refine ⟨_, by omega, m + 1, l - mlen y m, rfl, rfl, by omega, by omega, by omega, by omega, rfl⟩
  · have c' : l < mlen y m := by simpa using c
    rename_i p hp
    have hd : IsD n y m (l + 1) := ⟨m1, m2, by omega, by omega, by omega⟩
    exact NewDate.fin q hd (Same.refl _) hp
theorem u_date_at {H : Hp} {Q : VK} {E : XK} {n : Int} (h1 : 0 ≤ n) (h2 : n < 100000000000000) (q : NewDate H Q n) : sp_date_at K [.int n] H Q E := ⟨n, rfl, h1, h2, q⟩
theorem p__law_cell (vs : List V) (H : Hp) (Q : VK) (E : XK) (h : sp__law_cell K vs H Q E) : t__law_cell K E (D0 Q) (start N__law_cell vs) H := by
  obtain ⟨a, ns, k, rfl, hs, hn, h0, h1, q⟩ := h
  walk_at "hs"
  refine w_b2 (fun c => ?_) (fun c => ?_)
  · walk_at "hs"
    refine w_ixl_mem hs h0 (by simpa using c) fun v hv => ?_
    obtain ⟨i, _, rfl⟩ := List.mem_map.mp hv
    exact q i H (Same.refl _)
  · walk_at "hs"
    rename_i p hp
    obtain ⟨ms, e, hm⟩ := cut_int (ns := ns) (lo := none) (hi := some 1)
    refine w_sum (l_of (by rw [e]; exact upd_same)) ?_
    walk_at "hs"
    exact q _ _ (sm_new hp)
theorem u__law_cell {H : Hp} {Q : VK} {E : XK} {a : Addr} {ns : List Int} {k : Int} (hs : SqL K H a (ns.map V.int)) (hn : ns.length ≤ 63) (h0 : 0 ≤ k) (h1 : k ≤ 1000) (q : ∀ i H', Same H H' → Q (.int i) H') : sp__law_cell K [.ref a, .int k] H Q E := ⟨a, ns, k, rfl, hs, hn, h0, h1, q⟩
theorem p__law_box (vs : List V) (H : Hp) (Q : VK) (E : XK) (h : sp__law_box K vs H Q E) : t__law_box K E (D0 Q) (start N__law_box vs) H := by
  obtain ⟨g, rfl, q⟩ := h
  walk_at "hs"
  rename_i p hp
  exact q p _ (sm_new hp) ⟨_, _, _, _, upd_same, by split <;> omega, by omega, by omega, by omega, by omega⟩
theorem u__law_box {H : Hp} {Q : VK} {E : XK} {g : Int} (q : ∀ b H', Same H H' → BoxAt H' b 0 → Q (.ref b) H') : sp__law_box K [.int g] H Q E := ⟨g, rfl, q⟩
theorem p__law_take (vs : List V) (H : Hp) (Q : VK) (E : XK) (h : sp__law_take K vs H Q E) : t__law_take K E (D0 Q) (start N__law_take vs) H := by
  obtain ⟨b, c, many, rfl, ⟨n, m, c0, bo, hb, b1, b2, b3, b4, b5⟩, hc, m0, m1, q⟩ := h
  have hks : ∀ o, Ks H (upd H b o) := fun o => Ks.box hb
  have hkb : ∀ o, Kb b H (upd H b o) := fun o a u n h => by rw [upd_ne n]; exact h
  walk_at "hs"
  have more : ∀ σ : L2.St, σ = [some (.ref b), some (.int many), none, none] → (tSeq (tAsg (tOp (uAdd K) (tOp (rIx K) (tVar 0) (tC (.int 3))) (tC (.int 1))) (gSub (tVar 0) (tC (.int 3)) rSetL))
    (tSeq (tAsg (tOp uMod (tCB uInt (tCons (tOp uPow (tOp (uAdd K) (tOp (uAdd K) (tOp (rIx K) (tVar 0) (tC (.int 2))) (tOp uMul (tC (.int 15486971)) (tOp (rIx K) (tVar 0) (tC (.int 3))))) (tC (.int 179425579))) (tC (.int 5))) tNil)) (tC (.int 2147483647))) (gName 3))
    (tRet (tOp uMod (tCB uInt (tCons (tOp uFdv (tOp uMod (tCB uInt (tCons (tOp uPow (tOp (uAdd K) (tOp uMul (tVar 3) (tC (.int 48271))) (tOp uMul (tC (.int 105269)) (tOp (rIx K) (tVar 0) (tC (.int 3))))) (tC (.int 3))) tNil)) (tC (.int 2147483587))) (tC (.int 64))) tNil)) (tVar 1))))) (D0 Q) σ H := by
    rintro σ rfl
    walk_at "hs"
    refine w_pow_x (by omega) (by omega) ?_
    walk_at "hs"
    refine w_pow_x (by omega) (by omega) ?_
    walk_at "hs"
    exact q _ _ (Int.emod_nonneg _ (by omega)) (Int.emod_lt_of_pos _ m0) (hks _) (hkb _) ⟨_, _, _, _, upd_same, b1, b2, b3, by omega, by omega⟩
  refine w_b2 (fun z => ?_) (fun z => ?_)
  · walk_at "hs"
    refine w_b2 (fun z2 => ?_) (fun z2 => ?_)
    · walk_at "hs"
      have z3 : 0 < n := by simpa using z2
      have := Int.ediv_nonneg (a := n) (b := many) (by omega) (by omega)
      exact q _ _ (Int.emod_nonneg _ (by omega)) (Int.emod_lt_of_pos _ m0) (hks _) (hkb _) ⟨_, _, _, _, upd_same, this, b2, b3, by omega, by omega⟩
    · exact more _ rfl
  · exact more _ rfl
theorem u__law_take_B {H : Hp} {Q : VK} {E : XK} {b : Addr} {c many : Int} (hb : BoxAt H b c) (hc : c < 1000000000) (m0 : 0 < many) (m1 : many < 1000000000000000000000000000000) (q : ∀ r H', 0 ≤ r → r < many → Ks H H' → Kb b H H' → BoxAt H' b (c + 1) → Q (.int r) H') : sp__law_take K [.ref b, .int many] H Q E := ⟨b, c, many, rfl, hb, hc, m0, m1, q⟩
theorem u__law_take {H : Hp} {Q : VK} {E : XK} {b : Addr} {c many : Int} (hb : BoxAt H b c) (hc : c < 1000000000) (m0 : 0 < many) (m1 : many < 1000000000000000000000000000000) (q : ∀ r H', 0 ≤ r → r < many → Ks H H' → BoxAt H' b (c + 1) → Q (.int r) H') : sp__law_take K [.ref b, .int many] H Q E := ⟨b, c, many, rfl, hb, hc, m0, m1, fun r H' h0 h1 k _ b => q r H' h0 h1 k b⟩
local macro_rules | `(tactic| walk_at "hc") => `(tactic| (with_reducible show sp__law_take _ _ _ _ _); (refine u__law_take (by walk_at "bx") (by omega) (by omega) (by omega) ?_); intro _ _ _ _ _ _)
theorem p__law_leap (vs : List V) (H : Hp) (Q : VK) (E : XK) (h : sp__law_leap K vs H Q E) : t__law_leap K E (D0 Q) (start N__law_leap vs) H := by
  obtain ⟨y, rfl, q⟩ := h
  walk_at "hs"
  refine w_b2 (fun c1 => ?_) (fun c1 => ?_) <;> walk_at "hs"
  · have e : y % 400 = 0 := by simpa using c1
    have : leap y = true := by unfold leap; simp; omega
    rw [this] at q
    exact q
  · have e : ¬ y % 400 = 0 := by simpa using c1
    refine w_b2 (fun c2 => ?_) (fun c2 => ?_) <;> walk_at "hs"
    · have e2 : y % 4 = 0 := by simpa using c2
      have : leap y = !decide (y % 100 = 0) := by unfold leap; simp [e, e2]
      rw [this] at q
      exact q
    · have e2 : ¬ y % 4 = 0 := by simpa using c2
      have : leap y = false := by unfold leap; simp [e2]
      rw [this] at q
      exact q
theorem u__law_leap {H : Hp} {Q : VK} {E : XK} {y : Int} (q : Q (.bl (leap y)) H) : sp__law_leap K [.int y] H Q E := ⟨y, rfl, q⟩
local macro_rules | `(tactic| walk_at "hc") => `(tactic| (with_reducible refine u__law_leap ?_))
theorem p__law_length (vs : List V) (H : Hp) (Q : VK) (E : XK) (h : sp__law_length K vs H Q E) : t__law_length K E (D0 Q) (start N__law_length vs) H := by
  obtain ⟨y, m, rfl, h1, h2, q⟩ := h
  obtain z : m = 1 ∨ m = 2 ∨ m = 3 ∨ m = 4 ∨ m = 5 ∨ m = 6 ∨ m = 7 ∨ m = 8 ∨ m = 9 ∨ m = 10 ∨ m = 11 ∨ m = 12 := by omega
  have l2 : mlen y 2 = 28 + lp y := rfl
  unfold lp at l2
  walk_at "hs"
  refine w_b2 (fun c => ?_) (fun c => ?_)
  · rw [if_pos c] at l2
    have l3 : mlen y 2 = 29 := l2
    walk_at "hs"
    rcases z with rfl | rfl | rfl | rfl | rfl | rfl | rfl | rfl | rfl | rfl | rfl | rfl <;> walk_at "hs" <;> first | exact q _ (sm_new (by assumption)) | (rw [l3] at q; exact q _ (sm_new (by assumption)))
  · rw [if_neg (by rw [c]; exact Bool.false_ne_true)] at l2
    have l3 : mlen y 2 = 28 := l2
    walk_at "hs"
    rcases z with rfl | rfl | rfl | rfl | rfl | rfl | rfl | rfl | rfl | rfl | rfl | rfl <;> walk_at "hs" <;> first | exact q _ (sm_new (by assumption)) | (rw [l3] at q; exact q _ (sm_new (by assumption)))
theorem u__law_length {H : Hp} {Q : VK} {E : XK} {y m : Int} (h1 : 1 ≤ m) (h2 : m ≤ 12) (q : ∀ H', Same H H' → Q (.int (mlen y m)) H') : sp__law_length K [.int y, .int m] H Q E := ⟨y, m, rfl, h1, h2, q⟩
local macro_rules | `(tactic| walk_at "hc") => `(tactic| (with_reducible show sp__law_length _ _ _ _ _); (refine u__law_length (by omega) (by omega) ?_); intro _ _)
theorem p__law_date (vs : List V) (H : Hp) (Q : VK) (E : XK) (h : sp__law_date K vs H Q E) : t__law_date K E (D0 Q) (start N__law_date vs) H := by
  obtain ⟨n, rfl, h1, h2, q⟩ := h
  walk_at "hs"
  refine w_while (fun k σ H1 => ∃ y r, σ = [some (.int n), some (.int y), some (.int r), none] ∧ H1 = H ∧ 0 ≤ r ∧ yb y + r = n ∧ 2000 ≤ y ∧ k = r.toNat) _ ⟨_, _, rfl, rfl, by omega, by unfold yb; omega, by omega, rfl⟩ ?_
  rintro k σ H1 ⟨y, r, rfl, rfl, r1, e, y1, rfl⟩
  have l := lp_01 y
  have le : lp y = (if leap y = true then 1 else 0) := rfl
  have e1 := yb_succ y
  walk_at "hs"
  refine w_b2 (fun c => ?_) (fun c => ?_) <;> walk_at "hs"
  · have c' : 365 + (if leap y = true then 1 else 0) ≤ r := by simpa using c
    rw [← le] at c'
    rw [← le]
    refine ⟨_, by omega, y + 1, r - 365 - lp y, rfl, rfl, by omega, by omega, by omega, rfl⟩
  · have c' : r < 365 + (if leap y = true then 1 else 0) := by simpa using c
    rw [← le] at c'
    refine w_while (fun k σ H2 => ∃ m r, σ = [some (.int n), some (.int y), some (.int r), some (.int m)] ∧ Same H1 H2 ∧ 1 ≤ m ∧ m ≤ 12 ∧ 0 ≤ r ∧ mb y m + r = n ∧ k = (12 - m).toNat) _ ⟨1, r, rfl, Same.refl _, by omega, by omega, by omega, by rw [mb_one]; omega, rfl⟩ ?_
    rintro k σ H1 ⟨m, r, rfl, eH, m1, m2, l1, e, rfl⟩
    walk_at "hs"
    refine w_b2 (fun c => ?_) (fun c => ?_) <;> walk_at "hs"
    · have c' : mlen y m ≤ r := by simpa using c
      have e2 := mb_next y m m1
      have m3 : m < 12 := by
        by_cases z : m < 12
        · exact z
        · have : m = 12 := by omega
          subst this
          rw [show (12 : Int) + 1 = 13 from rfl, mb_13] at e2
          omega
      rename_i H1 f1 H2 f2
      refine ⟨_, ?_, m + 1, r - mlen y m, rfl, Same.trans eH (Same.trans f1 f2), by omega, by omega, by omega, by omega, rfl⟩
      omega
    · have c' : r < mlen y m := by simpa using c
      rename_i H2 f1 p hp
      have hd : IsD n y m (r + 1) := ⟨m1, m2, by omega, by omega, by omega⟩
      exact NewDate.fin q hd (Same.trans eH f1) hp
theorem u__law_date {H : Hp} {Q : VK} {E : XK} {n : Int} (h1 : 0 ≤ n) (h2 : n < 100000000000000) (q : NewDate H Q n) : sp__law_date K [.int n] H Q E := ⟨n, rfl, h1, h2, q⟩
theorem p__law_next (vs : List V) (H : Hp) (Q : VK) (E : XK) (h : sp__law_next K vs H Q E) : t__law_next K E (D0 Q) (start N__law_next vs) H := by
  obtain ⟨a, y, m, d, rfl, hs, h1, h2, q⟩ := h
  walk_at "hs"
  rename_i H1 f1
  unfold nextD at q
  refine w_b2 (fun c => ?_) (fun c => ?_)
  · have c' : d < mlen y m := by simpa using c
    rw [if_pos c'] at q
    walk_at "hs"
    exact q _ _ (Same.trans f1 (sm_new (by assumption))) (sm_fresh f1 (by assumption)) upd_same
  · have c' : ¬ d < mlen y m := by simpa using c
    rw [if_neg c'] at q
    walk_at "hs"
    refine w_b2 (fun c => ?_) (fun c => ?_)
    · have c' : m < 12 := by simpa using c
      rw [if_pos c'] at q
      walk_at "hs"
      exact q _ _ (Same.trans f1 (sm_new (by assumption))) (sm_fresh f1 (by assumption)) upd_same
    · have c' : ¬ m < 12 := by simpa using c
      rw [if_neg c'] at q
      walk_at "hs"
      exact q _ _ (Same.trans f1 (sm_new (by assumption))) (sm_fresh f1 (by assumption)) upd_same
theorem u__law_next {H : Hp} {Q : VK} {E : XK} {a : Addr} {y m d : Int} (h : SqT K H a [.int y, .int m, .int d]) (h1 : 1 ≤ m) (h2 : m ≤ 12) (q : ∀ p H', Same H H' → H p = none → H' p = some (.tup [.int (nextD y m d).1, .int (nextD y m d).2.1, .int (nextD y m d).2.2]) → Q (.ref p) H') : sp__law_next K [.ref a] H Q E := ⟨a, y, m, d, rfl, h, h1, h2, q⟩
local macro_rules | `(tactic| walk_at "hc") => `(tactic| (with_reducible show sp__law_next _ _ _ _ _); (refine u__law_next (by walk_at "st") (by omega) (by omega) ?_); intro _ _ _ _ _)
/-- what the inner call may be asked -/
def spIn (K : PySem.W.Frag) : Nat → Sp
  | 0 => fun _ _ _ _ => False
  | n + 1 => sp_same K n
theorem u_in {n : Nat} {H : Hp} {Q : VK} {E : XK} {x y : V} {d : PyData} {ds : List PyData} (h : ∃ m, n = m + 1 ∧ ds.length ≤ 100000 ∧ okAll m ds) {i : Nat} (hi : ds[i]? = some d) (h1 : Dp K H x d) (h2 : Dp K H y d) (q : ∀ H', Same H H' → Q (.bl true) H') : spIn K n [x, y] H Q E := by
  obtain ⟨m, rfl, _, o⟩ := h
  exact ⟨x, y, d, rfl, h1, h2, okAll.get o hi, q⟩
theorem p__law_same (n : Nat) (vs : List V) (H : Hp) (Q : VK) (E : XK) (h : sp_same K n vs H Q E) : t__law_same K (spIn K n) E (D0 Q) (start N__law_same vs) H := by
  obtain ⟨x, y, d, rfl, hx, hy, hd, q⟩ := h
  cases d with
  | none =>
    cases hx; cases hy
    walk_at "hs"
    exact q _ (Same.refl _)
  | bool b =>
    cases hx; cases hy
    walk_at "hs"
    have := q _ (Same.refl _)
    cases b <;> exact this
  | int i =>
    cases hx; cases hy
    walk_at "hs"
    simpa using q _ (Same.refl _)
  | str s =>
    cases hx; cases hy
    walk_at "hs"
    simpa using q _ (Same.refl _)
  | dict kvs => cases hx
  | list ds =>
    cases hx with | @lst a xs _ ha ra =>
    cases hy with | @lst b ys _ hb rb =>
    simp only [okD] at hd
    have hd' := hd
    obtain ⟨m, rfl, hl, ho⟩ := hd
    have l1 := DpAll.len ra
    have l2 := DpAll.len rb
    walk_at "hs"
    intro D hD
    refine lc_range (lo := 0) (n := ys.length) (LcP H D fun _ => []) (LcP.zero hD rfl) ?_ ?_
    · intro i H' hi P
      have P1 := P.1
      obtain ⟨x, d, ex, ed, kx⟩ := DpAll.get ra i (by omega)
      obtain ⟨y, d', ey, ed', ky⟩ := DpAll.get rb i (by omega)
      rw [ed] at ed'
      cases ed'
      have z : (0 : Int) + (i : Int) = (i : Int) := by omega
      walk_at "hs"
      refine w_ixl (P1.seq ha) (by rw [z]; exact atI_nat ex) ?_
      walk_at "hs"
      refine w_ixl (P1.seq hb) (by rw [z]; exact atI_nat ey) ?_
      walk_at "hs"
      refine u_in hd' ed (Dp.same P1 kx) (Dp.same P1 ky) fun H2 f => ?_
      walk_at "hs"
      exact LcP.no P f rfl
    · intro H' P
      walk_at "hs"
      rename_i p hp
      refine w_eq_d (.lst (l_of (up_new hp P.2)) .nil) (.lst (l_of upd_same) .nil) rfl rfl ?_
      exact q _ (Same.trans P.1 (sm_new hp))
  | tuple ds =>
    cases hx with | @tup a xs _ ha ra =>
    cases hy with | @tup b ys _ hb rb =>
    simp only [okD] at hd
    have hd' := hd
    obtain ⟨m, rfl, hl, ho⟩ := hd
    have l1 := DpAll.len ra
    have l2 := DpAll.len rb
    walk_at "hs"
    intro D hD
    refine lc_range (lo := 0) (n := ys.length) (LcP H D fun _ => []) (LcP.zero hD rfl) ?_ ?_
    · intro i H' hi P
      have P1 := P.1
      obtain ⟨x, d, ex, ed, kx⟩ := DpAll.get ra i (by omega)
      obtain ⟨y, d', ey, ed', ky⟩ := DpAll.get rb i (by omega)
      rw [ed] at ed'
      cases ed'
      have z : (0 : Int) + (i : Int) = (i : Int) := by omega
      walk_at "hs"
      refine w_ixt (Kx.Same.tup P1 ha) (by rw [z]; exact atI_nat ex) ?_
      walk_at "hs"
      refine w_ixt (Kx.Same.tup P1 hb) (by rw [z]; exact atI_nat ey) ?_
      walk_at "hs"
      refine u_in hd' ed (Dp.same P1 kx) (Dp.same P1 ky) fun H2 f => ?_
      walk_at "hs"
      exact LcP.no P f rfl
    · intro H' P
      walk_at "hs"
      rename_i p hp
      refine w_eq_d (.lst (l_of (up_new hp P.2)) .nil) (.lst (l_of upd_same) .nil) rfl rfl ?_
      exact q _ (Same.trans P.1 (sm_new hp))
theorem u__law_same {n : Nat} {H : Hp} {Q : VK} {E : XK} {x y : V} {d : PyData} (hx : Dp K H x d) (hy : Dp K H y d) (hd : okD n d) (q : ∀ H', Same H H' → Q (.bl true) H') : sp_same K n [x, y] H Q E := ⟨x, y, d, rfl, hx, hy, hd, q⟩
theorem p__law_very (vs : List V) (H : Hp) (Q : VK) (E : XK) (h : sp__law_very K vs H Q E) : t__law_very K E (D0 Q) (start N__law_very vs) H := by
  obtain ⟨x, rfl, hg, q⟩ := h
  have bt : ∀ {H1 : Hp} {a : Addr} {o : HO}, Same H H1 → But a H (upd H1 a o) := fun e b u n h => by rw [upd_ne n]; exact e _ _ h
  cases hg with
  | @lst a xs h hn =>
    have hput : (xs ++ [V.str "grown"]).length = xs.length + 1 := by simp
    walk_at "hs"
    rw [decide_eq_true (by omega)]
    exact q _ (.inr ⟨a, rfl, bt (sm_new (by assumption)), .inl ⟨xs, h, upd_same⟩⟩)
  | @dic a kvs h hn hg =>
    have hput : (putK kvs (.inr "grown") (.int 1)).length = kvs.length + 1 := by rw [put_new hg]; simp
    walk_at "hs"
    rw [decide_eq_true (by omega)]
    exact q _ (.inr ⟨a, rfl, bt (sm_new (by assumption)), .inr ⟨kvs, h, upd_same⟩⟩)
  | @tup a xs h hs hn =>
    obtain ⟨ds, kd, od⟩ := scas_dp (K := K) (H := H) 7 hs
    have hl := DpAll.len kd
    walk_at "hs"
    rename_i p hp
    have dp := Dp.same (sm_new (u := .tup [V.ty "list", V.ty "dict"]) hp) (.tup h kd)
    exact u__law_same (n := 8) dp dp (by simp only [okD]; exact ⟨7, rfl, by omega, od⟩) fun H' e => q H' (.inl (Same.trans (sm_new hp) e))
  | sc h =>
    obtain ⟨d, kd, od⟩ := sca_dp (K := K) (H := H) 8 h
    have fin : ∀ p, H p = none → sp__law_same K [x, x] (upd H p (.tup [V.ty "list", V.ty "dict"])) (fun v H' => Q v H') E00 := fun p hp => by
      have dp := Dp.same (sm_new (u := .tup [V.ty "list", V.ty "dict"]) hp) kd
      exact u__law_same (n := 8) dp dp od fun H' e => q H' (.inl (Same.trans (sm_new hp) e))
    cases x with
    | non => walk_at "hs"; exact fin _ (by assumption)
    | bl b => walk_at "hs"; exact fin _ (by assumption)
    | int i => walk_at "hs"; exact fin _ (by assumption)
    | str s => walk_at "hs"; exact fin _ (by assumption)
    | _ => cases h
theorem u__law_very {H : Hp} {Q : VK} {E : XK} {x : V} (h : Gv K H x) (q : ∀ H', Grw x H H' → Q (.bl true) H') : sp__law_very K [x, x] H Q E := ⟨x, rfl, h, q⟩
section
local macro_rules | `(tactic| walk_at "hc") => `(tactic| (with_reducible show sp__law_take _ _ _ _ _); (refine u__law_take_B (by walk_at "bx") (by omega) (by omega) (by omega) ?_); intro _ _ _ _ _ _ _)
local macro_rules | `(tactic| walk_at "kb") => `(tactic| first | exact Kb.refl _ _ | assumption | ((with_reducible show Kb _ _ (upd _ _ _)); (refine Kb.trans ?_ (Kb.of (sm_new (by assumption))); walk_at "kb")) | (refine Kb.trans ?_ (by assumption); walk_at "kb") | (refine Kb.trans ?_ (Kb.of (by assumption)); walk_at "kb"))
theorem p__law_no_number (vs : List V) (H : Hp) (Q : VK) (E : XK) (h : sp__law_no_number K vs H Q E) : t__law_no_number K E (D0 Q) (start N__law_no_number vs) H := by
  obtain ⟨b, c, lo, hi, rfl, hb, hc, l0, l1, q⟩ := h
  have l0 : -100000000000000000000 < lo := l0
  have l1 : hi < 100000000000000000000 := l1
  walk_at "hs"
  refine w_ixl_v 10 (by walk_at "sl") rfl (by omega) (by omega) ?_
  have hb2 : BoxAt _ b (c + 2) := BoxAt.mono (by assumption) (by omega)
  refine fm_cons (q _ _ (by walk_at "ks") (by walk_at "kb") hb2 (.sc rfl) (betw_f (.inl (by omega))) (fresh_sc rfl)) ?_
  refine fm_cons (q _ _ (by walk_at "ks") (by walk_at "kb") hb2 (.sc rfl) (betw_f (.inr (by omega))) (fresh_sc rfl)) ?_
  refine fm_cons (q _ _ (by walk_at "ks") (by walk_at "kb") hb2 (.sc rfl) rfl (fresh_sc rfl)) ?_
  refine fm_cons (q _ _ (by walk_at "ks") (by walk_at "kb") hb2 (.sc rfl) rfl (fresh_sc rfl)) ?_
  refine fm_cons (q _ _ (by walk_at "ks") (by walk_at "kb") hb2 (.sc rfl) rfl (fresh_sc rfl)) ?_
  refine fm_cons (q _ _ (by walk_at "ks") (by walk_at "kb") hb2 (.lst (by walk_at "lk") (bN_le rfl) rfl) rfl (fresh_of (by assumption) (by walk_at "ks"))) ?_
  refine fm_cons (q _ _ (by walk_at "ks") (by walk_at "kb") hb2 (.tup (by walk_at "lk") rfl (bN_le rfl)) rfl (fresh_of (by assumption) (by walk_at "ks"))) ?_
  refine fm_cons (q _ _ (by walk_at "ks") (by walk_at "kb") hb2 (.dic (by walk_at "lk")) rfl (fresh_of (by assumption) (by walk_at "ks"))) ?_
  refine fm_cons (q _ _ (by walk_at "ks") (by walk_at "kb") hb2 (.sc rfl) (betw_f (.inr (by omega))) (fresh_sc rfl)) ?_
  refine fm_cons (q _ _ (by walk_at "ks") (by walk_at "kb") hb2 (.sc rfl) (betw_f (.inl (by omega))) (fresh_sc rfl)) ?_
  exact fm_nil
end
theorem u__law_no_number_B {H : Hp} {Q : VK} {E : XK} {b : Addr} {c lo hi : Int} (hb : BoxAt H b c) (hc : c < 900000000) (l0 : -100000000000000000000 < lo) (l1 : hi < 100000000000000000000)
    (q : ∀ v H', Ks H H' → Kb b H H' → BoxAt H' b (c + 2) → Ob H' v → betw v lo hi = false → Fresh H v → Q v H') : sp__law_no_number K [.ref b, .int lo, .int hi] H Q E := ⟨b, c, lo, hi, rfl, hb, hc, l0, l1, q⟩
theorem u__law_no_number {H : Hp} {Q : VK} {E : XK} {b : Addr} {c lo hi : Int} (hb : BoxAt H b c) (hc : c < 900000000) (l0 : -100000000000000000000 < lo) (l1 : hi < 100000000000000000000)
    (q : ∀ v H', Ks H H' → BoxAt H' b (c + 2) → Ob H' v → betw v lo hi = false → Fresh H v → Q v H') : sp__law_no_number K [.ref b, .int lo, .int hi] H Q E := ⟨b, c, lo, hi, rfl, hb, hc, l0, l1, fun v H' k _ b o w f => q v H' k b o w f⟩
local macro_rules | `(tactic| walk_at "hc") => `(tactic| (with_reducible show sp__law_no_number _ _ _ _ _); (refine u__law_no_number (by walk_at "bx") (by omega) (by omega) (by omega) ?_); intro _ _ _ _ _ _ _)
end My
set_option linter.all false
set_option maxRecDepth 100000
set_option maxHeartbeats 2000000
namespace My
open PySem PySem.Spec PyProof.Rows L2 Kx
local macro_rules | `(tactic| walk_at "lk") => `(tactic| first | assumption | ((with_reducible show upd _ _ _ _ = _); (first | exact upd_same | (exact up_new (by assumption) (by walk_at "lk")) | (exact up_other (by assumption) (by walk_at "lk")))) | (exact (by assumption : Same _ _) _ _ (by walk_at "lk")) | (exact ks_get (by assumption) (by walk_at "lk") (by first | rfl | assumption | exact notBox_len rfl)))
local macro_rules | `(tactic| walk_at "sl") => `(tactic| first | assumption | (exact l_of (by walk_at "lk")) | (exact Same.seq (by assumption) (by walk_at "sl")) | ((with_reducible show SqL _ (upd _ _ _) _ _); (exact Same.seq (sm_new (by assumption)) (by walk_at "sl"))))
local macro_rules | `(tactic| walk_at "st") => `(tactic| first | assumption | (exact t_of (by walk_at "lk")) | (exact Kx.Same.tup (by assumption) (by walk_at "st")) | ((with_reducible show SqT _ (upd _ _ _) _ _); (exact Kx.Same.tup (sm_new (by assumption)) (by walk_at "st"))) | (exact ks_tup (by assumption) (by walk_at "st")))
local macro_rules | `(tactic| walk_at "kd") => `(tactic| first | assumption | exact .non | exact .bl _ | exact .int _ | exact .str _ | (exact .lst (by walk_at "sl")) | (exact .tup (by walk_at "st")) | (exact .dic (by walk_at "lk")) | (exact Kd.same (by assumption) (by walk_at "kd")) | ((with_reducible show Kd _ (upd _ _ _) _ _); (exact Kd.same (sm_new (by assumption)) (by walk_at "kd"))))
local macro_rules | `(tactic| walk_at "tt") => `(tactic| first | rfl | assumption | decide +kernel | (simp only [decide_eq_true_eq, Bool.not_eq_true', decide_eq_false_iff_not, Bool.and_eq_true, Bool.or_eq_true]; omega))
local macro_rules | `(tactic| walk_at "ff") => `(tactic| first | rfl | assumption | decide +kernel | (simp only [decide_eq_true_eq, Bool.not_eq_false', decide_eq_false_iff_not, Bool.and_eq_false_imp, Bool.or_eq_false_iff]; omega))
local macro_rules | `(tactic| walk_at "hc") => `(tactic| fail)
local macro_rules | `(tactic| walk_at "hif") => `(tactic| ((with_reducible refine w_b2 ?_ ?_) <;> intro))
local macro_rules | `(tactic| walk_at "hs1") => `(tactic| first
  | (with_reducible refine w_seq ?_)
  | (with_reducible refine w_asg ?_)
  | ((with_reducible refine' w_var ?k1 ?_); (case k1 => exact rfl))
  | (with_reducible refine w_c ?_)
  | (with_reducible refine w_op ?_)
  | (with_reducible refine w_cons ?_)
  | (with_reducible refine w_nil ?_)
  | (with_reducible refine w_name ?_)
  | (with_reducible refine w_kn ?_)
  | (with_reducible refine w_kx ?_)
  | (with_reducible refine w_kk ?_)
  | (with_reducible refine w_cb ?_)
  | (with_reducible refine w_if ?_)
  | (with_reducible refine w_test ?_)
  | (with_reducible refine w_exb ?_)
  | (with_reducible refine iteT ?_)
  | (with_reducible refine iteF ?_)
  | ((with_reducible refine w_bt ?_ ?_); (first | rfl | decide +kernel))
  | ((with_reducible refine w_bf ?_ ?_); (first | rfl | decide +kernel))
  | ((with_reducible refine w_bt ?_ ?_); (walk_at "tt"))
  | ((with_reducible refine w_bf ?_ ?_); (walk_at "ff"))
  | (with_reducible refine w_ret ?_)
  | (with_reducible refine w_retN ?_)
  | (with_reducible refine w_drop ?_)
  | (with_reducible refine w_next ?_)
  | (with_reducible refine w_brk ?_)
  | (with_reducible refine w_cont ?_)
  | (with_reducible refine w_and ?_)
  | (with_reducible refine w_or ?_)
  | (with_reducible refine w_not ?_)
  | (with_reducible refine w_tr ?_)
  | (with_reducible refine w_yes ?_)
  | (with_reducible refine w_tru_bl ?_)
  | (with_reducible refine w_tru_int ?_)
  | (with_reducible refine w_tru_non ?_)
  | (with_reducible refine w_andV ?_)
  | (with_reducible refine w_orV ?_)
  | (with_reducible refine w_notV ?_)
  | (with_reducible refine w_ifx ?_)
  | (with_reducible refine w_chain ?_)
  | (with_reducible refine w_un ?_)
  | (with_reducible refine n_tup ?_)
  | (with_reducible refine n_lst ?_)
  | ((with_reducible show kTup _ _ _); (refine n_ktup rfl ?_); intro _ _ _ _ _)
  | ((with_reducible show kLst _ _ _); (refine n_klst rfl ?_); intro _ _ _ _ _)
  | (with_reducible refine w_par ?_)
  | (with_reducible refine w_par2 ?_)
  | (with_reducible refine w_par3 ?_)
  | (with_reducible refine w_par33 ?_)
  | ((with_reducible refine' w_aug ?k1 ?_); (case k1 => exact rfl))
  | (with_reducible refine w_raise ?_)
  | (with_reducible refine w_mkdue ?_)
  | (with_reducible refine w_one ?_)
  | ((with_reducible show gSq _ _ _ (V.ref _) _ _ _); (first | (refine n_gsq (by walk_at "lk") (by exact rfl) (by exact rfl) ?_) | (refine w_gtup (by walk_at "st") (by exact rfl) ?_) | (refine w_glst (by walk_at "sl") (by exact rfl) ?_)))
  | (with_reducible refine w_gcons ?_)
  | (with_reducible refine w_gnil ?_)
  | (with_reducible refine w_bm ?_)
  | ((with_reducible show tyV _ "list" (V.ref _) _ ∧ _); (refine w_tyl (by walk_at "sl") ?_))
  | (with_reducible refine w_for ?_)
  | (with_reducible refine w_rng1 ?_)
  | (with_reducible refine w_rng2 ?_)
  | (with_reducible refine w_add_ii ?_)
  | (with_reducible refine w_sub_ii ?_)
  | ((with_reducible refine w_fdv_ii ?_ ?_ ?_); (first | decide | omega); (first | decide | omega))
  | ((with_reducible refine w_mul_b ?_ ?_ ?_); (refine ⟨?_, ?_⟩ <;> omega); (refine ⟨?_, ?_⟩ <;> omega))
  | ((with_reducible refine w_mod_ii ?_ ?_); (first | decide | omega))
  | (with_reducible refine w_neg_i ?_)
  | (with_reducible refine w_lt_ii ?_)
  | (with_reducible refine w_le_ii ?_)
  | (with_reducible refine w_gt_ii ?_)
  | (with_reducible refine w_ge_ii ?_)
  | (with_reducible refine w_eq_ii ?_)
  | (with_reducible refine w_ne_ii ?_)
  | (with_reducible refine n_eq_same ?_)
  | (with_reducible refine n_ne_same ?_)
  | (with_reducible refine w_eq_ss ?_)
  | (with_reducible refine w_ne_ss ?_)
  | (with_reducible refine w_eq_bb ?_)
  | (with_reducible refine w_ne_bb ?_)
  | (with_reducible refine w_is_n ?_)
  | (with_reducible refine w_isn_n ?_)
  | (with_reducible refine w_is_bb ?_)
  | (with_reducible refine w_isn_bb ?_)
  | ((with_reducible show rIx _ (V.ref _) (V.int _) _ _); (first | (refine n_ix (by decide) (by walk_at "lk") (by exact rfl) ?_) | (refine n_ixl (by decide) (by walk_at "sl") (by exact rfl) ?_) | (refine n_ixt (by decide) (by walk_at "st") (by exact rfl) ?_)))
  | (with_reducible refine w_ipadd ?_)
  | (with_reducible refine w_ipsub ?_)
  | (with_reducible refine w_int_i ?_)
  | (with_reducible refine w_int_b ?_)
  | (with_reducible refine w_abs ?_)
  | ((with_reducible refine w_max2r ?_); intro _ _ _ _)
  | ((with_reducible refine w_min2r ?_); intro _ _ _ _)
  | ((with_reducible show uLen _ [V.ref _] _ _); (first | (refine n_len (by walk_at "lk") (by exact rfl) ?_) | (refine w_len_l (by walk_at "sl") ?_) | (refine w_len_t (by walk_at "st") ?_) | (refine w_len_d (by walk_at "lk") ?_)))
  | ((with_reducible show uIsi _ [_, V.ty _] _ _); (refine w_isk (by walk_at "kd") (by decide) ?_))
  | ((with_reducible show uIsi _ [_, V.ref _] _ _); (refine w_isk2 (by walk_at "lk") (by walk_at "kd") (by decide) (by decide) ?_))
  | (with_reducible refine w_wN ?_)
  | (with_reducible refine w_lc ?_)
  | ((with_reducible refine' w_rng2e ?k1 ?_); (case k1 => (refine ⟨?_, ?_, ?_, ?_⟩ <;> omega)))
  | ((with_reducible refine' w_rng1e ?k1 ?k2 ?_); (case k1 => omega); (case k2 => omega))
  | ((with_reducible show ∃ a', V.ref _ = .ref a' ∧ (∃ xs, SqL _ _ a' xs) ∧ _); (refine w_sqLe (by walk_at "sl") ?_))
  | ((with_reducible show ∃ a', V.ref _ = .ref a' ∧ (∃ xs, SqT _ _ a' xs) ∧ _); (refine w_sqTe (by walk_at "st") ?_))
  | (with_reducible refine w_slc ?_)
  | (with_reducible refine w_nop ?_)
  | (with_reducible refine w_part ?_)
  | (with_reducible refine w_exi ?_)
  | ((with_reducible show uSl _ (V.ref _) _ _ _ _); (refine n_slL (by walk_at "sl") ?_); intro _ _ _ _ _)
  | (with_reducible refine w_gsub ?_)
  | ((with_reducible show rSetL (V.ref _) (V.int _) _ _ _); (refine w_setl (by walk_at "lk") (by exact rfl) ?_))
  | (with_reducible refine w_pow_9 ?_)
  | (with_reducible refine w_pow_12 ?_)
  | (with_reducible refine w_pow_13 ?_)
  | (with_reducible refine w_pow_18 ?_)
  | (with_reducible refine w_pow_29 ?_)
  | ((with_reducible refine n_disp1 ?_); intro _ _ _ _ _)
  | (with_reducible refine w_dput ?_)
  | ((with_reducible show rAppend (V.ref _) [_] _ _); (refine w_append (by walk_at "lk") (by first | omega | (exact Nat.lt_of_le_of_lt (wN_le rfl) (by decide))) ?_))
  | ((with_reducible show ∃ a' H4, V.ref _ = .ref a' ∧ DPut _ a' (V.str _) _ H4 ∧ _); (refine w_dputS (by walk_at "lk") (by first | omega | exact wN_le rfl) ?_))
  | (with_reducible refine w_try ?_)
  | ((with_reducible show wManyA _ _ _ _ (.ref (He.ga _ _)) _ _ _); (first | ((refine w_hit (ExT.ex (by assumption) _ (by decide) _ (by decide)) ?_); intro _ _) | (refine w_miss (ExT.ex (by assumption) _ (by decide) _ (by decide)) ?_)))
  | (with_reducible refine w_xg ?_)
  | ((with_reducible show V.ref _ = .ref _ ∧ ∃ _ _ _ _, Value.ref (He.ga _ _) = _ ∧ _); (refine w_xge (ExT.xf (by assumption) _ (by decide)) (ExT.fg (by assumption) _ (by decide)) (by walk_at "lk") ?_))
  | ((with_reducible show rIsX _ (.ref (He.ga _ _)) _ _ _ _ _); (refine w_isx (ExT.xx (by assumption) _ (by decide)) (ExT.kd (by assumption) _ (by decide)) (by walk_at "lk") ?_))
  | ((with_reducible show uAdd _ (V.ref _) (V.ref _) _ _); (refine n_add_ll (by walk_at "lk") (by walk_at "lk") rfl ?_); intro _ _ _ _ _)
  | ((with_reducible show iSeq _ (tLst _) _ _ _); (refine w_sqL ?_))
  | ((with_reducible show iSeq _ (tTup _) _ _ _); (refine w_sqT ?_))
  | (refine ⟨(rfl : wipe _ _ = wipe _ _), ?_⟩)
  | (walk_at "hc"))
local macro_rules | `(tactic| walk_at "hs") => `(tactic| repeat' (walk_at "hs1"))

local macro_rules | `(tactic| walk_at "rg") => `(tactic| repeat' (first | exact rg_nil | (refine rg_cons (by omega) (by omega) ?_)))
local macro_rules | `(tactic| walk_at "sm") => `(tactic| first | exact Same.refl _ | assumption | ((with_reducible show Same _ (upd _ _ _)); (refine Same.trans ?_ (sm_new (by assumption))); walk_at "sm") | ((refine Same.trans ?_ (by assumption)); walk_at "sm"))
local macro_rules | `(tactic| walk_at "bx") => `(tactic| first | assumption | ((with_reducible show BoxAt (upd _ _ _) _ _); (exact BoxAt.new (by assumption) (by walk_at "bx"))) | (exact BoxAt.same (by assumption) (by walk_at "bx")))
local macro_rules | `(tactic| walk_at "ks") => `(tactic| first | exact Ks.refl _ | assumption | ((with_reducible show Ks _ (upd _ _ _)); (refine Ks.trans ?_ (Ks.of (sm_new (by assumption))); walk_at "ks")) | (refine Ks.trans ?_ (by assumption); walk_at "ks") | (refine Ks.trans ?_ (Ks.of (by assumption)); walk_at "ks"))
local macro_rules | `(tactic| walk_at "ob") => `(tactic| first | assumption | exact .sc rfl | (exact Ob.same (by assumption) (by walk_at "ob")) | (exact Ob.ks (by assumption) (by walk_at "ob")))
local macro_rules | `(tactic| walk_at "nd") => `(tactic| first | assumption | (exact Nd.same (by assumption) (by walk_at "nd")) | (exact Nd.ks (by assumption) (by walk_at "nd")))
local macro_rules | `(tactic| walk_at "df") => `(tactic| first | assumption | exact df_sc rfl | (exact df_vr (by assumption) (by walk_at "lk")) | (exact df_rv (by assumption) (by walk_at "ob")) | (exact df_vv (by assumption) (by walk_at "ob")) | (exact Df.symm (df_vv (by assumption) (by walk_at "ob"))))
local macro_rules | `(tactic| walk_at "hc") => `(tactic| (with_reducible show sp_is_whole _ _ _ _ _); (refine u_is_whole (by walk_at "kd") ?_))
local macro_rules | `(tactic| walk_at "hc") => `(tactic| (with_reducible show sp_is_between _ _ _ _ _); (refine u_is_between (by walk_at "kd") ?_))
local macro_rules | `(tactic| walk_at "hc") => `(tactic| (with_reducible show sp_is_day _ _ _ _ _); (refine u_is_day (by walk_at "kd") ?_))
local macro_rules | `(tactic| walk_at "hc") => `(tactic| (with_reducible refine u_is_leap_year ?_))
local macro_rules | `(tactic| walk_at "hc") => `(tactic| (with_reducible refine' u_length_of ?k1 ?k2 ?_); (case k1 => omega); (case k2 => omega))
local macro_rules | `(tactic| walk_at "hc") => `(tactic| (with_reducible refine' u_year_begin ?k1 ?k2 ?_); (case k1 => omega); (case k2 => omega))
local macro_rules | `(tactic| walk_at "hc") => `(tactic| (with_reducible refine' u_month_begin ?k1 ?k2 ?k3 ?k4 ?_); (case k1 => omega); (case k2 => omega); (case k3 => omega); (case k4 => omega); intro _ _)
local macro_rules | `(tactic| walk_at "hc") => `(tactic| (with_reducible show sp__law_take _ _ _ _ _); (refine u__law_take (by walk_at "bx") (by omega) (by omega) (by omega) ?_); intro _ _ _ _ _ _)
local macro_rules | `(tactic| walk_at "hc") => `(tactic| (with_reducible refine u__law_leap ?_))
local macro_rules | `(tactic| walk_at "hc") => `(tactic| (with_reducible show sp__law_length _ _ _ _ _); (refine u__law_length (by omega) (by omega) ?_); intro _ _)
local macro_rules | `(tactic| walk_at "hc") => `(tactic| (with_reducible show sp__law_next _ _ _ _ _); (refine u__law_next (by walk_at "st") (by omega) (by omega) ?_); intro _ _ _ _ _)
local macro_rules | `(tactic| walk_at "hc") => `(tactic| (with_reducible show sp__law_no_number _ _ _ _ _); (refine u__law_no_number (by walk_at "bx") (by omega) (by omega) (by omega) ?_); intro _ _ _ _ _ _ _)
variable {K : PySem.W.Frag}
theorem p_check_weekday (vs : List V) (H : Hp) (Q : VK) (E : XK) (h : sp_check_weekday K vs H Q E) : t_check_weekday K E (D0 Q) (start N_check_weekday vs) H := by
  obtain ⟨x, T, rfl, hk, q1, q2⟩ := h
  walk_at "hs"
  cases c : betw x 0 6 <;> walk_at "hs"
  · exact q2 c
  · exact q1 c
theorem u_check {H : Hp} {Q : VK} {E : XK} {x : V} {T : String} (hk : Kd K H x T) (q1 : betw x 0 MOST = true → Q .non H) (q2 : betw x 0 MOST = false → Er K E H "InvalidDay" x) : sp_check_day K [x] H Q E := ⟨x, T, rfl, hk, q1, q2⟩
theorem betw_day {n : Int} (c : betw (.int n) 0 MOST = true) : 0 ≤ n ∧ n ≤ 1000000000000 := by
  obtain ⟨i, e, h⟩ := betw_int c
  cases e
  exact h
theorem p_weekday_at (vs : List V) (H : Hp) (Q : VK) (E : XK) (h : sp_weekday_at K vs H Q E) : t_weekday_at K E (D0 Q) (start N_weekday_at vs) H := by
  obtain ⟨n, rfl, q⟩ := h
  walk_at "hs"
  exact q
theorem u_weekday_at {H : Hp} {Q : VK} {E : XK} {n : Int} (q : Q (.int (wd n)) H) : sp_weekday_at K [.int n] H Q E := ⟨n, rfl, q⟩
local macro_rules | `(tactic| walk_at "hc") => `(tactic| (with_reducible refine u_weekday_at ?_))
theorem p_weekday_of (vs : List V) (H : Hp) (Q : VK) (E : XK) (h : sp_weekday_of K vs H Q E) : t_weekday_of K E (D0 Q) (start N_weekday_of vs) H := by
  obtain ⟨x, T, rfl, hk, q1, q2⟩ := h
  walk_at "hs"
  refine u_check hk (fun c => ?_) q2
  obtain ⟨n, rfl, _, _⟩ := betw_int c
  walk_at "hs"
  exact q1 n rfl c
theorem p_first_monday (vs : List V) (H : Hp) (Q : VK) (E : XK) (h : sp_first_monday K vs H Q E) : t_first_monday K E (D0 Q) (start N_first_monday vs) H := by
  obtain ⟨y, rfl, h1, h2, q⟩ := h
  walk_at "hs"
  have e : yb y + 3 - wd (yb y + 3) = fm y := by unfold wd fm; omega
  rw [e]
  exact q
theorem u_first_monday {H : Hp} {Q : VK} {E : XK} {y : Int} (h1 : -100000000000000 < y) (h2 : y < 100000000000000) (q : Q (.int (fm y)) H) : sp_first_monday K [.int y] H Q E := ⟨y, rfl, h1, h2, q⟩
local macro_rules | `(tactic| walk_at "hc") => `(tactic| (with_reducible show sp_first_monday _ _ _ _ _); (refine u_first_monday (by omega) (by omega) ?_))
theorem p_weeks_of (vs : List V) (H : Hp) (Q : VK) (E : XK) (h : sp_weeks_of K vs H Q E) : t_weeks_of K E (D0 Q) (start N_weeks_of vs) H := by
  obtain ⟨y, rfl, h1, h2, q⟩ := h
  walk_at "hs"
  exact q
theorem u_weeks_of {H : Hp} {Q : VK} {E : XK} {y : Int} (h1 : -10000000000000 < y) (h2 : y < 10000000000000) (q : Q (.int (wks y)) H) : sp_weeks_of K [.int y] H Q E := ⟨y, rfl, h1, h2, q⟩
local macro_rules | `(tactic| walk_at "hc") => `(tactic| (with_reducible show sp_weeks_of _ _ _ _ _); (refine u_weeks_of (by omega) (by omega) ?_))
theorem p_week_of (vs : List V) (H : Hp) (Q : VK) (E : XK) (h : sp_week_of K vs H Q E) : t_week_of K E (D0 Q) (start N_week_of vs) H := by
  obtain ⟨x, T, rfl, hk, q1, q2⟩ := h
  walk_at "hs"
  refine u_check hk (fun c => ?_) q2
  obtain ⟨n, rfl, _, _⟩ := betw_int c
  obtain ⟨n0, n1⟩ := betw_day c
  have q := q1 n rfl c
  walk_at "hs"
  refine u_date_at n0 (by omega) fun y m d p H1 hd e hp => ?_
  have y0 := hd.year
  have y1 := yb_bd y0.1 n0 (by omega)
  have y2 := yb_bd0 y0.2 n0
  walk_at "hs"
  refine w_b2 (fun c1 => ?_) (fun c1 => ?_)
  · have c1 := of_decide_eq_true c1
    obtain ⟨g1, g2⟩ := fm_later y0.1 y0.2 c1
    walk_at "hs"
    exact q _ _ _ _ (fm_week g1 g2) (by walk_at "sm") (by assumption)
  · have c1 := of_decide_eq_false c1
    walk_at "hs"
    refine w_b2 (fun c2 => ?_) (fun c2 => ?_)
    · have c2 := of_decide_eq_true c2
      obtain ⟨g1, g2⟩ := fm_before y0.1 c2
      walk_at "hs"
      exact q _ _ _ _ (fm_week g1 g2) (by walk_at "sm") (by assumption)
    · have c2 := of_decide_eq_false c2
      walk_at "hs"
      exact q _ _ _ _ (fm_week (w := y) (by omega) (by omega)) (by walk_at "sm") (by assumption)
theorem p_weeks_in (vs : List V) (H : Hp) (Q : VK) (E : XK) (h : sp_weeks_in K vs H Q E) : t_weeks_in K E (D0 Q) (start N_weeks_in vs) H := by
  obtain ⟨x, T, rfl, hk, q1, q2⟩ := h
  walk_at "hs"
  refine ⟨_, _, rfl, hk, fun c => ?_, q2⟩
  obtain ⟨y, rfl, y0, y1⟩ := betw_int c
  walk_at "hs"
  exact q1 y rfl c
theorem p_day_of_week (vs : List V) (H : Hp) (Q : VK) (E : XK) (h : sp_day_of_week K vs H Q E) : t_day_of_week K E (D0 Q) (start N_day_of_week vs) H := by
  obtain ⟨x, T, z, U, u, V, rfl, hk, hz, hu, q1, q2, q3, q4⟩ := h
  walk_at "hs"
  refine ⟨_, _, rfl, hk, fun c => ?_, q2⟩
  obtain ⟨y, rfl, y0, y1⟩ := betw_int c
  walk_at "hs"
  cases c2 : betw z 1 (wks y) <;> walk_at "hs"
  · exact q3 y rfl c c2
  refine ⟨_, _, rfl, hu, fun c3 => ?_, q4 y rfl c c2⟩
  obtain ⟨k, rfl, k0, k1⟩ := betw_int c2
  obtain ⟨d, rfl, d0, d1⟩ := betw_int c3
  have wb := wks_bd y
  walk_at "hs"
  exact q1 y k d rfl rfl rfl c c2 c3
end My
set_option linter.all false
set_option maxRecDepth 100000
set_option maxHeartbeats 2000000
namespace My
open PySem PySem.Spec PyProof.Rows L2 Kx
local macro_rules | `(tactic| walk_at "lk") => `(tactic| first | assumption | ((with_reducible show upd _ _ _ _ = _); (first | exact upd_same | (exact up_new (by assumption) (by walk_at "lk")) | (exact up_other (by assumption) (by walk_at "lk")))) | (exact (by assumption : Same _ _) _ _ (by walk_at "lk")) | (exact ks_get (by assumption) (by walk_at "lk") (by first | rfl | assumption | exact notBox_len rfl)))
local macro_rules | `(tactic| walk_at "sl") => `(tactic| first | assumption | (exact l_of (by walk_at "lk")) | (exact Same.seq (by assumption) (by walk_at "sl")) | ((with_reducible show SqL _ (upd _ _ _) _ _); (exact Same.seq (sm_new (by assumption)) (by walk_at "sl"))))
local macro_rules | `(tactic| walk_at "st") => `(tactic| first | assumption | (exact t_of (by walk_at "lk")) | (exact Kx.Same.tup (by assumption) (by walk_at "st")) | ((with_reducible show SqT _ (upd _ _ _) _ _); (exact Kx.Same.tup (sm_new (by assumption)) (by walk_at "st"))) | (exact ks_tup (by assumption) (by walk_at "st")))
local macro_rules | `(tactic| walk_at "kd") => `(tactic| first | assumption | exact .non | exact .bl _ | exact .int _ | exact .str _ | (exact .lst (by walk_at "sl")) | (exact .tup (by walk_at "st")) | (exact .dic (by walk_at "lk")) | (exact Kd.same (by assumption) (by walk_at "kd")) | ((with_reducible show Kd _ (upd _ _ _) _ _); (exact Kd.same (sm_new (by assumption)) (by walk_at "kd"))))
local macro_rules | `(tactic| walk_at "tt") => `(tactic| first | rfl | assumption | decide +kernel | (simp only [decide_eq_true_eq, Bool.not_eq_true', decide_eq_false_iff_not, Bool.and_eq_true, Bool.or_eq_true]; omega))
local macro_rules | `(tactic| walk_at "ff") => `(tactic| first | rfl | assumption | decide +kernel | (simp only [decide_eq_true_eq, Bool.not_eq_false', decide_eq_false_iff_not, Bool.and_eq_false_imp, Bool.or_eq_false_iff]; omega))
local macro_rules | `(tactic| walk_at "hc") => `(tactic| fail)
local macro_rules | `(tactic| walk_at "hif") => `(tactic| ((with_reducible refine w_b2 ?_ ?_) <;> intro))
local macro_rules | `(tactic| walk_at "hs1") => `(tactic| first
  | (with_reducible refine w_seq ?_)
  | (with_reducible refine w_asg ?_)
  | ((with_reducible refine' w_var ?k1 ?_); (case k1 => exact rfl))
  | (with_reducible refine w_c ?_)
  | (with_reducible refine w_op ?_)
  | (with_reducible refine w_cons ?_)
  | (with_reducible refine w_nil ?_)
  | (with_reducible refine w_name ?_)
  | (with_reducible refine w_kn ?_)
  | (with_reducible refine w_kx ?_)
  | (with_reducible refine w_kk ?_)
  | (with_reducible refine w_cb ?_)
  | (with_reducible refine w_if ?_)
  | (with_reducible refine w_test ?_)
  | (with_reducible refine w_exb ?_)
  | (with_reducible refine iteT ?_)
  | (with_reducible refine iteF ?_)
  | ((with_reducible refine w_bt ?_ ?_); (first | rfl | decide +kernel))
  | ((with_reducible refine w_bf ?_ ?_); (first | rfl | decide +kernel))
  | ((with_reducible refine w_bt ?_ ?_); (walk_at "tt"))
  | ((with_reducible refine w_bf ?_ ?_); (walk_at "ff"))
  | (with_reducible refine w_ret ?_)
  | (with_reducible refine w_retN ?_)
  | (with_reducible refine w_drop ?_)
  | (with_reducible refine w_next ?_)
  | (with_reducible refine w_brk ?_)
  | (with_reducible refine w_cont ?_)
  | (with_reducible refine w_and ?_)
  | (with_reducible refine w_or ?_)
  | (with_reducible refine w_not ?_)
  | (with_reducible refine w_tr ?_)
  | (with_reducible refine w_yes ?_)
  | (with_reducible refine w_tru_bl ?_)
  | (with_reducible refine w_tru_int ?_)
  | (with_reducible refine w_tru_non ?_)
  | (with_reducible refine w_andV ?_)
  | (with_reducible refine w_orV ?_)
  | (with_reducible refine w_notV ?_)
  | (with_reducible refine w_ifx ?_)
  | (with_reducible refine w_chain ?_)
  | (with_reducible refine w_un ?_)
  | (with_reducible refine n_tup ?_)
  | (with_reducible refine n_lst ?_)
  | ((with_reducible show kTup _ _ _); (refine n_ktup rfl ?_); intro _ _ _ _ _)
  | ((with_reducible show kLst _ _ _); (refine n_klst rfl ?_); intro _ _ _ _ _)
  | (with_reducible refine w_par ?_)
  | (with_reducible refine w_par2 ?_)
  | (with_reducible refine w_par3 ?_)
  | (with_reducible refine w_par33 ?_)
  | ((with_reducible refine' w_aug ?k1 ?_); (case k1 => exact rfl))
  | (with_reducible refine w_raise ?_)
  | (with_reducible refine w_mkdue ?_)
  | (with_reducible refine w_one ?_)
  | ((with_reducible show gSq _ _ _ (V.ref _) _ _ _); (first | (refine n_gsq (by walk_at "lk") (by exact rfl) (by exact rfl) ?_) | (refine w_gtup (by walk_at "st") (by exact rfl) ?_) | (refine w_glst (by walk_at "sl") (by exact rfl) ?_)))
  | (with_reducible refine w_gcons ?_)
  | (with_reducible refine w_gnil ?_)
  | (with_reducible refine w_bm ?_)
  | ((with_reducible show tyV _ "list" (V.ref _) _ ∧ _); (refine w_tyl (by walk_at "sl") ?_))
  | (with_reducible refine w_for ?_)
  | (with_reducible refine w_rng1 ?_)
  | (with_reducible refine w_rng2 ?_)
  | (with_reducible refine w_add_ii ?_)
  | (with_reducible refine w_sub_ii ?_)
  | ((with_reducible refine w_fdv_ii ?_ ?_ ?_); (first | decide | omega); (first | decide | omega))
  | ((with_reducible refine w_mul_b ?_ ?_ ?_); (refine ⟨?_, ?_⟩ <;> omega); (refine ⟨?_, ?_⟩ <;> omega))
  | ((with_reducible refine w_mod_ii ?_ ?_); (first | decide | omega))
  | (with_reducible refine w_neg_i ?_)
  | (with_reducible refine w_lt_ii ?_)
  | (with_reducible refine w_le_ii ?_)
  | (with_reducible refine w_gt_ii ?_)
  | (with_reducible refine w_ge_ii ?_)
  | (with_reducible refine w_eq_ii ?_)
  | (with_reducible refine w_ne_ii ?_)
  | (with_reducible refine n_eq_same ?_)
  | (with_reducible refine n_ne_same ?_)
  | (with_reducible refine w_eq_ss ?_)
  | (with_reducible refine w_ne_ss ?_)
  | (with_reducible refine w_eq_bb ?_)
  | (with_reducible refine w_ne_bb ?_)
  | (with_reducible refine w_is_n ?_)
  | (with_reducible refine w_isn_n ?_)
  | (with_reducible refine w_is_bb ?_)
  | (with_reducible refine w_isn_bb ?_)
  | ((with_reducible show rIx _ (V.ref _) (V.int _) _ _); (first | (refine n_ix (by decide) (by walk_at "lk") (by exact rfl) ?_) | (refine n_ixl (by decide) (by walk_at "sl") (by exact rfl) ?_) | (refine n_ixt (by decide) (by walk_at "st") (by exact rfl) ?_)))
  | (with_reducible refine w_ipadd ?_)
  | (with_reducible refine w_ipsub ?_)
  | (with_reducible refine w_int_i ?_)
  | (with_reducible refine w_int_b ?_)
  | (with_reducible refine w_abs ?_)
  | ((with_reducible refine w_max2r ?_); intro _ _ _ _)
  | ((with_reducible refine w_min2r ?_); intro _ _ _ _)
  | ((with_reducible show uLen _ [V.ref _] _ _); (first | (refine n_len (by walk_at "lk") (by exact rfl) ?_) | (refine w_len_l (by walk_at "sl") ?_) | (refine w_len_t (by walk_at "st") ?_) | (refine w_len_d (by walk_at "lk") ?_)))
  | ((with_reducible show uIsi _ [_, V.ty _] _ _); (refine w_isk (by walk_at "kd") (by decide) ?_))
  | ((with_reducible show uIsi _ [_, V.ref _] _ _); (refine w_isk2 (by walk_at "lk") (by walk_at "kd") (by decide) (by decide) ?_))
  | (with_reducible refine w_wN ?_)
  | (with_reducible refine w_lc ?_)
  | ((with_reducible refine' w_rng2e ?k1 ?_); (case k1 => (refine ⟨?_, ?_, ?_, ?_⟩ <;> omega)))
  | ((with_reducible refine' w_rng1e ?k1 ?k2 ?_); (case k1 => omega); (case k2 => omega))
  | ((with_reducible show ∃ a', V.ref _ = .ref a' ∧ (∃ xs, SqL _ _ a' xs) ∧ _); (refine w_sqLe (by walk_at "sl") ?_))
  | ((with_reducible show ∃ a', V.ref _ = .ref a' ∧ (∃ xs, SqT _ _ a' xs) ∧ _); (refine w_sqTe (by walk_at "st") ?_))
  | (with_reducible refine w_slc ?_)
  | (with_reducible refine w_nop ?_)
  | (with_reducible refine w_part ?_)
  | (with_reducible refine w_exi ?_)
  | ((with_reducible show uSl _ (V.ref _) _ _ _ _); (refine n_slL (by walk_at "sl") ?_); intro _ _ _ _ _)
  | (with_reducible refine w_gsub ?_)
  | ((with_reducible show rSetL (V.ref _) (V.int _) _ _ _); (refine w_setl (by walk_at "lk") (by exact rfl) ?_))
  | (with_reducible refine w_pow_9 ?_)
  | (with_reducible refine w_pow_12 ?_)
  | (with_reducible refine w_pow_13 ?_)
  | (with_reducible refine w_pow_18 ?_)
  | (with_reducible refine w_pow_29 ?_)
  | ((with_reducible refine n_disp1 ?_); intro _ _ _ _ _)
  | (with_reducible refine w_dput ?_)
  | ((with_reducible show rAppend (V.ref _) [_] _ _); (refine w_append (by walk_at "lk") (by first | omega | (exact Nat.lt_of_le_of_lt (wN_le rfl) (by decide))) ?_))
  | ((with_reducible show ∃ a' H4, V.ref _ = .ref a' ∧ DPut _ a' (V.str _) _ H4 ∧ _); (refine w_dputS (by walk_at "lk") (by first | omega | exact wN_le rfl) ?_))
  | (with_reducible refine w_try ?_)
  | ((with_reducible show wManyA _ _ _ _ (.ref (He.ga _ _)) _ _ _); (first | ((refine w_hit (ExT.ex (by assumption) _ (by decide) _ (by decide)) ?_); intro _ _) | (refine w_miss (ExT.ex (by assumption) _ (by decide) _ (by decide)) ?_)))
  | (with_reducible refine w_xg ?_)
  | ((with_reducible show V.ref _ = .ref _ ∧ ∃ _ _ _ _, Value.ref (He.ga _ _) = _ ∧ _); (refine w_xge (ExT.xf (by assumption) _ (by decide)) (ExT.fg (by assumption) _ (by decide)) (by walk_at "lk") ?_))
  | ((with_reducible show rIsX _ (.ref (He.ga _ _)) _ _ _ _ _); (refine w_isx (ExT.xx (by assumption) _ (by decide)) (ExT.kd (by assumption) _ (by decide)) (by walk_at "lk") ?_))
  | ((with_reducible show uAdd _ (V.ref _) (V.ref _) _ _); (refine n_add_ll (by walk_at "lk") (by walk_at "lk") rfl ?_); intro _ _ _ _ _)
  | ((with_reducible show iSeq _ (tLst _) _ _ _); (refine w_sqL ?_))
  | ((with_reducible show iSeq _ (tTup _) _ _ _); (refine w_sqT ?_))
  | (refine ⟨(rfl : wipe _ _ = wipe _ _), ?_⟩)
  | (walk_at "hc"))
local macro_rules | `(tactic| walk_at "hs") => `(tactic| repeat' (walk_at "hs1"))

local macro_rules | `(tactic| walk_at "rg") => `(tactic| repeat' (first | exact rg_nil | (refine rg_cons (by omega) (by omega) ?_)))
local macro_rules | `(tactic| walk_at "sm") => `(tactic| first | exact Same.refl _ | assumption | ((with_reducible show Same _ (upd _ _ _)); (refine Same.trans ?_ (sm_new (by assumption))); walk_at "sm") | ((refine Same.trans ?_ (by assumption)); walk_at "sm"))
local macro_rules | `(tactic| walk_at "bx") => `(tactic| first | assumption | ((with_reducible show BoxAt (upd _ _ _) _ _); (exact BoxAt.new (by assumption) (by walk_at "bx"))) | (exact BoxAt.same (by assumption) (by walk_at "bx")))
local macro_rules | `(tactic| walk_at "ks") => `(tactic| first | exact Ks.refl _ | assumption | ((with_reducible show Ks _ (upd _ _ _)); (refine Ks.trans ?_ (Ks.of (sm_new (by assumption))); walk_at "ks")) | (refine Ks.trans ?_ (by assumption); walk_at "ks") | (refine Ks.trans ?_ (Ks.of (by assumption)); walk_at "ks"))
local macro_rules | `(tactic| walk_at "ob") => `(tactic| first | assumption | exact .sc rfl | (exact Ob.same (by assumption) (by walk_at "ob")) | (exact Ob.ks (by assumption) (by walk_at "ob")))
local macro_rules | `(tactic| walk_at "nd") => `(tactic| first | assumption | (exact Nd.same (by assumption) (by walk_at "nd")) | (exact Nd.ks (by assumption) (by walk_at "nd")))
local macro_rules | `(tactic| walk_at "df") => `(tactic| first | assumption | exact df_sc rfl | (exact df_vr (by assumption) (by walk_at "lk")) | (exact df_rv (by assumption) (by walk_at "ob")) | (exact df_vv (by assumption) (by walk_at "ob")) | (exact Df.symm (df_vv (by assumption) (by walk_at "ob"))))
local macro_rules | `(tactic| walk_at "hc") => `(tactic| (with_reducible show sp_is_whole _ _ _ _ _); (refine u_is_whole (by walk_at "kd") ?_))
local macro_rules | `(tactic| walk_at "hc") => `(tactic| (with_reducible show sp_is_between _ _ _ _ _); (refine u_is_between (by walk_at "kd") ?_))
local macro_rules | `(tactic| walk_at "hc") => `(tactic| (with_reducible show sp_is_day _ _ _ _ _); (refine u_is_day (by walk_at "kd") ?_))
local macro_rules | `(tactic| walk_at "hc") => `(tactic| (with_reducible refine u_is_leap_year ?_))
local macro_rules | `(tactic| walk_at "hc") => `(tactic| (with_reducible refine' u_length_of ?k1 ?k2 ?_); (case k1 => omega); (case k2 => omega))
local macro_rules | `(tactic| walk_at "hc") => `(tactic| (with_reducible refine' u_year_begin ?k1 ?k2 ?_); (case k1 => omega); (case k2 => omega))
local macro_rules | `(tactic| walk_at "hc") => `(tactic| (with_reducible refine' u_month_begin ?k1 ?k2 ?k3 ?k4 ?_); (case k1 => omega); (case k2 => omega); (case k3 => omega); (case k4 => omega); intro _ _)
local macro_rules | `(tactic| walk_at "hc") => `(tactic| (with_reducible show sp__law_take _ _ _ _ _); (refine u__law_take (by walk_at "bx") (by omega) (by omega) (by omega) ?_); intro _ _ _ _ _ _)
local macro_rules | `(tactic| walk_at "hc") => `(tactic| (with_reducible refine u__law_leap ?_))
local macro_rules | `(tactic| walk_at "hc") => `(tactic| (with_reducible show sp__law_length _ _ _ _ _); (refine u__law_length (by omega) (by omega) ?_); intro _ _)
local macro_rules | `(tactic| walk_at "hc") => `(tactic| (with_reducible show sp__law_next _ _ _ _ _); (refine u__law_next (by walk_at "st") (by omega) (by omega) ?_); intro _ _ _ _ _)
local macro_rules | `(tactic| walk_at "hc") => `(tactic| (with_reducible show sp__law_no_number _ _ _ _ _); (refine u__law_no_number (by walk_at "bx") (by omega) (by omega) (by omega) ?_); intro _ _ _ _ _ _ _)
local macro_rules | `(tactic| walk_at "hc") => `(tactic| (with_reducible refine u_weekday_at ?_))
local macro_rules | `(tactic| walk_at "hc") => `(tactic| (with_reducible show sp_first_monday _ _ _ _ _); (refine u_first_monday (by omega) (by omega) ?_))
local macro_rules | `(tactic| walk_at "hc") => `(tactic| (with_reducible show sp_weeks_of _ _ _ _ _); (refine u_weeks_of (by omega) (by omega) ?_))
variable {K : PySem.W.Frag}
theorem stV_len (a c : Int) (n : Nat) : (stV a c n).length = n := by unfold stV; rw [List.length_map, List.length_range]
theorem stV_at {a c i : Int} {n : Nat} (h0 : 0 ≤ i) (h1 : i < n) : atI (stV a c n) i = some (.int (a + i * c)) := by
  have e : ((i.toNat : Nat) : Int) = i := by omega
  have hn : i.toNat < n := by omega
  have : (stV a c n)[i.toNat]? = some (.int (a + i * c)) := by
    unfold stV
    rw [List.getElem?_map, List.getElem?_range hn]
    show some (V.int (a + ((i.toNat : Nat) : Int) * c)) = _
    rw [e]
  have := atI_nat this
  rw [e] at this
  exact this
theorem stV_neg {a c i : Int} {n : Nat} (h0 : i < 0) (h1 : -(n : Int) ≤ i) : atI (stV a c n) i = some (.int (a + (n + i) * c)) := by
  unfold atI ixN
  rw [stV_len, if_neg (by omega), if_pos h1]
  show (stV a c n)[(i + n).toNat]? = _
  have hn : (i + n).toNat < n := by omega
  unfold stV
  rw [List.getElem?_map, List.getElem?_range hn]
  show some (V.int (a + (((i + n).toNat : Nat) : Int) * c)) = _
  rw [show (((i + n).toNat : Nat) : Int) = n + i by omega]
theorem rg7 {a b : Int} (a0 : 1 ≤ a) (a1 : a ≤ 7) (b0 : 29 ≤ b) (b1 : b ≤ 32) : RgC a b 7 ((b - 1 - a) / 7 + 1).toNat := by
  obtain za : a = 1 ∨ a = 2 ∨ a = 3 ∨ a = 4 ∨ a = 5 ∨ a = 6 ∨ a = 7 := by omega
  obtain zb : b = 29 ∨ b = 30 ∨ b = 31 ∨ b = 32 := by omega
  rcases za with rfl | rfl | rfl | rfl | rfl | rfl | rfl <;> rcases zb with rfl | rfl | rfl | rfl <;> exact ⟨by decide, by decide, by decide +kernel, by decide +kernel⟩
theorem w_lstRg3 {σ : L2.St} {H : Hp} {Q : VK} {tr : TA} (q : tr σ H fun vs H1 => ∃ (a b c : Int) (n : Nat), vs = [.int a, .int b, .int c] ∧ RgC a b c n ∧ n ≤ 1000 ∧ ∀ q, H1 q = none → Q (.ref q) (upd H1 q (.lst (stV a c n)))) : tLstRg3 tr σ H Q := q
theorem p_nth_in_month (vs : List V) (H : Hp) (Q : VK) (E : XK) (h : sp_nth_in_month K vs H Q E) : t_nth_in_month K E (D0 Q) (start N_nth_in_month vs) H := by
  obtain ⟨len, first, num, w, rfl, l0, l1, f0, f1, w0, w1, m0, m1, m2, q⟩ := h
  walk_at "hs"
  refine w_lstRg3 ?_
  walk_at "hs"
  have ha : nA first w = 1 + (w - first) % 7 := rfl
  have hcn : nC len first w = (len - nA first w) / 7 + 1 := rfl
  have rg := rg7 (a := nA first w) (b := len + 1) (by omega) (by omega) (by omega) (by omega)
  have en : (len + 1 - 1 - nA first w) / 7 + 1 = nC len first w := by omega
  rw [en] at rg
  refine ⟨_, _, _, (nC len first w).toNat, rfl, rg, by omega, fun p hp => ?_⟩
  have hs := sm_new (u := .lst (stV (nA first w) 7 (nC len first w).toNat)) hp
  have hl : upd H p (.lst (stV (nA first w) 7 (nC len first w).toNat)) p = some (.lst (stV (nA first w) 7 (nC len first w).toNat)) := upd_same
  show _
  rw [← ha]
  generalize upd H p (.lst (stV (nA first w) 7 (nC len first w).toNat)) = H1 at *
  have q := q H1 hs
  walk_at "hs"
  have nc : (((nC len first w).toNat : Nat) : Int) = nC len first w := by omega
  rw [stV_len, nc]
  unfold nthM at q
  refine w_b2 (fun c => ?_) (fun c => ?_)
  · have c := of_decide_eq_true c
    rw [if_pos c] at q
    walk_at "hs"
    exact q
  · have c := of_decide_eq_false c
    rw [if_neg c] at q
    walk_at "hs"
    refine w_b2 (fun c3 => ?_) (fun c3 => ?_)
    · have c3 := of_decide_eq_true c3
      rw [if_pos c3] at q
      rw [if_neg (by omega)] at c
      walk_at "hs"
      refine w_ixl (l_of hl) (stV_at (by omega) (by omega)) ?_
      exact q
    · have c3 := of_decide_eq_false c3
      rw [if_neg c3] at q
      rw [if_pos (by omega)] at c
      walk_at "hs"
      refine w_ixl (l_of hl) (stV_neg (by omega) (by omega)) ?_
      rw [nc]
      exact q
theorem u_nth_in_month {H : Hp} {Q : VK} {E : XK} {len first num w : Int} (l0 : 28 ≤ len) (l1 : len ≤ 31) (f0 : 0 ≤ first) (f1 : first ≤ 6) (w0 : 0 ≤ w) (w1 : w ≤ 6) (m0 : -5 ≤ num) (m1 : num ≤ 5) (m2 : num ≠ 0) (q : ∀ H', Same H H' → Q (oV (nthM len first num w)) H') :
    sp_nth_in_month K [.int len, .int first, .int num, .int w] H Q E := ⟨len, first, num, w, rfl, l0, l1, f0, f1, w0, w1, m0, m1, m2, q⟩
theorem numOk_int {x : V} (h : numOk x = true) : ∃ k, x = .int k ∧ -5 ≤ k ∧ k ≤ 5 ∧ k ≠ 0 := by
  unfold numOk at h
  obtain ⟨h1, h2⟩ := Bool.and_eq_true_iff.mp h
  obtain ⟨k, rfl, k0, k1⟩ := betw_int h1
  exact ⟨k, rfl, k0, k1, by simpa using h2⟩
theorem p_nth_weekday (vs : List V) (H : Hp) (Q : VK) (E : XK) (h : sp_nth_weekday K vs H Q E) : t_nth_weekday K E (D0 Q) (start N_nth_weekday vs) H := by
  obtain ⟨x, T, z, U, u, V', v, W, rfl, hk, hz, hu, hv, q1, q2, q3, q4, q5⟩ := h
  walk_at "hs"
  refine ⟨_, _, rfl, hk, fun c => ?_, q2⟩
  walk_at "hs"
  refine ⟨_, _, rfl, hz, fun c2 => ?_, q3 c⟩
  have body : numOk u = true → (tSeq (tDrop (tKx (sp_check_weekday K) (W0 E) (tCons (tVar 3) tNil)))
    (tSeq (tAsg (tKn (sp_month_begin K) (tCons (tVar 0) (tCons (tVar 1) tNil))) (gName 4))
    (tSeq (tAsg (tKn (sp_nth_in_month K) (tCons (tKn (sp_length_of K) (tCons (tVar 0) (tCons (tVar 1) tNil))) (tCons (tKn (sp_weekday_at K) (tCons (tVar 4) tNil)) (tCons (tVar 2) (tCons (tVar 3) tNil))))) (gName 5))
    (tRet (tIf (tTest (tOp uIs (tVar 5) (tC .non))) (tC .non) (tOp uSub (tOp (uAdd K) (tVar 4) (tVar 5)) (tC (.int 1)))))))) (D0 Q) (start N_nth_weekday [x, z, u, v]) H := fun cn => by
    obtain ⟨y, rfl, y0, y1⟩ := betw_int c
    obtain ⟨m, rfl, m0, m1⟩ := betw_int c2
    obtain ⟨k, rfl, k0, k1, k2⟩ := numOk_int cn
    walk_at "hs"
    refine ⟨_, _, rfl, hv, fun c4 => ?_, q5 c c2 cn⟩
    obtain ⟨w, rfl, w0, w1⟩ := betw_int c4
    have q := q1 y m k w rfl rfl rfl rfl c c2 cn c4
    have ml := mlen_le y m
    have hw : 0 ≤ wd (mb y m) ∧ wd (mb y m) ≤ 6 := by unfold wd; omega
    unfold nthD at q
    walk_at "hs"
    refine u_nth_in_month (by omega) (by omega) (by omega) (by omega) w0 w1 k0 k1 k2 fun H2 e2 => ?_
    cases en : nthM (mlen y m) (wd (mb y m)) k w with
    | none =>
      rw [en] at q
      dsimp only [oV] at q ⊢
      walk_at "hs"
      exact q _ (by walk_at "sm")
    | some f =>
      rw [en] at q
      dsimp only [oV] at q ⊢
      walk_at "hs"
      exact q _ (by walk_at "sm")
  cases cb : betw u (-5) 5 with
  | false =>
    walk_at "hs"
    exact q4 c c2 (by unfold numOk; rw [cb]; rfl)
  | true =>
    obtain ⟨k, rfl, k0, k1⟩ := betw_int cb
    walk_at "hs"
    refine w_b2 (fun c3 => ?_) (fun c3 => ?_)
    · have c3 := of_decide_eq_true c3
      walk_at "hs"
      exact q4 c c2 (by unfold numOk; rw [cb, c3]; rfl)
    · have c3 := of_decide_eq_false c3
      exact body (by unfold numOk; rw [cb]; simpa using c3)
end My
set_option linter.all false
set_option maxRecDepth 100000
set_option maxHeartbeats 2000000
namespace My
open PySem PySem.Spec PyProof.Rows L2 Kx
local macro_rules | `(tactic| walk_at "lk") => `(tactic| first | assumption | ((with_reducible show upd _ _ _ _ = _); (first | exact upd_same | (exact up_new (by assumption) (by walk_at "lk")) | (exact up_other (by assumption) (by walk_at "lk")))) | (exact (by assumption : Same _ _) _ _ (by walk_at "lk")) | (exact ks_get (by assumption) (by walk_at "lk") (by first | rfl | assumption | exact notBox_len rfl)))
local macro_rules | `(tactic| walk_at "sl") => `(tactic| first | assumption | (exact l_of (by walk_at "lk")) | (exact Same.seq (by assumption) (by walk_at "sl")) | ((with_reducible show SqL _ (upd _ _ _) _ _); (exact Same.seq (sm_new (by assumption)) (by walk_at "sl"))))
local macro_rules | `(tactic| walk_at "st") => `(tactic| first | assumption | (exact t_of (by walk_at "lk")) | (exact Kx.Same.tup (by assumption) (by walk_at "st")) | ((with_reducible show SqT _ (upd _ _ _) _ _); (exact Kx.Same.tup (sm_new (by assumption)) (by walk_at "st"))) | (exact ks_tup (by assumption) (by walk_at "st")))
local macro_rules | `(tactic| walk_at "kd") => `(tactic| first | assumption | exact .non | exact .bl _ | exact .int _ | exact .str _ | (exact .lst (by walk_at "sl")) | (exact .tup (by walk_at "st")) | (exact .dic (by walk_at "lk")) | (exact Kd.same (by assumption) (by walk_at "kd")) | ((with_reducible show Kd _ (upd _ _ _) _ _); (exact Kd.same (sm_new (by assumption)) (by walk_at "kd"))))
local macro_rules | `(tactic| walk_at "tt") => `(tactic| first | rfl | assumption | decide +kernel | (simp only [decide_eq_true_eq, Bool.not_eq_true', decide_eq_false_iff_not, Bool.and_eq_true, Bool.or_eq_true]; omega))
local macro_rules | `(tactic| walk_at "ff") => `(tactic| first | rfl | assumption | decide +kernel | (simp only [decide_eq_true_eq, Bool.not_eq_false', decide_eq_false_iff_not, Bool.and_eq_false_imp, Bool.or_eq_false_iff]; omega))
local macro_rules | `(tactic| walk_at "hc") => `(tactic| fail)
local macro_rules | `(tactic| walk_at "hif") => `(tactic| ((with_reducible refine w_b2 ?_ ?_) <;> intro))
local macro_rules | `(tactic| walk_at "hs1") => `(tactic| first
  | (with_reducible refine w_seq ?_)
  | (with_reducible refine w_asg ?_)
  | ((with_reducible refine' w_var ?k1 ?_); (case k1 => exact rfl))
  | (with_reducible refine w_c ?_)
  | (with_reducible refine w_op ?_)
  | (with_reducible refine w_cons ?_)
  | (with_reducible refine w_nil ?_)
  | (with_reducible refine w_name ?_)
  | (with_reducible refine w_kn ?_)
  | (with_reducible refine w_kx ?_)
  | (with_reducible refine w_kk ?_)
  | (with_reducible refine w_cb ?_)
  | (with_reducible refine w_if ?_)
  | (with_reducible refine w_test ?_)
  | (with_reducible refine w_exb ?_)
  | (with_reducible refine iteT ?_)
  | (with_reducible refine iteF ?_)
  | ((with_reducible refine w_bt ?_ ?_); (first | rfl | decide +kernel))
  | ((with_reducible refine w_bf ?_ ?_); (first | rfl | decide +kernel))
  | ((with_reducible refine w_bt ?_ ?_); (walk_at "tt"))
  | ((with_reducible refine w_bf ?_ ?_); (walk_at "ff"))
  | (with_reducible refine w_ret ?_)
  | (with_reducible refine w_retN ?_)
  | (with_reducible refine w_drop ?_)
  | (with_reducible refine w_next ?_)
  | (with_reducible refine w_brk ?_)
  | (with_reducible refine w_cont ?_)
  | (with_reducible refine w_and ?_)
  | (with_reducible refine w_or ?_)
  | (with_reducible refine w_not ?_)
  | (with_reducible refine w_tr ?_)
  | (with_reducible refine w_yes ?_)
  | (with_reducible refine w_tru_bl ?_)
  | (with_reducible refine w_tru_int ?_)
  | (with_reducible refine w_tru_non ?_)
  | (with_reducible refine w_andV ?_)
  | (with_reducible refine w_orV ?_)
  | (with_reducible refine w_notV ?_)
  | (with_reducible refine w_ifx ?_)
  | (with_reducible refine w_chain ?_)
  | (with_reducible refine w_un ?_)
  | (with_reducible refine n_tup ?_)
  | (with_reducible refine n_lst ?_)
  | ((with_reducible show kTup _ _ _); (refine n_ktup rfl ?_); intro _ _ _ _ _)
  | ((with_reducible show kLst _ _ _); (refine n_klst rfl ?_); intro _ _ _ _ _)
  | (with_reducible refine w_par ?_)
  | (with_reducible refine w_par2 ?_)
  | (with_reducible refine w_par3 ?_)
  | (with_reducible refine w_par33 ?_)
  | ((with_reducible refine' w_aug ?k1 ?_); (case k1 => exact rfl))
  | (with_reducible refine w_raise ?_)
  | (with_reducible refine w_mkdue ?_)
  | (with_reducible refine w_one ?_)
  | ((with_reducible show gSq _ _ _ (V.ref _) _ _ _); (first | (refine n_gsq (by walk_at "lk") (by exact rfl) (by exact rfl) ?_) | (refine w_gtup (by walk_at "st") (by exact rfl) ?_) | (refine w_glst (by walk_at "sl") (by exact rfl) ?_)))
  | (with_reducible refine w_gcons ?_)
  | (with_reducible refine w_gnil ?_)
  | (with_reducible refine w_bm ?_)
  | ((with_reducible show tyV _ "list" (V.ref _) _ ∧ _); (refine w_tyl (by walk_at "sl") ?_))
  | (with_reducible refine w_for ?_)
  | (with_reducible refine w_rng1 ?_)
  | (with_reducible refine w_rng2 ?_)
  | (with_reducible refine w_add_ii ?_)
  | (with_reducible refine w_sub_ii ?_)
  | ((with_reducible refine w_fdv_ii ?_ ?_ ?_); (first | decide | omega); (first | decide | omega))
  | ((with_reducible refine w_mul_b ?_ ?_ ?_); (refine ⟨?_, ?_⟩ <;> omega); (refine ⟨?_, ?_⟩ <;> omega))
  | ((with_reducible refine w_mod_ii ?_ ?_); (first | decide | omega))
  | (with_reducible refine w_neg_i ?_)
  | (with_reducible refine w_lt_ii ?_)
  | (with_reducible refine w_le_ii ?_)
  | (with_reducible refine w_gt_ii ?_)
  | (with_reducible refine w_ge_ii ?_)
  | (with_reducible refine w_eq_ii ?_)
  | (with_reducible refine w_ne_ii ?_)
  | (with_reducible refine n_eq_same ?_)
  | (with_reducible refine n_ne_same ?_)
  | (with_reducible refine w_eq_ss ?_)
  | (with_reducible refine w_ne_ss ?_)
  | (with_reducible refine w_eq_bb ?_)
  | (with_reducible refine w_ne_bb ?_)
  | (with_reducible refine w_is_n ?_)
  | (with_reducible refine w_isn_n ?_)
  | (with_reducible refine w_is_bb ?_)
  | (with_reducible refine w_isn_bb ?_)
  | ((with_reducible show rIx _ (V.ref _) (V.int _) _ _); (first | (refine n_ix (by decide) (by walk_at "lk") (by exact rfl) ?_) | (refine n_ixl (by decide) (by walk_at "sl") (by exact rfl) ?_) | (refine n_ixt (by decide) (by walk_at "st") (by exact rfl) ?_)))
  | (with_reducible refine w_ipadd ?_)
  | (with_reducible refine w_ipsub ?_)
  | (with_reducible refine w_int_i ?_)
  | (with_reducible refine w_int_b ?_)
  | (with_reducible refine w_abs ?_)
  | ((with_reducible refine w_max2r ?_); intro _ _ _ _)
  | ((with_reducible refine w_min2r ?_); intro _ _ _ _)
  | ((with_reducible show uLen _ [V.ref _] _ _); (first | (refine n_len (by walk_at "lk") (by exact rfl) ?_) | (refine w_len_l (by walk_at "sl") ?_) | (refine w_len_t (by walk_at "st") ?_) | (refine w_len_d (by walk_at "lk") ?_)))
  | ((with_reducible show uIsi _ [_, V.ty _] _ _); (refine w_isk (by walk_at "kd") (by decide) ?_))
  | ((with_reducible show uIsi _ [_, V.ref _] _ _); (refine w_isk2 (by walk_at "lk") (by walk_at "kd") (by decide) (by decide) ?_))
  | (with_reducible refine w_wN ?_)
  | (with_reducible refine w_lc ?_)
  | ((with_reducible refine' w_rng2e ?k1 ?_); (case k1 => (refine ⟨?_, ?_, ?_, ?_⟩ <;> omega)))
  | ((with_reducible refine' w_rng1e ?k1 ?k2 ?_); (case k1 => omega); (case k2 => omega))
  | ((with_reducible show ∃ a', V.ref _ = .ref a' ∧ (∃ xs, SqL _ _ a' xs) ∧ _); (refine w_sqLe (by walk_at "sl") ?_))
  | ((with_reducible show ∃ a', V.ref _ = .ref a' ∧ (∃ xs, SqT _ _ a' xs) ∧ _); (refine w_sqTe (by walk_at "st") ?_))
  | (with_reducible refine w_slc ?_)
  | (with_reducible refine w_nop ?_)
  | (with_reducible refine w_part ?_)
  | (with_reducible refine w_exi ?_)
  | ((with_reducible show uSl _ (V.ref _) _ _ _ _); (refine n_slL (by walk_at "sl") ?_); intro _ _ _ _ _)
  | (with_reducible refine w_gsub ?_)
  | ((with_reducible show rSetL (V.ref _) (V.int _) _ _ _); (refine w_setl (by walk_at "lk") (by exact rfl) ?_))
  | (with_reducible refine w_pow_9 ?_)
  | (with_reducible refine w_pow_12 ?_)
  | (with_reducible refine w_pow_13 ?_)
  | (with_reducible refine w_pow_18 ?_)
  | (with_reducible refine w_pow_29 ?_)
  | ((with_reducible refine n_disp1 ?_); intro _ _ _ _ _)
  | (with_reducible refine w_dput ?_)
  | ((with_reducible show rAppend (V.ref _) [_] _ _); (refine w_append (by walk_at "lk") (by first | omega | (exact Nat.lt_of_le_of_lt (wN_le rfl) (by decide))) ?_))
  | ((with_reducible show ∃ a' H4, V.ref _ = .ref a' ∧ DPut _ a' (V.str _) _ H4 ∧ _); (refine w_dputS (by walk_at "lk") (by first | omega | exact wN_le rfl) ?_))
  | (with_reducible refine w_try ?_)
  | ((with_reducible show wManyA _ _ _ _ (.ref (He.ga _ _)) _ _ _); (first | ((refine w_hit (ExT.ex (by assumption) _ (by decide) _ (by decide)) ?_); intro _ _) | (refine w_miss (ExT.ex (by assumption) _ (by decide) _ (by decide)) ?_)))
  | (with_reducible refine w_xg ?_)
  | ((with_reducible show V.ref _ = .ref _ ∧ ∃ _ _ _ _, Value.ref (He.ga _ _) = _ ∧ _); (refine w_xge (ExT.xf (by assumption) _ (by decide)) (ExT.fg (by assumption) _ (by decide)) (by walk_at "lk") ?_))
  | ((with_reducible show rIsX _ (.ref (He.ga _ _)) _ _ _ _ _); (refine w_isx (ExT.xx (by assumption) _ (by decide)) (ExT.kd (by assumption) _ (by decide)) (by walk_at "lk") ?_))
  | ((with_reducible show uAdd _ (V.ref _) (V.ref _) _ _); (refine n_add_ll (by walk_at "lk") (by walk_at "lk") rfl ?_); intro _ _ _ _ _)
  | ((with_reducible show iSeq _ (tLst _) _ _ _); (refine w_sqL ?_))
  | ((with_reducible show iSeq _ (tTup _) _ _ _); (refine w_sqT ?_))
  | (refine ⟨(rfl : wipe _ _ = wipe _ _), ?_⟩)
  | (walk_at "hc"))
local macro_rules | `(tactic| walk_at "hs") => `(tactic| repeat' (walk_at "hs1"))

local macro_rules | `(tactic| walk_at "rg") => `(tactic| repeat' (first | exact rg_nil | (refine rg_cons (by omega) (by omega) ?_)))
local macro_rules | `(tactic| walk_at "sm") => `(tactic| first | exact Same.refl _ | assumption | ((with_reducible show Same _ (upd _ _ _)); (refine Same.trans ?_ (sm_new (by assumption))); walk_at "sm") | ((refine Same.trans ?_ (by assumption)); walk_at "sm"))
local macro_rules | `(tactic| walk_at "bx") => `(tactic| first | assumption | ((with_reducible show BoxAt (upd _ _ _) _ _); (exact BoxAt.new (by assumption) (by walk_at "bx"))) | (exact BoxAt.same (by assumption) (by walk_at "bx")))
local macro_rules | `(tactic| walk_at "ks") => `(tactic| first | exact Ks.refl _ | assumption | ((with_reducible show Ks _ (upd _ _ _)); (refine Ks.trans ?_ (Ks.of (sm_new (by assumption))); walk_at "ks")) | (refine Ks.trans ?_ (by assumption); walk_at "ks") | (refine Ks.trans ?_ (Ks.of (by assumption)); walk_at "ks"))
local macro_rules | `(tactic| walk_at "ob") => `(tactic| first | assumption | exact .sc rfl | (exact Ob.same (by assumption) (by walk_at "ob")) | (exact Ob.ks (by assumption) (by walk_at "ob")))
local macro_rules | `(tactic| walk_at "nd") => `(tactic| first | assumption | (exact Nd.same (by assumption) (by walk_at "nd")) | (exact Nd.ks (by assumption) (by walk_at "nd")))
local macro_rules | `(tactic| walk_at "df") => `(tactic| first | assumption | exact df_sc rfl | (exact df_vr (by assumption) (by walk_at "lk")) | (exact df_rv (by assumption) (by walk_at "ob")) | (exact df_vv (by assumption) (by walk_at "ob")) | (exact Df.symm (df_vv (by assumption) (by walk_at "ob"))))
local macro_rules | `(tactic| walk_at "hc") => `(tactic| (with_reducible show sp_is_whole _ _ _ _ _); (refine u_is_whole (by walk_at "kd") ?_))
local macro_rules | `(tactic| walk_at "hc") => `(tactic| (with_reducible show sp_is_between _ _ _ _ _); (refine u_is_between (by walk_at "kd") ?_))
local macro_rules | `(tactic| walk_at "hc") => `(tactic| (with_reducible show sp_is_day _ _ _ _ _); (refine u_is_day (by walk_at "kd") ?_))
local macro_rules | `(tactic| walk_at "hc") => `(tactic| (with_reducible refine u_is_leap_year ?_))
local macro_rules | `(tactic| walk_at "hc") => `(tactic| (with_reducible refine' u_length_of ?k1 ?k2 ?_); (case k1 => omega); (case k2 => omega))
local macro_rules | `(tactic| walk_at "hc") => `(tactic| (with_reducible refine' u_year_begin ?k1 ?k2 ?_); (case k1 => omega); (case k2 => omega))
local macro_rules | `(tactic| walk_at "hc") => `(tactic| (with_reducible refine' u_month_begin ?k1 ?k2 ?k3 ?k4 ?_); (case k1 => omega); (case k2 => omega); (case k3 => omega); (case k4 => omega); intro _ _)
local macro_rules | `(tactic| walk_at "hc") => `(tactic| (with_reducible show sp__law_take _ _ _ _ _); (refine u__law_take (by walk_at "bx") (by omega) (by omega) (by omega) ?_); intro _ _ _ _ _ _)
local macro_rules | `(tactic| walk_at "hc") => `(tactic| (with_reducible refine u__law_leap ?_))
local macro_rules | `(tactic| walk_at "hc") => `(tactic| (with_reducible show sp__law_length _ _ _ _ _); (refine u__law_length (by omega) (by omega) ?_); intro _ _)
local macro_rules | `(tactic| walk_at "hc") => `(tactic| (with_reducible show sp__law_next _ _ _ _ _); (refine u__law_next (by walk_at "st") (by omega) (by omega) ?_); intro _ _ _ _ _)
local macro_rules | `(tactic| walk_at "hc") => `(tactic| (with_reducible show sp__law_no_number _ _ _ _ _); (refine u__law_no_number (by walk_at "bx") (by omega) (by omega) (by omega) ?_); intro _ _ _ _ _ _ _)
local macro_rules | `(tactic| walk_at "hc") => `(tactic| (with_reducible refine u_weekday_at ?_))
local macro_rules | `(tactic| walk_at "hc") => `(tactic| (with_reducible show sp_first_monday _ _ _ _ _); (refine u_first_monday (by omega) (by omega) ?_))
local macro_rules | `(tactic| walk_at "hc") => `(tactic| (with_reducible show sp_weeks_of _ _ _ _ _); (refine u_weeks_of (by omega) (by omega) ?_))
variable {K : PySem.W.Frag}
theorem Kds.h1 {H : Hp} {x : V} {xs : List V} (h : Kds K H (x :: xs)) : ∃ T, Kd K H x T := h x List.mem_cons_self
theorem Kds.tl {H : Hp} {x : V} {xs : List V} (h : Kds K H (x :: xs)) : Kds K H xs := fun y hy => h y (List.mem_cons_of_mem _ hy)
theorem p__law_ask (X : ExT K ["InvalidDay", "InvalidYear", "InvalidMonth", "InvalidNumber", "InvalidWeek", "InvalidWeekday"] "DueError") (vs : List V) (H : Hp) (Q : VK) (E : XK) (h : sp__law_ask K vs H Q E) : t__law_ask K E (D0 Q) (start N__law_ask vs) H := by
  obtain ⟨w, a, xs, nm, rfl, ha, hk, ⟨rfl, x, rfl, q1, q2⟩ | ⟨rfl, x, rfl, q1, q2⟩ | ⟨rfl, x, rfl, q1, q2⟩ | ⟨rfl, x, z, u, rfl, q1, q2, q3, q4⟩ | ⟨rfl, x, z, u, v, rfl, q1, q2, q3, q4, q5⟩⟩ := h
  · obtain ⟨T, kx⟩ := hk.h1
    cases nm <;> walk_at "hs"
    · refine ⟨_, _, rfl, kx, fun n e c => ?_, fun c => ?_⟩
      · walk_at "hs"
        exact q1 n e c _ _ (by walk_at "sm") (by assumption)
      · intro d hd
        walk_at "hs"
        exact q2 c _ _ (by walk_at "sm") (by assumption)
    · refine ⟨_, _, rfl, kx, fun n e c => ?_, fun c => ?_⟩
      · walk_at "hs"
        exact q1 n e c _ _ (by walk_at "sm") (by assumption)
      · intro d hd
        walk_at "hs"
        exact q2 c _ _ (by walk_at "sm") (by assumption)
  · obtain ⟨T, kx⟩ := hk.h1
    cases nm <;> walk_at "hs"
    · refine ⟨_, _, rfl, kx, fun n e c w k p H1 hw f hp => ?_, fun c => ?_⟩
      · walk_at "hs"
        exact q1 n e c w k p _ _ hw (by walk_at "sm") (by walk_at "lk") (by assumption)
      · intro d hd
        walk_at "hs"
        exact q2 c _ _ (by walk_at "sm") (by assumption)
    · refine ⟨_, _, rfl, kx, fun n e c w k p H1 hw f hp => ?_, fun c => ?_⟩
      · walk_at "hs"
        exact q1 n e c w k p _ _ hw (by walk_at "sm") (by walk_at "lk") (by assumption)
      · intro d hd
        walk_at "hs"
        exact q2 c _ _ (by walk_at "sm") (by assumption)
  · obtain ⟨T, kx⟩ := hk.h1
    cases nm <;> walk_at "hs"
    · refine ⟨_, _, rfl, kx, fun n e c => ?_, fun c => ?_⟩
      · walk_at "hs"
        exact q1 n e c _ _ (by walk_at "sm") (by assumption)
      · intro d hd
        walk_at "hs"
        exact q2 c _ _ (by walk_at "sm") (by assumption)
    · refine ⟨_, _, rfl, kx, fun n e c => ?_, fun c => ?_⟩
      · walk_at "hs"
        exact q1 n e c _ _ (by walk_at "sm") (by assumption)
      · intro d hd
        walk_at "hs"
        exact q2 c _ _ (by walk_at "sm") (by assumption)
  · obtain ⟨T, kx⟩ := hk.h1
    obtain ⟨U, kz⟩ := hk.tl.h1
    obtain ⟨V', ku⟩ := hk.tl.tl.h1
    cases nm <;> walk_at "hs"
    all_goals
      refine ⟨_, _, _, _, _, _, rfl, kx, kz, ku, fun y k d e1 e2 e3 c1 c2 c3 => ?_, fun c => ?_, fun y e c1 c2 => ?_, fun y e c1 c2 c3 => ?_⟩
      · walk_at "hs"
        exact q1 y k d e1 e2 e3 c1 c2 c3 _ _ (by walk_at "sm") (by assumption)
      · intro d hd
        walk_at "hs"
        exact q2 c _ _ (by walk_at "sm") (by assumption)
      · intro d hd
        walk_at "hs"
        exact q3 y e c1 c2 _ _ (by walk_at "sm") (by assumption)
      · intro d hd
        walk_at "hs"
        exact q4 y e c1 c2 c3 _ _ (by walk_at "sm") (by assumption)
  · obtain ⟨T, kx⟩ := hk.h1
    obtain ⟨U, kz⟩ := hk.tl.h1
    obtain ⟨V', ku⟩ := hk.tl.tl.h1
    obtain ⟨W', kv⟩ := hk.tl.tl.tl.h1
    cases nm <;> walk_at "hs"
    all_goals
      refine ⟨_, _, _, _, _, _, _, _, rfl, kx, kz, ku, kv, fun y m k d e1 e2 e3 e4 c1 c2 c3 c4 H1 f => ?_, fun c => ?_, fun c1 c2 => ?_, fun c1 c2 c3 => ?_, fun c1 c2 c3 c4 => ?_⟩
      · walk_at "hs"
        exact q1 y m k d e1 e2 e3 e4 c1 c2 c3 c4 _ _ (by walk_at "sm") (by assumption)
      · intro d hd
        walk_at "hs"
        exact q2 c _ _ (by walk_at "sm") (by assumption)
      · intro d hd
        walk_at "hs"
        exact q3 c1 c2 _ _ (by walk_at "sm") (by assumption)
      · intro d hd
        walk_at "hs"
        exact q4 c1 c2 c3 _ _ (by walk_at "sm") (by assumption)
      · intro d hd
        walk_at "hs"
        exact q5 c1 c2 c3 c4 _ _ (by walk_at "sm") (by assumption)
end My
set_option linter.all false
set_option maxRecDepth 100000
set_option maxHeartbeats 2000000
namespace My
open PySem PySem.Spec PyProof.Rows L2 Kx
local macro_rules | `(tactic| walk_at "lk") => `(tactic| first | assumption | ((with_reducible show upd _ _ _ _ = _); (first | exact upd_same | (exact up_new (by assumption) (by walk_at "lk")) | (exact up_other (by assumption) (by walk_at "lk")))) | (exact (by assumption : Same _ _) _ _ (by walk_at "lk")) | (exact ks_get (by assumption) (by walk_at "lk") (by first | rfl | assumption | exact notBox_len rfl)))
local macro_rules | `(tactic| walk_at "sl") => `(tactic| first | assumption | (exact l_of (by walk_at "lk")) | (exact Same.seq (by assumption) (by walk_at "sl")) | ((with_reducible show SqL _ (upd _ _ _) _ _); (exact Same.seq (sm_new (by assumption)) (by walk_at "sl"))))
local macro_rules | `(tactic| walk_at "st") => `(tactic| first | assumption | (exact t_of (by walk_at "lk")) | (exact Kx.Same.tup (by assumption) (by walk_at "st")) | ((with_reducible show SqT _ (upd _ _ _) _ _); (exact Kx.Same.tup (sm_new (by assumption)) (by walk_at "st"))) | (exact ks_tup (by assumption) (by walk_at "st")))
local macro_rules | `(tactic| walk_at "kd") => `(tactic| first | assumption | exact .non | exact .bl _ | exact .int _ | exact .str _ | (exact .lst (by walk_at "sl")) | (exact .tup (by walk_at "st")) | (exact .dic (by walk_at "lk")) | (exact Kd.same (by assumption) (by walk_at "kd")) | ((with_reducible show Kd _ (upd _ _ _) _ _); (exact Kd.same (sm_new (by assumption)) (by walk_at "kd"))))
local macro_rules | `(tactic| walk_at "tt") => `(tactic| first | rfl | assumption | decide +kernel | (simp only [decide_eq_true_eq, Bool.not_eq_true', decide_eq_false_iff_not, Bool.and_eq_true, Bool.or_eq_true]; omega))
local macro_rules | `(tactic| walk_at "ff") => `(tactic| first | rfl | assumption | decide +kernel | (simp only [decide_eq_true_eq, Bool.not_eq_false', decide_eq_false_iff_not, Bool.and_eq_false_imp, Bool.or_eq_false_iff]; omega))
local macro_rules | `(tactic| walk_at "hc") => `(tactic| fail)
local macro_rules | `(tactic| walk_at "hif") => `(tactic| ((with_reducible refine w_b2 ?_ ?_) <;> intro))
local macro_rules | `(tactic| walk_at "hs1") => `(tactic| first
  | (with_reducible refine w_seq ?_)
  | (with_reducible refine w_asg ?_)
  | ((with_reducible refine' w_var ?k1 ?_); (case k1 => exact rfl))
  | (with_reducible refine w_c ?_)
  | (with_reducible refine w_op ?_)
  | (with_reducible refine w_cons ?_)
  | (with_reducible refine w_nil ?_)
  | (with_reducible refine w_name ?_)
  | (with_reducible refine w_kn ?_)
  | (with_reducible refine w_kx ?_)
  | (with_reducible refine w_kk ?_)
  | (with_reducible refine w_cb ?_)
  | (with_reducible refine w_if ?_)
  | (with_reducible refine w_test ?_)
  | (with_reducible refine w_exb ?_)
  | (with_reducible refine iteT ?_)
  | (with_reducible refine iteF ?_)
  | ((with_reducible refine w_bt ?_ ?_); (first | rfl | decide +kernel))
  | ((with_reducible refine w_bf ?_ ?_); (first | rfl | decide +kernel))
  | ((with_reducible refine w_bt ?_ ?_); (walk_at "tt"))
  | ((with_reducible refine w_bf ?_ ?_); (walk_at "ff"))
  | (with_reducible refine w_ret ?_)
  | (with_reducible refine w_retN ?_)
  | (with_reducible refine w_drop ?_)
  | (with_reducible refine w_next ?_)
  | (with_reducible refine w_brk ?_)
  | (with_reducible refine w_cont ?_)
  | (with_reducible refine w_and ?_)
  | (with_reducible refine w_or ?_)
  | (with_reducible refine w_not ?_)
  | (with_reducible refine w_tr ?_)
  | (with_reducible refine w_yes ?_)
  | (with_reducible refine w_tru_bl ?_)
  | (with_reducible refine w_tru_int ?_)
  | (with_reducible refine w_tru_non ?_)
  | (with_reducible refine w_andV ?_)
  | (with_reducible refine w_orV ?_)
  | (with_reducible refine w_notV ?_)
  | (with_reducible refine w_ifx ?_)
  | (with_reducible refine w_chain ?_)
  | (with_reducible refine w_un ?_)
  | (with_reducible refine n_tup ?_)
  | (with_reducible refine n_lst ?_)
  | ((with_reducible show kTup _ _ _); (refine n_ktup rfl ?_); intro _ _ _ _ _)
  | ((with_reducible show kLst _ _ _); (refine n_klst rfl ?_); intro _ _ _ _ _)
  | (with_reducible refine w_par ?_)
  | (with_reducible refine w_par2 ?_)
  | (with_reducible refine w_par3 ?_)
  | (with_reducible refine w_par33 ?_)
  | ((with_reducible refine' w_aug ?k1 ?_); (case k1 => exact rfl))
  | (with_reducible refine w_raise ?_)
  | (with_reducible refine w_mkdue ?_)
  | (with_reducible refine w_one ?_)
  | ((with_reducible show gSq _ _ _ (V.ref _) _ _ _); (first | (refine n_gsq (by walk_at "lk") (by exact rfl) (by exact rfl) ?_) | (refine w_gtup (by walk_at "st") (by exact rfl) ?_) | (refine w_glst (by walk_at "sl") (by exact rfl) ?_)))
  | (with_reducible refine w_gcons ?_)
  | (with_reducible refine w_gnil ?_)
  | (with_reducible refine w_bm ?_)
  | ((with_reducible show tyV _ "list" (V.ref _) _ ∧ _); (refine w_tyl (by walk_at "sl") ?_))
  | (with_reducible refine w_for ?_)
  | (with_reducible refine w_rng1 ?_)
  | (with_reducible refine w_rng2 ?_)
  | (with_reducible refine w_add_ii ?_)
  | (with_reducible refine w_sub_ii ?_)
  | ((with_reducible refine w_fdv_ii ?_ ?_ ?_); (first | decide | omega); (first | decide | omega))
  | ((with_reducible refine w_mul_b ?_ ?_ ?_); (refine ⟨?_, ?_⟩ <;> omega); (refine ⟨?_, ?_⟩ <;> omega))
  | ((with_reducible refine w_mod_ii ?_ ?_); (first | decide | omega))
  | (with_reducible refine w_neg_i ?_)
  | (with_reducible refine w_lt_ii ?_)
  | (with_reducible refine w_le_ii ?_)
  | (with_reducible refine w_gt_ii ?_)
  | (with_reducible refine w_ge_ii ?_)
  | (with_reducible refine w_eq_ii ?_)
  | (with_reducible refine w_ne_ii ?_)
  | (with_reducible refine n_eq_same ?_)
  | (with_reducible refine n_ne_same ?_)
  | (with_reducible refine w_eq_ss ?_)
  | (with_reducible refine w_ne_ss ?_)
  | (with_reducible refine w_eq_bb ?_)
  | (with_reducible refine w_ne_bb ?_)
  | (with_reducible refine w_is_n ?_)
  | (with_reducible refine w_isn_n ?_)
  | (with_reducible refine w_is_bb ?_)
  | (with_reducible refine w_isn_bb ?_)
  | ((with_reducible show rIx _ (V.ref _) (V.int _) _ _); (first | (refine n_ix (by decide) (by walk_at "lk") (by exact rfl) ?_) | (refine n_ixl (by decide) (by walk_at "sl") (by exact rfl) ?_) | (refine n_ixt (by decide) (by walk_at "st") (by exact rfl) ?_)))
  | (with_reducible refine w_ipadd ?_)
  | (with_reducible refine w_ipsub ?_)
  | (with_reducible refine w_int_i ?_)
  | (with_reducible refine w_int_b ?_)
  | (with_reducible refine w_abs ?_)
  | ((with_reducible refine w_max2r ?_); intro _ _ _ _)
  | ((with_reducible refine w_min2r ?_); intro _ _ _ _)
  | ((with_reducible show uLen _ [V.ref _] _ _); (first | (refine n_len (by walk_at "lk") (by exact rfl) ?_) | (refine w_len_l (by walk_at "sl") ?_) | (refine w_len_t (by walk_at "st") ?_) | (refine w_len_d (by walk_at "lk") ?_)))
  | ((with_reducible show uIsi _ [_, V.ty _] _ _); (refine w_isk (by walk_at "kd") (by decide) ?_))
  | ((with_reducible show uIsi _ [_, V.ref _] _ _); (refine w_isk2 (by walk_at "lk") (by walk_at "kd") (by decide) (by decide) ?_))
  | (with_reducible refine w_wN ?_)
  | (with_reducible refine w_lc ?_)
  | ((with_reducible refine' w_rng2e ?k1 ?_); (case k1 => (refine ⟨?_, ?_, ?_, ?_⟩ <;> omega)))
  | ((with_reducible refine' w_rng1e ?k1 ?k2 ?_); (case k1 => omega); (case k2 => omega))
  | ((with_reducible show ∃ a', V.ref _ = .ref a' ∧ (∃ xs, SqL _ _ a' xs) ∧ _); (refine w_sqLe (by walk_at "sl") ?_))
  | ((with_reducible show ∃ a', V.ref _ = .ref a' ∧ (∃ xs, SqT _ _ a' xs) ∧ _); (refine w_sqTe (by walk_at "st") ?_))
  | (with_reducible refine w_slc ?_)
  | (with_reducible refine w_nop ?_)
  | (with_reducible refine w_part ?_)
  | (with_reducible refine w_exi ?_)
  | ((with_reducible show uSl _ (V.ref _) _ _ _ _); (refine n_slL (by walk_at "sl") ?_); intro _ _ _ _ _)
  | (with_reducible refine w_gsub ?_)
  | ((with_reducible show rSetL (V.ref _) (V.int _) _ _ _); (refine w_setl (by walk_at "lk") (by exact rfl) ?_))
  | (with_reducible refine w_pow_9 ?_)
  | (with_reducible refine w_pow_12 ?_)
  | (with_reducible refine w_pow_13 ?_)
  | (with_reducible refine w_pow_18 ?_)
  | (with_reducible refine w_pow_29 ?_)
  | ((with_reducible refine n_disp1 ?_); intro _ _ _ _ _)
  | (with_reducible refine w_dput ?_)
  | ((with_reducible show rAppend (V.ref _) [_] _ _); (refine w_append (by walk_at "lk") (by first | omega | (exact Nat.lt_of_le_of_lt (wN_le rfl) (by decide))) ?_))
  | ((with_reducible show ∃ a' H4, V.ref _ = .ref a' ∧ DPut _ a' (V.str _) _ H4 ∧ _); (refine w_dputS (by walk_at "lk") (by first | omega | exact wN_le rfl) ?_))
  | (with_reducible refine w_try ?_)
  | ((with_reducible show wManyA _ _ _ _ (.ref (He.ga _ _)) _ _ _); (first | ((refine w_hit (ExT.ex (by assumption) _ (by decide) _ (by decide)) ?_); intro _ _) | (refine w_miss (ExT.ex (by assumption) _ (by decide) _ (by decide)) ?_)))
  | (with_reducible refine w_xg ?_)
  | ((with_reducible show V.ref _ = .ref _ ∧ ∃ _ _ _ _, Value.ref (He.ga _ _) = _ ∧ _); (refine w_xge (ExT.xf (by assumption) _ (by decide)) (ExT.fg (by assumption) _ (by decide)) (by walk_at "lk") ?_))
  | ((with_reducible show rIsX _ (.ref (He.ga _ _)) _ _ _ _ _); (refine w_isx (ExT.xx (by assumption) _ (by decide)) (ExT.kd (by assumption) _ (by decide)) (by walk_at "lk") ?_))
  | ((with_reducible show uAdd _ (V.ref _) (V.ref _) _ _); (refine n_add_ll (by walk_at "lk") (by walk_at "lk") rfl ?_); intro _ _ _ _ _)
  | ((with_reducible show iSeq _ (tLst _) _ _ _); (refine w_sqL ?_))
  | ((with_reducible show iSeq _ (tTup _) _ _ _); (refine w_sqT ?_))
  | (refine ⟨(rfl : wipe _ _ = wipe _ _), ?_⟩)
  | (walk_at "hc"))
local macro_rules | `(tactic| walk_at "hs") => `(tactic| repeat' (walk_at "hs1"))

local macro_rules | `(tactic| walk_at "rg") => `(tactic| repeat' (first | exact rg_nil | (refine rg_cons (by omega) (by omega) ?_)))
local macro_rules | `(tactic| walk_at "sm") => `(tactic| first | exact Same.refl _ | assumption | ((with_reducible show Same _ (upd _ _ _)); (refine Same.trans ?_ (sm_new (by assumption))); walk_at "sm") | ((refine Same.trans ?_ (by assumption)); walk_at "sm"))
local macro_rules | `(tactic| walk_at "bx") => `(tactic| first | assumption | ((with_reducible show BoxAt (upd _ _ _) _ _); (exact BoxAt.new (by assumption) (by walk_at "bx"))) | (exact BoxAt.same (by assumption) (by walk_at "bx")))
local macro_rules | `(tactic| walk_at "ks") => `(tactic| first | exact Ks.refl _ | assumption | ((with_reducible show Ks _ (upd _ _ _)); (refine Ks.trans ?_ (Ks.of (sm_new (by assumption))); walk_at "ks")) | (refine Ks.trans ?_ (by assumption); walk_at "ks") | (refine Ks.trans ?_ (Ks.of (by assumption)); walk_at "ks"))
local macro_rules | `(tactic| walk_at "ob") => `(tactic| first | assumption | exact .sc rfl | (exact Ob.same (by assumption) (by walk_at "ob")) | (exact Ob.ks (by assumption) (by walk_at "ob")))
local macro_rules | `(tactic| walk_at "nd") => `(tactic| first | assumption | (exact Nd.same (by assumption) (by walk_at "nd")) | (exact Nd.ks (by assumption) (by walk_at "nd")))
local macro_rules | `(tactic| walk_at "df") => `(tactic| first | assumption | exact df_sc rfl | (exact df_vr (by assumption) (by walk_at "lk")) | (exact df_rv (by assumption) (by walk_at "ob")) | (exact df_vv (by assumption) (by walk_at "ob")) | (exact Df.symm (df_vv (by assumption) (by walk_at "ob"))))
local macro_rules | `(tactic| walk_at "hc") => `(tactic| (with_reducible show sp_is_whole _ _ _ _ _); (refine u_is_whole (by walk_at "kd") ?_))
local macro_rules | `(tactic| walk_at "hc") => `(tactic| (with_reducible show sp_is_between _ _ _ _ _); (refine u_is_between (by walk_at "kd") ?_))
local macro_rules | `(tactic| walk_at "hc") => `(tactic| (with_reducible show sp_is_day _ _ _ _ _); (refine u_is_day (by walk_at "kd") ?_))
local macro_rules | `(tactic| walk_at "hc") => `(tactic| (with_reducible refine u_is_leap_year ?_))
local macro_rules | `(tactic| walk_at "hc") => `(tactic| (with_reducible refine' u_length_of ?k1 ?k2 ?_); (case k1 => omega); (case k2 => omega))
local macro_rules | `(tactic| walk_at "hc") => `(tactic| (with_reducible refine' u_year_begin ?k1 ?k2 ?_); (case k1 => omega); (case k2 => omega))
local macro_rules | `(tactic| walk_at "hc") => `(tactic| (with_reducible refine' u_month_begin ?k1 ?k2 ?k3 ?k4 ?_); (case k1 => omega); (case k2 => omega); (case k3 => omega); (case k4 => omega); intro _ _)
local macro_rules | `(tactic| walk_at "hc") => `(tactic| (with_reducible show sp__law_take _ _ _ _ _); (refine u__law_take (by walk_at "bx") (by omega) (by omega) (by omega) ?_); intro _ _ _ _ _ _)
local macro_rules | `(tactic| walk_at "hc") => `(tactic| (with_reducible refine u__law_leap ?_))
local macro_rules | `(tactic| walk_at "hc") => `(tactic| (with_reducible show sp__law_length _ _ _ _ _); (refine u__law_length (by omega) (by omega) ?_); intro _ _)
local macro_rules | `(tactic| walk_at "hc") => `(tactic| (with_reducible show sp__law_next _ _ _ _ _); (refine u__law_next (by walk_at "st") (by omega) (by omega) ?_); intro _ _ _ _ _)
local macro_rules | `(tactic| walk_at "hc") => `(tactic| (with_reducible show sp__law_no_number _ _ _ _ _); (refine u__law_no_number (by walk_at "bx") (by omega) (by omega) (by omega) ?_); intro _ _ _ _ _ _ _)
local macro_rules | `(tactic| walk_at "hc") => `(tactic| (with_reducible refine u_weekday_at ?_))
local macro_rules | `(tactic| walk_at "hc") => `(tactic| (with_reducible show sp_first_monday _ _ _ _ _); (refine u_first_monday (by omega) (by omega) ?_))
local macro_rules | `(tactic| walk_at "hc") => `(tactic| (with_reducible show sp_weeks_of _ _ _ _ _); (refine u_weeks_of (by omega) (by omega) ?_))
variable {K : PySem.W.Frag}
theorem leap_400 (y : Int) (q : Int) : lp (y + 400 * q) = lp y := by
  rw [lp_eq, lp_eq]
  have : (y + 400 * q) % 4 = y % 4 := by omega
  have : (y + 400 * q) % 100 = y % 100 := by omega
  have : (y + 400 * q) % 400 = y % 400 := by omega
  simp [*]
theorem yb_400k (y q : Int) : yb (y + 400 * q) = yb y + 146097 * q := by
  unfold yb
  omega
theorem p__law_begin (vs : List V) (H : Hp) (Q : VK) (E : XK) (h : sp__law_begin K vs H Q E) : t__law_begin K E (D0 Q) (start N__law_begin vs) H := by
  obtain ⟨y, rfl, y0, y1, q⟩ := h
  have e0 : yb 2000 = 0 := by decide
  walk_at "hs"
  refine for_range (lo := 0) (n := ((y - 2000) % 400).toNat) (fun i σ H1 => ∃ s3, σ = [some (.int y), some (.int (y - 2000)), some (.int (146097 * ((y - 2000) / 400) + yb (2000 + (i : Int)))), s3] ∧ H1 = H)
    ⟨_, by rw [show (2000 : Int) + ((0 : Nat) : Int) = 2000 by omega, e0, Int.add_zero]; rfl, rfl⟩ ?_ ?_
  · rintro i σ H1 hi ⟨s3, rfl, rfl⟩
    walk_at "hs"
    have e1 : yb (2000 + ((i + 1 : Nat) : Int)) = yb (2000 + (i : Int)) + 365 + lp (2000 + (i : Int)) := by
      rw [show 2000 + ((i + 1 : Nat) : Int) = (2000 + (i : Int)) + 1 by omega, yb_succ]
    have e2 : lp (2000 + (i : Int)) = lp (0 + (i : Int)) := by
      have := leap_400 (0 + (i : Int)) 5
      rw [show (0 : Int) + (i : Int) + 400 * 5 = 2000 + (i : Int) by omega] at this
      exact this
    have key : 146097 * ((y - 2000) / 400) + yb (2000 + (i : Int)) + 365 + lp (0 + (i : Int)) = 146097 * ((y - 2000) / 400) + yb (2000 + ((i + 1 : Nat) : Int)) := by rw [e1, e2]; omega
    exact ⟨some (.int (0 + (i : Int))), by rw [← key]; rfl, rfl⟩
  · rintro σ H1 ⟨s3, rfl, rfl⟩
    have er : ((((y - 2000) % 400).toNat : Nat) : Int) = (y - 2000) % 400 := by omega
    rw [er]
    have ey : yb y = yb (2000 + (y - 2000) % 400) + 146097 * ((y - 2000) / 400) := by
      rw [← yb_400k]
      congr 1
      omega
    walk_at "hs"
    rw [show 146097 * ((y - 2000) / 400) + yb (2000 + (y - 2000) % 400) = yb y by omega]
    exact q
theorem u__law_begin {H : Hp} {Q : VK} {E : XK} {y : Int} (y0 : 2000 ≤ y) (y1 : y < 10000000000000) (q : Q (.int (yb y)) H) : sp__law_begin K [.int y] H Q E := ⟨y, rfl, y0, y1, q⟩
local macro_rules | `(tactic| walk_at "hc") => `(tactic| (with_reducible show sp__law_begin _ _ _ _ _); (refine u__law_begin (by omega) (by omega) ?_))
theorem p__law_week (vs : List V) (H : Hp) (Q : VK) (E : XK) (h : sp__law_week K vs H Q E) : t__law_week K E (D0 Q) (start N__law_week vs) H := by
  obtain ⟨n, rfl, n0, n1, q⟩ := h
  walk_at "hs"
  refine w_b2 (fun c => ?_) (fun c => ?_)
  · have c := of_decide_eq_true c
    walk_at "hs"
    have y9 : yb 1999 = -365 := by decide
    have y0 : yb (1999 + 1) = 0 := by decide
    refine q 1999 _ _ _ ?_ (by walk_at "sm") (by assumption)
    exact ⟨by unfold wd; omega, by unfold wd; omega, by unfold wd; omega⟩
  · have c := of_decide_eq_false c
    walk_at "hs"
    refine u__law_date (by omega) (by omega) fun y m d p H1 hd e hp => ?_
    have hy := hd.year
    have y1 := yb_bd hy.1 (by omega) (by omega)
    have y2 := yb_bd0 hy.2 (by omega)
    walk_at "hs"
    refine q y _ _ _ ?_ (by walk_at "sm") (by assumption)
    exact ⟨by unfold wd; omega, by unfold wd; omega, by unfold wd; omega⟩
theorem u__law_week {H : Hp} {Q : VK} {E : XK} {n : Int} (n0 : 0 ≤ n) (n1 : n < 10000000000000) (q : NewW H Q n) : sp__law_week K [.int n] H Q E := ⟨n, rfl, n0, n1, q⟩
theorem p__law_weeks (vs : List V) (H : Hp) (Q : VK) (E : XK) (h : sp__law_weeks K vs H Q E) : t__law_weeks K E (D0 Q) (start N__law_weeks vs) H := by
  obtain ⟨y, rfl, y0, y1, q⟩ := h
  rw [wks_eq] at q
  walk_at "hs"
  refine w_b2 (fun c => ?_) (fun c => ?_)
  · have c : wd (yb y) = 3 := of_decide_eq_true c
    rw [if_pos (.inl c)] at q
    walk_at "hs"
    exact q
  · have c : ¬ wd (yb y) = 3 := of_decide_eq_false c
    walk_at "hs"
    refine w_b2 (fun c2 => ?_) (fun c2 => ?_)
    · have c2 : wd (yb y) = 2 := of_decide_eq_true c2
      walk_at "hs"
      refine w_b2 (fun c3 => ?_) (fun c3 => ?_)
      · rw [if_pos (.inr ⟨c2, c3⟩)] at q
        walk_at "hs"
        exact q
      · rw [if_neg (by rintro (h | ⟨_, h⟩); exact c h; rw [c3] at h; cases h)] at q
        walk_at "hs"
        exact q
    · have c2 : ¬ wd (yb y) = 2 := of_decide_eq_false c2
      rw [if_neg (by rintro (h | ⟨h, _⟩); exact c h; exact c2 h)] at q
      walk_at "hs"
      exact q
theorem u__law_weeks {H : Hp} {Q : VK} {E : XK} {y : Int} (y0 : 2000 ≤ y) (y1 : y < 10000000000000) (q : Q (.int (wks y)) H) : sp__law_weeks K [.int y] H Q E := ⟨y, rfl, y0, y1, q⟩
local macro_rules | `(tactic| walk_at "hc") => `(tactic| (with_reducible show sp__law_weeks _ _ _ _ _); (refine u__law_weeks (by omega) (by omega) ?_))
theorem p__law_year (vs : List V) (H : Hp) (Q : VK) (E : XK) (h : sp__law_year K vs H Q E) : t__law_year K E (D0 Q) (start N__law_year vs) H := by
  obtain ⟨b, c, rfl, hb, hc, q⟩ := h
  walk_at "hs"
  refine w_ixl_int 2000 2700000000 8 (by walk_at "sl") rfl (by omega) (by omega) (by walk_at "rg") fun y y0 y1 => ?_
  exact q y _ y0 y1 (by walk_at "ks") (BoxAt.mono (by walk_at "bx") (by omega))
theorem u__law_year {H : Hp} {Q : VK} {E : XK} {b : Addr} {c : Int} (hb : BoxAt H b c) (hc : c < 800000000) (q : ∀ y H', 2000 ≤ y → y ≤ 2700000000 → Ks H H' → BoxAt H' b (c + 3) → Q (.int y) H') : sp__law_year K [.ref b] H Q E := ⟨b, c, rfl, hb, hc, q⟩
local macro_rules | `(tactic| walk_at "hc") => `(tactic| (with_reducible show sp__law_year _ _ _ _ _); (refine u__law_year (by walk_at "bx") (by omega) ?_); intro _ _ _ _ _ _)
theorem p__law_told (vs : List V) (H : Hp) (Q : VK) (E : XK) (h : sp__law_told K vs H Q E) : t__law_told K E (D0 Q) (start N__law_told vs) H := by
  obtain ⟨w, a, due, d, nm, rfl, hd, hdue, ask, q⟩ := h
  walk_at "hs"
  rename_i pl Ha na sa ha
  refine for_list (xs := [.bl nm, .bl (!nm)]) (fun j σ H3 => ∃ s5 s6, σ = [some (.str w), some (.ref a), some due, some (.bl nm), s5, s6] ∧ Same H H3 ∧ H3 pl = some (.lst [.bl nm, .bl (!nm)]))
    ⟨_, _, rfl, by walk_at "sm", by walk_at "lk"⟩ (fun _ _ _ _ ⟨_, _, _, _, h⟩ => l_of h) ?_ ?_
  · rintro j v σ H3 hx ⟨s5, s6, rfl, e3, hl3⟩
    obtain ⟨bo, rfl⟩ : ∃ bo, v = .bl bo := by
      match j, hx with
      | 0, hx => cases hx; exact ⟨_, rfl⟩
      | 1, hx => cases hx; exact ⟨_, rfl⟩
    clear sa ha
    walk_at "hs"
    refine ask H3 bo e3 _ fun v l H4 e4 dv hl => ?_
    walk_at "hs"
    refine u__law_same (n := 8) dv (Dp.same (Same.trans e3 e4) hdue) hd fun H5 e5 => ?_
    walk_at "hs"
    exact ⟨_, _, rfl, by walk_at "sm", by walk_at "lk"⟩
  · rintro σ H3 ⟨s5, s6, rfl, e3, hl3⟩
    walk_at "hs"
    exact q _ e3
theorem u__law_told {H : Hp} {Q : VK} {E : XK} {w : Str} {a : Addr} {due : V} {d : PyData} {nm : Bool} (hd : okD 8 d) (hdue : Dp K H due d)
    (ask : ∀ H1 b, Same H H1 → ∀ Q' : VK, (∀ v l H', Same H1 H' → Dp K H' v d → H' l = some (.lst [.str "told", v]) → Q' (.ref l) H') → sp__law_ask K [.str w, .ref a, .bl b] H1 Q' E00) (q : ∀ H', Same H H' → Q (.bl true) H') : sp__law_told K [.str w, .ref a, due, .bl nm] H Q E := ⟨w, a, due, d, nm, rfl, hd, hdue, ask, q⟩
end My
set_option linter.all false
set_option maxRecDepth 100000
set_option maxHeartbeats 2000000
namespace My
open PySem PySem.Spec PyProof.Rows L2 Kx
local macro_rules | `(tactic| walk_at "lk") => `(tactic| first | assumption | ((with_reducible show upd _ _ _ _ = _); (first | exact upd_same | (exact up_new (by assumption) (by walk_at "lk")) | (exact up_other (by assumption) (by walk_at "lk")))) | (exact (by assumption : Same _ _) _ _ (by walk_at "lk")) | (exact ks_get (by assumption) (by walk_at "lk") (by first | rfl | assumption | exact notBox_len rfl)))
local macro_rules | `(tactic| walk_at "sl") => `(tactic| first | assumption | (exact l_of (by walk_at "lk")) | (exact Same.seq (by assumption) (by walk_at "sl")) | ((with_reducible show SqL _ (upd _ _ _) _ _); (exact Same.seq (sm_new (by assumption)) (by walk_at "sl"))))
local macro_rules | `(tactic| walk_at "st") => `(tactic| first | assumption | (exact t_of (by walk_at "lk")) | (exact Kx.Same.tup (by assumption) (by walk_at "st")) | ((with_reducible show SqT _ (upd _ _ _) _ _); (exact Kx.Same.tup (sm_new (by assumption)) (by walk_at "st"))) | (exact ks_tup (by assumption) (by walk_at "st")))
local macro_rules | `(tactic| walk_at "kd") => `(tactic| first | assumption | exact .non | exact .bl _ | exact .int _ | exact .str _ | (exact .lst (by walk_at "sl")) | (exact .tup (by walk_at "st")) | (exact .dic (by walk_at "lk")) | (exact Kd.same (by assumption) (by walk_at "kd")) | ((with_reducible show Kd _ (upd _ _ _) _ _); (exact Kd.same (sm_new (by assumption)) (by walk_at "kd"))))
local macro_rules | `(tactic| walk_at "tt") => `(tactic| first | rfl | assumption | decide +kernel | (simp only [decide_eq_true_eq, Bool.not_eq_true', decide_eq_false_iff_not, Bool.and_eq_true, Bool.or_eq_true]; omega))
local macro_rules | `(tactic| walk_at "ff") => `(tactic| first | rfl | assumption | decide +kernel | (simp only [decide_eq_true_eq, Bool.not_eq_false', decide_eq_false_iff_not, Bool.and_eq_false_imp, Bool.or_eq_false_iff]; omega))
local macro_rules | `(tactic| walk_at "hc") => `(tactic| fail)
local macro_rules | `(tactic| walk_at "hif") => `(tactic| ((with_reducible refine w_b2 ?_ ?_) <;> intro))
local macro_rules | `(tactic| walk_at "hs1") => `(tactic| first
  | (with_reducible refine w_seq ?_)
  | (with_reducible refine w_asg ?_)
  | ((with_reducible refine' w_var ?k1 ?_); (case k1 => exact rfl))
  | (with_reducible refine w_c ?_)
  | (with_reducible refine w_op ?_)
  | (with_reducible refine w_cons ?_)
  | (with_reducible refine w_nil ?_)
  | (with_reducible refine w_name ?_)
  | (with_reducible refine w_kn ?_)
  | (with_reducible refine w_kx ?_)
  | (with_reducible refine w_kk ?_)
  | (with_reducible refine w_cb ?_)
  | (with_reducible refine w_if ?_)
  | (with_reducible refine w_test ?_)
  | (with_reducible refine w_exb ?_)
  | (with_reducible refine iteT ?_)
  | (with_reducible refine iteF ?_)
  | ((with_reducible refine w_bt ?_ ?_); (first | rfl | decide +kernel))
  | ((with_reducible refine w_bf ?_ ?_); (first | rfl | decide +kernel))
  | ((with_reducible refine w_bt ?_ ?_); (walk_at "tt"))
  | ((with_reducible refine w_bf ?_ ?_); (walk_at "ff"))
  | (with_reducible refine w_ret ?_)
  | (with_reducible refine w_retN ?_)
  | (with_reducible refine w_drop ?_)
  | (with_reducible refine w_next ?_)
  | (with_reducible refine w_brk ?_)
  | (with_reducible refine w_cont ?_)
  | (with_reducible refine w_and ?_)
  | (with_reducible refine w_or ?_)
  | (with_reducible refine w_not ?_)
  | (with_reducible refine w_tr ?_)
  | (with_reducible refine w_yes ?_)
  | (with_reducible refine w_tru_bl ?_)
  | (with_reducible refine w_tru_int ?_)
  | (with_reducible refine w_tru_non ?_)
  | (with_reducible refine w_andV ?_)
  | (with_reducible refine w_orV ?_)
  | (with_reducible refine w_notV ?_)
  | (with_reducible refine w_ifx ?_)
  | (with_reducible refine w_chain ?_)
  | (with_reducible refine w_un ?_)
  | (with_reducible refine n_tup ?_)
  | (with_reducible refine n_lst ?_)
  | ((with_reducible show kTup _ _ _); (refine n_ktup rfl ?_); intro _ _ _ _ _)
  | ((with_reducible show kLst _ _ _); (refine n_klst rfl ?_); intro _ _ _ _ _)
  | (with_reducible refine w_par ?_)
  | (with_reducible refine w_par2 ?_)
  | (with_reducible refine w_par3 ?_)
  | (with_reducible refine w_par33 ?_)
  | ((with_reducible refine' w_aug ?k1 ?_); (case k1 => exact rfl))
  | (with_reducible refine w_raise ?_)
  | (with_reducible refine w_mkdue ?_)
  | (with_reducible refine w_one ?_)
  | ((with_reducible show gSq _ _ _ (V.ref _) _ _ _); (first | (refine n_gsq (by walk_at "lk") (by exact rfl) (by exact rfl) ?_) | (refine w_gtup (by walk_at "st") (by exact rfl) ?_) | (refine w_glst (by walk_at "sl") (by exact rfl) ?_)))
  | (with_reducible refine w_gcons ?_)
  | (with_reducible refine w_gnil ?_)
  | (with_reducible refine w_bm ?_)
  | ((with_reducible show tyV _ "list" (V.ref _) _ ∧ _); (refine w_tyl (by walk_at "sl") ?_))
  | (with_reducible refine w_for ?_)
  | (with_reducible refine w_rng1 ?_)
  | (with_reducible refine w_rng2 ?_)
  | (with_reducible refine w_add_ii ?_)
  | (with_reducible refine w_sub_ii ?_)
  | ((with_reducible refine w_fdv_ii ?_ ?_ ?_); (first | decide | omega); (first | decide | omega))
  | ((with_reducible refine w_mul_b ?_ ?_ ?_); (refine ⟨?_, ?_⟩ <;> omega); (refine ⟨?_, ?_⟩ <;> omega))
  | ((with_reducible refine w_mod_ii ?_ ?_); (first | decide | omega))
  | (with_reducible refine w_neg_i ?_)
  | (with_reducible refine w_lt_ii ?_)
  | (with_reducible refine w_le_ii ?_)
  | (with_reducible refine w_gt_ii ?_)
  | (with_reducible refine w_ge_ii ?_)
  | (with_reducible refine w_eq_ii ?_)
  | (with_reducible refine w_ne_ii ?_)
  | (with_reducible refine n_eq_same ?_)
  | (with_reducible refine n_ne_same ?_)
  | (with_reducible refine w_eq_ss ?_)
  | (with_reducible refine w_ne_ss ?_)
  | (with_reducible refine w_eq_bb ?_)
  | (with_reducible refine w_ne_bb ?_)
  | (with_reducible refine w_is_n ?_)
  | (with_reducible refine w_isn_n ?_)
  | (with_reducible refine w_is_bb ?_)
  | (with_reducible refine w_isn_bb ?_)
  | ((with_reducible show rIx _ (V.ref _) (V.int _) _ _); (first | (refine n_ix (by decide) (by walk_at "lk") (by exact rfl) ?_) | (refine n_ixl (by decide) (by walk_at "sl") (by exact rfl) ?_) | (refine n_ixt (by decide) (by walk_at "st") (by exact rfl) ?_)))
  | (with_reducible refine w_ipadd ?_)
  | (with_reducible refine w_ipsub ?_)
  | (with_reducible refine w_int_i ?_)
  | (with_reducible refine w_int_b ?_)
  | (with_reducible refine w_abs ?_)
  | ((with_reducible refine w_max2r ?_); intro _ _ _ _)
  | ((with_reducible refine w_min2r ?_); intro _ _ _ _)
  | ((with_reducible show uLen _ [V.ref _] _ _); (first | (refine n_len (by walk_at "lk") (by exact rfl) ?_) | (refine w_len_l (by walk_at "sl") ?_) | (refine w_len_t (by walk_at "st") ?_) | (refine w_len_d (by walk_at "lk") ?_)))
  | ((with_reducible show uIsi _ [_, V.ty _] _ _); (refine w_isk (by walk_at "kd") (by decide) ?_))
  | ((with_reducible show uIsi _ [_, V.ref _] _ _); (refine w_isk2 (by walk_at "lk") (by walk_at "kd") (by decide) (by decide) ?_))
  | (with_reducible refine w_wN ?_)
  | (with_reducible refine w_lc ?_)
  | ((with_reducible refine' w_rng2e ?k1 ?_); (case k1 => (refine ⟨?_, ?_, ?_, ?_⟩ <;> omega)))
  | ((with_reducible refine' w_rng1e ?k1 ?k2 ?_); (case k1 => omega); (case k2 => omega))
  | ((with_reducible show ∃ a', V.ref _ = .ref a' ∧ (∃ xs, SqL _ _ a' xs) ∧ _); (refine w_sqLe (by walk_at "sl") ?_))
  | ((with_reducible show ∃ a', V.ref _ = .ref a' ∧ (∃ xs, SqT _ _ a' xs) ∧ _); (refine w_sqTe (by walk_at "st") ?_))
  | (with_reducible refine w_slc ?_)
  | (with_reducible refine w_nop ?_)
  | (with_reducible refine w_part ?_)
  | (with_reducible refine w_exi ?_)
  | ((with_reducible show uSl _ (V.ref _) _ _ _ _); (refine n_slL (by walk_at "sl") ?_); intro _ _ _ _ _)
  | (with_reducible refine w_gsub ?_)
  | ((with_reducible show rSetL (V.ref _) (V.int _) _ _ _); (refine w_setl (by walk_at "lk") (by exact rfl) ?_))
  | (with_reducible refine w_pow_9 ?_)
  | (with_reducible refine w_pow_12 ?_)
  | (with_reducible refine w_pow_13 ?_)
  | (with_reducible refine w_pow_18 ?_)
  | (with_reducible refine w_pow_29 ?_)
  | ((with_reducible refine n_disp1 ?_); intro _ _ _ _ _)
  | (with_reducible refine w_dput ?_)
  | ((with_reducible show rAppend (V.ref _) [_] _ _); (refine w_append (by walk_at "lk") (by first | omega | (exact Nat.lt_of_le_of_lt (wN_le rfl) (by decide))) ?_))
  | ((with_reducible show ∃ a' H4, V.ref _ = .ref a' ∧ DPut _ a' (V.str _) _ H4 ∧ _); (refine w_dputS (by walk_at "lk") (by first | omega | exact wN_le rfl) ?_))
  | (with_reducible refine w_try ?_)
  | ((with_reducible show wManyA _ _ _ _ (.ref (He.ga _ _)) _ _ _); (first | ((refine w_hit (ExT.ex (by assumption) _ (by decide) _ (by decide)) ?_); intro _ _) | (refine w_miss (ExT.ex (by assumption) _ (by decide) _ (by decide)) ?_)))
  | (with_reducible refine w_xg ?_)
  | ((with_reducible show V.ref _ = .ref _ ∧ ∃ _ _ _ _, Value.ref (He.ga _ _) = _ ∧ _); (refine w_xge (ExT.xf (by assumption) _ (by decide)) (ExT.fg (by assumption) _ (by decide)) (by walk_at "lk") ?_))
  | ((with_reducible show rIsX _ (.ref (He.ga _ _)) _ _ _ _ _); (refine w_isx (ExT.xx (by assumption) _ (by decide)) (ExT.kd (by assumption) _ (by decide)) (by walk_at "lk") ?_))
  | ((with_reducible show uAdd _ (V.ref _) (V.ref _) _ _); (refine n_add_ll (by walk_at "lk") (by walk_at "lk") rfl ?_); intro _ _ _ _ _)
  | ((with_reducible show iSeq _ (tLst _) _ _ _); (refine w_sqL ?_))
  | ((with_reducible show iSeq _ (tTup _) _ _ _); (refine w_sqT ?_))
  | (refine ⟨(rfl : wipe _ _ = wipe _ _), ?_⟩)
  | (walk_at "hc"))
local macro_rules | `(tactic| walk_at "hs") => `(tactic| repeat' (walk_at "hs1"))

local macro_rules | `(tactic| walk_at "rg") => `(tactic| repeat' (first | exact rg_nil | (refine rg_cons (by omega) (by omega) ?_)))
local macro_rules | `(tactic| walk_at "sm") => `(tactic| first | exact Same.refl _ | assumption | ((with_reducible show Same _ (upd _ _ _)); (refine Same.trans ?_ (sm_new (by assumption))); walk_at "sm") | ((refine Same.trans ?_ (by assumption)); walk_at "sm"))
local macro_rules | `(tactic| walk_at "bx") => `(tactic| first | assumption | ((with_reducible show BoxAt (upd _ _ _) _ _); (exact BoxAt.new (by assumption) (by walk_at "bx"))) | (exact BoxAt.same (by assumption) (by walk_at "bx")))
local macro_rules | `(tactic| walk_at "ks") => `(tactic| first | exact Ks.refl _ | assumption | ((with_reducible show Ks _ (upd _ _ _)); (refine Ks.trans ?_ (Ks.of (sm_new (by assumption))); walk_at "ks")) | (refine Ks.trans ?_ (by assumption); walk_at "ks") | (refine Ks.trans ?_ (Ks.of (by assumption)); walk_at "ks"))
local macro_rules | `(tactic| walk_at "ob") => `(tactic| first | assumption | exact .sc rfl | (exact Ob.same (by assumption) (by walk_at "ob")) | (exact Ob.ks (by assumption) (by walk_at "ob")))
local macro_rules | `(tactic| walk_at "nd") => `(tactic| first | assumption | (exact Nd.same (by assumption) (by walk_at "nd")) | (exact Nd.ks (by assumption) (by walk_at "nd")))
local macro_rules | `(tactic| walk_at "df") => `(tactic| first | assumption | exact df_sc rfl | (exact df_vr (by assumption) (by walk_at "lk")) | (exact df_rv (by assumption) (by walk_at "ob")) | (exact df_vv (by assumption) (by walk_at "ob")) | (exact Df.symm (df_vv (by assumption) (by walk_at "ob"))))
local macro_rules | `(tactic| walk_at "hc") => `(tactic| (with_reducible show sp_is_whole _ _ _ _ _); (refine u_is_whole (by walk_at "kd") ?_))
local macro_rules | `(tactic| walk_at "hc") => `(tactic| (with_reducible show sp_is_between _ _ _ _ _); (refine u_is_between (by walk_at "kd") ?_))
local macro_rules | `(tactic| walk_at "hc") => `(tactic| (with_reducible show sp_is_day _ _ _ _ _); (refine u_is_day (by walk_at "kd") ?_))
local macro_rules | `(tactic| walk_at "hc") => `(tactic| (with_reducible refine u_is_leap_year ?_))
local macro_rules | `(tactic| walk_at "hc") => `(tactic| (with_reducible refine' u_length_of ?k1 ?k2 ?_); (case k1 => omega); (case k2 => omega))
local macro_rules | `(tactic| walk_at "hc") => `(tactic| (with_reducible refine' u_year_begin ?k1 ?k2 ?_); (case k1 => omega); (case k2 => omega))
local macro_rules | `(tactic| walk_at "hc") => `(tactic| (with_reducible refine' u_month_begin ?k1 ?k2 ?k3 ?k4 ?_); (case k1 => omega); (case k2 => omega); (case k3 => omega); (case k4 => omega); intro _ _)
local macro_rules | `(tactic| walk_at "hc") => `(tactic| (with_reducible show sp__law_take _ _ _ _ _); (refine u__law_take (by walk_at "bx") (by omega) (by omega) (by omega) ?_); intro _ _ _ _ _ _)
local macro_rules | `(tactic| walk_at "hc") => `(tactic| (with_reducible refine u__law_leap ?_))
local macro_rules | `(tactic| walk_at "hc") => `(tactic| (with_reducible show sp__law_length _ _ _ _ _); (refine u__law_length (by omega) (by omega) ?_); intro _ _)
local macro_rules | `(tactic| walk_at "hc") => `(tactic| (with_reducible show sp__law_next _ _ _ _ _); (refine u__law_next (by walk_at "st") (by omega) (by omega) ?_); intro _ _ _ _ _)
local macro_rules | `(tactic| walk_at "hc") => `(tactic| (with_reducible show sp__law_no_number _ _ _ _ _); (refine u__law_no_number (by walk_at "bx") (by omega) (by omega) (by omega) ?_); intro _ _ _ _ _ _ _)
local macro_rules | `(tactic| walk_at "hc") => `(tactic| (with_reducible refine u_weekday_at ?_))
local macro_rules | `(tactic| walk_at "hc") => `(tactic| (with_reducible show sp_first_monday _ _ _ _ _); (refine u_first_monday (by omega) (by omega) ?_))
local macro_rules | `(tactic| walk_at "hc") => `(tactic| (with_reducible show sp_weeks_of _ _ _ _ _); (refine u_weeks_of (by omega) (by omega) ?_))
local macro_rules | `(tactic| walk_at "hc") => `(tactic| (with_reducible show sp__law_begin _ _ _ _ _); (refine u__law_begin (by omega) (by omega) ?_))
local macro_rules | `(tactic| walk_at "hc") => `(tactic| (with_reducible show sp__law_weeks _ _ _ _ _); (refine u__law_weeks (by omega) (by omega) ?_))
local macro_rules | `(tactic| walk_at "hc") => `(tactic| (with_reducible show sp__law_year _ _ _ _ _); (refine u__law_year (by walk_at "bx") (by omega) ?_); intro _ _ _ _ _ _)
variable {K : PySem.W.Frag}
theorem kds_ints {H : Hp} (ns : List Int) : Kds K H (ns.map V.int) := fun x hx => by
  obtain ⟨n, _, rfl⟩ := List.mem_map.mp hx
  exact ⟨_, .int n⟩
theorem u_ask_weekday {H : Hp} {Q : VK} {E : XK} {n : Int} {a : Addr} {nm : Bool} (ha : H a = some (.lst [.int n])) (n0 : 0 ≤ n) (n1 : n ≤ 1000000000000) (q : ∀ l H', Same H H' → H' l = some (.lst [.str "told", .int (wd n)]) → Q (.ref l) H') :
    sp__law_ask K [.str "weekday", .ref a, .bl nm] H Q E := ⟨_, a, _, _, rfl, ha, kds_ints [n], .inl ⟨rfl, _, rfl, fun n' e _ => (by cases e; exact q), fun c => (by rw [betw_t (hi := MOST) n0 n1] at c; cases c)⟩⟩
theorem u_ask_week {H : Hp} {Q : VK} {E : XK} {n w k : Int} {a : Addr} {nm : Bool} (hw : IsW n w k) (ha : H a = some (.lst [.int n])) (n0 : 0 ≤ n) (n1 : n ≤ 1000000000000) (q : ∀ p l H', Same H H' → H' p = some (.tup [.int w, .int k]) → H' l = some (.lst [.str "told", .ref p]) → Q (.ref l) H') :
    sp__law_ask K [.str "week", .ref a, .bl nm] H Q E := ⟨_, a, _, _, rfl, ha, kds_ints [n], .inr (.inl ⟨rfl, _, rfl, fun n' e _ w' k' p l H' hw' f hp hl => (by
        cases e
        obtain ⟨rfl, rfl⟩ := IsW.uniq hw hw'
        exact q p l H' f hp hl), fun c => (by rw [betw_t (hi := MOST) n0 n1] at c; cases c)⟩)⟩
end My
set_option linter.all false
set_option maxRecDepth 100000
set_option maxHeartbeats 2000000
namespace My
open PySem PySem.Spec PyProof.Rows L2 Kx
local macro_rules | `(tactic| walk_at "lk") => `(tactic| first | assumption | ((with_reducible show upd _ _ _ _ = _); (first | exact upd_same | (exact up_new (by assumption) (by walk_at "lk")) | (exact up_other (by assumption) (by walk_at "lk")))) | (exact (by assumption : Same _ _) _ _ (by walk_at "lk")) | (exact ks_get (by assumption) (by walk_at "lk") (by first | rfl | assumption | exact notBox_len rfl)))
local macro_rules | `(tactic| walk_at "sl") => `(tactic| first | assumption | (exact l_of (by walk_at "lk")) | (exact Same.seq (by assumption) (by walk_at "sl")) | ((with_reducible show SqL _ (upd _ _ _) _ _); (exact Same.seq (sm_new (by assumption)) (by walk_at "sl"))))
local macro_rules | `(tactic| walk_at "st") => `(tactic| first | assumption | (exact t_of (by walk_at "lk")) | (exact Kx.Same.tup (by assumption) (by walk_at "st")) | ((with_reducible show SqT _ (upd _ _ _) _ _); (exact Kx.Same.tup (sm_new (by assumption)) (by walk_at "st"))) | (exact ks_tup (by assumption) (by walk_at "st")))
local macro_rules | `(tactic| walk_at "kd") => `(tactic| first | assumption | exact .non | exact .bl _ | exact .int _ | exact .str _ | (exact .lst (by walk_at "sl")) | (exact .tup (by walk_at "st")) | (exact .dic (by walk_at "lk")) | (exact Kd.same (by assumption) (by walk_at "kd")) | ((with_reducible show Kd _ (upd _ _ _) _ _); (exact Kd.same (sm_new (by assumption)) (by walk_at "kd"))))
local macro_rules | `(tactic| walk_at "tt") => `(tactic| first | rfl | assumption | decide +kernel | (simp only [decide_eq_true_eq, Bool.not_eq_true', decide_eq_false_iff_not, Bool.and_eq_true, Bool.or_eq_true]; omega))
local macro_rules | `(tactic| walk_at "ff") => `(tactic| first | rfl | assumption | decide +kernel | (simp only [decide_eq_true_eq, Bool.not_eq_false', decide_eq_false_iff_not, Bool.and_eq_false_imp, Bool.or_eq_false_iff]; omega))
local macro_rules | `(tactic| walk_at "hc") => `(tactic| fail)
local macro_rules | `(tactic| walk_at "hif") => `(tactic| ((with_reducible refine w_b2 ?_ ?_) <;> intro))
local macro_rules | `(tactic| walk_at "hs1") => `(tactic| first
  | (with_reducible refine w_seq ?_)
  | (with_reducible refine w_asg ?_)
  | ((with_reducible refine' w_var ?k1 ?_); (case k1 => exact rfl))
  | (with_reducible refine w_c ?_)
  | (with_reducible refine w_op ?_)
  | (with_reducible refine w_cons ?_)
  | (with_reducible refine w_nil ?_)
  | (with_reducible refine w_name ?_)
  | (with_reducible refine w_kn ?_)
  | (with_reducible refine w_kx ?_)
  | (with_reducible refine w_kk ?_)
  | (with_reducible refine w_cb ?_)
  | (with_reducible refine w_if ?_)
  | (with_reducible refine w_test ?_)
  | (with_reducible refine w_exb ?_)
  | (with_reducible refine iteT ?_)
  | (with_reducible refine iteF ?_)
  | ((with_reducible refine w_bt ?_ ?_); (first | rfl | decide +kernel))
  | ((with_reducible refine w_bf ?_ ?_); (first | rfl | decide +kernel))
  | ((with_reducible refine w_bt ?_ ?_); (walk_at "tt"))
  | ((with_reducible refine w_bf ?_ ?_); (walk_at "ff"))
  | (with_reducible refine w_ret ?_)
  | (with_reducible refine w_retN ?_)
  | (with_reducible refine w_drop ?_)
  | (with_reducible refine w_next ?_)
  | (with_reducible refine w_brk ?_)
  | (with_reducible refine w_cont ?_)
  | (with_reducible refine w_and ?_)
  | (with_reducible refine w_or ?_)
  | (with_reducible refine w_not ?_)
  | (with_reducible refine w_tr ?_)
  | (with_reducible refine w_yes ?_)
  | (with_reducible refine w_tru_bl ?_)
  | (with_reducible refine w_tru_int ?_)
  | (with_reducible refine w_tru_non ?_)
  | (with_reducible refine w_andV ?_)
  | (with_reducible refine w_orV ?_)
  | (with_reducible refine w_notV ?_)
  | (with_reducible refine w_ifx ?_)
  | (with_reducible refine w_chain ?_)
  | (with_reducible refine w_un ?_)
  | (with_reducible refine n_tup ?_)
  | (with_reducible refine n_lst ?_)
  | ((with_reducible show kTup _ _ _); (refine n_ktup rfl ?_); intro _ _ _ _ _)
  | ((with_reducible show kLst _ _ _); (refine n_klst rfl ?_); intro _ _ _ _ _)
  | (with_reducible refine w_par ?_)
  | (with_reducible refine w_par2 ?_)
  | (with_reducible refine w_par3 ?_)
  | (with_reducible refine w_par33 ?_)
  | ((with_reducible refine' w_aug ?k1 ?_); (case k1 => exact rfl))
  | (with_reducible refine w_raise ?_)
  | (with_reducible refine w_mkdue ?_)
  | (with_reducible refine w_one ?_)
  | ((with_reducible show gSq _ _ _ (V.ref _) _ _ _); (first | (refine n_gsq (by walk_at "lk") (by exact rfl) (by exact rfl) ?_) | (refine w_gtup (by walk_at "st") (by exact rfl) ?_) | (refine w_glst (by walk_at "sl") (by exact rfl) ?_)))
  | (with_reducible refine w_gcons ?_)
  | (with_reducible refine w_gnil ?_)
  | (with_reducible refine w_bm ?_)
  | ((with_reducible show tyV _ "list" (V.ref _) _ ∧ _); (refine w_tyl (by walk_at "sl") ?_))
  | (with_reducible refine w_for ?_)
  | (with_reducible refine w_rng1 ?_)
  | (with_reducible refine w_rng2 ?_)
  | (with_reducible refine w_add_ii ?_)
  | (with_reducible refine w_sub_ii ?_)
  | ((with_reducible refine w_fdv_ii ?_ ?_ ?_); (first | decide | omega); (first | decide | omega))
  | ((with_reducible refine w_mul_b ?_ ?_ ?_); (refine ⟨?_, ?_⟩ <;> omega); (refine ⟨?_, ?_⟩ <;> omega))
  | ((with_reducible refine w_mod_ii ?_ ?_); (first | decide | omega))
  | (with_reducible refine w_neg_i ?_)
  | (with_reducible refine w_lt_ii ?_)
  | (with_reducible refine w_le_ii ?_)
  | (with_reducible refine w_gt_ii ?_)
  | (with_reducible refine w_ge_ii ?_)
  | (with_reducible refine w_eq_ii ?_)
  | (with_reducible refine w_ne_ii ?_)
  | (with_reducible refine n_eq_same ?_)
  | (with_reducible refine n_ne_same ?_)
  | (with_reducible refine w_eq_ss ?_)
  | (with_reducible refine w_ne_ss ?_)
  | (with_reducible refine w_eq_bb ?_)
  | (with_reducible refine w_ne_bb ?_)
  | (with_reducible refine w_is_n ?_)
  | (with_reducible refine w_isn_n ?_)
  | (with_reducible refine w_is_bb ?_)
  | (with_reducible refine w_isn_bb ?_)
  | ((with_reducible show rIx _ (V.ref _) (V.int _) _ _); (first | (refine n_ix (by decide) (by walk_at "lk") (by exact rfl) ?_) | (refine n_ixl (by decide) (by walk_at "sl") (by exact rfl) ?_) | (refine n_ixt (by decide) (by walk_at "st") (by exact rfl) ?_)))
  | (with_reducible refine w_ipadd ?_)
  | (with_reducible refine w_ipsub ?_)
  | (with_reducible refine w_int_i ?_)
  | (with_reducible refine w_int_b ?_)
  | (with_reducible refine w_abs ?_)
  | ((with_reducible refine w_max2r ?_); intro _ _ _ _)
  | ((with_reducible refine w_min2r ?_); intro _ _ _ _)
  | ((with_reducible show uLen _ [V.ref _] _ _); (first | (refine n_len (by walk_at "lk") (by exact rfl) ?_) | (refine w_len_l (by walk_at "sl") ?_) | (refine w_len_t (by walk_at "st") ?_) | (refine w_len_d (by walk_at "lk") ?_)))
  | ((with_reducible show uIsi _ [_, V.ty _] _ _); (refine w_isk (by walk_at "kd") (by decide) ?_))
  | ((with_reducible show uIsi _ [_, V.ref _] _ _); (refine w_isk2 (by walk_at "lk") (by walk_at "kd") (by decide) (by decide) ?_))
  | (with_reducible refine w_wN ?_)
  | (with_reducible refine w_lc ?_)
  | ((with_reducible refine' w_rng2e ?k1 ?_); (case k1 => (refine ⟨?_, ?_, ?_, ?_⟩ <;> omega)))
  | ((with_reducible refine' w_rng1e ?k1 ?k2 ?_); (case k1 => omega); (case k2 => omega))
  | ((with_reducible show ∃ a', V.ref _ = .ref a' ∧ (∃ xs, SqL _ _ a' xs) ∧ _); (refine w_sqLe (by walk_at "sl") ?_))
  | ((with_reducible show ∃ a', V.ref _ = .ref a' ∧ (∃ xs, SqT _ _ a' xs) ∧ _); (refine w_sqTe (by walk_at "st") ?_))
  | (with_reducible refine w_slc ?_)
  | (with_reducible refine w_nop ?_)
  | (with_reducible refine w_part ?_)
  | (with_reducible refine w_exi ?_)
  | ((with_reducible show uSl _ (V.ref _) _ _ _ _); (refine n_slL (by walk_at "sl") ?_); intro _ _ _ _ _)
  | (with_reducible refine w_gsub ?_)
  | ((with_reducible show rSetL (V.ref _) (V.int _) _ _ _); (refine w_setl (by walk_at "lk") (by exact rfl) ?_))
  | (with_reducible refine w_pow_9 ?_)
  | (with_reducible refine w_pow_12 ?_)
  | (with_reducible refine w_pow_13 ?_)
  | (with_reducible refine w_pow_18 ?_)
  | (with_reducible refine w_pow_29 ?_)
  | ((with_reducible refine n_disp1 ?_); intro _ _ _ _ _)
  | (with_reducible refine w_dput ?_)
  | ((with_reducible show rAppend (V.ref _) [_] _ _); (refine w_append (by walk_at "lk") (by first | omega | (exact Nat.lt_of_le_of_lt (wN_le rfl) (by decide))) ?_))
  | ((with_reducible show ∃ a' H4, V.ref _ = .ref a' ∧ DPut _ a' (V.str _) _ H4 ∧ _); (refine w_dputS (by walk_at "lk") (by first | omega | exact wN_le rfl) ?_))
  | (with_reducible refine w_try ?_)
  | ((with_reducible show wManyA _ _ _ _ (.ref (He.ga _ _)) _ _ _); (first | ((refine w_hit (ExT.ex (by assumption) _ (by decide) _ (by decide)) ?_); intro _ _) | (refine w_miss (ExT.ex (by assumption) _ (by decide) _ (by decide)) ?_)))
  | (with_reducible refine w_xg ?_)
  | ((with_reducible show V.ref _ = .ref _ ∧ ∃ _ _ _ _, Value.ref (He.ga _ _) = _ ∧ _); (refine w_xge (ExT.xf (by assumption) _ (by decide)) (ExT.fg (by assumption) _ (by decide)) (by walk_at "lk") ?_))
  | ((with_reducible show rIsX _ (.ref (He.ga _ _)) _ _ _ _ _); (refine w_isx (ExT.xx (by assumption) _ (by decide)) (ExT.kd (by assumption) _ (by decide)) (by walk_at "lk") ?_))
  | ((with_reducible show uAdd _ (V.ref _) (V.ref _) _ _); (refine n_add_ll (by walk_at "lk") (by walk_at "lk") rfl ?_); intro _ _ _ _ _)
  | ((with_reducible show iSeq _ (tLst _) _ _ _); (refine w_sqL ?_))
  | ((with_reducible show iSeq _ (tTup _) _ _ _); (refine w_sqT ?_))
  | (refine ⟨(rfl : wipe _ _ = wipe _ _), ?_⟩)
  | (walk_at "hc"))
local macro_rules | `(tactic| walk_at "hs") => `(tactic| repeat' (walk_at "hs1"))

local macro_rules | `(tactic| walk_at "rg") => `(tactic| repeat' (first | exact rg_nil | (refine rg_cons (by omega) (by omega) ?_)))
local macro_rules | `(tactic| walk_at "sm") => `(tactic| first | exact Same.refl _ | assumption | ((with_reducible show Same _ (upd _ _ _)); (refine Same.trans ?_ (sm_new (by assumption))); walk_at "sm") | ((refine Same.trans ?_ (by assumption)); walk_at "sm"))
local macro_rules | `(tactic| walk_at "bx") => `(tactic| first | assumption | ((with_reducible show BoxAt (upd _ _ _) _ _); (exact BoxAt.new (by assumption) (by walk_at "bx"))) | (exact BoxAt.same (by assumption) (by walk_at "bx")))
local macro_rules | `(tactic| walk_at "ks") => `(tactic| first | exact Ks.refl _ | assumption | ((with_reducible show Ks _ (upd _ _ _)); (refine Ks.trans ?_ (Ks.of (sm_new (by assumption))); walk_at "ks")) | (refine Ks.trans ?_ (by assumption); walk_at "ks") | (refine Ks.trans ?_ (Ks.of (by assumption)); walk_at "ks"))
local macro_rules | `(tactic| walk_at "ob") => `(tactic| first | assumption | exact .sc rfl | (exact Ob.same (by assumption) (by walk_at "ob")) | (exact Ob.ks (by assumption) (by walk_at "ob")))
local macro_rules | `(tactic| walk_at "nd") => `(tactic| first | assumption | (exact Nd.same (by assumption) (by walk_at "nd")) | (exact Nd.ks (by assumption) (by walk_at "nd")))
local macro_rules | `(tactic| walk_at "df") => `(tactic| first | assumption | exact df_sc rfl | (exact df_vr (by assumption) (by walk_at "lk")) | (exact df_rv (by assumption) (by walk_at "ob")) | (exact df_vv (by assumption) (by walk_at "ob")) | (exact Df.symm (df_vv (by assumption) (by walk_at "ob"))))
local macro_rules | `(tactic| walk_at "hc") => `(tactic| (with_reducible show sp_is_whole _ _ _ _ _); (refine u_is_whole (by walk_at "kd") ?_))
local macro_rules | `(tactic| walk_at "hc") => `(tactic| (with_reducible show sp_is_between _ _ _ _ _); (refine u_is_between (by walk_at "kd") ?_))
local macro_rules | `(tactic| walk_at "hc") => `(tactic| (with_reducible show sp_is_day _ _ _ _ _); (refine u_is_day (by walk_at "kd") ?_))
local macro_rules | `(tactic| walk_at "hc") => `(tactic| (with_reducible refine u_is_leap_year ?_))
local macro_rules | `(tactic| walk_at "hc") => `(tactic| (with_reducible refine' u_length_of ?k1 ?k2 ?_); (case k1 => omega); (case k2 => omega))
local macro_rules | `(tactic| walk_at "hc") => `(tactic| (with_reducible refine' u_year_begin ?k1 ?k2 ?_); (case k1 => omega); (case k2 => omega))
local macro_rules | `(tactic| walk_at "hc") => `(tactic| (with_reducible refine' u_month_begin ?k1 ?k2 ?k3 ?k4 ?_); (case k1 => omega); (case k2 => omega); (case k3 => omega); (case k4 => omega); intro _ _)
local macro_rules | `(tactic| walk_at "hc") => `(tactic| (with_reducible show sp__law_take _ _ _ _ _); (refine u__law_take (by walk_at "bx") (by omega) (by omega) (by omega) ?_); intro _ _ _ _ _ _)
local macro_rules | `(tactic| walk_at "hc") => `(tactic| (with_reducible refine u__law_leap ?_))
local macro_rules | `(tactic| walk_at "hc") => `(tactic| (with_reducible show sp__law_length _ _ _ _ _); (refine u__law_length (by omega) (by omega) ?_); intro _ _)
local macro_rules | `(tactic| walk_at "hc") => `(tactic| (with_reducible show sp__law_next _ _ _ _ _); (refine u__law_next (by walk_at "st") (by omega) (by omega) ?_); intro _ _ _ _ _)
local macro_rules | `(tactic| walk_at "hc") => `(tactic| (with_reducible show sp__law_no_number _ _ _ _ _); (refine u__law_no_number (by walk_at "bx") (by omega) (by omega) (by omega) ?_); intro _ _ _ _ _ _ _)
local macro_rules | `(tactic| walk_at "hc") => `(tactic| (with_reducible refine u_weekday_at ?_))
local macro_rules | `(tactic| walk_at "hc") => `(tactic| (with_reducible show sp_first_monday _ _ _ _ _); (refine u_first_monday (by omega) (by omega) ?_))
local macro_rules | `(tactic| walk_at "hc") => `(tactic| (with_reducible show sp_weeks_of _ _ _ _ _); (refine u_weeks_of (by omega) (by omega) ?_))
local macro_rules | `(tactic| walk_at "hc") => `(tactic| (with_reducible show sp__law_begin _ _ _ _ _); (refine u__law_begin (by omega) (by omega) ?_))
local macro_rules | `(tactic| walk_at "hc") => `(tactic| (with_reducible show sp__law_weeks _ _ _ _ _); (refine u__law_weeks (by omega) (by omega) ?_))
local macro_rules | `(tactic| walk_at "hc") => `(tactic| (with_reducible show sp__law_year _ _ _ _ _); (refine u__law_year (by walk_at "bx") (by omega) ?_); intro _ _ _ _ _ _)
variable {K : PySem.W.Frag}
theorem p__law_days_right (vs : List V) (H : Hp) (Q : VK) (E : XK) (h : sp__law_days_right K vs H Q E) : t__law_days_right K E (D0 Q) (start N__law_days_right vs) H := by
  obtain ⟨b, c, nm, rfl, hb, hc, q⟩ := h
  walk_at "hs"
  refine for_range (lo := 0) (n := 4) (fun i σ H2 => ∃ s2 s3 s4 s5, σ = [some (.ref b), some (.bl nm), s2, s3, s4, s5] ∧ Ks H H2 ∧ BoxAt H2 b (c + 10 * (i : Int)))
    ⟨_, _, _, _, rfl, Ks.refl _, by simpa using hb⟩ ?_ ?_
  · rintro i σ H2 hi ⟨s2, s3, s4, s5, rfl, e, hb⟩
    have i1 : (i : Int) < 4 := by omega
    have e1 : c + 10 * ((i + 1 : Nat) : Int) = c + 10 * (i : Int) + 10 := by omega
    rw [e1]
    clear e1 hi
    generalize hk : c + 10 * (i : Int) = k at *
    have k0 : k < 750000000 := by omega
    clear hk
    walk_at "hs"
    refine w_ixl_int 2000 2000001999 7 (by walk_at "sl") rfl (by omega) (by omega) (by walk_at "rg") fun y y0 y1 => ?_
    have yb0 : 0 ≤ yb y := by unfold yb; omega
    have yb1 : yb y ≤ 900000000000 := by unfold yb; omega
    walk_at "hs"
    refine w_ixl_int 0 3 6 (by walk_at "sl") rfl (by omega) (by omega) (by walk_at "rg") fun j j0 j1 => ?_
    refine w_ixl_int 0 999999999992 4 (by walk_at "sl") rfl (by omega) (by omega) (by walk_at "rg") fun f f0 f1 => ?_
    rename_i Hn _ _ _ bn
    have kn : BoxAt Hn b (k + 10) := BoxAt.mono bn (by omega)
    have kk : Ks H2 Hn := by walk_at "ks"
    walk_at "hs"
    rw [show (f + 8 - f).toNat = 8 by omega]
    refine for_range (lo := f) (n := 8) (fun u σ H5 => ∃ s5, σ = [some (.ref b), some (.bl nm), some (.int (0 + (i : Int))), some (.int y), some (.int f), s5] ∧ Same Hn H5)
      ⟨_, rfl, Same.refl _⟩ ?_ ?_
    · rintro u σ H5 hu ⟨s5, rfl, e5⟩
      have u0 : 0 ≤ f + (u : Int) := by omega
      have u1 : f + (u : Int) ≤ 1000000000000 := by omega
      generalize f + (u : Int) = n at *
      clear kn kk hb e
      walk_at "hs"
      rename_i pa H6 n6 s6 h6
      refine u__law_told (d := .int (wd n)) (by simp [okD]) (.int _) (fun H7 bo e7 Q' kq => u_ask_weekday (e7 _ _ h6) u0 u1 fun l H8 e8 hl8 => kq _ l H8 e8 (.int _) hl8) fun H7 e7 => ?_
      walk_at "hs"
      rename_i pb H8 n8 s8 h8
      refine u__law_week u0 (by omega) fun w kw p H9 hw e9 hp => ?_
      walk_at "hs"
      refine u__law_told (d := .tuple [.int w, .int kw]) (by simp [okD, okAll]) (.tup (t_of hp) (.cons (.int _) (.cons (.int _) .nil))) (fun H10 bo e10 Q' kq => u_ask_week hw (e10 _ _ (e9 _ _ h8)) u0 u1 fun p' l H11 e11 hp11 hl11 => kq _ l H11 e11 (.tup (t_of hp11) (.cons (.int _) (.cons (.int _) .nil))) hl11) fun H10 e10 => ?_
      walk_at "hs"
      exact ⟨_, rfl, by walk_at "sm"⟩
    · rintro σ H5 ⟨s5, rfl, e5⟩
      exact ⟨_, _, _, _, rfl, Ks.trans e (Ks.trans kk (Ks.of e5)), kn.same e5⟩
  · rintro σ H2 ⟨s2, s3, s4, s5, rfl, e, hb⟩
    walk_at "hs"
    exact q _ e (hb.mono (by omega))
end My
set_option linter.all false
set_option maxRecDepth 100000
set_option maxHeartbeats 2000000
namespace My
open PySem PySem.Spec PyProof.Rows L2 Kx
local macro_rules | `(tactic| walk_at "lk") => `(tactic| first | assumption | ((with_reducible show upd _ _ _ _ = _); (first | exact upd_same | (exact up_new (by assumption) (by walk_at "lk")) | (exact up_other (by assumption) (by walk_at "lk")))) | (exact (by assumption : Same _ _) _ _ (by walk_at "lk")) | (exact ks_get (by assumption) (by walk_at "lk") (by first | rfl | assumption | exact notBox_len rfl)))
local macro_rules | `(tactic| walk_at "sl") => `(tactic| first | assumption | (exact l_of (by walk_at "lk")) | (exact Same.seq (by assumption) (by walk_at "sl")) | ((with_reducible show SqL _ (upd _ _ _) _ _); (exact Same.seq (sm_new (by assumption)) (by walk_at "sl"))))
local macro_rules | `(tactic| walk_at "st") => `(tactic| first | assumption | (exact t_of (by walk_at "lk")) | (exact Kx.Same.tup (by assumption) (by walk_at "st")) | ((with_reducible show SqT _ (upd _ _ _) _ _); (exact Kx.Same.tup (sm_new (by assumption)) (by walk_at "st"))) | (exact ks_tup (by assumption) (by walk_at "st")))
local macro_rules | `(tactic| walk_at "kd") => `(tactic| first | assumption | exact .non | exact .bl _ | exact .int _ | exact .str _ | (exact .lst (by walk_at "sl")) | (exact .tup (by walk_at "st")) | (exact .dic (by walk_at "lk")) | (exact Kd.same (by assumption) (by walk_at "kd")) | ((with_reducible show Kd _ (upd _ _ _) _ _); (exact Kd.same (sm_new (by assumption)) (by walk_at "kd"))))
local macro_rules | `(tactic| walk_at "tt") => `(tactic| first | rfl | assumption | decide +kernel | (simp only [decide_eq_true_eq, Bool.not_eq_true', decide_eq_false_iff_not, Bool.and_eq_true, Bool.or_eq_true]; omega))
local macro_rules | `(tactic| walk_at "ff") => `(tactic| first | rfl | assumption | decide +kernel | (simp only [decide_eq_true_eq, Bool.not_eq_false', decide_eq_false_iff_not, Bool.and_eq_false_imp, Bool.or_eq_false_iff]; omega))
local macro_rules | `(tactic| walk_at "hc") => `(tactic| fail)
local macro_rules | `(tactic| walk_at "hif") => `(tactic| ((with_reducible refine w_b2 ?_ ?_) <;> intro))
local macro_rules | `(tactic| walk_at "hs1") => `(tactic| first
  | (with_reducible refine w_seq ?_)
  | (with_reducible refine w_asg ?_)
  | ((with_reducible refine' w_var ?k1 ?_); (case k1 => exact rfl))
  | (with_reducible refine w_c ?_)
  | (with_reducible refine w_op ?_)
  | (with_reducible refine w_cons ?_)
  | (with_reducible refine w_nil ?_)
  | (with_reducible refine w_name ?_)
  | (with_reducible refine w_kn ?_)
  | (with_reducible refine w_kx ?_)
  | (with_reducible refine w_kk ?_)
  | (with_reducible refine w_cb ?_)
  | (with_reducible refine w_if ?_)
  | (with_reducible refine w_test ?_)
  | (with_reducible refine w_exb ?_)
  | (with_reducible refine iteT ?_)
  | (with_reducible refine iteF ?_)
  | ((with_reducible refine w_bt ?_ ?_); (first | rfl | decide +kernel))
  | ((with_reducible refine w_bf ?_ ?_); (first | rfl | decide +kernel))
  | ((with_reducible refine w_bt ?_ ?_); (walk_at "tt"))
  | ((with_reducible refine w_bf ?_ ?_); (walk_at "ff"))
  | (with_reducible refine w_ret ?_)
  | (with_reducible refine w_retN ?_)
  | (with_reducible refine w_drop ?_)
  | (with_reducible refine w_next ?_)
  | (with_reducible refine w_brk ?_)
  | (with_reducible refine w_cont ?_)
  | (with_reducible refine w_and ?_)
  | (with_reducible refine w_or ?_)
  | (with_reducible refine w_not ?_)
  | (with_reducible refine w_tr ?_)
  | (with_reducible refine w_yes ?_)
  | (with_reducible refine w_tru_bl ?_)
  | (with_reducible refine w_tru_int ?_)
  | (with_reducible refine w_tru_non ?_)
  | (with_reducible refine w_andV ?_)
  | (with_reducible refine w_orV ?_)
  | (with_reducible refine w_notV ?_)
  | (with_reducible refine w_ifx ?_)
  | (with_reducible refine w_chain ?_)
  | (with_reducible refine w_un ?_)
  | (with_reducible refine n_tup ?_)
  | (with_reducible refine n_lst ?_)
  | ((with_reducible show kTup _ _ _); (refine n_ktup rfl ?_); intro _ _ _ _ _)
  | ((with_reducible show kLst _ _ _); (refine n_klst rfl ?_); intro _ _ _ _ _)
  | (with_reducible refine w_par ?_)
  | (with_reducible refine w_par2 ?_)
  | (with_reducible refine w_par3 ?_)
  | (with_reducible refine w_par33 ?_)
  | ((with_reducible refine' w_aug ?k1 ?_); (case k1 => exact rfl))
  | (with_reducible refine w_raise ?_)
  | (with_reducible refine w_mkdue ?_)
  | (with_reducible refine w_one ?_)
  | ((with_reducible show gSq _ _ _ (V.ref _) _ _ _); (first | (refine n_gsq (by walk_at "lk") (by exact rfl) (by exact rfl) ?_) | (refine w_gtup (by walk_at "st") (by exact rfl) ?_) | (refine w_glst (by walk_at "sl") (by exact rfl) ?_)))
  | (with_reducible refine w_gcons ?_)
  | (with_reducible refine w_gnil ?_)
  | (with_reducible refine w_bm ?_)
  | ((with_reducible show tyV _ "list" (V.ref _) _ ∧ _); (refine w_tyl (by walk_at "sl") ?_))
  | (with_reducible refine w_for ?_)
  | (with_reducible refine w_rng1 ?_)
  | (with_reducible refine w_rng2 ?_)
  | (with_reducible refine w_add_ii ?_)
  | (with_reducible refine w_sub_ii ?_)
  | ((with_reducible refine w_fdv_ii ?_ ?_ ?_); (first | decide | omega); (first | decide | omega))
  | ((with_reducible refine w_mul_b ?_ ?_ ?_); (refine ⟨?_, ?_⟩ <;> omega); (refine ⟨?_, ?_⟩ <;> omega))
  | ((with_reducible refine w_mod_ii ?_ ?_); (first | decide | omega))
  | (with_reducible refine w_neg_i ?_)
  | (with_reducible refine w_lt_ii ?_)
  | (with_reducible refine w_le_ii ?_)
  | (with_reducible refine w_gt_ii ?_)
  | (with_reducible refine w_ge_ii ?_)
  | (with_reducible refine w_eq_ii ?_)
  | (with_reducible refine w_ne_ii ?_)
  | (with_reducible refine n_eq_same ?_)
  | (with_reducible refine n_ne_same ?_)
  | (with_reducible refine w_eq_ss ?_)
  | (with_reducible refine w_ne_ss ?_)
  | (with_reducible refine w_eq_bb ?_)
  | (with_reducible refine w_ne_bb ?_)
  | (with_reducible refine w_is_n ?_)
  | (with_reducible refine w_isn_n ?_)
  | (with_reducible refine w_is_bb ?_)
  | (with_reducible refine w_isn_bb ?_)
  | ((with_reducible show rIx _ (V.ref _) (V.int _) _ _); (first | (refine n_ix (by decide) (by walk_at "lk") (by exact rfl) ?_) | (refine n_ixl (by decide) (by walk_at "sl") (by exact rfl) ?_) | (refine n_ixt (by decide) (by walk_at "st") (by exact rfl) ?_)))
  | (with_reducible refine w_ipadd ?_)
  | (with_reducible refine w_ipsub ?_)
  | (with_reducible refine w_int_i ?_)
  | (with_reducible refine w_int_b ?_)
  | (with_reducible refine w_abs ?_)
  | ((with_reducible refine w_max2r ?_); intro _ _ _ _)
  | ((with_reducible refine w_min2r ?_); intro _ _ _ _)
  | ((with_reducible show uLen _ [V.ref _] _ _); (first | (refine n_len (by walk_at "lk") (by exact rfl) ?_) | (refine w_len_l (by walk_at "sl") ?_) | (refine w_len_t (by walk_at "st") ?_) | (refine w_len_d (by walk_at "lk") ?_)))
  | ((with_reducible show uIsi _ [_, V.ty _] _ _); (refine w_isk (by walk_at "kd") (by decide) ?_))
  | ((with_reducible show uIsi _ [_, V.ref _] _ _); (refine w_isk2 (by walk_at "lk") (by walk_at "kd") (by decide) (by decide) ?_))
  | (with_reducible refine w_wN ?_)
  | (with_reducible refine w_lc ?_)
  | ((with_reducible refine' w_rng2e ?k1 ?_); (case k1 => (refine ⟨?_, ?_, ?_, ?_⟩ <;> omega)))
  | ((with_reducible refine' w_rng1e ?k1 ?k2 ?_); (case k1 => omega); (case k2 => omega))
  | ((with_reducible show ∃ a', V.ref _ = .ref a' ∧ (∃ xs, SqL _ _ a' xs) ∧ _); (refine w_sqLe (by walk_at "sl") ?_))
  | ((with_reducible show ∃ a', V.ref _ = .ref a' ∧ (∃ xs, SqT _ _ a' xs) ∧ _); (refine w_sqTe (by walk_at "st") ?_))
  | (with_reducible refine w_slc ?_)
  | (with_reducible refine w_nop ?_)
  | (with_reducible refine w_part ?_)
  | (with_reducible refine w_exi ?_)
  | ((with_reducible show uSl _ (V.ref _) _ _ _ _); (refine n_slL (by walk_at "sl") ?_); intro _ _ _ _ _)
  | (with_reducible refine w_gsub ?_)
  | ((with_reducible show rSetL (V.ref _) (V.int _) _ _ _); (refine w_setl (by walk_at "lk") (by exact rfl) ?_))
  | (with_reducible refine w_pow_9 ?_)
  | (with_reducible refine w_pow_12 ?_)
  | (with_reducible refine w_pow_13 ?_)
  | (with_reducible refine w_pow_18 ?_)
  | (with_reducible refine w_pow_29 ?_)
  | ((with_reducible refine n_disp1 ?_); intro _ _ _ _ _)
  | (with_reducible refine w_dput ?_)
  | ((with_reducible show rAppend (V.ref _) [_] _ _); (refine w_append (by walk_at "lk") (by first | omega | (exact Nat.lt_of_le_of_lt (wN_le rfl) (by decide))) ?_))
  | ((with_reducible show ∃ a' H4, V.ref _ = .ref a' ∧ DPut _ a' (V.str _) _ H4 ∧ _); (refine w_dputS (by walk_at "lk") (by first | omega | exact wN_le rfl) ?_))
  | (with_reducible refine w_try ?_)
  | ((with_reducible show wManyA _ _ _ _ (.ref (He.ga _ _)) _ _ _); (first | ((refine w_hit (ExT.ex (by assumption) _ (by decide) _ (by decide)) ?_); intro _ _) | (refine w_miss (ExT.ex (by assumption) _ (by decide) _ (by decide)) ?_)))
  | (with_reducible refine w_xg ?_)
  | ((with_reducible show V.ref _ = .ref _ ∧ ∃ _ _ _ _, Value.ref (He.ga _ _) = _ ∧ _); (refine w_xge (ExT.xf (by assumption) _ (by decide)) (ExT.fg (by assumption) _ (by decide)) (by walk_at "lk") ?_))
  | ((with_reducible show rIsX _ (.ref (He.ga _ _)) _ _ _ _ _); (refine w_isx (ExT.xx (by assumption) _ (by decide)) (ExT.kd (by assumption) _ (by decide)) (by walk_at "lk") ?_))
  | ((with_reducible show uAdd _ (V.ref _) (V.ref _) _ _); (refine n_add_ll (by walk_at "lk") (by walk_at "lk") rfl ?_); intro _ _ _ _ _)
  | ((with_reducible show iSeq _ (tLst _) _ _ _); (refine w_sqL ?_))
  | ((with_reducible show iSeq _ (tTup _) _ _ _); (refine w_sqT ?_))
  | (refine ⟨(rfl : wipe _ _ = wipe _ _), ?_⟩)
  | (walk_at "hc"))
local macro_rules | `(tactic| walk_at "hs") => `(tactic| repeat' (walk_at "hs1"))

local macro_rules | `(tactic| walk_at "rg") => `(tactic| repeat' (first | exact rg_nil | (refine rg_cons (by omega) (by omega) ?_)))
local macro_rules | `(tactic| walk_at "sm") => `(tactic| first | exact Same.refl _ | assumption | ((with_reducible show Same _ (upd _ _ _)); (refine Same.trans ?_ (sm_new (by assumption))); walk_at "sm") | ((refine Same.trans ?_ (by assumption)); walk_at "sm"))
local macro_rules | `(tactic| walk_at "bx") => `(tactic| first | assumption | ((with_reducible show BoxAt (upd _ _ _) _ _); (exact BoxAt.new (by assumption) (by walk_at "bx"))) | (exact BoxAt.same (by assumption) (by walk_at "bx")))
local macro_rules | `(tactic| walk_at "ks") => `(tactic| first | exact Ks.refl _ | assumption | ((with_reducible show Ks _ (upd _ _ _)); (refine Ks.trans ?_ (Ks.of (sm_new (by assumption))); walk_at "ks")) | (refine Ks.trans ?_ (by assumption); walk_at "ks") | (refine Ks.trans ?_ (Ks.of (by assumption)); walk_at "ks"))
local macro_rules | `(tactic| walk_at "ob") => `(tactic| first | assumption | exact .sc rfl | (exact Ob.same (by assumption) (by walk_at "ob")) | (exact Ob.ks (by assumption) (by walk_at "ob")))
local macro_rules | `(tactic| walk_at "nd") => `(tactic| first | assumption | (exact Nd.same (by assumption) (by walk_at "nd")) | (exact Nd.ks (by assumption) (by walk_at "nd")))
local macro_rules | `(tactic| walk_at "df") => `(tactic| first | assumption | exact df_sc rfl | (exact df_vr (by assumption) (by walk_at "lk")) | (exact df_rv (by assumption) (by walk_at "ob")) | (exact df_vv (by assumption) (by walk_at "ob")) | (exact Df.symm (df_vv (by assumption) (by walk_at "ob"))))
local macro_rules | `(tactic| walk_at "hc") => `(tactic| (with_reducible show sp_is_whole _ _ _ _ _); (refine u_is_whole (by walk_at "kd") ?_))
local macro_rules | `(tactic| walk_at "hc") => `(tactic| (with_reducible show sp_is_between _ _ _ _ _); (refine u_is_between (by walk_at "kd") ?_))
local macro_rules | `(tactic| walk_at "hc") => `(tactic| (with_reducible show sp_is_day _ _ _ _ _); (refine u_is_day (by walk_at "kd") ?_))
local macro_rules | `(tactic| walk_at "hc") => `(tactic| (with_reducible refine u_is_leap_year ?_))
local macro_rules | `(tactic| walk_at "hc") => `(tactic| (with_reducible refine' u_length_of ?k1 ?k2 ?_); (case k1 => omega); (case k2 => omega))
local macro_rules | `(tactic| walk_at "hc") => `(tactic| (with_reducible refine' u_year_begin ?k1 ?k2 ?_); (case k1 => omega); (case k2 => omega))
local macro_rules | `(tactic| walk_at "hc") => `(tactic| (with_reducible refine' u_month_begin ?k1 ?k2 ?k3 ?k4 ?_); (case k1 => omega); (case k2 => omega); (case k3 => omega); (case k4 => omega); intro _ _)
local macro_rules | `(tactic| walk_at "hc") => `(tactic| (with_reducible show sp__law_take _ _ _ _ _); (refine u__law_take (by walk_at "bx") (by omega) (by omega) (by omega) ?_); intro _ _ _ _ _ _)
local macro_rules | `(tactic| walk_at "hc") => `(tactic| (with_reducible refine u__law_leap ?_))
local macro_rules | `(tactic| walk_at "hc") => `(tactic| (with_reducible show sp__law_length _ _ _ _ _); (refine u__law_length (by omega) (by omega) ?_); intro _ _)
local macro_rules | `(tactic| walk_at "hc") => `(tactic| (with_reducible show sp__law_next _ _ _ _ _); (refine u__law_next (by walk_at "st") (by omega) (by omega) ?_); intro _ _ _ _ _)
local macro_rules | `(tactic| walk_at "hc") => `(tactic| (with_reducible show sp__law_no_number _ _ _ _ _); (refine u__law_no_number (by walk_at "bx") (by omega) (by omega) (by omega) ?_); intro _ _ _ _ _ _ _)
local macro_rules | `(tactic| walk_at "hc") => `(tactic| (with_reducible refine u_weekday_at ?_))
local macro_rules | `(tactic| walk_at "hc") => `(tactic| (with_reducible show sp_first_monday _ _ _ _ _); (refine u_first_monday (by omega) (by omega) ?_))
local macro_rules | `(tactic| walk_at "hc") => `(tactic| (with_reducible show sp_weeks_of _ _ _ _ _); (refine u_weeks_of (by omega) (by omega) ?_))
local macro_rules | `(tactic| walk_at "hc") => `(tactic| (with_reducible show sp__law_begin _ _ _ _ _); (refine u__law_begin (by omega) (by omega) ?_))
local macro_rules | `(tactic| walk_at "hc") => `(tactic| (with_reducible show sp__law_weeks _ _ _ _ _); (refine u__law_weeks (by omega) (by omega) ?_))
local macro_rules | `(tactic| walk_at "hc") => `(tactic| (with_reducible show sp__law_year _ _ _ _ _); (refine u__law_year (by walk_at "bx") (by omega) ?_); intro _ _ _ _ _ _)
variable {K : PySem.W.Frag}
theorem u__law_days_right {H : Hp} {Q : VK} {E : XK} {b : Addr} {c : Int} {nm : Bool} (hb : BoxAt H b c) (hc : c < 700000000) (q : ∀ H', Ks H H' → BoxAt H' b (c + 40) → Q (.bl true) H') : sp__law_days_right K [.ref b, .bl nm] H Q E := ⟨b, c, nm, rfl, hb, hc, q⟩
theorem stV_succ (a c : Int) (n : Nat) : stV a c (n + 1) = stV a c n ++ [.int (a + (n : Int) * c)] := by
  unfold stV
  rw [List.range_succ, List.map_append]
  rfl
/-- how many of the first i days of a month have the weekday that its first with it has at A -/
def cI (A : Int) (i : Nat) : Nat := (((i : Int) + 7 - A) / 7).toNat
theorem cI_hit {f A : Int} {i : Nat} (A0 : 1 ≤ A) (A1 : A ≤ 7) (h : ((i : Int) + 1 - A) % 7 = 0) : cI A (i + 1) = cI A i + 1 ∧ f + (A - 1) + (cI A i : Int) * 7 = f + (i : Int) := by
  unfold cI
  omega
theorem cI_miss {A : Int} {i : Nat} (A0 : 1 ≤ A) (A1 : A ≤ 7) (h : ¬ ((i : Int) + 1 - A) % 7 = 0) : cI A (i + 1) = cI A i := by
  unfold cI
  omega
theorem cI_nC {f w l : Int} (f0 : 0 ≤ f) (f1 : f ≤ 6) (w0 : 0 ≤ w) (w1 : w ≤ 6) (l0 : 28 ≤ l) (l1 : l ≤ 31) : (cI (nA f w) l.toNat : Int) = nC l f w := by
  unfold cI nC nA
  omega
def pO : Option Int → PyData
  | none => .none
  | some r => .int r
theorem u_ask_nth {H : Hp} {Q : VK} {E : XK} {y m k d : Int} {a : Addr} {nm : Bool} (ha : H a = some (.lst [.int y, .int m, .int k, .int d])) (y0 : 2000 ≤ y) (y1 : y ≤ 2700000000) (m0 : 1 ≤ m) (m1 : m ≤ 12) (k0 : -5 ≤ k) (k1 : k ≤ 5) (kz : k ≠ 0) (d0 : 0 ≤ d) (d1 : d ≤ 6)
    (q : ∀ l H', Same H H' → H' l = some (.lst [.str "told", oV (nthD y m k d)]) → Q (.ref l) H') :
    sp__law_ask K [.str "nth", .ref a, .bl nm] H Q E := by
  have hn : numOk (.int k) = true := by
    unfold numOk
    rw [betw_t k0 k1]
    simpa using kz
  refine ⟨_, a, _, _, rfl, ha, kds_ints [y, m, k, d], .inr (.inr (.inr (.inr ⟨rfl, _, _, _, _, rfl, fun y' m' k' d' e1 e2 e3 e4 _ _ _ _ => (by cases e1; cases e2; cases e3; cases e4; exact q), fun c => ?_, fun _ c => ?_, fun _ _ c => ?_, fun _ _ _ c => ?_⟩)))⟩
  · rw [betw_t y0 y1] at c; cases c
  · rw [betw_t m0 m1] at c; cases c
  · rw [hn] at c; cases c
  · rw [betw_t d0 d1] at c; cases c
theorem p__law_months_right (vs : List V) (H : Hp) (Q : VK) (E : XK) (h : sp__law_months_right K vs H Q E) : t__law_months_right K E (D0 Q) (start N__law_months_right vs) H := by
  obtain ⟨b, c, nm, rfl, hb, hc, q⟩ := h
  walk_at "hs"
  refine for_range (lo := 0) (n := 6) (fun i σ H2 => ∃ s2 s3 s4 s5 s6 s7 s8 s9 s10 s11, σ = [some (.ref b), some (.bl nm), s2, s3, s4, s5, s6, s7, s8, s9, s10, s11] ∧ Ks H H2 ∧ BoxAt H2 b (c + 10 * (i : Int)))
    ⟨_, _, _, _, _, _, _, _, _, _, rfl, Ks.refl _, by simpa using hb⟩ ?_ ?_
  · rintro i σ H2 hi ⟨s2, s3, s4, s5, s6, s7, s8, s9, s10, s11, rfl, e, hb⟩
    have i1 : (i : Int) < 6 := by omega
    have e1 : c + 10 * ((i + 1 : Nat) : Int) = c + 10 * (i : Int) + 10 := by omega
    rw [e1]
    clear e1 hi
    generalize hk : c + 10 * (i : Int) = k at *
    have k0 : k < 750000000 := by omega
    clear hk
    walk_at "hs"
    refine w_ixl_int 1 12 2 (by walk_at "sl") rfl (by omega) (by omega) (by walk_at "rg") fun m m0 m1 => ?_
    walk_at "hs"
    rename_i y H3 y0 y1 k3 b3 r1 H4 r10 r11 k4 b4 p1 H5 n5 s5' h5 r2 H6 r20 r21 k6 b6 w H7 w0 w1 k7 b7 p2 H8 n8 s8' h8
    have k8 : Ks H2 H8 := by walk_at "ks"
    have b8 : BoxAt H8 b (k + 6) := BoxAt.mono (by walk_at "bx") (by omega)
    clear k3 b3 k4 b4 n5 s5' h5 k6 b6 k7 b7 n8 s8' h8 hb
    intro D hD
    refine lc_range (lo := 1) (n := (m - 1).toNat) (LcP H8 D fun i => ((List.range i).map fun (j : Nat) => mlen y (1 + (j : Int))).map V.int) (LcP.zero hD rfl) ?_ ?_
    · intro j H' hj P
      walk_at "hs"
      refine LcP.one P (by walk_at "sm") hD ?_ ?_
      · simp; omega
      · simp [List.range_succ]
    · intro H9 P
      walk_at "hs"
      refine w_sum (l_of P.2) ?_
      rw [ahead_sum]
      have hmb : yb y + ahead y (m - 1).toNat = mb y m := rfl
      have e9 := P.1
      have hlD := P.2
      have ml := mlen_le y m
      have hi : IsD (mb y m) y m 1 := ⟨m0, m1, by omega, by omega, by omega⟩
      have hy := hi.year
      have f0 : 0 ≤ mb y m := by have := hy.1; unfold yb at this; omega
      have f1 : mb y m ≤ 990000000000 := by have := hy.2; unfold yb at this; omega
      refine w_add_ii ?_
      rw [hmb]
      clear P hlD hy hi hmb
      obtain ⟨F, hF⟩ : ∃ F, F = wd (mb y m) := ⟨_, rfl⟩
      have F0 : 0 ≤ F := by rw [hF]; unfold wd; omega
      have F1 : F ≤ 6 := by rw [hF]; unfold wd; omega
      have due : ∀ num, nthD y m num w = (match nthM (mlen y m) F num w with
        | none => none
        | some f => some (mb y m + f - 1)) := fun num => by unfold nthD; rw [← hF]; first | done | (cases nthM (mlen y m) F num w <;> rfl)
      have wdf : ∀ i : Nat, ((mb y m + (i : Int) + 5) % 7 = w) ↔ (((i : Int) + 1 - nA F w) % 7 = 0) := fun i => by
        unfold nA
        unfold wd at hF
        omega
      have A0 : 1 ≤ nA F w := by unfold nA; omega
      have A1 : nA F w ≤ 7 := by unfold nA; omega
      have hC := cI_nC (l := mlen y m) F0 F1 w0 (by omega) ml.1 ml.2
      clear hF
      generalize mb y m = f at *
      generalize hl : mlen y m = l at *
      walk_at "hs"
      rename_i H10 e10
      rw [show (f + mlen y m - f).toNat = l.toNat by omega]
      intro D2 hD2
      refine lc_range (lo := f) (n := l.toNat) (LcP H10 D2 fun i => stV (f + (nA F w - 1)) 7 (cI (nA F w) i)) (LcP.zero hD2 ?_) ?_ ?_
      · have : cI (nA F w) 0 = 0 := by unfold cI; omega
        show stV _ 7 (cI (nA F w) 0) = []
        rw [this]
        rfl
      · intro j H' hj P
        walk_at "hs"
        refine w_b2 (fun c => ?_) (fun c => ?_)
        · have c := (wdf j).mp (of_decide_eq_true c)
          obtain ⟨c1, c2⟩ := cI_hit (f := f) A0 A1 c
          walk_at "hs"
          refine LcP.one P (Same.refl _) hD2 ?_ ?_
          · show (stV _ 7 (cI _ j)).length < 1000000
            rw [stV_len]
            unfold cI; omega
          · show stV _ 7 (cI _ (j + 1)) = stV _ 7 (cI _ j) ++ _
            rw [c1, stV_succ, c2]
        · have c : ¬ ((j : Int) + 1 - nA F w) % 7 = 0 := fun z => of_decide_eq_false c ((wdf j).mpr z)
          have c1 := cI_miss A0 A1 c
          walk_at "hs"
          refine LcP.no P (Same.refl _) ?_
          show stV _ 7 (cI _ (j + 1)) = stV _ 7 (cI _ j)
          rw [c1]
      · intro H11 P
        have e11 := P.1
        have h11 : H11 D2 = some (.lst (stV (f + (nA F w - 1)) 7 (cI (nA F w) l.toNat))) := P.2
        have nbx : notBox (.lst (stV (f + (nA F w - 1)) 7 (cI (nA F w) l.toNat))) = true := by
          unfold stV
          rw [show (List.range (cI (nA F w) l.toNat)).map (fun (i : Nat) => V.int (f + (nA F w - 1) + (i : Int) * 7)) = ((List.range (cI (nA F w) l.toNat)).map fun (i : Nat) => (f + (nA F w - 1) + (i : Int) * 7)).map V.int by rw [List.map_map]; rfl]
          exact notBox_int _
        have ks11 : Ks H2 H11 := by walk_at "ks"
        have b11 : BoxAt H11 b (k + 6) := by walk_at "bx"
        clear P k8 b8 hD hD2 wdf e11 e10 e9
        walk_at "hs"
        rename_i t1 H12 t10 t11 k12 b12 t2 H13 t20 t21 k13 b13 pl H14 n14 s14 h14
        have hv : ∀ v ∈ [V.int (1 + t1), V.int (0 - 1 - t2), V.int 5, V.int (-5)], ∃ num, v = .int num ∧ -5 ≤ num ∧ num ≤ 5 ∧ num ≠ 0 :=
          fm_cons ⟨_, rfl, by omega, by omega, by omega⟩ (fm_cons ⟨_, rfl, by omega, by omega, by omega⟩ (fm_cons ⟨_, rfl, by omega, by omega, by omega⟩ (fm_cons ⟨_, rfl, by omega, by omega, by omega⟩ fm_nil)))
        have h14D : H14 D2 = some (.lst (stV (f + (nA F w - 1)) 7 (cI (nA F w) l.toNat))) := s14 _ _ (ks_get k13 (ks_get k12 h11 nbx) nbx)
        have ks14 : Ks H2 H14 := Ks.trans ks11 (Ks.trans k12 (Ks.trans k13 (Ks.of s14)))
        have b14 : BoxAt H14 b (k + 10) := BoxAt.mono (BoxAt.same s14 b13) (by omega)
        clear ks11 b11 k12 b12 k13 b13 n14 s14 h11 nbx
        refine for_list (xs := [V.int (1 + t1), V.int (0 - 1 - t2), V.int 5, V.int (-5)]) (fun j σ H3 => ∃ s8 s9 s10 s11, σ = [some (.ref b), some (.bl nm), some (.int (0 + (i : Int))), some (.int y), some (.int m), some (.int w), some (.int f), some (.ref D2), s8, s9, s10, s11] ∧ Same H14 H3)
          ⟨_, _, _, _, rfl, Same.refl _⟩ (fun _ _ _ _ ⟨_, _, _, _, _, e3⟩ => l_of (e3 _ _ h14)) ?_ ?_
        · rintro j v σ H3 hx ⟨s8, s9, s10, s11, rfl, e3⟩
          obtain ⟨num, rfl, n0, n1, nz⟩ := hv v (List.mem_of_getElem? hx)
          have h3 := e3 _ _ h14D
          have told : ∀ (o : Option Int) (pa : Addr) (Ha : Hp) (Q' : VK), nthD y m num w = o → Ha pa = some (.lst [.int y, .int m, .int num, .int w]) → (∀ H', Same Ha H' → Q' (.bl true) H') → sp__law_told K [.str "nth", .ref pa, oV o, .bl nm] Ha Q' E00 := by
            intro o pa Ha Q' eo ha kd
            subst eo
            exact u__law_told (d := pO (nthD y m num w)) (by cases nthD y m num w <;> simp [pO, okD]) (by cases nthD y m num w <;> constructor) (fun H7 bo e7 Q' kq => u_ask_nth (e7 _ _ ha) y0 y1 m0 m1 n0 n1 nz w0 (by omega) fun l H8 e8 hl8 => kq _ l H8 e8 (by cases nthD y m num w <;> constructor) hl8) kd
          have du := due num
          unfold nthM at du
          walk_at "hs"
          rw [stV_len, hC]
          refine w_b2 (fun c => ?_) (fun c => ?_)
          · have c := of_decide_eq_true c
            rw [if_pos c] at du
            walk_at "hs"
            rename_i pa Ha na sa ha
            refine told none _ _ _ du ha fun H7 e7 => ?_
            walk_at "hs"
            exact ⟨_, _, _, _, rfl, by walk_at "sm"⟩
          · have c := of_decide_eq_false c
            rw [if_neg c] at du
            walk_at "hs"
            refine w_b2 (fun c2 => ?_) (fun c2 => ?_)
            · have c2 := of_decide_eq_true c2
              rw [if_pos c2] at du
              rw [if_neg (by omega)] at c
              walk_at "hs"
              refine w_ixl (l_of h3) (stV_at (by omega) (by omega)) ?_
              walk_at "hs"
              rename_i pa Ha na sa ha
              rw [show f + (nA F w - 1) + (num - 1) * 7 = f + (nA F w + (num - 1) * 7) - 1 by omega]
              refine told (some _) _ _ _ du ha fun H7 e7 => ?_
              walk_at "hs"
              exact ⟨_, _, _, _, rfl, by walk_at "sm"⟩
            · have c2 := of_decide_eq_false c2
              rw [if_neg c2] at du
              rw [if_pos (by omega)] at c
              walk_at "hs"
              refine w_ixl (l_of h3) (stV_neg (by omega) (by omega)) ?_
              walk_at "hs"
              rename_i pa Ha na sa ha
              rw [hC, show f + (nA F w - 1) + (nC l F w + num) * 7 = f + (nA F w + (nC l F w + num) * 7) - 1 by omega]
              refine told (some _) _ _ _ du ha fun H7 e7 => ?_
              walk_at "hs"
              exact ⟨_, _, _, _, rfl, by walk_at "sm"⟩
        · rintro σ H3 ⟨s8, s9, s10, s11, rfl, e3⟩
          walk_at "hs"
          exact ⟨_, _, _, _, _, _, _, _, _, _, rfl, Ks.trans e (Ks.trans ks14 (Ks.of e3)), b14.same e3⟩
  · rintro σ H2 ⟨s2, s3, s4, s5, s6, s7, s8, s9, s10, s11, rfl, e, hb⟩
    walk_at "hs"
    exact q _ e (hb.mono (by omega))
theorem u__law_months_right {H : Hp} {Q : VK} {E : XK} {b : Addr} {c : Int} {nm : Bool} (hb : BoxAt H b c) (hc : c < 700000000) (q : ∀ H', Ks H H' → BoxAt H' b (c + 80) → Q (.bl true) H') : sp__law_months_right K [.ref b, .bl nm] H Q E := ⟨b, c, nm, rfl, hb, hc, q⟩
end My
set_option linter.all false
set_option maxRecDepth 100000
set_option maxHeartbeats 2000000
namespace My
open PySem PySem.Spec PyProof.Rows L2 Kx
local macro_rules | `(tactic| walk_at "lk") => `(tactic| first | assumption | ((with_reducible show upd _ _ _ _ = _); (first | exact upd_same | (exact up_new (by assumption) (by walk_at "lk")) | (exact up_other (by assumption) (by walk_at "lk")))) | (exact (by assumption : Same _ _) _ _ (by walk_at "lk")) | (exact ks_get (by assumption) (by walk_at "lk") (by first | rfl | assumption | exact notBox_len rfl)))
local macro_rules | `(tactic| walk_at "sl") => `(tactic| first | assumption | (exact l_of (by walk_at "lk")) | (exact Same.seq (by assumption) (by walk_at "sl")) | ((with_reducible show SqL _ (upd _ _ _) _ _); (exact Same.seq (sm_new (by assumption)) (by walk_at "sl"))))
local macro_rules | `(tactic| walk_at "st") => `(tactic| first | assumption | (exact t_of (by walk_at "lk")) | (exact Kx.Same.tup (by assumption) (by walk_at "st")) | ((with_reducible show SqT _ (upd _ _ _) _ _); (exact Kx.Same.tup (sm_new (by assumption)) (by walk_at "st"))) | (exact ks_tup (by assumption) (by walk_at "st")))
local macro_rules | `(tactic| walk_at "kd") => `(tactic| first | assumption | exact .non | exact .bl _ | exact .int _ | exact .str _ | (exact .lst (by walk_at "sl")) | (exact .tup (by walk_at "st")) | (exact .dic (by walk_at "lk")) | (exact Kd.same (by assumption) (by walk_at "kd")) | ((with_reducible show Kd _ (upd _ _ _) _ _); (exact Kd.same (sm_new (by assumption)) (by walk_at "kd"))))
local macro_rules | `(tactic| walk_at "tt") => `(tactic| first | rfl | assumption | decide +kernel | (simp only [decide_eq_true_eq, Bool.not_eq_true', decide_eq_false_iff_not, Bool.and_eq_true, Bool.or_eq_true]; omega))
local macro_rules | `(tactic| walk_at "ff") => `(tactic| first | rfl | assumption | decide +kernel | (simp only [decide_eq_true_eq, Bool.not_eq_false', decide_eq_false_iff_not, Bool.and_eq_false_imp, Bool.or_eq_false_iff]; omega))
local macro_rules | `(tactic| walk_at "hc") => `(tactic| fail)
local macro_rules | `(tactic| walk_at "hif") => `(tactic| ((with_reducible refine w_b2 ?_ ?_) <;> intro))
local macro_rules | `(tactic| walk_at "hs1") => `(tactic| first
  | (with_reducible refine w_seq ?_)
  | (with_reducible refine w_asg ?_)
  | ((with_reducible refine' w_var ?k1 ?_); (case k1 => exact rfl))
  | (with_reducible refine w_c ?_)
  | (with_reducible refine w_op ?_)
  | (with_reducible refine w_cons ?_)
  | (with_reducible refine w_nil ?_)
  | (with_reducible refine w_name ?_)
  | (with_reducible refine w_kn ?_)
  | (with_reducible refine w_kx ?_)
  | (with_reducible refine w_kk ?_)
  | (with_reducible refine w_cb ?_)
  | (with_reducible refine w_if ?_)
  | (with_reducible refine w_test ?_)
  | (with_reducible refine w_exb ?_)
  | (with_reducible refine iteT ?_)
  | (with_reducible refine iteF ?_)
  | ((with_reducible refine w_bt ?_ ?_); (first | rfl | decide +kernel))
  | ((with_reducible refine w_bf ?_ ?_); (first | rfl | decide +kernel))
  | ((with_reducible refine w_bt ?_ ?_); (walk_at "tt"))
  | ((with_reducible refine w_bf ?_ ?_); (walk_at "ff"))
  | (with_reducible refine w_ret ?_)
  | (with_reducible refine w_retN ?_)
  | (with_reducible refine w_drop ?_)
  | (with_reducible refine w_next ?_)
  | (with_reducible refine w_brk ?_)
  | (with_reducible refine w_cont ?_)
  | (with_reducible refine w_and ?_)
  | (with_reducible refine w_or ?_)
  | (with_reducible refine w_not ?_)
  | (with_reducible refine w_tr ?_)
  | (with_reducible refine w_yes ?_)
  | (with_reducible refine w_tru_bl ?_)
  | (with_reducible refine w_tru_int ?_)
  | (with_reducible refine w_tru_non ?_)
  | (with_reducible refine w_andV ?_)
  | (with_reducible refine w_orV ?_)
  | (with_reducible refine w_notV ?_)
  | (with_reducible refine w_ifx ?_)
  | (with_reducible refine w_chain ?_)
  | (with_reducible refine w_un ?_)
  | (with_reducible refine n_tup ?_)
  | (with_reducible refine n_lst ?_)
  | ((with_reducible show kTup _ _ _); (refine n_ktup rfl ?_); intro _ _ _ _ _)
  | ((with_reducible show kLst _ _ _); (refine n_klst rfl ?_); intro _ _ _ _ _)
  | (with_reducible refine w_par ?_)
  | (with_reducible refine w_par2 ?_)
  | (with_reducible refine w_par3 ?_)
  | (with_reducible refine w_par33 ?_)
  | ((with_reducible refine' w_aug ?k1 ?_); (case k1 => exact rfl))
  | (with_reducible refine w_raise ?_)
  | (with_reducible refine w_mkdue ?_)
  | (with_reducible refine w_one ?_)
  | ((with_reducible show gSq _ _ _ (V.ref _) _ _ _); (first | (refine n_gsq (by walk_at "lk") (by exact rfl) (by exact rfl) ?_) | (refine w_gtup (by walk_at "st") (by exact rfl) ?_) | (refine w_glst (by walk_at "sl") (by exact rfl) ?_)))
  | (with_reducible refine w_gcons ?_)
  | (with_reducible refine w_gnil ?_)
  | (with_reducible refine w_bm ?_)
  | ((with_reducible show tyV _ "list" (V.ref _) _ ∧ _); (refine w_tyl (by walk_at "sl") ?_))
  | (with_reducible refine w_for ?_)
  | (with_reducible refine w_rng1 ?_)
  | (with_reducible refine w_rng2 ?_)
  | (with_reducible refine w_add_ii ?_)
  | (with_reducible refine w_sub_ii ?_)
  | ((with_reducible refine w_fdv_ii ?_ ?_ ?_); (first | decide | omega); (first | decide | omega))
  | ((with_reducible refine w_mul_b ?_ ?_ ?_); (refine ⟨?_, ?_⟩ <;> omega); (refine ⟨?_, ?_⟩ <;> omega))
  | ((with_reducible refine w_mod_ii ?_ ?_); (first | decide | omega))
  | (with_reducible refine w_neg_i ?_)
  | (with_reducible refine w_lt_ii ?_)
  | (with_reducible refine w_le_ii ?_)
  | (with_reducible refine w_gt_ii ?_)
  | (with_reducible refine w_ge_ii ?_)
  | (with_reducible refine w_eq_ii ?_)
  | (with_reducible refine w_ne_ii ?_)
  | (with_reducible refine n_eq_same ?_)
  | (with_reducible refine n_ne_same ?_)
  | (with_reducible refine w_eq_ss ?_)
  | (with_reducible refine w_ne_ss ?_)
  | (with_reducible refine w_eq_bb ?_)
  | (with_reducible refine w_ne_bb ?_)
  | (with_reducible refine w_is_n ?_)
  | (with_reducible refine w_isn_n ?_)
  | (with_reducible refine w_is_bb ?_)
  | (with_reducible refine w_isn_bb ?_)
  | ((with_reducible show rIx _ (V.ref _) (V.int _) _ _); (first | (refine n_ix (by decide) (by walk_at "lk") (by exact rfl) ?_) | (refine n_ixl (by decide) (by walk_at "sl") (by exact rfl) ?_) | (refine n_ixt (by decide) (by walk_at "st") (by exact rfl) ?_)))
  | (with_reducible refine w_ipadd ?_)
  | (with_reducible refine w_ipsub ?_)
  | (with_reducible refine w_int_i ?_)
  | (with_reducible refine w_int_b ?_)
  | (with_reducible refine w_abs ?_)
  | ((with_reducible refine w_max2r ?_); intro _ _ _ _)
  | ((with_reducible refine w_min2r ?_); intro _ _ _ _)
  | ((with_reducible show uLen _ [V.ref _] _ _); (first | (refine n_len (by walk_at "lk") (by exact rfl) ?_) | (refine w_len_l (by walk_at "sl") ?_) | (refine w_len_t (by walk_at "st") ?_) | (refine w_len_d (by walk_at "lk") ?_)))
  | ((with_reducible show uIsi _ [_, V.ty _] _ _); (refine w_isk (by walk_at "kd") (by decide) ?_))
  | ((with_reducible show uIsi _ [_, V.ref _] _ _); (refine w_isk2 (by walk_at "lk") (by walk_at "kd") (by decide) (by decide) ?_))
  | (with_reducible refine w_wN ?_)
  | (with_reducible refine w_lc ?_)
  | ((with_reducible refine' w_rng2e ?k1 ?_); (case k1 => (refine ⟨?_, ?_, ?_, ?_⟩ <;> omega)))
  | ((with_reducible refine' w_rng1e ?k1 ?k2 ?_); (case k1 => omega); (case k2 => omega))
  | ((with_reducible show ∃ a', V.ref _ = .ref a' ∧ (∃ xs, SqL _ _ a' xs) ∧ _); (refine w_sqLe (by walk_at "sl") ?_))
  | ((with_reducible show ∃ a', V.ref _ = .ref a' ∧ (∃ xs, SqT _ _ a' xs) ∧ _); (refine w_sqTe (by walk_at "st") ?_))
  | (with_reducible refine w_slc ?_)
  | (with_reducible refine w_nop ?_)
  | (with_reducible refine w_part ?_)
  | (with_reducible refine w_exi ?_)
  | ((with_reducible show uSl _ (V.ref _) _ _ _ _); (refine n_slL (by walk_at "sl") ?_); intro _ _ _ _ _)
  | (with_reducible refine w_gsub ?_)
  | ((with_reducible show rSetL (V.ref _) (V.int _) _ _ _); (refine w_setl (by walk_at "lk") (by exact rfl) ?_))
  | (with_reducible refine w_pow_9 ?_)
  | (with_reducible refine w_pow_12 ?_)
  | (with_reducible refine w_pow_13 ?_)
  | (with_reducible refine w_pow_18 ?_)
  | (with_reducible refine w_pow_29 ?_)
  | ((with_reducible refine n_disp1 ?_); intro _ _ _ _ _)
  | (with_reducible refine w_dput ?_)
  | ((with_reducible show rAppend (V.ref _) [_] _ _); (refine w_append (by walk_at "lk") (by first | omega | (exact Nat.lt_of_le_of_lt (wN_le rfl) (by decide))) ?_))
  | ((with_reducible show ∃ a' H4, V.ref _ = .ref a' ∧ DPut _ a' (V.str _) _ H4 ∧ _); (refine w_dputS (by walk_at "lk") (by first | omega | exact wN_le rfl) ?_))
  | (with_reducible refine w_try ?_)
  | ((with_reducible show wManyA _ _ _ _ (.ref (He.ga _ _)) _ _ _); (first | ((refine w_hit (ExT.ex (by assumption) _ (by decide) _ (by decide)) ?_); intro _ _) | (refine w_miss (ExT.ex (by assumption) _ (by decide) _ (by decide)) ?_)))
  | (with_reducible refine w_xg ?_)
  | ((with_reducible show V.ref _ = .ref _ ∧ ∃ _ _ _ _, Value.ref (He.ga _ _) = _ ∧ _); (refine w_xge (ExT.xf (by assumption) _ (by decide)) (ExT.fg (by assumption) _ (by decide)) (by walk_at "lk") ?_))
  | ((with_reducible show rIsX _ (.ref (He.ga _ _)) _ _ _ _ _); (refine w_isx (ExT.xx (by assumption) _ (by decide)) (ExT.kd (by assumption) _ (by decide)) (by walk_at "lk") ?_))
  | ((with_reducible show uAdd _ (V.ref _) (V.ref _) _ _); (refine n_add_ll (by walk_at "lk") (by walk_at "lk") rfl ?_); intro _ _ _ _ _)
  | ((with_reducible show iSeq _ (tLst _) _ _ _); (refine w_sqL ?_))
  | ((with_reducible show iSeq _ (tTup _) _ _ _); (refine w_sqT ?_))
  | (refine ⟨(rfl : wipe _ _ = wipe _ _), ?_⟩)
  | (walk_at "hc"))
local macro_rules | `(tactic| walk_at "hs") => `(tactic| repeat' (walk_at "hs1"))

local macro_rules | `(tactic| walk_at "rg") => `(tactic| repeat' (first | exact rg_nil | (refine rg_cons (by omega) (by omega) ?_)))
local macro_rules | `(tactic| walk_at "sm") => `(tactic| first | exact Same.refl _ | assumption | ((with_reducible show Same _ (upd _ _ _)); (refine Same.trans ?_ (sm_new (by assumption))); walk_at "sm") | ((refine Same.trans ?_ (by assumption)); walk_at "sm"))
local macro_rules | `(tactic| walk_at "bx") => `(tactic| first | assumption | ((with_reducible show BoxAt (upd _ _ _) _ _); (exact BoxAt.new (by assumption) (by walk_at "bx"))) | (exact BoxAt.same (by assumption) (by walk_at "bx")))
local macro_rules | `(tactic| walk_at "ks") => `(tactic| first | exact Ks.refl _ | assumption | ((with_reducible show Ks _ (upd _ _ _)); (refine Ks.trans ?_ (Ks.of (sm_new (by assumption))); walk_at "ks")) | (refine Ks.trans ?_ (by assumption); walk_at "ks") | (refine Ks.trans ?_ (Ks.of (by assumption)); walk_at "ks"))
local macro_rules | `(tactic| walk_at "ob") => `(tactic| first | assumption | exact .sc rfl | (exact Ob.same (by assumption) (by walk_at "ob")) | (exact Ob.ks (by assumption) (by walk_at "ob")))
local macro_rules | `(tactic| walk_at "nd") => `(tactic| first | assumption | (exact Nd.same (by assumption) (by walk_at "nd")) | (exact Nd.ks (by assumption) (by walk_at "nd")))
local macro_rules | `(tactic| walk_at "df") => `(tactic| first | assumption | exact df_sc rfl | (exact df_vr (by assumption) (by walk_at "lk")) | (exact df_rv (by assumption) (by walk_at "ob")) | (exact df_vv (by assumption) (by walk_at "ob")) | (exact Df.symm (df_vv (by assumption) (by walk_at "ob"))))
local macro_rules | `(tactic| walk_at "hc") => `(tactic| (with_reducible show sp_is_whole _ _ _ _ _); (refine u_is_whole (by walk_at "kd") ?_))
local macro_rules | `(tactic| walk_at "hc") => `(tactic| (with_reducible show sp_is_between _ _ _ _ _); (refine u_is_between (by walk_at "kd") ?_))
local macro_rules | `(tactic| walk_at "hc") => `(tactic| (with_reducible show sp_is_day _ _ _ _ _); (refine u_is_day (by walk_at "kd") ?_))
local macro_rules | `(tactic| walk_at "hc") => `(tactic| (with_reducible refine u_is_leap_year ?_))
local macro_rules | `(tactic| walk_at "hc") => `(tactic| (with_reducible refine' u_length_of ?k1 ?k2 ?_); (case k1 => omega); (case k2 => omega))
local macro_rules | `(tactic| walk_at "hc") => `(tactic| (with_reducible refine' u_year_begin ?k1 ?k2 ?_); (case k1 => omega); (case k2 => omega))
local macro_rules | `(tactic| walk_at "hc") => `(tactic| (with_reducible refine' u_month_begin ?k1 ?k2 ?k3 ?k4 ?_); (case k1 => omega); (case k2 => omega); (case k3 => omega); (case k4 => omega); intro _ _)
local macro_rules | `(tactic| walk_at "hc") => `(tactic| (with_reducible show sp__law_take _ _ _ _ _); (refine u__law_take (by walk_at "bx") (by omega) (by omega) (by omega) ?_); intro _ _ _ _ _ _)
local macro_rules | `(tactic| walk_at "hc") => `(tactic| (with_reducible refine u__law_leap ?_))
local macro_rules | `(tactic| walk_at "hc") => `(tactic| (with_reducible show sp__law_length _ _ _ _ _); (refine u__law_length (by omega) (by omega) ?_); intro _ _)
local macro_rules | `(tactic| walk_at "hc") => `(tactic| (with_reducible show sp__law_next _ _ _ _ _); (refine u__law_next (by walk_at "st") (by omega) (by omega) ?_); intro _ _ _ _ _)
local macro_rules | `(tactic| walk_at "hc") => `(tactic| (with_reducible show sp__law_no_number _ _ _ _ _); (refine u__law_no_number (by walk_at "bx") (by omega) (by omega) (by omega) ?_); intro _ _ _ _ _ _ _)
local macro_rules | `(tactic| walk_at "hc") => `(tactic| (with_reducible refine u_weekday_at ?_))
local macro_rules | `(tactic| walk_at "hc") => `(tactic| (with_reducible show sp_first_monday _ _ _ _ _); (refine u_first_monday (by omega) (by omega) ?_))
local macro_rules | `(tactic| walk_at "hc") => `(tactic| (with_reducible show sp_weeks_of _ _ _ _ _); (refine u_weeks_of (by omega) (by omega) ?_))
local macro_rules | `(tactic| walk_at "hc") => `(tactic| (with_reducible show sp__law_begin _ _ _ _ _); (refine u__law_begin (by omega) (by omega) ?_))
local macro_rules | `(tactic| walk_at "hc") => `(tactic| (with_reducible show sp__law_weeks _ _ _ _ _); (refine u__law_weeks (by omega) (by omega) ?_))
local macro_rules | `(tactic| walk_at "hc") => `(tactic| (with_reducible show sp__law_year _ _ _ _ _); (refine u__law_year (by walk_at "bx") (by omega) ?_); intro _ _ _ _ _ _)
variable {K : PySem.W.Frag}
theorem fm_nn {y : Int} (h : 2000 ≤ y) : 0 ≤ fm y := by
  by_cases e : y = 2000
  · subst e; decide
  · have := fm_bd y
    have : 3 ≤ yb y := by unfold yb; omega
    omega
theorem fm_ub {y : Int} (h : 2000 ≤ y) (h2 : y ≤ 2700000000) : fm y ≤ 990000000000 := by
  have := fm_bd y
  unfold yb at this
  omega
theorem u_ask_weeks {H : Hp} {Q : VK} {E : XK} {y : Int} {a : Addr} {nm : Bool} (ha : H a = some (.lst [.int y])) (y0 : 2000 ≤ y) (y1 : y ≤ 2700000000) (q : ∀ l H', Same H H' → H' l = some (.lst [.str "told", .int (wks y)]) → Q (.ref l) H') :
    sp__law_ask K [.str "weeks", .ref a, .bl nm] H Q E := ⟨_, a, _, _, rfl, ha, kds_ints [y], .inr (.inr (.inl ⟨rfl, _, rfl, fun n' e _ => (by cases e; exact q), fun c => (by rw [betw_t y0 y1] at c; cases c)⟩))⟩
theorem u_ask_day {H : Hp} {Q : VK} {E : XK} {y k d : Int} {a : Addr} {nm : Bool} (ha : H a = some (.lst [.int y, .int k, .int d])) (y0 : 2000 ≤ y) (y1 : y ≤ 2700000000) (k0 : 1 ≤ k) (k1 : k ≤ wks y) (d0 : 0 ≤ d) (d1 : d ≤ 6) (q : ∀ l H', Same H H' → H' l = some (.lst [.str "told", .int (fm y + 7 * (k - 1) + d)]) → Q (.ref l) H') :
    sp__law_ask K [.str "day", .ref a, .bl nm] H Q E := by
  refine ⟨_, a, _, _, rfl, ha, kds_ints [y, k, d], .inr (.inr (.inr (.inl ⟨rfl, _, _, _, rfl, fun y' k' d' e1 e2 e3 _ _ _ => (by cases e1; cases e2; cases e3; exact q), fun c => ?_, fun _ e c c2 => ?_, fun _ e c c2 c3 => ?_⟩)))⟩
  · rw [betw_t y0 y1] at c; cases c
  · cases e; rw [betw_t k0 k1] at c2; cases c2
  · rw [betw_t d0 d1] at c3; cases c3
theorem eqv_pair (a b : Int) : PyData.eqv (.tuple [.int a, .int b]) (.tuple [.int a, .int b]) = true := by simp [PyData.eqv, PyData.eqvAll]
theorem p__law_weeks_right (vs : List V) (H : Hp) (Q : VK) (E : XK) (h : sp__law_weeks_right K vs H Q E) : t__law_weeks_right K E (D0 Q) (start N__law_weeks_right vs) H := by
  obtain ⟨b, c, nm, rfl, hb, hc, q⟩ := h
  walk_at "hs"
  refine for_range (lo := 0) (n := 4) (fun i σ H2 => ∃ s2 s3 s4 s5 s6 s7, σ = [some (.ref b), some (.bl nm), s2, s3, s4, s5, s6, s7] ∧ Ks H H2 ∧ BoxAt H2 b (c + 10 * (i : Int)))
    ⟨_, _, _, _, _, _, rfl, Ks.refl _, by simpa using hb⟩ ?_ ?_
  · rintro i σ H2 hi ⟨s2, s3, s4, s5, s6, s7, rfl, e, hb⟩
    have i1 : (i : Int) < 4 := by omega
    have e1 : c + 10 * ((i + 1 : Nat) : Int) = c + 10 * (i : Int) + 10 := by omega
    rw [e1]
    clear e1 hi
    generalize hk : c + 10 * (i : Int) = k at *
    have k0 : k < 750000000 := by omega
    clear hk
    walk_at "hs"
    refine w_ixl_int 2000 2700000000 5 (by walk_at "sl") rfl (by omega) (by omega) (by walk_at "rg") fun y y0 y1 => ?_
    have wb := wks_bd y
    walk_at "hs"
    rename_i pa Ha na sa ha
    refine u__law_told (d := .int (wks y)) (by simp [okD]) (.int _) (fun H7 bo e7 Q' kq => u_ask_weeks (e7 _ _ ha) y0 y1 fun l H8 e8 hl8 => kq _ l H8 e8 (.int _) hl8) fun H7 e7 => ?_
    walk_at "hs"
    rename_i y' H1' z1 z2 z3 z4 p1 H3 z5 z6 z7 r1 H4 z8 z9 z10 b4 r H5 r0 r1' k5 b5 pl H14 n14 s14 h14
    have ks14 : Ks H2 H14 := by walk_at "ks"
    have b14 : BoxAt H14 b (k + 5) := BoxAt.mono (by walk_at "bx") (by omega)
    have hv : ∀ v ∈ [V.int 1, V.int (wks y), V.int (1 + r)], ∃ wk, v = .int wk ∧ 1 ≤ wk ∧ wk ≤ wks y :=
      fm_cons ⟨_, rfl, by omega, by omega⟩ (fm_cons ⟨_, rfl, by omega, by omega⟩ (fm_cons ⟨_, rfl, by omega, by omega⟩ fm_nil))
    have fn := fm_nn y0
    have fu := fm_ub y0 y1
    clear z1 z2 z3 z4 z5 z6 z7 z8 z9 z10 b4 k5 b5 n14 s14 e7 sa na ha hb
    refine for_list (xs := [V.int 1, V.int (wks y), V.int (1 + r)]) (fun j σ H3 => ∃ s5 s6 s7, σ = [some (.ref b), some (.bl nm), some (.int (0 + (i : Int))), some (.int y), some (.int (wks y)), s5, s6, s7] ∧ Ks H14 H3 ∧ BoxAt H3 b (k + 5 + (j : Int)))
      ⟨_, _, _, rfl, Ks.refl _, by simpa using b14⟩ (fun _ _ _ _ ⟨_, _, _, _, e3, _⟩ => l_of (ks_get e3 h14 rfl)) ?_ ?_
    · rintro j v σ H3 hx ⟨s5, s6, s7, rfl, e3, b3⟩
      obtain ⟨wk, rfl, w0, w1⟩ := hv v (List.mem_of_getElem? hx)
      have j3 : (j : Int) < 3 := by
        have := (List.getElem?_eq_some_iff.mp hx).1
        simp at this
        omega
      rw [show k + 5 + ((j + 1 : Nat) : Int) = k + 5 + (j : Int) + 1 by omega]
      have kj0 : k + 5 + (j : Int) < 800000000 := by omega
      generalize k + 5 + (j : Int) = kj at *
      walk_at "hs"
      rename_i d H6 d0 d1 k6 b6 pa Ha na sa ha
      have d1' : d ≤ 6 := by omega
      obtain ⟨dw, dd⟩ := day_week w0 w1 d0 d1'
      refine u_ask_day ha y0 y1 w0 w1 d0 d1' fun l H7 e7 hl => ?_
      have dn0 : 0 ≤ fm y + 7 * (wk - 1) + d := by omega
      have dn1 : fm y + 7 * (wk - 1) + d < 1000000000000 := by omega
      generalize hn : fm y + 7 * (wk - 1) + d = n at *
      walk_at "hs"
      refine u__law_week dn0 (by omega) fun w' k' p9 H9 hw e9 hp9 => ?_
      obtain ⟨rfl, rfl⟩ := IsW.uniq dw hw
      walk_at "hs"
      refine w_ne_d (.tup (by walk_at "st") (.cons (.int _) (.cons (.int _) .nil))) (.tup (by walk_at "st") (.cons (.int _) (.cons (.int _) .nil))) rfl rfl ?_
      rw [eqv_pair]
      have dd' : (n + 5) % 7 = d := dd
      walk_at "hs"
      rename_i pb Hb nb sb hbb
      refine u__law_told (d := .int (n + 0)) (by simp [okD]) (.int _) (fun H7 bo e7 Q' kq => u_ask_day (e7 _ _ hbb) y0 y1 w0 w1 d0 d1' fun l H8 e8 hl8 => kq _ l H8 e8 (.int _) (by rw [hn] at hl8; rw [Int.add_zero]; exact hl8)) fun H10 e10 => ?_
      walk_at "hs"
      trace_state
      exact ⟨_, _, _, rfl, by walk_at "ks", by walk_at "bx"⟩
    · rintro σ H3 ⟨s5, s6, s7, rfl, e3, b3⟩
      walk_at "hs"
      exact ⟨_, _, _, _, _, _, rfl, Ks.trans e (Ks.trans ks14 e3), b3.mono (by simp; omega)⟩
  · rintro σ H2 ⟨s2, s3, s4, s5, s6, s7, rfl, e, hb⟩
    walk_at "hs"
    exact q _ e (hb.mono (by omega))
theorem u__law_weeks_right {H : Hp} {Q : VK} {E : XK} {b : Addr} {c : Int} {nm : Bool} (hb : BoxAt H b c) (hc : c < 700000000) (q : ∀ H', Ks H H' → BoxAt H' b (c + 80) → Q (.bl true) H') : sp__law_weeks_right K [.ref b, .bl nm] H Q E := ⟨b, c, nm, rfl, hb, hc, q⟩
end My
set_option linter.all false
set_option maxRecDepth 100000
set_option maxHeartbeats 4000000
namespace My
open PySem PySem.Spec PyProof.Rows L2 Kx
local macro_rules | `(tactic| walk_at "lk") => `(tactic| first | assumption | ((with_reducible show upd _ _ _ _ = _); (first | exact upd_same | (exact up_new (by assumption) (by walk_at "lk")) | (exact up_other (by assumption) (by walk_at "lk")))) | (exact (by assumption : Same _ _) _ _ (by walk_at "lk")) | (exact ks_get (by assumption) (by walk_at "lk") (by first | rfl | assumption | exact notBox_len rfl)))
local macro_rules | `(tactic| walk_at "sl") => `(tactic| first | assumption | (exact l_of (by walk_at "lk")) | (exact Same.seq (by assumption) (by walk_at "sl")) | ((with_reducible show SqL _ (upd _ _ _) _ _); (exact Same.seq (sm_new (by assumption)) (by walk_at "sl"))))
local macro_rules | `(tactic| walk_at "st") => `(tactic| first | assumption | (exact t_of (by walk_at "lk")) | (exact Kx.Same.tup (by assumption) (by walk_at "st")) | ((with_reducible show SqT _ (upd _ _ _) _ _); (exact Kx.Same.tup (sm_new (by assumption)) (by walk_at "st"))) | (exact ks_tup (by assumption) (by walk_at "st")))
local macro_rules | `(tactic| walk_at "kd") => `(tactic| first | assumption | exact .non | exact .bl _ | exact .int _ | exact .str _ | (exact .lst (by walk_at "sl")) | (exact .tup (by walk_at "st")) | (exact .dic (by walk_at "lk")) | (exact Kd.same (by assumption) (by walk_at "kd")) | ((with_reducible show Kd _ (upd _ _ _) _ _); (exact Kd.same (sm_new (by assumption)) (by walk_at "kd"))))
local macro_rules | `(tactic| walk_at "tt") => `(tactic| first | rfl | assumption | decide +kernel | (simp only [decide_eq_true_eq, Bool.not_eq_true', decide_eq_false_iff_not, Bool.and_eq_true, Bool.or_eq_true]; omega))
local macro_rules | `(tactic| walk_at "ff") => `(tactic| first | rfl | assumption | decide +kernel | (simp only [decide_eq_true_eq, Bool.not_eq_false', decide_eq_false_iff_not, Bool.and_eq_false_imp, Bool.or_eq_false_iff]; omega))
local macro_rules | `(tactic| walk_at "hc") => `(tactic| fail)
local macro_rules | `(tactic| walk_at "hif") => `(tactic| ((with_reducible refine w_b2 ?_ ?_) <;> intro))
local macro_rules | `(tactic| walk_at "hs1") => `(tactic| first
  | (with_reducible refine w_seq ?_)
  | (with_reducible refine w_asg ?_)
  | ((with_reducible refine' w_var ?k1 ?_); (case k1 => exact rfl))
  | (with_reducible refine w_c ?_)
  | (with_reducible refine w_op ?_)
  | (with_reducible refine w_cons ?_)
  | (with_reducible refine w_nil ?_)
  | (with_reducible refine w_name ?_)
  | (with_reducible refine w_kn ?_)
  | (with_reducible refine w_kx ?_)
  | (with_reducible refine w_kk ?_)
  | (with_reducible refine w_cb ?_)
  | (with_reducible refine w_if ?_)
  | (with_reducible refine w_test ?_)
  | (with_reducible refine w_exb ?_)
  | (with_reducible refine iteT ?_)
  | (with_reducible refine iteF ?_)
  | ((with_reducible refine w_bt ?_ ?_); (first | rfl | decide +kernel))
  | ((with_reducible refine w_bf ?_ ?_); (first | rfl | decide +kernel))
  | ((with_reducible refine w_bt ?_ ?_); (walk_at "tt"))
  | ((with_reducible refine w_bf ?_ ?_); (walk_at "ff"))
  | (with_reducible refine w_ret ?_)
  | (with_reducible refine w_retN ?_)
  | (with_reducible refine w_drop ?_)
  | (with_reducible refine w_next ?_)
  | (with_reducible refine w_brk ?_)
  | (with_reducible refine w_cont ?_)
  | (with_reducible refine w_and ?_)
  | (with_reducible refine w_or ?_)
  | (with_reducible refine w_not ?_)
  | (with_reducible refine w_tr ?_)
  | (with_reducible refine w_yes ?_)
  | (with_reducible refine w_tru_bl ?_)
  | (with_reducible refine w_tru_int ?_)
  | (with_reducible refine w_tru_non ?_)
  | (with_reducible refine w_andV ?_)
  | (with_reducible refine w_orV ?_)
  | (with_reducible refine w_notV ?_)
  | (with_reducible refine w_ifx ?_)
  | (with_reducible refine w_chain ?_)
  | (with_reducible refine w_un ?_)
  | (with_reducible refine n_tup ?_)
  | (with_reducible refine n_lst ?_)
  | ((with_reducible show kTup _ _ _); (refine n_ktup rfl ?_); intro _ _ _ _ _)
  | ((with_reducible show kLst _ _ _); (refine n_klst rfl ?_); intro _ _ _ _ _)
  | (with_reducible refine w_par ?_)
  | (with_reducible refine w_par2 ?_)
  | (with_reducible refine w_par3 ?_)
  | (with_reducible refine w_par33 ?_)
  | ((with_reducible refine' w_aug ?k1 ?_); (case k1 => exact rfl))
  | (with_reducible refine w_raise ?_)
  | (with_reducible refine w_mkdue ?_)
  | (with_reducible refine w_one ?_)
  | ((with_reducible show gSq _ _ _ (V.ref _) _ _ _); (first | (refine n_gsq (by walk_at "lk") (by exact rfl) (by exact rfl) ?_) | (refine w_gtup (by walk_at "st") (by exact rfl) ?_) | (refine w_glst (by walk_at "sl") (by exact rfl) ?_)))
  | (with_reducible refine w_gcons ?_)
  | (with_reducible refine w_gnil ?_)
  | (with_reducible refine w_bm ?_)
  | ((with_reducible show tyV _ "list" (V.ref _) _ ∧ _); (refine w_tyl (by walk_at "sl") ?_))
  | (with_reducible refine w_for ?_)
  | (with_reducible refine w_rng1 ?_)
  | (with_reducible refine w_rng2 ?_)
  | (with_reducible refine w_add_ii ?_)
  | (with_reducible refine w_sub_ii ?_)
  | ((with_reducible refine w_fdv_ii ?_ ?_ ?_); (first | decide | omega); (first | decide | omega))
  | ((with_reducible refine w_mul_b ?_ ?_ ?_); (refine ⟨?_, ?_⟩ <;> omega); (refine ⟨?_, ?_⟩ <;> omega))
  | ((with_reducible refine w_mod_ii ?_ ?_); (first | decide | omega))
  | (with_reducible refine w_neg_i ?_)
  | (with_reducible refine w_lt_ii ?_)
  | (with_reducible refine w_le_ii ?_)
  | (with_reducible refine w_gt_ii ?_)
  | (with_reducible refine w_ge_ii ?_)
  | (with_reducible refine w_eq_ii ?_)
  | (with_reducible refine w_ne_ii ?_)
  | (with_reducible refine n_eq_same ?_)
  | (with_reducible refine n_ne_same ?_)
  | (with_reducible refine w_eq_ss ?_)
  | (with_reducible refine w_ne_ss ?_)
  | (with_reducible refine w_eq_bb ?_)
  | (with_reducible refine w_ne_bb ?_)
  | (with_reducible refine w_is_n ?_)
  | (with_reducible refine w_isn_n ?_)
  | (with_reducible refine w_is_bb ?_)
  | (with_reducible refine w_isn_bb ?_)
  | ((with_reducible show rIx _ (V.ref _) (V.int _) _ _); (first | (refine n_ix (by decide) (by walk_at "lk") (by exact rfl) ?_) | (refine n_ixl (by decide) (by walk_at "sl") (by exact rfl) ?_) | (refine n_ixt (by decide) (by walk_at "st") (by exact rfl) ?_)))
  | (with_reducible refine w_ipadd ?_)
  | (with_reducible refine w_ipsub ?_)
  | (with_reducible refine w_int_i ?_)
  | (with_reducible refine w_int_b ?_)
  | (with_reducible refine w_abs ?_)
  | ((with_reducible refine w_max2r ?_); intro _ _ _ _)
  | ((with_reducible refine w_min2r ?_); intro _ _ _ _)
  | ((with_reducible show uLen _ [V.ref _] _ _); (first | (refine n_len (by walk_at "lk") (by exact rfl) ?_) | (refine w_len_l (by walk_at "sl") ?_) | (refine w_len_t (by walk_at "st") ?_) | (refine w_len_d (by walk_at "lk") ?_)))
  | ((with_reducible show uIsi _ [_, V.ty _] _ _); (refine w_isk (by walk_at "kd") (by decide) ?_))
  | ((with_reducible show uIsi _ [_, V.ref _] _ _); (refine w_isk2 (by walk_at "lk") (by walk_at "kd") (by decide) (by decide) ?_))
  | (with_reducible refine w_wN ?_)
  | (with_reducible refine w_lc ?_)
  | ((with_reducible refine' w_rng2e ?k1 ?_); (case k1 => (refine ⟨?_, ?_, ?_, ?_⟩ <;> omega)))
  | ((with_reducible refine' w_rng1e ?k1 ?k2 ?_); (case k1 => omega); (case k2 => omega))
  | ((with_reducible show ∃ a', V.ref _ = .ref a' ∧ (∃ xs, SqL _ _ a' xs) ∧ _); (refine w_sqLe (by walk_at "sl") ?_))
  | ((with_reducible show ∃ a', V.ref _ = .ref a' ∧ (∃ xs, SqT _ _ a' xs) ∧ _); (refine w_sqTe (by walk_at "st") ?_))
  | (with_reducible refine w_slc ?_)
  | (with_reducible refine w_nop ?_)
  | (with_reducible refine w_part ?_)
  | (with_reducible refine w_exi ?_)
  | ((with_reducible show uSl _ (V.ref _) _ _ _ _); (refine n_slL (by walk_at "sl") ?_); intro _ _ _ _ _)
  | (with_reducible refine w_gsub ?_)
  | ((with_reducible show rSetL (V.ref _) (V.int _) _ _ _); (refine w_setl (by walk_at "lk") (by exact rfl) ?_))
  | (with_reducible refine w_pow_9 ?_)
  | (with_reducible refine w_pow_12 ?_)
  | (with_reducible refine w_pow_13 ?_)
  | (with_reducible refine w_pow_18 ?_)
  | (with_reducible refine w_pow_29 ?_)
  | ((with_reducible refine n_disp1 ?_); intro _ _ _ _ _)
  | (with_reducible refine w_dput ?_)
  | ((with_reducible show rAppend (V.ref _) [_] _ _); (refine w_append (by walk_at "lk") (by first | omega | (exact Nat.lt_of_le_of_lt (wN_le rfl) (by decide))) ?_))
  | ((with_reducible show ∃ a' H4, V.ref _ = .ref a' ∧ DPut _ a' (V.str _) _ H4 ∧ _); (refine w_dputS (by walk_at "lk") (by first | omega | exact wN_le rfl) ?_))
  | (with_reducible refine w_try ?_)
  | ((with_reducible show wManyA _ _ _ _ (.ref (He.ga _ _)) _ _ _); (first | ((refine w_hit (ExT.ex (by assumption) _ (by decide) _ (by decide)) ?_); intro _ _) | (refine w_miss (ExT.ex (by assumption) _ (by decide) _ (by decide)) ?_)))
  | (with_reducible refine w_xg ?_)
  | ((with_reducible show V.ref _ = .ref _ ∧ ∃ _ _ _ _, Value.ref (He.ga _ _) = _ ∧ _); (refine w_xge (ExT.xf (by assumption) _ (by decide)) (ExT.fg (by assumption) _ (by decide)) (by walk_at "lk") ?_))
  | ((with_reducible show rIsX _ (.ref (He.ga _ _)) _ _ _ _ _); (refine w_isx (ExT.xx (by assumption) _ (by decide)) (ExT.kd (by assumption) _ (by decide)) (by walk_at "lk") ?_))
  | ((with_reducible show uAdd _ (V.ref _) (V.ref _) _ _); (refine n_add_ll (by walk_at "lk") (by walk_at "lk") rfl ?_); intro _ _ _ _ _)
  | ((with_reducible show iSeq _ (tLst _) _ _ _); (refine w_sqL ?_))
  | ((with_reducible show iSeq _ (tTup _) _ _ _); (refine w_sqT ?_))
  | (refine ⟨(rfl : wipe _ _ = wipe _ _), ?_⟩)
  | (walk_at "hc"))
local macro_rules | `(tactic| walk_at "hs") => `(tactic| repeat' (walk_at "hs1"))

local macro_rules | `(tactic| walk_at "rg") => `(tactic| repeat' (first | exact rg_nil | (refine rg_cons (by omega) (by omega) ?_)))
local macro_rules | `(tactic| walk_at "sm") => `(tactic| first | exact Same.refl _ | assumption | ((with_reducible show Same _ (upd _ _ _)); (refine Same.trans ?_ (sm_new (by assumption))); walk_at "sm") | ((refine Same.trans ?_ (by assumption)); walk_at "sm"))
local macro_rules | `(tactic| walk_at "bx") => `(tactic| first | assumption | ((with_reducible show BoxAt (upd _ _ _) _ _); (exact BoxAt.new (by assumption) (by walk_at "bx"))) | (exact BoxAt.same (by assumption) (by walk_at "bx")))
local macro_rules | `(tactic| walk_at "ks") => `(tactic| first | exact Ks.refl _ | assumption | ((with_reducible show Ks _ (upd _ _ _)); (refine Ks.trans ?_ (Ks.of (sm_new (by assumption))); walk_at "ks")) | (refine Ks.trans ?_ (by assumption); walk_at "ks") | (refine Ks.trans ?_ (Ks.of (by assumption)); walk_at "ks"))
local macro_rules | `(tactic| walk_at "ob") => `(tactic| first | assumption | exact .sc rfl | (exact Ob.same (by assumption) (by walk_at "ob")) | (exact Ob.ks (by assumption) (by walk_at "ob")))
local macro_rules | `(tactic| walk_at "nd") => `(tactic| first | assumption | (exact Nd.same (by assumption) (by walk_at "nd")) | (exact Nd.ks (by assumption) (by walk_at "nd")))
local macro_rules | `(tactic| walk_at "df") => `(tactic| first | assumption | exact df_sc rfl | (exact df_vr (by assumption) (by walk_at "lk")) | (exact df_rv (by assumption) (by walk_at "ob")) | (exact df_vv (by assumption) (by walk_at "ob")) | (exact Df.symm (df_vv (by assumption) (by walk_at "ob"))))
local macro_rules | `(tactic| walk_at "hc") => `(tactic| (with_reducible show sp_is_whole _ _ _ _ _); (refine u_is_whole (by walk_at "kd") ?_))
local macro_rules | `(tactic| walk_at "hc") => `(tactic| (with_reducible show sp_is_between _ _ _ _ _); (refine u_is_between (by walk_at "kd") ?_))
local macro_rules | `(tactic| walk_at "hc") => `(tactic| (with_reducible show sp_is_day _ _ _ _ _); (refine u_is_day (by walk_at "kd") ?_))
local macro_rules | `(tactic| walk_at "hc") => `(tactic| (with_reducible refine u_is_leap_year ?_))
local macro_rules | `(tactic| walk_at "hc") => `(tactic| (with_reducible refine' u_length_of ?k1 ?k2 ?_); (case k1 => omega); (case k2 => omega))
local macro_rules | `(tactic| walk_at "hc") => `(tactic| (with_reducible refine' u_year_begin ?k1 ?k2 ?_); (case k1 => omega); (case k2 => omega))
local macro_rules | `(tactic| walk_at "hc") => `(tactic| (with_reducible refine' u_month_begin ?k1 ?k2 ?k3 ?k4 ?_); (case k1 => omega); (case k2 => omega); (case k3 => omega); (case k4 => omega); intro _ _)
local macro_rules | `(tactic| walk_at "hc") => `(tactic| (with_reducible show sp__law_take _ _ _ _ _); (refine u__law_take (by walk_at "bx") (by omega) (by omega) (by omega) ?_); intro _ _ _ _ _ _)
local macro_rules | `(tactic| walk_at "hc") => `(tactic| (with_reducible refine u__law_leap ?_))
local macro_rules | `(tactic| walk_at "hc") => `(tactic| (with_reducible show sp__law_length _ _ _ _ _); (refine u__law_length (by omega) (by omega) ?_); intro _ _)
local macro_rules | `(tactic| walk_at "hc") => `(tactic| (with_reducible show sp__law_next _ _ _ _ _); (refine u__law_next (by walk_at "st") (by omega) (by omega) ?_); intro _ _ _ _ _)
local macro_rules | `(tactic| walk_at "hc") => `(tactic| (with_reducible show sp__law_no_number _ _ _ _ _); (refine u__law_no_number (by walk_at "bx") (by omega) (by omega) (by omega) ?_); intro _ _ _ _ _ _ _)
local macro_rules | `(tactic| walk_at "hc") => `(tactic| (with_reducible refine u_weekday_at ?_))
local macro_rules | `(tactic| walk_at "hc") => `(tactic| (with_reducible show sp_first_monday _ _ _ _ _); (refine u_first_monday (by omega) (by omega) ?_))
local macro_rules | `(tactic| walk_at "hc") => `(tactic| (with_reducible show sp_weeks_of _ _ _ _ _); (refine u_weeks_of (by omega) (by omega) ?_))
local macro_rules | `(tactic| walk_at "hc") => `(tactic| (with_reducible show sp__law_begin _ _ _ _ _); (refine u__law_begin (by omega) (by omega) ?_))
local macro_rules | `(tactic| walk_at "hc") => `(tactic| (with_reducible show sp__law_weeks _ _ _ _ _); (refine u__law_weeks (by omega) (by omega) ?_))
local macro_rules | `(tactic| walk_at "hc") => `(tactic| (with_reducible show sp__law_year _ _ _ _ _); (refine u__law_year (by walk_at "bx") (by omega) ?_); intro _ _ _ _ _ _)
variable {K : PySem.W.Frag}
/-- all but the first i of some values stands -/
def BtV (ts : List V) (i : Nat) (H0 H : Hp) : Prop := ∀ a o, (∀ j t, j < i → ts[j]? = some t → t ≠ .ref a) → H0 a = some o → H a = some o
theorem BtV.std {ts : List V} {i : Nat} {H0 H : Hp} {v : V} (e : BtV ts i H0 H) (d : ∀ j t, j < i → ts[j]? = some t → Df t v) : Std H0 H v := fun a o ev h => e a o (fun j t hj ht z => d j t hj ht a z ev) h
theorem BtV.one {ts : List V} {i : Nat} {H0 H H1 H2 : Hp} {t : V} (e : BtV ts i H0 H) (s : Same H H1) (ht : ts[i]? = some t) (g : Grw t H1 H2) : BtV ts (i + 1) H0 H2 := fun a o ha h => by
  have h1 := s a o (e a o (fun j y hj hy => ha j y (Nat.lt_succ_of_lt hj) hy) h)
  rcases g with g | ⟨a', et, b, _⟩
  · exact g a o h1
  · exact b a o (fun z => ha i t (Nat.lt_succ_self i) ht (by rw [et, z])) h1
theorem Ks.btV {ts : List V} {i : Nat} {H H0 H1 : Hp} (e : Ks H H0) (bt : BtV ts i H0 H1) (fr : ∀ t ∈ ts, Fresh H t) : Ks H H1 := fun a o h => by
  obtain ⟨o', h', k⟩ := e a o h
  exact ⟨o', bt a o' (fun j t _ ht z => by have := fr t (List.mem_of_getElem? ht) a z; rw [h] at this; cases this) h', k⟩
/-- a row of what is asked in vain: its list, its parts' list, the word, the parts, the error's word, the place, the value there -/
structure Rw2 where
  r : Addr
  pa : Addr
  w : Str
  xs : List V
  e : Str
  n : Int
  t : V
structure RowOk2 (K : PySem.W.Frag) (H0 : Hp) (x : Rw2) : Prop where
  row : H0 x.r = some (.lst [.str x.w, .ref x.pa, .str x.e, .int x.n])
  par : H0 x.pa = some (.lst x.xs)
  at_ : atI x.xs x.n = some x.t
  ask : ∀ H nm Q E, H x.pa = some (.lst x.xs) → Kds K H x.xs → Ans H Q [.str x.e, x.t, .bl true] → sp__law_ask K [.str x.w, .ref x.pa, .bl nm] H Q E
  obs : ∀ v ∈ x.xs, Ob H0 v
theorem atI_mem {xs : List V} {i : Int} {v : V} (h : atI xs i = some v) : v ∈ xs := by
  obtain ⟨j, _, e, _⟩ := atI_get h
  exact List.mem_of_getElem? e
theorem refused_loop {rows : List Rw2} {H0 : Hp} {L : Addr} {s0 s3 s4 s5 s6 s7 s8 s9 s11 s12 s13 s14 s15 : Option V} {nm : Bool} {i : Int} (hl : rows.length ≤ 1000) (L0 : H0 L = some (.lst (rows.map fun x => .ref x.r))) (RA : ∀ x ∈ rows, RowOk2 K H0 x) (TL : ∀ x ∈ rows, Df x.t (.ref L))
    (RP : rows.Pairwise (fun x y => (∀ v ∈ y.xs, Df x.t v) ∧ Df x.t (.ref y.pa) ∧ Df x.t (.ref y.r))) (D : Ends)
    (fin : ∀ s11 s12 s13 s14 s15 H', BtV (rows.map fun x => x.t) rows.length H0 H' → D.nx [s0, some (.bl nm), some (.int i), s3, s4, s5, s6, s7, s8, s9, some (.ref L), s11, s12, s13, s14, s15] H') :
    (tFor (iSeq K (tVar 10)) (gSq K 4 (gCons (gName 11) (gCons (gName 12) (gCons (gName 13) (gCons (gName 14) gNil))))) (tSeq (tAsg (tKn (sp__law_ask K) (tCons (tVar 11) (tCons (tVar 12) (tCons (tIf (tTest (tOp (uEq K) (tVar 2) (tC (.int 0)))) (tVar 1) (tNotV (tVar 1))) tNil)))) (gName 15))
    (tIfS (tOr (tTest (tOp (uNe K) (tOp (rIx K) (tVar 15) (tC (.int 0))) (tVar 13))) (tOr (tTest (tOp uIsn (tOp (rIx K) (tVar 15) (tC (.int 2))) (tC (.bl true)))) (tNot (tTr K (tKn (sp__law_very K) (tCons (tOp (rIx K) (tVar 15) (tC (.int 1))) (tCons (tOp (rIx K) (tVar 12) (tVar 14)) tNil))))))) (tRet (tC (.bl false))) tNext))) D [s0, some (.bl nm), some (.int i), s3, s4, s5, s6, s7, s8, s9, some (.ref L), s11, s12, s13, s14, s15] H0 := by
  refine w_for ?_
  refine w_sqL ?_
  refine w_var rfl ?_
  refine w_sqLe (l_of L0) ?_
  refine for_list (xs := rows.map fun x => V.ref x.r) (fun j σ H3 => ∃ s11 s12 s13 s14 s15, σ = [s0, some (.bl nm), some (.int i), s3, s4, s5, s6, s7, s8, s9, some (.ref L), s11, s12, s13, s14, s15] ∧ BtV (rows.map fun x => x.t) j H0 H3)
    ⟨_, _, _, _, _, rfl, fun a o _ h => h⟩ ?_ ?_ ?_
  · rintro j σ H3 _ ⟨_, _, _, _, _, _, bt⟩
    exact l_of (bt L _ (fun j t _ ht z => by
      rw [List.getElem?_map] at ht
      obtain ⟨x, hx, rfl⟩ := Option.map_eq_some_iff.mp ht
      exact TL x (List.mem_of_getElem? hx) L z rfl) L0)
  · rintro j x σ H3 hx ⟨s11, s12, s13, s14, s15, rfl, bt⟩
    rw [List.getElem?_map] at hx
    obtain ⟨y, hy, rfl⟩ := Option.map_eq_some_iff.mp hx
    have R := RA y (List.mem_of_getElem? hy)
    have pd : ∀ j' t, j' < j → (rows.map fun x => x.t)[j']? = some t → (∀ v ∈ y.xs, Df t v) ∧ Df t (.ref y.pa) ∧ Df t (.ref y.r) := fun j' t hj ht => by
      rw [List.getElem?_map] at ht
      obtain ⟨x, hx, rfl⟩ := Option.map_eq_some_iff.mp ht
      exact pw_get RP hj hx hy
    have row := bt y.r _ (fun j' t hj ht z => (pd j' t hj ht).2.2 y.r z rfl) R.row
    have par := bt y.pa _ (fun j' t hj ht z => (pd j' t hj ht).2.1 y.pa z rfl) R.par
    have obs : ∀ v ∈ y.xs, Ob H3 v := fun v hv => (R.obs v hv).std (bt.std fun j' t hj ht => (pd j' t hj ht).1 v hv)
    have ht : (rows.map fun x => x.t)[j]? = some y.t := by rw [List.getElem?_map, hy]; rfl
    have kds : Kds K H3 y.xs := fun v hv => (obs v hv).kd
    have ot := obs y.t (atI_mem R.at_)
    walk_at "hs"
    refine w_b2 (fun _ => ?_) (fun _ => ?_) <;> walk_at "hs"
    all_goals
      refine R.ask _ _ _ _ par kds fun l H4 e4 hl => ?_
      walk_at "hs"
      refine w_ixl (l_of (e4 _ _ par)) R.at_ ?_
      walk_at "hs"
      refine u__law_very (Ob.gv (by walk_at "ob")) fun H6 g => ?_
      walk_at "hs"
      exact ⟨_, _, _, _, _, rfl, BtV.one bt e4 ht g⟩
  · rintro σ H3 ⟨s11, s12, s13, s14, s15, rfl, bt⟩
    exact fin _ _ _ _ _ _ (by rw [List.length_map] at bt; exact bt)
theorem betw_sub {x : V} {a b c : Int} (h : betw x a b = false) (l : c ≤ b) : betw x a c = false := by
  cases x with
  | int i =>
    simp only [betw, Bool.and_eq_false_iff, decide_eq_false_iff_not] at h ⊢
    omega
  | _ => rfl
theorem r2_weekday {H0 : Hp} {r pa : Addr} {v : V} (h : H0 r = some (.lst [.str "weekday", .ref pa, .str "day", .int 0])) (hp : H0 pa = some (.lst [v])) (ob : Ob H0 v) (hb : betw v 0 1000000000000 = false) : RowOk2 K H0 ⟨r, pa, "weekday", [v], "day", 0, v⟩ :=
  ⟨h, hp, rfl, fun H nm Q E hp kds q => ⟨_, _, _, _, rfl, hp, kds, .inl ⟨rfl, _, rfl, fun n _ c => (by rw [show betw v 0 MOST = false from hb] at c; cases c), fun _ => q⟩⟩, fm_cons ob fm_nil⟩
theorem r2_week {H0 : Hp} {r pa : Addr} {v : V} (h : H0 r = some (.lst [.str "week", .ref pa, .str "day", .int 0])) (hp : H0 pa = some (.lst [v])) (ob : Ob H0 v) (hb : betw v 0 1000000000000 = false) : RowOk2 K H0 ⟨r, pa, "week", [v], "day", 0, v⟩ :=
  ⟨h, hp, rfl, fun H nm Q E hp kds q => ⟨_, _, _, _, rfl, hp, kds, .inr (.inl ⟨rfl, _, rfl, fun n _ c => (by rw [show betw v 0 MOST = false from hb] at c; cases c), fun _ => q⟩)⟩, fm_cons ob fm_nil⟩
theorem r2_weeks {H0 : Hp} {r pa : Addr} {v : V} (h : H0 r = some (.lst [.str "weeks", .ref pa, .str "year", .int 0])) (hp : H0 pa = some (.lst [v])) (ob : Ob H0 v) (hb : betw v 2000 2700000000 = false) : RowOk2 K H0 ⟨r, pa, "weeks", [v], "year", 0, v⟩ :=
  ⟨h, hp, rfl, fun H nm Q E hp kds q => ⟨_, _, _, _, rfl, hp, kds, .inr (.inr (.inl ⟨rfl, _, rfl, fun n _ c => (by rw [hb] at c; cases c), fun _ => q⟩))⟩, fm_cons ob fm_nil⟩
theorem r2_dayy {H0 : Hp} {r pa : Addr} {v z u : V} (h : H0 r = some (.lst [.str "day", .ref pa, .str "year", .int 0])) (hp : H0 pa = some (.lst [v, z, u])) (ob : Ob H0 v) (oz : Ob H0 z) (ou : Ob H0 u) (hb : betw v 2000 2700000000 = false) : RowOk2 K H0 ⟨r, pa, "day", [v, z, u], "year", 0, v⟩ :=
  ⟨h, hp, rfl, fun H nm Q E hp kds q => ⟨_, _, _, _, rfl, hp, kds, .inr (.inr (.inr (.inl ⟨rfl, _, _, _, rfl, fun y k d _ _ _ c => (by rw [hb] at c; cases c), fun _ => q, fun y _ c => (by rw [hb] at c; cases c), fun y _ c => (by rw [hb] at c; cases c)⟩)))⟩, fm_cons ob (fm_cons oz (fm_cons ou fm_nil))⟩
theorem r2_dayw {H0 : Hp} {r pa : Addr} {y : Int} {v u : V} (h : H0 r = some (.lst [.str "day", .ref pa, .str "week", .int 1])) (hp : H0 pa = some (.lst [.int y, v, u])) (ob : Ob H0 v) (ou : Ob H0 u) (y0 : 2000 ≤ y) (y1 : y ≤ 2700000000) (hb : betw v 1 (wks y) = false) : RowOk2 K H0 ⟨r, pa, "day", [.int y, v, u], "week", 1, v⟩ :=
  ⟨h, hp, rfl, fun H nm Q E hp kds q => ⟨_, _, _, _, rfl, hp, kds, .inr (.inr (.inr (.inl ⟨rfl, _, _, _, rfl, fun y' k d e _ _ _ c => (by cases e; rw [hb] at c; cases c), fun c => (by rw [betw_t y0 y1] at c; cases c), fun _ _ _ _ => q, fun y' e _ c => (by cases e; rw [hb] at c; cases c)⟩)))⟩, fm_cons (.sc rfl) (fm_cons ob (fm_cons ou fm_nil))⟩
theorem r2_dayd {H0 : Hp} {r pa : Addr} {y k : Int} {v : V} (h : H0 r = some (.lst [.str "day", .ref pa, .str "weekday", .int 2])) (hp : H0 pa = some (.lst [.int y, .int k, v])) (ob : Ob H0 v) (y0 : 2000 ≤ y) (y1 : y ≤ 2700000000) (hk : betw (.int k) 1 (wks y) = true) (hb : betw v 0 6 = false) : RowOk2 K H0 ⟨r, pa, "day", [.int y, .int k, v], "weekday", 2, v⟩ :=
  ⟨h, hp, rfl, fun H nm Q E hp kds q => ⟨_, _, _, _, rfl, hp, kds, .inr (.inr (.inr (.inl ⟨rfl, _, _, _, rfl, fun y' k d e _ _ _ _ c => (by rw [hb] at c; cases c), fun c => (by rw [betw_t y0 y1] at c; cases c), fun y' e _ c => (by cases e; rw [hk] at c; cases c), fun _ _ _ _ _ => q⟩)))⟩, fm_cons (.sc rfl) (fm_cons (.sc rfl) (fm_cons ob fm_nil))⟩
theorem r2_nthm {H0 : Hp} {r pa : Addr} {y : Int} {v z u : V} (h : H0 r = some (.lst [.str "nth", .ref pa, .str "month", .int 1])) (hp : H0 pa = some (.lst [.int y, v, z, u])) (ob : Ob H0 v) (oz : Ob H0 z) (ou : Ob H0 u) (y0 : 2000 ≤ y) (y1 : y ≤ 2700000000) (hb : betw v 1 12 = false) : RowOk2 K H0 ⟨r, pa, "nth", [.int y, v, z, u], "month", 1, v⟩ :=
  ⟨h, hp, rfl, fun H nm Q E hp kds q => ⟨_, _, _, _, rfl, hp, kds, .inr (.inr (.inr (.inr ⟨rfl, _, _, _, _, rfl, fun _ _ _ _ _ _ _ _ _ c => (by rw [hb] at c; cases c), fun c => (by rw [betw_t y0 y1] at c; cases c), fun _ _ => q, fun _ c => (by rw [hb] at c; cases c), fun _ c => (by rw [hb] at c; cases c)⟩)))⟩, fm_cons (.sc rfl) (fm_cons ob (fm_cons oz (fm_cons ou fm_nil)))⟩
theorem r2_nthn {H0 : Hp} {r pa : Addr} {y m : Int} {v u : V} (h : H0 r = some (.lst [.str "nth", .ref pa, .str "number", .int 2])) (hp : H0 pa = some (.lst [.int y, .int m, v, u])) (ob : Ob H0 v) (ou : Ob H0 u) (y0 : 2000 ≤ y) (y1 : y ≤ 2700000000) (hm : betw (.int m) 1 12 = true) (hb : numOk v = false) : RowOk2 K H0 ⟨r, pa, "nth", [.int y, .int m, v, u], "number", 2, v⟩ :=
  ⟨h, hp, rfl, fun H nm Q E hp kds q => ⟨_, _, _, _, rfl, hp, kds, .inr (.inr (.inr (.inr ⟨rfl, _, _, _, _, rfl, fun _ _ _ _ _ _ _ _ _ _ c => (by rw [hb] at c; cases c), fun c => (by rw [betw_t y0 y1] at c; cases c), fun _ c => (by rw [hm] at c; cases c), fun _ _ _ => q, fun _ _ c => (by rw [hb] at c; cases c)⟩)))⟩, fm_cons (.sc rfl) (fm_cons (.sc rfl) (fm_cons ob (fm_cons ou fm_nil)))⟩
theorem r2_nthw {H0 : Hp} {r pa : Addr} {y m k : Int} {v : V} (h : H0 r = some (.lst [.str "nth", .ref pa, .str "weekday", .int 3])) (hp : H0 pa = some (.lst [.int y, .int m, .int k, v])) (ob : Ob H0 v) (y0 : 2000 ≤ y) (y1 : y ≤ 2700000000) (hm : betw (.int m) 1 12 = true) (hk : numOk (.int k) = true) (hb : betw v 0 6 = false) : RowOk2 K H0 ⟨r, pa, "nth", [.int y, .int m, .int k, v], "weekday", 3, v⟩ :=
  ⟨h, hp, rfl, fun H nm Q E hp kds q => ⟨_, _, _, _, rfl, hp, kds, .inr (.inr (.inr (.inr ⟨rfl, _, _, _, _, rfl, fun _ _ _ _ _ _ _ _ _ _ _ c => (by rw [hb] at c; cases c), fun c => (by rw [betw_t y0 y1] at c; cases c), fun _ c => (by rw [hm] at c; cases c), fun _ _ c => (by rw [hk] at c; cases c), fun _ _ _ _ => q⟩)))⟩, fm_cons (.sc rfl) (fm_cons (.sc rfl) (fm_cons (.sc rfl) (fm_cons ob fm_nil)))⟩
theorem r2_nthy {H0 : Hp} {r pa : Addr} {v a b d : V} (h : H0 r = some (.lst [.str "nth", .ref pa, .str "year", .int 0])) (hp : H0 pa = some (.lst [v, a, b, d])) (ob : Ob H0 v) (oa : Ob H0 a) (ob2 : Ob H0 b) (od : Ob H0 d) (hb : betw v 2000 2700000000 = false) : RowOk2 K H0 ⟨r, pa, "nth", [v, a, b, d], "year", 0, v⟩ :=
  ⟨h, hp, rfl, fun H nm Q E hp kds q => ⟨_, _, _, _, rfl, hp, kds, .inr (.inr (.inr (.inr ⟨rfl, _, _, _, _, rfl, fun _ _ _ _ _ _ _ _ c => (by rw [hb] at c; cases c), fun _ => q, fun c => (by rw [hb] at c; cases c), fun c => (by rw [hb] at c; cases c), fun c => (by rw [hb] at c; cases c)⟩)))⟩, fm_cons ob (fm_cons oa (fm_cons ob2 (fm_cons od fm_nil)))⟩
theorem ks_mut {H1 H4 : Hp} {D : Addr} {o : HO} (e : Ks H1 H4) (hD : H1 D = none) : Ks H1 (upd H4 D o) := fun a u hu => by
  obtain ⟨o', h', k⟩ := e a u hu
  exact ⟨o', by rw [upd_ne (ne_of_none hu hD)]; exact h', k⟩
theorem BoxAt.mut {H1 H4 : Hp} {D b : Addr} {o : HO} {c c1 : Int} (h : BoxAt H4 b c) (h1 : BoxAt H1 b c1) (hD : H1 D = none) : BoxAt (upd H4 D o) b c := by
  obtain ⟨n, m, c0, bo, h, r⟩ := h
  obtain ⟨_, _, _, _, h1, _⟩ := h1
  exact ⟨n, m, c0, bo, by rw [upd_ne (ne_of_none h1 hD)]; exact h, r⟩
end My
set_option linter.all false
set_option maxRecDepth 100000
set_option maxHeartbeats 8000000
namespace My
open PySem PySem.Spec PyProof.Rows L2 Kx
local macro_rules | `(tactic| walk_at "lk") => `(tactic| first | assumption | ((with_reducible show upd _ _ _ _ = _); (first | exact upd_same | (exact up_new (by assumption) (by walk_at "lk")) | (exact up_other (by assumption) (by walk_at "lk")))) | (exact (by assumption : Same _ _) _ _ (by walk_at "lk")) | (exact ks_get (by assumption) (by walk_at "lk") (by first | rfl | assumption | exact notBox_len rfl)))
local macro_rules | `(tactic| walk_at "sl") => `(tactic| first | assumption | (exact l_of (by walk_at "lk")) | (exact Same.seq (by assumption) (by walk_at "sl")) | ((with_reducible show SqL _ (upd _ _ _) _ _); (exact Same.seq (sm_new (by assumption)) (by walk_at "sl"))))
local macro_rules | `(tactic| walk_at "st") => `(tactic| first | assumption | (exact t_of (by walk_at "lk")) | (exact Kx.Same.tup (by assumption) (by walk_at "st")) | ((with_reducible show SqT _ (upd _ _ _) _ _); (exact Kx.Same.tup (sm_new (by assumption)) (by walk_at "st"))) | (exact ks_tup (by assumption) (by walk_at "st")))
local macro_rules | `(tactic| walk_at "kd") => `(tactic| first | assumption | exact .non | exact .bl _ | exact .int _ | exact .str _ | (exact .lst (by walk_at "sl")) | (exact .tup (by walk_at "st")) | (exact .dic (by walk_at "lk")) | (exact Kd.same (by assumption) (by walk_at "kd")) | ((with_reducible show Kd _ (upd _ _ _) _ _); (exact Kd.same (sm_new (by assumption)) (by walk_at "kd"))))
local macro_rules | `(tactic| walk_at "tt") => `(tactic| first | rfl | assumption | decide +kernel | (simp only [decide_eq_true_eq, Bool.not_eq_true', decide_eq_false_iff_not, Bool.and_eq_true, Bool.or_eq_true]; omega))
local macro_rules | `(tactic| walk_at "ff") => `(tactic| first | rfl | assumption | decide +kernel | (simp only [decide_eq_true_eq, Bool.not_eq_false', decide_eq_false_iff_not, Bool.and_eq_false_imp, Bool.or_eq_false_iff]; omega))
local macro_rules | `(tactic| walk_at "hc") => `(tactic| fail)
local macro_rules | `(tactic| walk_at "hif") => `(tactic| ((with_reducible refine w_b2 ?_ ?_) <;> intro))
local macro_rules | `(tactic| walk_at "hs1") => `(tactic| first
  | (with_reducible refine w_seq ?_)
  | (with_reducible refine w_asg ?_)
  | ((with_reducible refine' w_var ?k1 ?_); (case k1 => exact rfl))
  | (with_reducible refine w_c ?_)
  | (with_reducible refine w_op ?_)
  | (with_reducible refine w_cons ?_)
  | (with_reducible refine w_nil ?_)
  | (with_reducible refine w_name ?_)
  | (with_reducible refine w_kn ?_)
  | (with_reducible refine w_kx ?_)
  | (with_reducible refine w_kk ?_)
  | (with_reducible refine w_cb ?_)
  | (with_reducible refine w_if ?_)
  | (with_reducible refine w_test ?_)
  | (with_reducible refine w_exb ?_)
  | (with_reducible refine iteT ?_)
  | (with_reducible refine iteF ?_)
  | ((with_reducible refine w_bt ?_ ?_); (first | rfl | decide +kernel))
  | ((with_reducible refine w_bf ?_ ?_); (first | rfl | decide +kernel))
  | ((with_reducible refine w_bt ?_ ?_); (walk_at "tt"))
  | ((with_reducible refine w_bf ?_ ?_); (walk_at "ff"))
  | (with_reducible refine w_ret ?_)
  | (with_reducible refine w_retN ?_)
  | (with_reducible refine w_drop ?_)
  | (with_reducible refine w_next ?_)
  | (with_reducible refine w_brk ?_)
  | (with_reducible refine w_cont ?_)
  | (with_reducible refine w_and ?_)
  | (with_reducible refine w_or ?_)
  | (with_reducible refine w_not ?_)
  | (with_reducible refine w_tr ?_)
  | (with_reducible refine w_yes ?_)
  | (with_reducible refine w_tru_bl ?_)
  | (with_reducible refine w_tru_int ?_)
  | (with_reducible refine w_tru_non ?_)
  | (with_reducible refine w_andV ?_)
  | (with_reducible refine w_orV ?_)
  | (with_reducible refine w_notV ?_)
  | (with_reducible refine w_ifx ?_)
  | (with_reducible refine w_chain ?_)
  | (with_reducible refine w_un ?_)
  | (with_reducible refine n_tup ?_)
  | (with_reducible refine n_lst ?_)
  | ((with_reducible show kTup _ _ _); (refine n_ktup rfl ?_); intro _ _ _ _ _)
  | ((with_reducible show kLst _ _ _); (refine n_klst rfl ?_); intro _ _ _ _ _)
  | (with_reducible refine w_par ?_)
  | (with_reducible refine w_par2 ?_)
  | (with_reducible refine w_par3 ?_)
  | (with_reducible refine w_par33 ?_)
  | ((with_reducible refine' w_aug ?k1 ?_); (case k1 => exact rfl))
  | (with_reducible refine w_raise ?_)
  | (with_reducible refine w_mkdue ?_)
  | (with_reducible refine w_one ?_)
  | ((with_reducible show gSq _ _ _ (V.ref _) _ _ _); (first | (refine n_gsq (by walk_at "lk") (by exact rfl) (by exact rfl) ?_) | (refine w_gtup (by walk_at "st") (by exact rfl) ?_) | (refine w_glst (by walk_at "sl") (by exact rfl) ?_)))
  | (with_reducible refine w_gcons ?_)
  | (with_reducible refine w_gnil ?_)
  | (with_reducible refine w_bm ?_)
  | ((with_reducible show tyV _ "list" (V.ref _) _ ∧ _); (refine w_tyl (by walk_at "sl") ?_))
  | (with_reducible refine w_for ?_)
  | (with_reducible refine w_rng1 ?_)
  | (with_reducible refine w_rng2 ?_)
  | (with_reducible refine w_add_ii ?_)
  | (with_reducible refine w_sub_ii ?_)
  | ((with_reducible refine w_fdv_ii ?_ ?_ ?_); (first | decide | omega); (first | decide | omega))
  | ((with_reducible refine w_mul_b ?_ ?_ ?_); (refine ⟨?_, ?_⟩ <;> omega); (refine ⟨?_, ?_⟩ <;> omega))
  | ((with_reducible refine w_mod_ii ?_ ?_); (first | decide | omega))
  | (with_reducible refine w_neg_i ?_)
  | (with_reducible refine w_lt_ii ?_)
  | (with_reducible refine w_le_ii ?_)
  | (with_reducible refine w_gt_ii ?_)
  | (with_reducible refine w_ge_ii ?_)
  | (with_reducible refine w_eq_ii ?_)
  | (with_reducible refine w_ne_ii ?_)
  | (with_reducible refine n_eq_same ?_)
  | (with_reducible refine n_ne_same ?_)
  | (with_reducible refine w_eq_ss ?_)
  | (with_reducible refine w_ne_ss ?_)
  | (with_reducible refine w_eq_bb ?_)
  | (with_reducible refine w_ne_bb ?_)
  | (with_reducible refine w_is_n ?_)
  | (with_reducible refine w_isn_n ?_)
  | (with_reducible refine w_is_bb ?_)
  | (with_reducible refine w_isn_bb ?_)
  | ((with_reducible show rIx _ (V.ref _) (V.int _) _ _); (first | (refine n_ix (by decide) (by walk_at "lk") (by exact rfl) ?_) | (refine n_ixl (by decide) (by walk_at "sl") (by exact rfl) ?_) | (refine n_ixt (by decide) (by walk_at "st") (by exact rfl) ?_)))
  | (with_reducible refine w_ipadd ?_)
  | (with_reducible refine w_ipsub ?_)
  | (with_reducible refine w_int_i ?_)
  | (with_reducible refine w_int_b ?_)
  | (with_reducible refine w_abs ?_)
  | ((with_reducible refine w_max2r ?_); intro _ _ _ _)
  | ((with_reducible refine w_min2r ?_); intro _ _ _ _)
  | ((with_reducible show uLen _ [V.ref _] _ _); (first | (refine n_len (by walk_at "lk") (by exact rfl) ?_) | (refine w_len_l (by walk_at "sl") ?_) | (refine w_len_t (by walk_at "st") ?_) | (refine w_len_d (by walk_at "lk") ?_)))
  | ((with_reducible show uIsi _ [_, V.ty _] _ _); (refine w_isk (by walk_at "kd") (by decide) ?_))
  | ((with_reducible show uIsi _ [_, V.ref _] _ _); (refine w_isk2 (by walk_at "lk") (by walk_at "kd") (by decide) (by decide) ?_))
  | (with_reducible refine w_wN ?_)
  | (with_reducible refine w_lc ?_)
  | ((with_reducible refine' w_rng2e ?k1 ?_); (case k1 => (refine ⟨?_, ?_, ?_, ?_⟩ <;> omega)))
  | ((with_reducible refine' w_rng1e ?k1 ?k2 ?_); (case k1 => omega); (case k2 => omega))
  | ((with_reducible show ∃ a', V.ref _ = .ref a' ∧ (∃ xs, SqL _ _ a' xs) ∧ _); (refine w_sqLe (by walk_at "sl") ?_))
  | ((with_reducible show ∃ a', V.ref _ = .ref a' ∧ (∃ xs, SqT _ _ a' xs) ∧ _); (refine w_sqTe (by walk_at "st") ?_))
  | (with_reducible refine w_slc ?_)
  | (with_reducible refine w_nop ?_)
  | (with_reducible refine w_part ?_)
  | (with_reducible refine w_exi ?_)
  | ((with_reducible show uSl _ (V.ref _) _ _ _ _); (refine n_slL (by walk_at "sl") ?_); intro _ _ _ _ _)
  | (with_reducible refine w_gsub ?_)
  | ((with_reducible show rSetL (V.ref _) (V.int _) _ _ _); (refine w_setl (by walk_at "lk") (by exact rfl) ?_))
  | (with_reducible refine w_pow_9 ?_)
  | (with_reducible refine w_pow_12 ?_)
  | (with_reducible refine w_pow_13 ?_)
  | (with_reducible refine w_pow_18 ?_)
  | (with_reducible refine w_pow_29 ?_)
  | ((with_reducible refine n_disp1 ?_); intro _ _ _ _ _)
  | (with_reducible refine w_dput ?_)
  | ((with_reducible show rAppend (V.ref _) [_] _ _); (refine w_append (by walk_at "lk") (by first | omega | (exact Nat.lt_of_le_of_lt (wN_le rfl) (by decide))) ?_))
  | ((with_reducible show ∃ a' H4, V.ref _ = .ref a' ∧ DPut _ a' (V.str _) _ H4 ∧ _); (refine w_dputS (by walk_at "lk") (by first | omega | exact wN_le rfl) ?_))
  | (with_reducible refine w_try ?_)
  | ((with_reducible show wManyA _ _ _ _ (.ref (He.ga _ _)) _ _ _); (first | ((refine w_hit (ExT.ex (by assumption) _ (by decide) _ (by decide)) ?_); intro _ _) | (refine w_miss (ExT.ex (by assumption) _ (by decide) _ (by decide)) ?_)))
  | (with_reducible refine w_xg ?_)
  | ((with_reducible show V.ref _ = .ref _ ∧ ∃ _ _ _ _, Value.ref (He.ga _ _) = _ ∧ _); (refine w_xge (ExT.xf (by assumption) _ (by decide)) (ExT.fg (by assumption) _ (by decide)) (by walk_at "lk") ?_))
  | ((with_reducible show rIsX _ (.ref (He.ga _ _)) _ _ _ _ _); (refine w_isx (ExT.xx (by assumption) _ (by decide)) (ExT.kd (by assumption) _ (by decide)) (by walk_at "lk") ?_))
  | ((with_reducible show uAdd _ (V.ref _) (V.ref _) _ _); (refine n_add_ll (by walk_at "lk") (by walk_at "lk") rfl ?_); intro _ _ _ _ _)
  | ((with_reducible show iSeq _ (tLst _) _ _ _); (refine w_sqL ?_))
  | ((with_reducible show iSeq _ (tTup _) _ _ _); (refine w_sqT ?_))
  | (refine ⟨(rfl : wipe _ _ = wipe _ _), ?_⟩)
  | (walk_at "hc"))
local macro_rules | `(tactic| walk_at "hs") => `(tactic| repeat' (walk_at "hs1"))

local macro_rules | `(tactic| walk_at "rg") => `(tactic| repeat' (first | exact rg_nil | (refine rg_cons (by omega) (by omega) ?_)))
local macro_rules | `(tactic| walk_at "sm") => `(tactic| first | exact Same.refl _ | assumption | ((with_reducible show Same _ (upd _ _ _)); (refine Same.trans ?_ (sm_new (by assumption))); walk_at "sm") | ((refine Same.trans ?_ (by assumption)); walk_at "sm"))
local macro_rules | `(tactic| walk_at "bx") => `(tactic| first | assumption | ((with_reducible show BoxAt (upd _ _ _) _ _); (exact BoxAt.new (by assumption) (by walk_at "bx"))) | (exact BoxAt.same (by assumption) (by walk_at "bx")))
local macro_rules | `(tactic| walk_at "ks") => `(tactic| first | exact Ks.refl _ | assumption | ((with_reducible show Ks _ (upd _ _ _)); (refine Ks.trans ?_ (Ks.of (sm_new (by assumption))); walk_at "ks")) | (refine Ks.trans ?_ (by assumption); walk_at "ks") | (refine Ks.trans ?_ (Ks.of (by assumption)); walk_at "ks"))
local macro_rules | `(tactic| walk_at "ob") => `(tactic| first | assumption | exact .sc rfl | (exact Ob.same (by assumption) (by walk_at "ob")) | (exact Ob.ks (by assumption) (by walk_at "ob")))
local macro_rules | `(tactic| walk_at "nd") => `(tactic| first | assumption | (exact Nd.same (by assumption) (by walk_at "nd")) | (exact Nd.ks (by assumption) (by walk_at "nd")))
local macro_rules | `(tactic| walk_at "df") => `(tactic| first | assumption | exact df_sc rfl | (exact df_vr (by assumption) (by walk_at "lk")) | (exact df_rv (by assumption) (by walk_at "ob")) | (exact df_vv (by assumption) (by walk_at "ob")) | (exact Df.symm (df_vv (by assumption) (by walk_at "ob"))))
local macro_rules | `(tactic| walk_at "hc") => `(tactic| (with_reducible show sp_is_whole _ _ _ _ _); (refine u_is_whole (by walk_at "kd") ?_))
local macro_rules | `(tactic| walk_at "hc") => `(tactic| (with_reducible show sp_is_between _ _ _ _ _); (refine u_is_between (by walk_at "kd") ?_))
local macro_rules | `(tactic| walk_at "hc") => `(tactic| (with_reducible show sp_is_day _ _ _ _ _); (refine u_is_day (by walk_at "kd") ?_))
local macro_rules | `(tactic| walk_at "hc") => `(tactic| (with_reducible refine u_is_leap_year ?_))
local macro_rules | `(tactic| walk_at "hc") => `(tactic| (with_reducible refine' u_length_of ?k1 ?k2 ?_); (case k1 => omega); (case k2 => omega))
local macro_rules | `(tactic| walk_at "hc") => `(tactic| (with_reducible refine' u_year_begin ?k1 ?k2 ?_); (case k1 => omega); (case k2 => omega))
local macro_rules | `(tactic| walk_at "hc") => `(tactic| (with_reducible refine' u_month_begin ?k1 ?k2 ?k3 ?k4 ?_); (case k1 => omega); (case k2 => omega); (case k3 => omega); (case k4 => omega); intro _ _)
local macro_rules | `(tactic| walk_at "hc") => `(tactic| (with_reducible show sp__law_take _ _ _ _ _); (refine u__law_take (by walk_at "bx") (by omega) (by omega) (by omega) ?_); intro _ _ _ _ _ _)
local macro_rules | `(tactic| walk_at "hc") => `(tactic| (with_reducible refine u__law_leap ?_))
local macro_rules | `(tactic| walk_at "hc") => `(tactic| (with_reducible show sp__law_length _ _ _ _ _); (refine u__law_length (by omega) (by omega) ?_); intro _ _)
local macro_rules | `(tactic| walk_at "hc") => `(tactic| (with_reducible show sp__law_next _ _ _ _ _); (refine u__law_next (by walk_at "st") (by omega) (by omega) ?_); intro _ _ _ _ _)
local macro_rules | `(tactic| walk_at "hc") => `(tactic| (with_reducible show sp__law_no_number _ _ _ _ _); (refine u__law_no_number (by walk_at "bx") (by omega) (by omega) (by omega) ?_); intro _ _ _ _ _ _ _)
local macro_rules | `(tactic| walk_at "hc") => `(tactic| (with_reducible refine u_weekday_at ?_))
local macro_rules | `(tactic| walk_at "hc") => `(tactic| (with_reducible show sp_first_monday _ _ _ _ _); (refine u_first_monday (by omega) (by omega) ?_))
local macro_rules | `(tactic| walk_at "hc") => `(tactic| (with_reducible show sp_weeks_of _ _ _ _ _); (refine u_weeks_of (by omega) (by omega) ?_))
local macro_rules | `(tactic| walk_at "hc") => `(tactic| (with_reducible show sp__law_begin _ _ _ _ _); (refine u__law_begin (by omega) (by omega) ?_))
local macro_rules | `(tactic| walk_at "hc") => `(tactic| (with_reducible show sp__law_weeks _ _ _ _ _); (refine u__law_weeks (by omega) (by omega) ?_))
local macro_rules | `(tactic| walk_at "hc") => `(tactic| (with_reducible show sp__law_year _ _ _ _ _); (refine u__law_year (by walk_at "bx") (by omega) ?_); intro _ _ _ _ _ _)
local macro_rules | `(tactic| walk_at "hc") => `(tactic| (with_reducible show sp__law_days_right _ _ _ _ _); (refine u__law_days_right (by walk_at "bx") (by omega) ?_); intro _ _ _)
local macro_rules | `(tactic| walk_at "hc") => `(tactic| (with_reducible show sp__law_months_right _ _ _ _ _); (refine u__law_months_right (by walk_at "bx") (by omega) ?_); intro _ _ _)
local macro_rules | `(tactic| walk_at "hc") => `(tactic| (with_reducible show sp__law_weeks_right _ _ _ _ _); (refine u__law_weeks_right (by walk_at "bx") (by omega) ?_); intro _ _ _)
local macro_rules | `(tactic| walk_at "df") => `(tactic| exact Df.symm (df_sc rfl))
local macro_rules | `(tactic| walk_at "hc") => `(tactic| (with_reducible show sp__law_take _ _ _ _ _); (refine u__law_take_B (by walk_at "bx") (by omega) (by omega) (by omega) ?_); intro _ _ _ _ _ _ _)
local macro_rules | `(tactic| walk_at "hc") => `(tactic| (with_reducible show sp__law_no_number _ _ _ _ _); (refine u__law_no_number_B (by walk_at "bx") (by omega) (by omega) (by omega) ?_); intro _ _ _ _ _ _ _ _)
variable {K : PySem.W.Frag}
theorem fnil {α : Type} {P : α → Prop} : ∀ x ∈ ([] : List α), P x := fun _ h => by cases h
/-- what stands keeps standing, changed or not -/
def Up (H H' : Hp) : Prop := ∀ a, H' a = none → H a = none
theorem up_ks {H H' : Hp} (e : Ks H H') : Up H H' := fun a h => e.fresh h
def Upc : List Hp → Prop
  | [] => True
  | [_] => True
  | A :: B :: r => Up A B ∧ Upc (B :: r)
theorem upc_all : ∀ (l : List Hp) (A : Hp), Upc (A :: l) → ∀ B ∈ l, Up A B
  | [], _, _, _, h => by cases h
  | C :: r, A, h, B, hB => by
    have h : Up A C ∧ Upc (C :: r) := h
    rcases List.mem_cons.mp hB with rfl | hB
    · exact h.1
    · exact fun a n => h.1 a (upc_all r C h.2 B hB a n)
theorem upc_pw : ∀ {l : List Hp}, Upc l → l.Pairwise Up
  | [], _ => .nil
  | [_], _ => .cons (fun _ h => by cases h) .nil
  | A :: B :: r, h => .cons (upc_all (B :: r) A h) (upc_pw (show Upc (B :: r) from (show Up A B ∧ Upc (B :: r) from h).2))
/-- v is made between the heaps n and m -/
def Born (hs : List Hp) (n m : Nat) (v : V) : Prop := ∀ a, v = .ref a → (∃ H, hs[n]? = some H ∧ H a = none) ∧ ∃ H, hs[m]? = some H ∧ H a ≠ none
theorem born_p {hs : List Hp} {n m : Nat} {X Y : Hp} {p : Addr} {o : HO} (h1 : hs[n]? = some X) (h2 : hs[m]? = some Y) (e1 : X p = none) (e2 : Y p = some o) : Born hs n m (.ref p) := fun a z => by
  cases z
  exact ⟨⟨X, h1, e1⟩, Y, h2, by rw [e2]; exact fun z => by cases z⟩
theorem born_v {hs : List Hp} {n m : Nat} {X Y : Hp} {v : V} (h1 : hs[n]? = some X) (h2 : hs[m]? = some Y) (f : Fresh X v) (o : Ob Y v) : Born hs n m v := fun a z => by
  subst z
  refine ⟨⟨X, h1, f a rfl⟩, Y, h2, ?_⟩
  cases o with
  | sc h => cases h
  | lst h _ _ => rw [h]; exact fun z => by cases z
  | tup h _ _ => rw [h]; exact fun z => by cases z
  | dic h => rw [h]; exact fun z => by cases z
theorem up_at {hs : List Hp} (C : hs.Pairwise Up) {i j : Nat} {X Y : Hp} (h : i ≤ j) (h1 : hs[i]? = some X) (h2 : hs[j]? = some Y) : Up X Y := by
  rcases Nat.lt_or_eq_of_le h with h | h
  · exact pw_get C h h1 h2
  · subst h
    rw [h1] at h2
    cases h2
    exact fun _ n => n
theorem df_l {hs : List Hp} (C : hs.Pairwise Up) {n m n' m' : Nat} {u v : V} (h1 : Born hs n m u) (h2 : Born hs n' m' v) (h : Nat.ble m n' = true) : Df u v := fun a e e2 => by
  obtain ⟨_, Y, hY, y⟩ := h1 a e
  obtain ⟨⟨X, hX, x⟩, _⟩ := h2 a e2
  exact y (up_at C (Nat.le_of_ble_eq_true h) hY hX a x)
theorem df_r {hs : List Hp} (C : hs.Pairwise Up) {n m n' m' : Nat} {u v : V} (h1 : Born hs n m u) (h2 : Born hs n' m' v) (h : Nat.ble m' n = true) : Df u v := (df_l C h2 h1 h).symm
theorem fresh_b {hs : List Hp} (C : hs.Pairwise Up) {n m : Nat} {v : V} {H : Hp} (h0 : hs[0]? = some H) (h1 : Born hs n m v) : Fresh H v := fun a e => by
  obtain ⟨⟨X, hX, x⟩, _⟩ := h1 a e
  exact up_at C (Nat.zero_le n) h0 hX a x
def PR2 (x y : Rw2) : Prop := (∀ v ∈ y.xs, Df x.t v) ∧ Df x.t (.ref y.pa) ∧ Df x.t (.ref y.r)
theorem w_pow_20 {H : Hp} {Q : VK} (q : Q (.int 100000000000000000000) H) : uPow (.int 10) (.int 20) H Q := w_pow_ii (by decide) q
theorem rows_end {b : Addr} {nm : Bool} {i : Int} {s11 s12 s13' s14 s15 : Option V} {H2 : Hp} {k : Int} (k0 : k < 750000000) (hb : BoxAt H2 b k) {y : Int} {H3 : Hp} (y0 : 2000 ≤ y) (y1 : y ≤ 2700000000) (k3 : Ks H2 H3) (b3 : BoxAt H3 b (k + 3)) {mo : V} {H4 : Hp} (k4 : Ks H3 H4) (om : Ob H4 mo) (wm : betw mo 1 12 = false) (fm : Fresh H3 mo) {wk : V} {H5 : Hp} (k5 : Ks H4 H5) (ow : Ob H5 wk) (ww : betw wk 1 53 = false) (fw : Fresh H4 wk) {wd' : V} {H6 : Hp} (k6 : Ks H5 H6) (od : Ob H6 wd') (wd_ : betw wd' 0 6 = false) (fd : Fresh H5 wd') {H7 : Hp} (s7' : Same H6 H7) {H8 : Hp} (s8' : Same H7 H8) {H9 : Hp} (k9 : Ks H8 H9) {num : V} (on : Ob H9 num) (wn : numOk num = false) (fnn : Fresh H6 num) {la : V} {Ha : Hp} (ka : Ks H9 Ha) (ol : Ob Ha la) (wl : betw la 2000 2700000000 = false) (fl : Fresh H9 la) {Hb : Hp} (kb : Ks Ha Hb) {Hc : Hp} (sc : Same Hb Hc) {Hd : Hp} (kd : Ks Hc Hd) {wi : V} (owi : Ob Hd wi) (fwi : Fresh Ha wi) {v1 : V} {G2 : Hp} (e3 : Ks Hd G2) (kb1 : Kb b Hd G2) (e4 : BoxAt G2 b (k + 3 + 2 + 2 + 2 + 1 + 2 + 2 + 1 + 2)) (e5 : Ob G2 v1) (e6 : betw v1 0 1000000000000 = false) (e7 : Fresh Hd v1) {p8 : Addr} {G9 : Hp} (e10 : G2 p8 = none) (e11 : Same G2 G9) (e12 : G9 p8 = some (HO.lst [v1])) {p13 : Addr} {G14 : Hp} (e15 : G9 p13 = none) (e16 : Same G9 G14) (e17 : G14 p13 = some (HO.lst [V.str "weekday", V.ref p8, V.str "day", V.int 0])) {v18 : V} {G19 : Hp} (e20 : Ks G14 G19) (kb18 : Kb b G14 G19) (e21 : BoxAt G19 b (k + 3 + 2 + 2 + 2 + 1 + 2 + 2 + 1 + 2 + 2)) (e22 : Ob G19 v18) (e23 : betw v18 0 1000000000000 = false) (e24 : Fresh G14 v18) {p25 : Addr} {G26 : Hp} (e27 : G19 p25 = none) (e28 : Same G19 G26) (e29 : G26 p25 = some (HO.lst [v18])) {p30 : Addr} {G31 : Hp} (e32 : G26 p30 = none) (e33 : Same G26 G31) (e34 : G31 p30 = some (HO.lst [V.str "week", V.ref p25, V.str "day", V.int 0])) {p35 : Addr} {G36 : Hp} (e37 : G31 p35 = none) (e38 : Same G31 G36) (e39 : G36 p35 = some (HO.lst [V.ref p13, V.ref p30])) {v40 : V} {G41 : Hp} (e42 : Ks G36 G41) (kb40 : Kb b G36 G41) (e43 : BoxAt G41 b (k + 3 + 2 + 2 + 2 + 1 + 2 + 2 + 1 + 2 + 2 + 2)) (e44 : Ob G41 v40) (e45 : betw v40 2000 2700000000 = false) (e46 : Fresh G36 v40) {p47 : Addr} {G48 : Hp} (e49 : G41 p47 = none) (e50 : Same G41 G48) (e51 : G48 p47 = some (HO.lst [v40])) {p52 : Addr} {G53 : Hp} (e54 : G48 p52 = none) (e55 : Same G48 G53) (e56 : G53 p52 = some (HO.lst [V.str "weeks", V.ref p47, V.str "year", V.int 0])) {p57 : Addr} {G58 : Hp} (e59 : G53 p57 = none) (e60 : Same G53 G58) (e61 : G58 p57 = some (HO.lst [la, V.int 1, wi])) {p62 : Addr} {G63 : Hp} (e64 : G58 p62 = none) (e65 : Same G58 G63) (e66 : G63 p62 = some (HO.lst [V.str "day", V.ref p57, V.str "year", V.int 0])) {p67 : Addr} {G68 : Hp} (e69 : G63 p67 = none) (e70 : Same G63 G68) (e71 : G68 p67 = some (HO.lst [V.ref p52, V.ref p62])) {p72 : Addr} {G73 : Hp} (e74 : G68 p72 = none) (e75 : Same G68 G73) (e76 : G73 p72 = some (HO.lst ([V.ref p13, V.ref p30] ++ [V.ref p52, V.ref p62]))) {p77 : Addr} {G78 : Hp} (e79 : G73 p77 = none) (e80 : Same G73 G78) (e81 : G78 p77 = some (HO.lst [V.int y, wk, wi])) {p82 : Addr} {G83 : Hp} (e84 : G78 p82 = none) (e85 : Same G78 G83) (e86 : G83 p82 = some (HO.lst [V.str "day", V.ref p77, V.str "week", V.int 1])) {p87 : Addr} {G88 : Hp} (e89 : G83 p87 = none) (e90 : Same G83 G88) (e91 : G88 p87 = some (HO.lst [V.int 2005, V.int 53, wi])) {p92 : Addr} {G93 : Hp} (e94 : G88 p92 = none) (e95 : Same G88 G93) (e96 : G93 p92 = some (HO.lst [V.str "day", V.ref p87, V.str "week", V.int 1])) {p97 : Addr} {G98 : Hp} (e99 : G93 p97 = none) (e100 : Same G93 G98) (e101 : G98 p97 = some (HO.lst [V.int 2004, V.int 53, wd'])) {p102 : Addr} {G103 : Hp} (e104 : G98 p102 = none) (e105 : Same G98 G103) (e106 : G103 p102 = some (HO.lst [V.str "day", V.ref p97, V.str "weekday", V.int 2])) {p107 : Addr} {G108 : Hp} (e109 : G103 p107 = none) (e110 : Same G103 G108) (e111 : G108 p107 = some (HO.lst [V.ref p82, V.ref p92, V.ref p102])) {p112 : Addr} {G113 : Hp} (e114 : G108 p112 = none) (e115 : Same G108 G113) (e116 : G113 p112 = some (HO.lst ([V.ref p13, V.ref p30] ++ [V.ref p52, V.ref p62] ++ [V.ref p82, V.ref p92, V.ref p102]))) {p117 : Addr} {G118 : Hp} (e119 : G113 p117 = none) (e120 : Same G113 G118) (e121 : G118 p117 = some (HO.lst [V.int y, mo, V.int 0, wi])) {p122 : Addr} {G123 : Hp} (e124 : G118 p122 = none) (e125 : Same G118 G123) (e126 : G123 p122 = some (HO.lst [V.str "nth", V.ref p117, V.str "month", V.int 1])) {p127 : Addr} {G128 : Hp} (e129 : G123 p127 = none) (e130 : Same G123 G128) (e131 : G128 p127 = some (HO.lst [V.int y, V.int 2, num, wi])) {p132 : Addr} {G133 : Hp} (e134 : G128 p132 = none) (e135 : Same G128 G133) (e136 : G133 p132 = some (HO.lst [V.str "nth", V.ref p127, V.str "number", V.int 2])) {p137 : Addr} {G138 : Hp} (e139 : G133 p137 = none) (e140 : Same G133 G138) (e141 : G138 p137 = some (HO.lst [V.ref p122, V.ref p132])) {p142 : Addr} {G143 : Hp} (e144 : G138 p142 = none) (e145 : Same G138 G143) (e146 : G143 p142 = some (HO.lst ([V.ref p13, V.ref p30] ++ [V.ref p52, V.ref p62] ++ [V.ref p82, V.ref p92, V.ref p102] ++ [V.ref p122, V.ref p132]))) {v147 : V} {G148 : Hp} (e149 : Ks G143 G148) (kb147 : Kb b G143 G148) (e150 : BoxAt G148 b (k + 3 + 2 + 2 + 2 + 1 + 2 + 2 + 1 + 2 + 2 + 2 + 2)) (e151 : Ob G148 v147) (e152 : betw v147 0 6 = false) (e153 : Fresh G143 v147) {p154 : Addr} {G155 : Hp} (e156 : G148 p154 = none) (e157 : Same G148 G155) (e158 : G155 p154 = some (HO.lst [V.int y, V.int 2, V.int (-1), v147])) {p159 : Addr} {G160 : Hp} (e161 : G155 p159 = none) (e162 : Same G155 G160) (e163 : G160 p159 = some (HO.lst [V.str "nth", V.ref p154, V.str "weekday", V.int 3])) {p164 : Addr} {G165 : Hp} (e166 : G160 p164 = none) (e167 : Same G160 G165) (e168 : G165 p164 = some (HO.lst [V.ref p159])) {p169 : Addr} {G170 : Hp} (e171 : G165 p169 = none) (e172 : Same G165 G170) (e173 : G170 p169 = some (HO.lst ([V.ref p13, V.ref p30] ++ [V.ref p52, V.ref p62] ++ [V.ref p82, V.ref p92, V.ref p102] ++ [V.ref p122, V.ref p132] ++ [V.ref p159]))) {v174 : V} {G175 : Hp} (e176 : Ks G170 G175) (kb174 : Kb b G170 G175) (e177 : BoxAt G175 b (k + 3 + 2 + 2 + 2 + 1 + 2 + 2 + 1 + 2 + 2 + 2 + 2 + 2)) (e178 : Ob G175 v174) (e179 : betw v174 2000 2700000000 = false) (e180 : Fresh G170 v174) {p181 : Addr} {G182 : Hp} (e183 : G175 p181 = none) (e184 : Same G175 G182) (e185 : G182 p181 = some (HO.lst [V.int 1, V.int 13])) {z186 : Int} {G187 : Hp} (e188 : 0 ≤ z186) (e189 : z186 < 2) (e190 : Ks G182 G187) (kb186 : Kb b G182 G187) (e191 : BoxAt G187 b (k + 3 + 2 + 2 + 2 + 1 + 2 + 2 + 1 + 2 + 2 + 2 + 2 + 2 + 1)) {m13 : V} (s13 : sca m13 = true) {pA : Addr} {GA : Hp} (nA_ : G187 pA = none) (sA : Same G187 GA) (hA : GA pA = some (HO.lst [v174, m13, V.int 0, V.int 7])) {rA : Addr} {GB : Hp} (nB : GA rA = none) (sB : Same GA GB) (hB : GB rA = some (HO.lst [V.str "nth", V.ref pA, V.str "year", V.int 0])) (D : Ends) (fin : ∀ s11 s12 s13 s14 s15 H', Ks H2 H' → BoxAt H' b (k + 60) → D.nx [some (.ref b), some (.bl nm), some (.int i), some (.int y), some mo, some wk, some wd', some num, some la, some wi, some (.ref p169), s11, s12, s13, s14, s15] H') :
    (tFor (iSeq K (tVar 10)) (gSq K 4 (gCons (gName 11) (gCons (gName 12) (gCons (gName 13) (gCons (gName 14) gNil))))) (tSeq (tAsg (tKn (sp__law_ask K) (tCons (tVar 11) (tCons (tVar 12) (tCons (tIf (tTest (tOp (uEq K) (tVar 2) (tC (.int 0)))) (tVar 1) (tNotV (tVar 1))) tNil)))) (gName 15)) (tIfS (tOr (tTest (tOp (uNe K) (tOp (rIx K) (tVar 15) (tC (.int 0))) (tVar 13))) (tOr (tTest (tOp uIsn (tOp (rIx K) (tVar 15) (tC (.int 2))) (tC (.bl true)))) (tNot (tTr K (tKn (sp__law_very K) (tCons (tOp (rIx K) (tVar 15) (tC (.int 1))) (tCons (tOp (rIx K) (tVar 12) (tVar 14)) tNil))))))) (tRet (tC (.bl false))) tNext))) D [some (.ref b), some (.bl nm), some (.int i), some (.int y), some mo, some wk, some wd', some num, some la, some wi, some (.ref p169), s11, s12, s13', s14, s15] (upd GB p169 (.lst (([V.ref p13, V.ref p30] ++ [V.ref p52, V.ref p62] ++ [V.ref p82, V.ref p92, V.ref p102] ++ [V.ref p122, V.ref p132] ++ [V.ref p159]) ++ [V.ref rA]))) := by
  have L187 := ks_get e190 (e184 _ _ (ks_get e176 e173 (notBox_len rfl))) (notBox_len rfl)
  have LB := sB _ _ (sA _ _ L187)
  have ne1 : rA ≠ p169 := fun z => by rw [z, sA _ _ L187] at nB; cases nB
  have ne2 : pA ≠ p169 := fun z => by rw [z, L187] at nA_; cases nA_
  have dv : Df v174 (.ref p169) := df_vr e180 e173
  have k1 : Ks G165 GB := Ks.trans (Ks.of e172) (Ks.trans e176 (Ks.trans (Ks.of e184) (Ks.trans e190 (Ks.of (Same.trans sA sB)))))
  have kz : Ks H2 G165 := by walk_at "ks"
  have oB : Ob GB v174 := ((((e178.same e184).ks e190).same sA).same sB)
  have b1 : ∃ c1, BoxAt G165 b c1 := ⟨_, by walk_at "bx"⟩
  obtain ⟨c1, b1⟩ := b1
  have b2 : BoxAt GB b (k + 30) := BoxAt.mono ((e191.same sA).same sB) (by omega)
  have off : ∀ o, Off p169 GB (upd GB p169 o) := fun o a u n hu => by rw [upd_ne n]; exact hu
  have nb117 : p117 ≠ b := by
    have h : ∃ c, BoxAt G113 b c := ⟨_, by walk_at "bx"⟩
    obtain ⟨c', n', m', c0', bo', h', _⟩ := h
    exact fun z => by rw [z, h'] at e119; cases e119
  have l117 : G165 p117 = some (.lst [.int y, mo, .int 0, wi]) := (e167 _ _ (e162 _ _ (e157 _ _ (kb147 _ _ nb117 (e145 _ _ (e140 _ _ (e135 _ _ (e130 _ _ (e125 _ _ e121)))))))))
  have t117 : GB p117 = some (.lst [.int y, mo, .int 0, wi]) := sB _ _ (sA _ _ (kb186 _ _ nb117 (e184 _ _ (kb174 _ _ nb117 (e172 _ _ l117)))))
  have n117 : p117 ≠ p169 := fun z => by rw [z, e171] at l117; cases l117
  obtain ⟨H0, hH0⟩ : ∃ H0, H0 = upd GB p169 (.lst (([V.ref p13, V.ref p30] ++ [V.ref p52, V.ref p62] ++ [V.ref p82, V.ref p92, V.ref p102] ++ [V.ref p122, V.ref p132] ++ [V.ref p159]) ++ [V.ref rA])) := ⟨_, rfl⟩
  have g1 : H0 p169 = some (.lst [V.ref p13, V.ref p30, V.ref p52, V.ref p62, V.ref p82, V.ref p92, V.ref p102, V.ref p122, V.ref p132, V.ref p159, V.ref rA]) := by rw [hH0]; exact upd_same
  have g2 : Ks G165 H0 := by rw [hH0]; exact ks_mut k1 e171
  have g3 := (show H0 rA = GB rA by rw [hH0, upd_ne ne1]).trans hB
  have g4 := (show H0 pA = GB pA by rw [hH0, upd_ne ne2]).trans (sB _ _ hA)
  have q117 := (show H0 p117 = GB p117 by rw [hH0, upd_ne n117]).trans t117
  have g5 : Ob H0 v174 := by rw [hH0]; exact oB.off dv (off _)
  have g6 : BoxAt H0 b (k + 30) := by rw [hH0]; exact BoxAt.mut b2 b1 e171
  have uH : Up GB H0 := fun a h => by
    rw [hH0] at h
    by_cases z : a = p169
    · subst z; rw [upd_same] at h; cases h
    · rw [upd_ne z] at h; exact h
  have e190' : Fresh G170 v174 := e180
  have kk : ∀ v, Ob G165 v → Df v (.ref pA) ∧ Df v (.ref rA) := fun v o => ⟨df_rv nA_ ((((o.same e172).ks e176).same e184).ks e190), df_rv nB (((((o.same e172).ks e176).same e184).ks e190).same sA)⟩
  rw [← hH0]
  clear hH0
  obtain ⟨bn, bm, bc0, bbo, hb0, _⟩ := hb
  obtain ⟨hs, hhs⟩ : ∃ hs : List Hp, hs = [H2, H3, H4, H5, H6, H7, H8, H9, Ha, Hb, Hc, Hd, G2, G9, G14, G19, G26, G31, G36, G41, G48, G53, G58, G63, G68, G73, G78, G83, G88, G93, G98, G103, G108, G113, G118, G123, G128, G133, G138, G143, G148, G155, G160, G165, G170, G175, G182, G187, GA, GB, H0] := ⟨_, rfl⟩
  have hC : hs.Pairwise Up := by
    rw [hhs]
    exact upc_pw ⟨up_ks (k3), up_ks (k4), up_ks (k5), up_ks (k6), up_ks (Ks.of s7'), up_ks (Ks.of s8'), up_ks (k9), up_ks (ka), up_ks (kb), up_ks (Ks.of sc), up_ks (kd), up_ks (e3), up_ks (Ks.of e11), up_ks (Ks.of e16), up_ks (e20), up_ks (Ks.of e28), up_ks (Ks.of e33), up_ks (Ks.of e38), up_ks (e42), up_ks (Ks.of e50), up_ks (Ks.of e55), up_ks (Ks.of e60), up_ks (Ks.of e65), up_ks (Ks.of e70), up_ks (Ks.of e75), up_ks (Ks.of e80), up_ks (Ks.of e85), up_ks (Ks.of e90), up_ks (Ks.of e95), up_ks (Ks.of e100), up_ks (Ks.of e105), up_ks (Ks.of e110), up_ks (Ks.of e115), up_ks (Ks.of e120), up_ks (Ks.of e125), up_ks (Ks.of e130), up_ks (Ks.of e135), up_ks (Ks.of e140), up_ks (Ks.of e145), up_ks (e149), up_ks (Ks.of e157), up_ks (Ks.of e162), up_ks (Ks.of e167), up_ks (Ks.of e172), up_ks (e176), up_ks (Ks.of e184), up_ks (e190), up_ks (Ks.of sA), up_ks (Ks.of sB), uH, True.intro⟩
  have I_H2 : hs[0]? = some H2 := by rw [hhs]; rfl
  have I_H3 : hs[1]? = some H3 := by rw [hhs]; rfl
  have I_H4 : hs[2]? = some H4 := by rw [hhs]; rfl
  have I_H5 : hs[3]? = some H5 := by rw [hhs]; rfl
  have I_H6 : hs[4]? = some H6 := by rw [hhs]; rfl
  have I_H9 : hs[7]? = some H9 := by rw [hhs]; rfl
  have I_Ha : hs[8]? = some Ha := by rw [hhs]; rfl
  have I_Hd : hs[11]? = some Hd := by rw [hhs]; rfl
  have I_G2 : hs[12]? = some G2 := by rw [hhs]; rfl
  have I_G9 : hs[13]? = some G9 := by rw [hhs]; rfl
  have I_G14 : hs[14]? = some G14 := by rw [hhs]; rfl
  have I_G19 : hs[15]? = some G19 := by rw [hhs]; rfl
  have I_G26 : hs[16]? = some G26 := by rw [hhs]; rfl
  have I_G31 : hs[17]? = some G31 := by rw [hhs]; rfl
  have I_G36 : hs[18]? = some G36 := by rw [hhs]; rfl
  have I_G41 : hs[19]? = some G41 := by rw [hhs]; rfl
  have I_G48 : hs[20]? = some G48 := by rw [hhs]; rfl
  have I_G53 : hs[21]? = some G53 := by rw [hhs]; rfl
  have I_G58 : hs[22]? = some G58 := by rw [hhs]; rfl
  have I_G63 : hs[23]? = some G63 := by rw [hhs]; rfl
  have I_G73 : hs[25]? = some G73 := by rw [hhs]; rfl
  have I_G78 : hs[26]? = some G78 := by rw [hhs]; rfl
  have I_G83 : hs[27]? = some G83 := by rw [hhs]; rfl
  have I_G88 : hs[28]? = some G88 := by rw [hhs]; rfl
  have I_G93 : hs[29]? = some G93 := by rw [hhs]; rfl
  have I_G98 : hs[30]? = some G98 := by rw [hhs]; rfl
  have I_G103 : hs[31]? = some G103 := by rw [hhs]; rfl
  have I_G113 : hs[33]? = some G113 := by rw [hhs]; rfl
  have I_G118 : hs[34]? = some G118 := by rw [hhs]; rfl
  have I_G123 : hs[35]? = some G123 := by rw [hhs]; rfl
  have I_G128 : hs[36]? = some G128 := by rw [hhs]; rfl
  have I_G133 : hs[37]? = some G133 := by rw [hhs]; rfl
  have I_G143 : hs[39]? = some G143 := by rw [hhs]; rfl
  have I_G148 : hs[40]? = some G148 := by rw [hhs]; rfl
  have I_G155 : hs[41]? = some G155 := by rw [hhs]; rfl
  have I_G160 : hs[42]? = some G160 := by rw [hhs]; rfl
  have I_G165 : hs[43]? = some G165 := by rw [hhs]; rfl
  have I_G170 : hs[44]? = some G170 := by rw [hhs]; rfl
  have I_G175 : hs[45]? = some G175 := by rw [hhs]; rfl
  have I_G187 : hs[47]? = some G187 := by rw [hhs]; rfl
  have I_GA : hs[48]? = some GA := by rw [hhs]; rfl
  have I_GB : hs[49]? = some GB := by rw [hhs]; rfl
  have B_mo : Born hs 1 2 mo := born_v I_H3 I_H4 fm om
  have B_wk : Born hs 2 3 wk := born_v I_H4 I_H5 fw ow
  have B_wdq : Born hs 3 4 wd' := born_v I_H5 I_H6 fd od
  have B_num : Born hs 4 7 num := born_v I_H6 I_H9 fnn on
  have B_la : Born hs 7 8 la := born_v I_H9 I_Ha fl ol
  have B_wi : Born hs 8 11 wi := born_v I_Ha I_Hd fwi owi
  have B_v1 : Born hs 11 12 v1 := born_v I_Hd I_G2 e7 e5
  have B_v18 : Born hs 14 15 v18 := born_v I_G14 I_G19 e24 e22
  have B_v40 : Born hs 18 19 v40 := born_v I_G36 I_G41 e46 e44
  have B_v147 : Born hs 39 40 v147 := born_v I_G143 I_G148 e153 e151
  have B_v174 : Born hs 44 45 v174 := born_v I_G170 I_G175 e180 e178
  have B_p8 : Born hs 12 13 (.ref p8) := born_p I_G2 I_G9 e10 e12
  have B_p13 : Born hs 13 14 (.ref p13) := born_p I_G9 I_G14 e15 e17
  have B_p25 : Born hs 15 16 (.ref p25) := born_p I_G19 I_G26 e27 e29
  have B_p30 : Born hs 16 17 (.ref p30) := born_p I_G26 I_G31 e32 e34
  have B_p47 : Born hs 19 20 (.ref p47) := born_p I_G41 I_G48 e49 e51
  have B_p52 : Born hs 20 21 (.ref p52) := born_p I_G48 I_G53 e54 e56
  have B_p57 : Born hs 21 22 (.ref p57) := born_p I_G53 I_G58 e59 e61
  have B_p62 : Born hs 22 23 (.ref p62) := born_p I_G58 I_G63 e64 e66
  have B_p77 : Born hs 25 26 (.ref p77) := born_p I_G73 I_G78 e79 e81
  have B_p82 : Born hs 26 27 (.ref p82) := born_p I_G78 I_G83 e84 e86
  have B_p87 : Born hs 27 28 (.ref p87) := born_p I_G83 I_G88 e89 e91
  have B_p92 : Born hs 28 29 (.ref p92) := born_p I_G88 I_G93 e94 e96
  have B_p97 : Born hs 29 30 (.ref p97) := born_p I_G93 I_G98 e99 e101
  have B_p102 : Born hs 30 31 (.ref p102) := born_p I_G98 I_G103 e104 e106
  have B_p117 : Born hs 33 34 (.ref p117) := born_p I_G113 I_G118 e119 e121
  have B_p122 : Born hs 34 35 (.ref p122) := born_p I_G118 I_G123 e124 e126
  have B_p127 : Born hs 35 36 (.ref p127) := born_p I_G123 I_G128 e129 e131
  have B_p132 : Born hs 36 37 (.ref p132) := born_p I_G128 I_G133 e134 e136
  have B_p154 : Born hs 40 41 (.ref p154) := born_p I_G148 I_G155 e156 e158
  have B_p159 : Born hs 41 42 (.ref p159) := born_p I_G155 I_G160 e161 e163
  have B_p169 : Born hs 43 44 (.ref p169) := born_p I_G165 I_G170 e171 e173
  have B_pA : Born hs 47 48 (.ref pA) := born_p I_G187 I_GA nA_ hA
  have B_rA : Born hs 48 49 (.ref rA) := born_p I_GA I_GB nB hB
  have nbS : ∀ {w : Str} {p : Addr} {e : Str} {n : Int}, notBox (.lst [V.str w, V.ref p, V.str e, V.int n]) = true := rfl
  have c_G165 : Ks G165 H0 := g2
  have c_G160 : Ks G160 H0 := Ks.trans (Ks.of e167) c_G165
  have c_G155 : Ks G155 H0 := Ks.trans (Ks.of e162) c_G160
  have c_G148 : Ks G148 H0 := Ks.trans (Ks.of e157) c_G155
  have c_G143 : Ks G143 H0 := Ks.trans (e149) c_G148
  have c_G138 : Ks G138 H0 := Ks.trans (Ks.of e145) c_G143
  have c_G133 : Ks G133 H0 := Ks.trans (Ks.of e140) c_G138
  have c_G128 : Ks G128 H0 := Ks.trans (Ks.of e135) c_G133
  have c_G123 : Ks G123 H0 := Ks.trans (Ks.of e130) c_G128
  have c_G118 : Ks G118 H0 := Ks.trans (Ks.of e125) c_G123
  have c_G113 : Ks G113 H0 := Ks.trans (Ks.of e120) c_G118
  have c_G108 : Ks G108 H0 := Ks.trans (Ks.of e115) c_G113
  have c_G103 : Ks G103 H0 := Ks.trans (Ks.of e110) c_G108
  have c_G98 : Ks G98 H0 := Ks.trans (Ks.of e105) c_G103
  have c_G93 : Ks G93 H0 := Ks.trans (Ks.of e100) c_G98
  have c_G88 : Ks G88 H0 := Ks.trans (Ks.of e95) c_G93
  have c_G83 : Ks G83 H0 := Ks.trans (Ks.of e90) c_G88
  have c_G78 : Ks G78 H0 := Ks.trans (Ks.of e85) c_G83
  have c_G73 : Ks G73 H0 := Ks.trans (Ks.of e80) c_G78
  have c_G68 : Ks G68 H0 := Ks.trans (Ks.of e75) c_G73
  have c_G63 : Ks G63 H0 := Ks.trans (Ks.of e70) c_G68
  have c_G58 : Ks G58 H0 := Ks.trans (Ks.of e65) c_G63
  have c_G53 : Ks G53 H0 := Ks.trans (Ks.of e60) c_G58
  have c_G48 : Ks G48 H0 := Ks.trans (Ks.of e55) c_G53
  have c_G41 : Ks G41 H0 := Ks.trans (Ks.of e50) c_G48
  have c_G36 : Ks G36 H0 := Ks.trans (e42) c_G41
  have c_G31 : Ks G31 H0 := Ks.trans (Ks.of e38) c_G36
  have c_G26 : Ks G26 H0 := Ks.trans (Ks.of e33) c_G31
  have c_G19 : Ks G19 H0 := Ks.trans (Ks.of e28) c_G26
  have c_G14 : Ks G14 H0 := Ks.trans (e20) c_G19
  have c_G9 : Ks G9 H0 := Ks.trans (Ks.of e16) c_G14
  have c_G2 : Ks G2 H0 := Ks.trans (Ks.of e11) c_G9
  have c_Hd : Ks Hd H0 := Ks.trans (e3) c_G2
  have c_Hc : Ks Hc H0 := Ks.trans (kd) c_Hd
  have c_Hb : Ks Hb H0 := Ks.trans (Ks.of sc) c_Hc
  have c_Ha : Ks Ha H0 := Ks.trans (kb) c_Hb
  have c_H9 : Ks H9 H0 := Ks.trans (ka) c_Ha
  have c_H8 : Ks H8 H0 := Ks.trans (k9) c_H9
  have c_H7 : Ks H7 H0 := Ks.trans (Ks.of s8') c_H8
  have c_H6 : Ks H6 H0 := Ks.trans (Ks.of s7') c_H7
  have c_H5 : Ks H5 H0 := Ks.trans (k6) c_H6
  have c_H4 : Ks H4 H0 := Ks.trans (k5) c_H5
  have c_H3 : Ks H3 H0 := Ks.trans (k4) c_H4
  have c_H2 : Ks H2 H0 := Ks.trans (k3) c_H3
  have o_mo : Ob H0 mo := Ob.ks c_H4 om
  have o_wk : Ob H0 wk := Ob.ks c_H5 ow
  have o_wdq : Ob H0 wd' := Ob.ks c_H6 od
  have o_num : Ob H0 num := Ob.ks c_H9 on
  have o_la : Ob H0 la := Ob.ks c_Ha ol
  have o_wi : Ob H0 wi := Ob.ks c_Hd owi
  have o_v1 : Ob H0 v1 := Ob.ks c_G2 e5
  have o_v18 : Ob H0 v18 := Ob.ks c_G19 e22
  have o_v40 : Ob H0 v40 := Ob.ks c_G41 e44
  have o_v147 : Ob H0 v147 := Ob.ks c_G148 e151
  obtain ⟨x0, h0⟩ : ∃ x : Rw2, x = ⟨p13, p8, "weekday", [v1], "day", 0, v1⟩ := ⟨_, rfl⟩
  obtain ⟨x1, h1⟩ : ∃ x : Rw2, x = ⟨p30, p25, "week", [v18], "day", 0, v18⟩ := ⟨_, rfl⟩
  obtain ⟨x2, h2⟩ : ∃ x : Rw2, x = ⟨p52, p47, "weeks", [v40], "year", 0, v40⟩ := ⟨_, rfl⟩
  obtain ⟨x3, h3⟩ : ∃ x : Rw2, x = ⟨p62, p57, "day", [la, .int 1, wi], "year", 0, la⟩ := ⟨_, rfl⟩
  obtain ⟨x4, h4⟩ : ∃ x : Rw2, x = ⟨p82, p77, "day", [.int y, wk, wi], "week", 1, wk⟩ := ⟨_, rfl⟩
  obtain ⟨x5, h5⟩ : ∃ x : Rw2, x = ⟨p92, p87, "day", [.int 2005, .int 53, wi], "week", 1, .int 53⟩ := ⟨_, rfl⟩
  obtain ⟨x6, h6⟩ : ∃ x : Rw2, x = ⟨p102, p97, "day", [.int 2004, .int 53, wd'], "weekday", 2, wd'⟩ := ⟨_, rfl⟩
  obtain ⟨x7, h7⟩ : ∃ x : Rw2, x = ⟨p122, p117, "nth", [.int y, mo, .int 0, wi], "month", 1, mo⟩ := ⟨_, rfl⟩
  obtain ⟨x8, h8⟩ : ∃ x : Rw2, x = ⟨p132, p127, "nth", [.int y, .int 2, num, wi], "number", 2, num⟩ := ⟨_, rfl⟩
  obtain ⟨x9, h9⟩ : ∃ x : Rw2, x = ⟨p159, p154, "nth", [.int y, .int 2, .int (-1), v147], "weekday", 3, v147⟩ := ⟨_, rfl⟩
  obtain ⟨x10, h10⟩ : ∃ x : Rw2, x = ⟨rA, pA, "nth", [v174, m13, .int 0, .int 7], "year", 0, v174⟩ := ⟨_, rfl⟩
  have A0 : RowOk2 K H0 x0 := by rw [h0]; exact r2_weekday (ks_get c_G14 e17 nbS) (ks_get c_G9 e12 (notBox_len rfl)) o_v1 e6
  have A1 : RowOk2 K H0 x1 := by rw [h1]; exact r2_week (ks_get c_G31 e34 nbS) (ks_get c_G26 e29 (notBox_len rfl)) o_v18 e23
  have A2 : RowOk2 K H0 x2 := by rw [h2]; exact r2_weeks (ks_get c_G53 e56 nbS) (ks_get c_G48 e51 (notBox_len rfl)) o_v40 e45
  have A3 : RowOk2 K H0 x3 := by rw [h3]; exact r2_dayy (ks_get c_G63 e66 nbS) (ks_get c_G58 e61 (notBox_len rfl)) o_la (.sc rfl) o_wi wl
  have A4 : RowOk2 K H0 x4 := by rw [h4]; exact r2_dayw (ks_get c_G83 e86 nbS) (ks_get c_G78 e81 (notBox_len rfl)) o_wk o_wi y0 y1 (betw_sub ww (wks_bd y).2)
  have A5 : RowOk2 K H0 x5 := by rw [h5]; exact r2_dayw (ks_get c_G93 e96 nbS) (ks_get c_G88 e91 (notBox_len rfl)) (.sc rfl) o_wi (by decide) (by decide) (by decide +kernel)
  have A6 : RowOk2 K H0 x6 := by rw [h6]; exact r2_dayd (ks_get c_G103 e106 nbS) (ks_get c_G98 e101 (notBox_len rfl)) o_wdq (by decide) (by decide) (by decide +kernel) wd_
  have A7 : RowOk2 K H0 x7 := by rw [h7]; exact r2_nthm (ks_get c_G123 e126 nbS) q117 o_mo (.sc rfl) o_wi y0 y1 wm
  have A8 : RowOk2 K H0 x8 := by rw [h8]; exact r2_nthn (ks_get c_G133 e136 nbS) (ks_get c_G128 e131 rfl) o_num o_wi y0 y1 rfl wn
  have A9 : RowOk2 K H0 x9 := by rw [h9]; exact r2_nthw (ks_get c_G160 e163 nbS) (ks_get c_G155 e158 rfl) o_v147 y0 y1 rfl rfl e152
  have A10 : RowOk2 K H0 x10 := by rw [h10]; exact r2_nthy g3 g4 g5 (.sc s13) (.sc rfl) (.sc rfl) e179
  obtain ⟨rows, hrows⟩ : ∃ rows : List Rw2, rows = [x0, x1, x2, x3, x4, x5, x6, x7, x8, x9, x10] := ⟨_, rfl⟩
  have RA : ∀ x ∈ rows, RowOk2 K H0 x := by
    rw [hrows]
    exact List.forall_mem_cons.mpr ⟨A0, List.forall_mem_cons.mpr ⟨A1, List.forall_mem_cons.mpr ⟨A2, List.forall_mem_cons.mpr ⟨A3, List.forall_mem_cons.mpr ⟨A4, List.forall_mem_cons.mpr ⟨A5, List.forall_mem_cons.mpr ⟨A6, List.forall_mem_cons.mpr ⟨A7, List.forall_mem_cons.mpr ⟨A8, List.forall_mem_cons.mpr ⟨A9, List.forall_mem_cons.mpr ⟨A10, fnil⟩⟩⟩⟩⟩⟩⟩⟩⟩⟩⟩
  have F0 : Fresh H2 x0.t := by rw [h0]; exact fresh_b hC I_H2 B_v1
  have T0 : Df x0.t (.ref p169) := by rw [h0]; exact (df_l hC B_v1 B_p169 rfl)
  have F1 : Fresh H2 x1.t := by rw [h1]; exact fresh_b hC I_H2 B_v18
  have T1 : Df x1.t (.ref p169) := by rw [h1]; exact (df_l hC B_v18 B_p169 rfl)
  have F2 : Fresh H2 x2.t := by rw [h2]; exact fresh_b hC I_H2 B_v40
  have T2 : Df x2.t (.ref p169) := by rw [h2]; exact (df_l hC B_v40 B_p169 rfl)
  have F3 : Fresh H2 x3.t := by rw [h3]; exact fresh_b hC I_H2 B_la
  have T3 : Df x3.t (.ref p169) := by rw [h3]; exact (df_l hC B_la B_p169 rfl)
  have F4 : Fresh H2 x4.t := by rw [h4]; exact fresh_b hC I_H2 B_wk
  have T4 : Df x4.t (.ref p169) := by rw [h4]; exact (df_l hC B_wk B_p169 rfl)
  have F5 : Fresh H2 x5.t := by rw [h5]; exact fresh_sc rfl
  have T5 : Df x5.t (.ref p169) := by rw [h5]; exact Df.symm (df_sc rfl)
  have F6 : Fresh H2 x6.t := by rw [h6]; exact fresh_b hC I_H2 B_wdq
  have T6 : Df x6.t (.ref p169) := by rw [h6]; exact (df_l hC B_wdq B_p169 rfl)
  have F7 : Fresh H2 x7.t := by rw [h7]; exact fresh_b hC I_H2 B_mo
  have T7 : Df x7.t (.ref p169) := by rw [h7]; exact (df_l hC B_mo B_p169 rfl)
  have F8 : Fresh H2 x8.t := by rw [h8]; exact fresh_b hC I_H2 B_num
  have T8 : Df x8.t (.ref p169) := by rw [h8]; exact (df_l hC B_num B_p169 rfl)
  have F9 : Fresh H2 x9.t := by rw [h9]; exact fresh_b hC I_H2 B_v147
  have T9 : Df x9.t (.ref p169) := by rw [h9]; exact (df_l hC B_v147 B_p169 rfl)
  have F10 : Fresh H2 x10.t := by rw [h10]; exact fresh_b hC I_H2 B_v174
  have T10 : Df x10.t (.ref p169) := by rw [h10]; exact (df_r hC B_v174 B_p169 rfl)
  have TF : ∀ x ∈ rows, Fresh H2 x.t := by
    rw [hrows]
    exact List.forall_mem_cons.mpr ⟨F0, List.forall_mem_cons.mpr ⟨F1, List.forall_mem_cons.mpr ⟨F2, List.forall_mem_cons.mpr ⟨F3, List.forall_mem_cons.mpr ⟨F4, List.forall_mem_cons.mpr ⟨F5, List.forall_mem_cons.mpr ⟨F6, List.forall_mem_cons.mpr ⟨F7, List.forall_mem_cons.mpr ⟨F8, List.forall_mem_cons.mpr ⟨F9, List.forall_mem_cons.mpr ⟨F10, fnil⟩⟩⟩⟩⟩⟩⟩⟩⟩⟩⟩
  have TL : ∀ x ∈ rows, Df x.t (.ref p169) := by
    rw [hrows]
    exact List.forall_mem_cons.mpr ⟨T0, List.forall_mem_cons.mpr ⟨T1, List.forall_mem_cons.mpr ⟨T2, List.forall_mem_cons.mpr ⟨T3, List.forall_mem_cons.mpr ⟨T4, List.forall_mem_cons.mpr ⟨T5, List.forall_mem_cons.mpr ⟨T6, List.forall_mem_cons.mpr ⟨T7, List.forall_mem_cons.mpr ⟨T8, List.forall_mem_cons.mpr ⟨T9, List.forall_mem_cons.mpr ⟨T10, fnil⟩⟩⟩⟩⟩⟩⟩⟩⟩⟩⟩
  have P0_1 : PR2 x0 x1 := by rw [h0, h1]; exact ⟨(fm_cons (df_l hC B_v1 B_v18 rfl) fm_nil), (df_l hC B_v1 B_p25 rfl), (df_l hC B_v1 B_p30 rfl)⟩
  have P0_2 : PR2 x0 x2 := by rw [h0, h2]; exact ⟨(fm_cons (df_l hC B_v1 B_v40 rfl) fm_nil), (df_l hC B_v1 B_p47 rfl), (df_l hC B_v1 B_p52 rfl)⟩
  have P0_3 : PR2 x0 x3 := by rw [h0, h3]; exact ⟨(fm_cons (df_r hC B_v1 B_la rfl) (fm_cons (df_sc rfl) (fm_cons (df_r hC B_v1 B_wi rfl) fm_nil))), (df_l hC B_v1 B_p57 rfl), (df_l hC B_v1 B_p62 rfl)⟩
  have P0_4 : PR2 x0 x4 := by rw [h0, h4]; exact ⟨(fm_cons (df_sc rfl) (fm_cons (df_r hC B_v1 B_wk rfl) (fm_cons (df_r hC B_v1 B_wi rfl) fm_nil))), (df_l hC B_v1 B_p77 rfl), (df_l hC B_v1 B_p82 rfl)⟩
  have P0_5 : PR2 x0 x5 := by rw [h0, h5]; exact ⟨(fm_cons (df_sc rfl) (fm_cons (df_sc rfl) (fm_cons (df_r hC B_v1 B_wi rfl) fm_nil))), (df_l hC B_v1 B_p87 rfl), (df_l hC B_v1 B_p92 rfl)⟩
  have P0_6 : PR2 x0 x6 := by rw [h0, h6]; exact ⟨(fm_cons (df_sc rfl) (fm_cons (df_sc rfl) (fm_cons (df_r hC B_v1 B_wdq rfl) fm_nil))), (df_l hC B_v1 B_p97 rfl), (df_l hC B_v1 B_p102 rfl)⟩
  have P0_7 : PR2 x0 x7 := by rw [h0, h7]; exact ⟨(fm_cons (df_sc rfl) (fm_cons (df_r hC B_v1 B_mo rfl) (fm_cons (df_sc rfl) (fm_cons (df_r hC B_v1 B_wi rfl) fm_nil)))), (df_l hC B_v1 B_p117 rfl), (df_l hC B_v1 B_p122 rfl)⟩
  have P0_8 : PR2 x0 x8 := by rw [h0, h8]; exact ⟨(fm_cons (df_sc rfl) (fm_cons (df_sc rfl) (fm_cons (df_r hC B_v1 B_num rfl) (fm_cons (df_r hC B_v1 B_wi rfl) fm_nil)))), (df_l hC B_v1 B_p127 rfl), (df_l hC B_v1 B_p132 rfl)⟩
  have P0_9 : PR2 x0 x9 := by rw [h0, h9]; exact ⟨(fm_cons (df_sc rfl) (fm_cons (df_sc rfl) (fm_cons (df_sc rfl) (fm_cons (df_l hC B_v1 B_v147 rfl) fm_nil)))), (df_l hC B_v1 B_p154 rfl), (df_l hC B_v1 B_p159 rfl)⟩
  have P0_10 : PR2 x0 x10 := by rw [h0, h10]; exact ⟨(fm_cons (df_l hC B_v1 B_v174 rfl) (fm_cons (df_sc s13) (fm_cons (df_sc rfl) (fm_cons (df_sc rfl) fm_nil)))), (df_l hC B_v1 B_pA rfl), (df_l hC B_v1 B_rA rfl)⟩
  have P1_2 : PR2 x1 x2 := by rw [h1, h2]; exact ⟨(fm_cons (df_l hC B_v18 B_v40 rfl) fm_nil), (df_l hC B_v18 B_p47 rfl), (df_l hC B_v18 B_p52 rfl)⟩
  have P1_3 : PR2 x1 x3 := by rw [h1, h3]; exact ⟨(fm_cons (df_r hC B_v18 B_la rfl) (fm_cons (df_sc rfl) (fm_cons (df_r hC B_v18 B_wi rfl) fm_nil))), (df_l hC B_v18 B_p57 rfl), (df_l hC B_v18 B_p62 rfl)⟩
  have P1_4 : PR2 x1 x4 := by rw [h1, h4]; exact ⟨(fm_cons (df_sc rfl) (fm_cons (df_r hC B_v18 B_wk rfl) (fm_cons (df_r hC B_v18 B_wi rfl) fm_nil))), (df_l hC B_v18 B_p77 rfl), (df_l hC B_v18 B_p82 rfl)⟩
  have P1_5 : PR2 x1 x5 := by rw [h1, h5]; exact ⟨(fm_cons (df_sc rfl) (fm_cons (df_sc rfl) (fm_cons (df_r hC B_v18 B_wi rfl) fm_nil))), (df_l hC B_v18 B_p87 rfl), (df_l hC B_v18 B_p92 rfl)⟩
  have P1_6 : PR2 x1 x6 := by rw [h1, h6]; exact ⟨(fm_cons (df_sc rfl) (fm_cons (df_sc rfl) (fm_cons (df_r hC B_v18 B_wdq rfl) fm_nil))), (df_l hC B_v18 B_p97 rfl), (df_l hC B_v18 B_p102 rfl)⟩
  have P1_7 : PR2 x1 x7 := by rw [h1, h7]; exact ⟨(fm_cons (df_sc rfl) (fm_cons (df_r hC B_v18 B_mo rfl) (fm_cons (df_sc rfl) (fm_cons (df_r hC B_v18 B_wi rfl) fm_nil)))), (df_l hC B_v18 B_p117 rfl), (df_l hC B_v18 B_p122 rfl)⟩
  have P1_8 : PR2 x1 x8 := by rw [h1, h8]; exact ⟨(fm_cons (df_sc rfl) (fm_cons (df_sc rfl) (fm_cons (df_r hC B_v18 B_num rfl) (fm_cons (df_r hC B_v18 B_wi rfl) fm_nil)))), (df_l hC B_v18 B_p127 rfl), (df_l hC B_v18 B_p132 rfl)⟩
  have P1_9 : PR2 x1 x9 := by rw [h1, h9]; exact ⟨(fm_cons (df_sc rfl) (fm_cons (df_sc rfl) (fm_cons (df_sc rfl) (fm_cons (df_l hC B_v18 B_v147 rfl) fm_nil)))), (df_l hC B_v18 B_p154 rfl), (df_l hC B_v18 B_p159 rfl)⟩
  have P1_10 : PR2 x1 x10 := by rw [h1, h10]; exact ⟨(fm_cons (df_l hC B_v18 B_v174 rfl) (fm_cons (df_sc s13) (fm_cons (df_sc rfl) (fm_cons (df_sc rfl) fm_nil)))), (df_l hC B_v18 B_pA rfl), (df_l hC B_v18 B_rA rfl)⟩
  have P2_3 : PR2 x2 x3 := by rw [h2, h3]; exact ⟨(fm_cons (df_r hC B_v40 B_la rfl) (fm_cons (df_sc rfl) (fm_cons (df_r hC B_v40 B_wi rfl) fm_nil))), (df_l hC B_v40 B_p57 rfl), (df_l hC B_v40 B_p62 rfl)⟩
  have P2_4 : PR2 x2 x4 := by rw [h2, h4]; exact ⟨(fm_cons (df_sc rfl) (fm_cons (df_r hC B_v40 B_wk rfl) (fm_cons (df_r hC B_v40 B_wi rfl) fm_nil))), (df_l hC B_v40 B_p77 rfl), (df_l hC B_v40 B_p82 rfl)⟩
  have P2_5 : PR2 x2 x5 := by rw [h2, h5]; exact ⟨(fm_cons (df_sc rfl) (fm_cons (df_sc rfl) (fm_cons (df_r hC B_v40 B_wi rfl) fm_nil))), (df_l hC B_v40 B_p87 rfl), (df_l hC B_v40 B_p92 rfl)⟩
  have P2_6 : PR2 x2 x6 := by rw [h2, h6]; exact ⟨(fm_cons (df_sc rfl) (fm_cons (df_sc rfl) (fm_cons (df_r hC B_v40 B_wdq rfl) fm_nil))), (df_l hC B_v40 B_p97 rfl), (df_l hC B_v40 B_p102 rfl)⟩
  have P2_7 : PR2 x2 x7 := by rw [h2, h7]; exact ⟨(fm_cons (df_sc rfl) (fm_cons (df_r hC B_v40 B_mo rfl) (fm_cons (df_sc rfl) (fm_cons (df_r hC B_v40 B_wi rfl) fm_nil)))), (df_l hC B_v40 B_p117 rfl), (df_l hC B_v40 B_p122 rfl)⟩
  have P2_8 : PR2 x2 x8 := by rw [h2, h8]; exact ⟨(fm_cons (df_sc rfl) (fm_cons (df_sc rfl) (fm_cons (df_r hC B_v40 B_num rfl) (fm_cons (df_r hC B_v40 B_wi rfl) fm_nil)))), (df_l hC B_v40 B_p127 rfl), (df_l hC B_v40 B_p132 rfl)⟩
  have P2_9 : PR2 x2 x9 := by rw [h2, h9]; exact ⟨(fm_cons (df_sc rfl) (fm_cons (df_sc rfl) (fm_cons (df_sc rfl) (fm_cons (df_l hC B_v40 B_v147 rfl) fm_nil)))), (df_l hC B_v40 B_p154 rfl), (df_l hC B_v40 B_p159 rfl)⟩
  have P2_10 : PR2 x2 x10 := by rw [h2, h10]; exact ⟨(fm_cons (df_l hC B_v40 B_v174 rfl) (fm_cons (df_sc s13) (fm_cons (df_sc rfl) (fm_cons (df_sc rfl) fm_nil)))), (df_l hC B_v40 B_pA rfl), (df_l hC B_v40 B_rA rfl)⟩
  have P3_4 : PR2 x3 x4 := by rw [h3, h4]; exact ⟨(fm_cons (df_sc rfl) (fm_cons (df_r hC B_la B_wk rfl) (fm_cons (df_l hC B_la B_wi rfl) fm_nil))), (df_l hC B_la B_p77 rfl), (df_l hC B_la B_p82 rfl)⟩
  have P3_5 : PR2 x3 x5 := by rw [h3, h5]; exact ⟨(fm_cons (df_sc rfl) (fm_cons (df_sc rfl) (fm_cons (df_l hC B_la B_wi rfl) fm_nil))), (df_l hC B_la B_p87 rfl), (df_l hC B_la B_p92 rfl)⟩
  have P3_6 : PR2 x3 x6 := by rw [h3, h6]; exact ⟨(fm_cons (df_sc rfl) (fm_cons (df_sc rfl) (fm_cons (df_r hC B_la B_wdq rfl) fm_nil))), (df_l hC B_la B_p97 rfl), (df_l hC B_la B_p102 rfl)⟩
  have P3_7 : PR2 x3 x7 := by rw [h3, h7]; exact ⟨(fm_cons (df_sc rfl) (fm_cons (df_r hC B_la B_mo rfl) (fm_cons (df_sc rfl) (fm_cons (df_l hC B_la B_wi rfl) fm_nil)))), (df_l hC B_la B_p117 rfl), (df_l hC B_la B_p122 rfl)⟩
  have P3_8 : PR2 x3 x8 := by rw [h3, h8]; exact ⟨(fm_cons (df_sc rfl) (fm_cons (df_sc rfl) (fm_cons (df_r hC B_la B_num rfl) (fm_cons (df_l hC B_la B_wi rfl) fm_nil)))), (df_l hC B_la B_p127 rfl), (df_l hC B_la B_p132 rfl)⟩
  have P3_9 : PR2 x3 x9 := by rw [h3, h9]; exact ⟨(fm_cons (df_sc rfl) (fm_cons (df_sc rfl) (fm_cons (df_sc rfl) (fm_cons (df_l hC B_la B_v147 rfl) fm_nil)))), (df_l hC B_la B_p154 rfl), (df_l hC B_la B_p159 rfl)⟩
  have P3_10 : PR2 x3 x10 := by rw [h3, h10]; exact ⟨(fm_cons (df_l hC B_la B_v174 rfl) (fm_cons (df_sc s13) (fm_cons (df_sc rfl) (fm_cons (df_sc rfl) fm_nil)))), (df_l hC B_la B_pA rfl), (df_l hC B_la B_rA rfl)⟩
  have P4_5 : PR2 x4 x5 := by rw [h4, h5]; exact ⟨(fm_cons (df_sc rfl) (fm_cons (df_sc rfl) (fm_cons (df_l hC B_wk B_wi rfl) fm_nil))), (df_l hC B_wk B_p87 rfl), (df_l hC B_wk B_p92 rfl)⟩
  have P4_6 : PR2 x4 x6 := by rw [h4, h6]; exact ⟨(fm_cons (df_sc rfl) (fm_cons (df_sc rfl) (fm_cons (df_l hC B_wk B_wdq rfl) fm_nil))), (df_l hC B_wk B_p97 rfl), (df_l hC B_wk B_p102 rfl)⟩
  have P4_7 : PR2 x4 x7 := by rw [h4, h7]; exact ⟨(fm_cons (df_sc rfl) (fm_cons (df_r hC B_wk B_mo rfl) (fm_cons (df_sc rfl) (fm_cons (df_l hC B_wk B_wi rfl) fm_nil)))), (df_l hC B_wk B_p117 rfl), (df_l hC B_wk B_p122 rfl)⟩
  have P4_8 : PR2 x4 x8 := by rw [h4, h8]; exact ⟨(fm_cons (df_sc rfl) (fm_cons (df_sc rfl) (fm_cons (df_l hC B_wk B_num rfl) (fm_cons (df_l hC B_wk B_wi rfl) fm_nil)))), (df_l hC B_wk B_p127 rfl), (df_l hC B_wk B_p132 rfl)⟩
  have P4_9 : PR2 x4 x9 := by rw [h4, h9]; exact ⟨(fm_cons (df_sc rfl) (fm_cons (df_sc rfl) (fm_cons (df_sc rfl) (fm_cons (df_l hC B_wk B_v147 rfl) fm_nil)))), (df_l hC B_wk B_p154 rfl), (df_l hC B_wk B_p159 rfl)⟩
  have P4_10 : PR2 x4 x10 := by rw [h4, h10]; exact ⟨(fm_cons (df_l hC B_wk B_v174 rfl) (fm_cons (df_sc s13) (fm_cons (df_sc rfl) (fm_cons (df_sc rfl) fm_nil)))), (df_l hC B_wk B_pA rfl), (df_l hC B_wk B_rA rfl)⟩
  have P5_6 : PR2 x5 x6 := by rw [h5, h6]; exact ⟨(fm_cons (Df.symm (df_sc rfl)) (fm_cons (Df.symm (df_sc rfl)) (fm_cons (Df.symm (df_sc rfl)) fm_nil))), (Df.symm (df_sc rfl)), (Df.symm (df_sc rfl))⟩
  have P5_7 : PR2 x5 x7 := by rw [h5, h7]; exact ⟨(fm_cons (Df.symm (df_sc rfl)) (fm_cons (Df.symm (df_sc rfl)) (fm_cons (Df.symm (df_sc rfl)) (fm_cons (Df.symm (df_sc rfl)) fm_nil)))), (Df.symm (df_sc rfl)), (Df.symm (df_sc rfl))⟩
  have P5_8 : PR2 x5 x8 := by rw [h5, h8]; exact ⟨(fm_cons (Df.symm (df_sc rfl)) (fm_cons (Df.symm (df_sc rfl)) (fm_cons (Df.symm (df_sc rfl)) (fm_cons (Df.symm (df_sc rfl)) fm_nil)))), (Df.symm (df_sc rfl)), (Df.symm (df_sc rfl))⟩
  have P5_9 : PR2 x5 x9 := by rw [h5, h9]; exact ⟨(fm_cons (Df.symm (df_sc rfl)) (fm_cons (Df.symm (df_sc rfl)) (fm_cons (Df.symm (df_sc rfl)) (fm_cons (Df.symm (df_sc rfl)) fm_nil)))), (Df.symm (df_sc rfl)), (Df.symm (df_sc rfl))⟩
  have P5_10 : PR2 x5 x10 := by rw [h5, h10]; exact ⟨(fm_cons (Df.symm (df_sc rfl)) (fm_cons (Df.symm (df_sc rfl)) (fm_cons (Df.symm (df_sc rfl)) (fm_cons (Df.symm (df_sc rfl)) fm_nil)))), (Df.symm (df_sc rfl)), (Df.symm (df_sc rfl))⟩
  have P6_7 : PR2 x6 x7 := by rw [h6, h7]; exact ⟨(fm_cons (df_sc rfl) (fm_cons (df_r hC B_wdq B_mo rfl) (fm_cons (df_sc rfl) (fm_cons (df_l hC B_wdq B_wi rfl) fm_nil)))), (df_l hC B_wdq B_p117 rfl), (df_l hC B_wdq B_p122 rfl)⟩
  have P6_8 : PR2 x6 x8 := by rw [h6, h8]; exact ⟨(fm_cons (df_sc rfl) (fm_cons (df_sc rfl) (fm_cons (df_l hC B_wdq B_num rfl) (fm_cons (df_l hC B_wdq B_wi rfl) fm_nil)))), (df_l hC B_wdq B_p127 rfl), (df_l hC B_wdq B_p132 rfl)⟩
  have P6_9 : PR2 x6 x9 := by rw [h6, h9]; exact ⟨(fm_cons (df_sc rfl) (fm_cons (df_sc rfl) (fm_cons (df_sc rfl) (fm_cons (df_l hC B_wdq B_v147 rfl) fm_nil)))), (df_l hC B_wdq B_p154 rfl), (df_l hC B_wdq B_p159 rfl)⟩
  have P6_10 : PR2 x6 x10 := by rw [h6, h10]; exact ⟨(fm_cons (df_l hC B_wdq B_v174 rfl) (fm_cons (df_sc s13) (fm_cons (df_sc rfl) (fm_cons (df_sc rfl) fm_nil)))), (df_l hC B_wdq B_pA rfl), (df_l hC B_wdq B_rA rfl)⟩
  have P7_8 : PR2 x7 x8 := by rw [h7, h8]; exact ⟨(fm_cons (df_sc rfl) (fm_cons (df_sc rfl) (fm_cons (df_l hC B_mo B_num rfl) (fm_cons (df_l hC B_mo B_wi rfl) fm_nil)))), (df_l hC B_mo B_p127 rfl), (df_l hC B_mo B_p132 rfl)⟩
  have P7_9 : PR2 x7 x9 := by rw [h7, h9]; exact ⟨(fm_cons (df_sc rfl) (fm_cons (df_sc rfl) (fm_cons (df_sc rfl) (fm_cons (df_l hC B_mo B_v147 rfl) fm_nil)))), (df_l hC B_mo B_p154 rfl), (df_l hC B_mo B_p159 rfl)⟩
  have P7_10 : PR2 x7 x10 := by rw [h7, h10]; exact ⟨(fm_cons (df_l hC B_mo B_v174 rfl) (fm_cons (df_sc s13) (fm_cons (df_sc rfl) (fm_cons (df_sc rfl) fm_nil)))), (df_l hC B_mo B_pA rfl), (df_l hC B_mo B_rA rfl)⟩
  have P8_9 : PR2 x8 x9 := by rw [h8, h9]; exact ⟨(fm_cons (df_sc rfl) (fm_cons (df_sc rfl) (fm_cons (df_sc rfl) (fm_cons (df_l hC B_num B_v147 rfl) fm_nil)))), (df_l hC B_num B_p154 rfl), (df_l hC B_num B_p159 rfl)⟩
  have P8_10 : PR2 x8 x10 := by rw [h8, h10]; exact ⟨(fm_cons (df_l hC B_num B_v174 rfl) (fm_cons (df_sc s13) (fm_cons (df_sc rfl) (fm_cons (df_sc rfl) fm_nil)))), (df_l hC B_num B_pA rfl), (df_l hC B_num B_rA rfl)⟩
  have P9_10 : PR2 x9 x10 := by rw [h9, h10]; exact ⟨(fm_cons (df_l hC B_v147 B_v174 rfl) (fm_cons (df_sc s13) (fm_cons (df_sc rfl) (fm_cons (df_sc rfl) fm_nil)))), (df_l hC B_v147 B_pA rfl), (df_l hC B_v147 B_rA rfl)⟩
  have RP : rows.Pairwise PR2 := by
    rw [hrows]
    exact List.Pairwise.cons (List.forall_mem_cons.mpr ⟨P0_1, List.forall_mem_cons.mpr ⟨P0_2, List.forall_mem_cons.mpr ⟨P0_3, List.forall_mem_cons.mpr ⟨P0_4, List.forall_mem_cons.mpr ⟨P0_5, List.forall_mem_cons.mpr ⟨P0_6, List.forall_mem_cons.mpr ⟨P0_7, List.forall_mem_cons.mpr ⟨P0_8, List.forall_mem_cons.mpr ⟨P0_9, List.forall_mem_cons.mpr ⟨P0_10, fnil⟩⟩⟩⟩⟩⟩⟩⟩⟩⟩) (List.Pairwise.cons (List.forall_mem_cons.mpr ⟨P1_2, List.forall_mem_cons.mpr ⟨P1_3, List.forall_mem_cons.mpr ⟨P1_4, List.forall_mem_cons.mpr ⟨P1_5, List.forall_mem_cons.mpr ⟨P1_6, List.forall_mem_cons.mpr ⟨P1_7, List.forall_mem_cons.mpr ⟨P1_8, List.forall_mem_cons.mpr ⟨P1_9, List.forall_mem_cons.mpr ⟨P1_10, fnil⟩⟩⟩⟩⟩⟩⟩⟩⟩) (List.Pairwise.cons (List.forall_mem_cons.mpr ⟨P2_3, List.forall_mem_cons.mpr ⟨P2_4, List.forall_mem_cons.mpr ⟨P2_5, List.forall_mem_cons.mpr ⟨P2_6, List.forall_mem_cons.mpr ⟨P2_7, List.forall_mem_cons.mpr ⟨P2_8, List.forall_mem_cons.mpr ⟨P2_9, List.forall_mem_cons.mpr ⟨P2_10, fnil⟩⟩⟩⟩⟩⟩⟩⟩) (List.Pairwise.cons (List.forall_mem_cons.mpr ⟨P3_4, List.forall_mem_cons.mpr ⟨P3_5, List.forall_mem_cons.mpr ⟨P3_6, List.forall_mem_cons.mpr ⟨P3_7, List.forall_mem_cons.mpr ⟨P3_8, List.forall_mem_cons.mpr ⟨P3_9, List.forall_mem_cons.mpr ⟨P3_10, fnil⟩⟩⟩⟩⟩⟩⟩) (List.Pairwise.cons (List.forall_mem_cons.mpr ⟨P4_5, List.forall_mem_cons.mpr ⟨P4_6, List.forall_mem_cons.mpr ⟨P4_7, List.forall_mem_cons.mpr ⟨P4_8, List.forall_mem_cons.mpr ⟨P4_9, List.forall_mem_cons.mpr ⟨P4_10, fnil⟩⟩⟩⟩⟩⟩) (List.Pairwise.cons (List.forall_mem_cons.mpr ⟨P5_6, List.forall_mem_cons.mpr ⟨P5_7, List.forall_mem_cons.mpr ⟨P5_8, List.forall_mem_cons.mpr ⟨P5_9, List.forall_mem_cons.mpr ⟨P5_10, fnil⟩⟩⟩⟩⟩) (List.Pairwise.cons (List.forall_mem_cons.mpr ⟨P6_7, List.forall_mem_cons.mpr ⟨P6_8, List.forall_mem_cons.mpr ⟨P6_9, List.forall_mem_cons.mpr ⟨P6_10, fnil⟩⟩⟩⟩) (List.Pairwise.cons (List.forall_mem_cons.mpr ⟨P7_8, List.forall_mem_cons.mpr ⟨P7_9, List.forall_mem_cons.mpr ⟨P7_10, fnil⟩⟩⟩) (List.Pairwise.cons (List.forall_mem_cons.mpr ⟨P8_9, List.forall_mem_cons.mpr ⟨P8_10, fnil⟩⟩) (List.Pairwise.cons (List.forall_mem_cons.mpr ⟨P9_10, fnil⟩) (List.Pairwise.cons (fnil) (List.Pairwise.nil)))))))))))
  refine refused_loop (rows := rows) (by rw [hrows]; exact Nat.le_of_ble_eq_true rfl) (by rw [hrows, h0, h1, h2, h3, h4, h5, h6, h7, h8, h9, h10]; exact g1) RA TL RP _ fun s11 s12 s13 s14 s15 H' bt => ?_
  have TF' : ∀ t ∈ rows.map (fun x => x.t), Fresh H2 t := fun t ht => by
    obtain ⟨x, hx, rfl⟩ := List.mem_map.mp ht
    exact TF x hx
  obtain ⟨qn, qm, qc0, qbo, qh, q1, q2, q3, q4, q5⟩ := g6
  exact fin _ _ _ _ _ _ (Ks.btV (Ks.trans kz g2) bt TF') ⟨qn, qm, qc0, qbo, bt b _ (fun j t _ ht z => by
      have := TF' t (List.mem_of_getElem? ht) b z
      rw [hb0] at this
      cases this) qh, q1, q2, q3, q4, by omega⟩
end My
set_option linter.all false
set_option maxRecDepth 100000
set_option maxHeartbeats 8000000
namespace My
open PySem PySem.Spec PyProof.Rows L2 Kx
local macro_rules | `(tactic| walk_at "lk") => `(tactic| first | assumption | ((with_reducible show upd _ _ _ _ = _); (first | exact upd_same | (exact up_new (by assumption) (by walk_at "lk")) | (exact up_other (by assumption) (by walk_at "lk")))) | (exact (by assumption : Same _ _) _ _ (by walk_at "lk")) | (exact ks_get (by assumption) (by walk_at "lk") (by first | rfl | assumption | exact notBox_len rfl)))
local macro_rules | `(tactic| walk_at "sl") => `(tactic| first | assumption | (exact l_of (by walk_at "lk")) | (exact Same.seq (by assumption) (by walk_at "sl")) | ((with_reducible show SqL _ (upd _ _ _) _ _); (exact Same.seq (sm_new (by assumption)) (by walk_at "sl"))))
local macro_rules | `(tactic| walk_at "st") => `(tactic| first | assumption | (exact t_of (by walk_at "lk")) | (exact Kx.Same.tup (by assumption) (by walk_at "st")) | ((with_reducible show SqT _ (upd _ _ _) _ _); (exact Kx.Same.tup (sm_new (by assumption)) (by walk_at "st"))) | (exact ks_tup (by assumption) (by walk_at "st")))
local macro_rules | `(tactic| walk_at "kd") => `(tactic| first | assumption | exact .non | exact .bl _ | exact .int _ | exact .str _ | (exact .lst (by walk_at "sl")) | (exact .tup (by walk_at "st")) | (exact .dic (by walk_at "lk")) | (exact Kd.same (by assumption) (by walk_at "kd")) | ((with_reducible show Kd _ (upd _ _ _) _ _); (exact Kd.same (sm_new (by assumption)) (by walk_at "kd"))))
local macro_rules | `(tactic| walk_at "tt") => `(tactic| first | rfl | assumption | decide +kernel | (simp only [decide_eq_true_eq, Bool.not_eq_true', decide_eq_false_iff_not, Bool.and_eq_true, Bool.or_eq_true]; omega))
local macro_rules | `(tactic| walk_at "ff") => `(tactic| first | rfl | assumption | decide +kernel | (simp only [decide_eq_true_eq, Bool.not_eq_false', decide_eq_false_iff_not, Bool.and_eq_false_imp, Bool.or_eq_false_iff]; omega))
local macro_rules | `(tactic| walk_at "hc") => `(tactic| fail)
local macro_rules | `(tactic| walk_at "hif") => `(tactic| ((with_reducible refine w_b2 ?_ ?_) <;> intro))
local macro_rules | `(tactic| walk_at "hs1") => `(tactic| first
  | (with_reducible refine w_seq ?_)
  | (with_reducible refine w_asg ?_)
  | ((with_reducible refine' w_var ?k1 ?_); (case k1 => exact rfl))
  | (with_reducible refine w_c ?_)
  | (with_reducible refine w_op ?_)
  | (with_reducible refine w_cons ?_)
  | (with_reducible refine w_nil ?_)
  | (with_reducible refine w_name ?_)
  | (with_reducible refine w_kn ?_)
  | (with_reducible refine w_kx ?_)
  | (with_reducible refine w_kk ?_)
  | (with_reducible refine w_cb ?_)
  | (with_reducible refine w_if ?_)
  | (with_reducible refine w_test ?_)
  | (with_reducible refine w_exb ?_)
  | (with_reducible refine iteT ?_)
  | (with_reducible refine iteF ?_)
  | ((with_reducible refine w_bt ?_ ?_); (first | rfl | decide +kernel))
  | ((with_reducible refine w_bf ?_ ?_); (first | rfl | decide +kernel))
  | ((with_reducible refine w_bt ?_ ?_); (walk_at "tt"))
  | ((with_reducible refine w_bf ?_ ?_); (walk_at "ff"))
  | (with_reducible refine w_ret ?_)
  | (with_reducible refine w_retN ?_)
  | (with_reducible refine w_drop ?_)
  | (with_reducible refine w_next ?_)
  | (with_reducible refine w_brk ?_)
  | (with_reducible refine w_cont ?_)
  | (with_reducible refine w_and ?_)
  | (with_reducible refine w_or ?_)
  | (with_reducible refine w_not ?_)
  | (with_reducible refine w_tr ?_)
  | (with_reducible refine w_yes ?_)
  | (with_reducible refine w_tru_bl ?_)
  | (with_reducible refine w_tru_int ?_)
  | (with_reducible refine w_tru_non ?_)
  | (with_reducible refine w_andV ?_)
  | (with_reducible refine w_orV ?_)
  | (with_reducible refine w_notV ?_)
  | (with_reducible refine w_ifx ?_)
  | (with_reducible refine w_chain ?_)
  | (with_reducible refine w_un ?_)
  | (with_reducible refine n_tup ?_)
  | (with_reducible refine n_lst ?_)
  | ((with_reducible show kTup _ _ _); (refine n_ktup rfl ?_); intro _ _ _ _ _)
  | ((with_reducible show kLst _ _ _); (refine n_klst rfl ?_); intro _ _ _ _ _)
  | (with_reducible refine w_par ?_)
  | (with_reducible refine w_par2 ?_)
  | (with_reducible refine w_par3 ?_)
  | (with_reducible refine w_par33 ?_)
  | ((with_reducible refine' w_aug ?k1 ?_); (case k1 => exact rfl))
  | (with_reducible refine w_raise ?_)
  | (with_reducible refine w_mkdue ?_)
  | (with_reducible refine w_one ?_)
  | ((with_reducible show gSq _ _ _ (V.ref _) _ _ _); (first | (refine n_gsq (by walk_at "lk") (by exact rfl) (by exact rfl) ?_) | (refine w_gtup (by walk_at "st") (by exact rfl) ?_) | (refine w_glst (by walk_at "sl") (by exact rfl) ?_)))
  | (with_reducible refine w_gcons ?_)
  | (with_reducible refine w_gnil ?_)
  | (with_reducible refine w_bm ?_)
  | ((with_reducible show tyV _ "list" (V.ref _) _ ∧ _); (refine w_tyl (by walk_at "sl") ?_))
  | (with_reducible refine w_for ?_)
  | (with_reducible refine w_rng1 ?_)
  | (with_reducible refine w_rng2 ?_)
  | (with_reducible refine w_add_ii ?_)
  | (with_reducible refine w_sub_ii ?_)
  | ((with_reducible refine w_fdv_ii ?_ ?_ ?_); (first | decide | omega); (first | decide | omega))
  | ((with_reducible refine w_mul_b ?_ ?_ ?_); (refine ⟨?_, ?_⟩ <;> omega); (refine ⟨?_, ?_⟩ <;> omega))
  | ((with_reducible refine w_mod_ii ?_ ?_); (first | decide | omega))
  | (with_reducible refine w_neg_i ?_)
  | (with_reducible refine w_lt_ii ?_)
  | (with_reducible refine w_le_ii ?_)
  | (with_reducible refine w_gt_ii ?_)
  | (with_reducible refine w_ge_ii ?_)
  | (with_reducible refine w_eq_ii ?_)
  | (with_reducible refine w_ne_ii ?_)
  | (with_reducible refine n_eq_same ?_)
  | (with_reducible refine n_ne_same ?_)
  | (with_reducible refine w_eq_ss ?_)
  | (with_reducible refine w_ne_ss ?_)
  | (with_reducible refine w_eq_bb ?_)
  | (with_reducible refine w_ne_bb ?_)
  | (with_reducible refine w_is_n ?_)
  | (with_reducible refine w_isn_n ?_)
  | (with_reducible refine w_is_bb ?_)
  | (with_reducible refine w_isn_bb ?_)
  | ((with_reducible show rIx _ (V.ref _) (V.int _) _ _); (first | (refine n_ix (by decide) (by walk_at "lk") (by exact rfl) ?_) | (refine n_ixl (by decide) (by walk_at "sl") (by exact rfl) ?_) | (refine n_ixt (by decide) (by walk_at "st") (by exact rfl) ?_)))
  | (with_reducible refine w_ipadd ?_)
  | (with_reducible refine w_ipsub ?_)
  | (with_reducible refine w_int_i ?_)
  | (with_reducible refine w_int_b ?_)
  | (with_reducible refine w_abs ?_)
  | ((with_reducible refine w_max2r ?_); intro _ _ _ _)
  | ((with_reducible refine w_min2r ?_); intro _ _ _ _)
  | ((with_reducible show uLen _ [V.ref _] _ _); (first | (refine n_len (by walk_at "lk") (by exact rfl) ?_) | (refine w_len_l (by walk_at "sl") ?_) | (refine w_len_t (by walk_at "st") ?_) | (refine w_len_d (by walk_at "lk") ?_)))
  | ((with_reducible show uIsi _ [_, V.ty _] _ _); (refine w_isk (by walk_at "kd") (by decide) ?_))
  | ((with_reducible show uIsi _ [_, V.ref _] _ _); (refine w_isk2 (by walk_at "lk") (by walk_at "kd") (by decide) (by decide) ?_))
  | (with_reducible refine w_wN ?_)
  | (with_reducible refine w_lc ?_)
  | ((with_reducible refine' w_rng2e ?k1 ?_); (case k1 => (refine ⟨?_, ?_, ?_, ?_⟩ <;> omega)))
  | ((with_reducible refine' w_rng1e ?k1 ?k2 ?_); (case k1 => omega); (case k2 => omega))
  | ((with_reducible show ∃ a', V.ref _ = .ref a' ∧ (∃ xs, SqL _ _ a' xs) ∧ _); (refine w_sqLe (by walk_at "sl") ?_))
  | ((with_reducible show ∃ a', V.ref _ = .ref a' ∧ (∃ xs, SqT _ _ a' xs) ∧ _); (refine w_sqTe (by walk_at "st") ?_))
  | (with_reducible refine w_slc ?_)
  | (with_reducible refine w_nop ?_)
  | (with_reducible refine w_part ?_)
  | (with_reducible refine w_exi ?_)
  | ((with_reducible show uSl _ (V.ref _) _ _ _ _); (refine n_slL (by walk_at "sl") ?_); intro _ _ _ _ _)
  | (with_reducible refine w_gsub ?_)
  | ((with_reducible show rSetL (V.ref _) (V.int _) _ _ _); (refine w_setl (by walk_at "lk") (by exact rfl) ?_))
  | (with_reducible refine w_pow_9 ?_)
  | (with_reducible refine w_pow_12 ?_)
  | (with_reducible refine w_pow_13 ?_)
  | (with_reducible refine w_pow_18 ?_)
  | (with_reducible refine w_pow_29 ?_)
  | ((with_reducible refine n_disp1 ?_); intro _ _ _ _ _)
  | (with_reducible refine w_dput ?_)
  | ((with_reducible show rAppend (V.ref _) [_] _ _); (refine w_append (by walk_at "lk") (by first | omega | (exact Nat.lt_of_le_of_lt (wN_le rfl) (by decide))) ?_))
  | ((with_reducible show ∃ a' H4, V.ref _ = .ref a' ∧ DPut _ a' (V.str _) _ H4 ∧ _); (refine w_dputS (by walk_at "lk") (by first | omega | exact wN_le rfl) ?_))
  | (with_reducible refine w_try ?_)
  | ((with_reducible show wManyA _ _ _ _ (.ref (He.ga _ _)) _ _ _); (first | ((refine w_hit (ExT.ex (by assumption) _ (by decide) _ (by decide)) ?_); intro _ _) | (refine w_miss (ExT.ex (by assumption) _ (by decide) _ (by decide)) ?_)))
  | (with_reducible refine w_xg ?_)
  | ((with_reducible show V.ref _ = .ref _ ∧ ∃ _ _ _ _, Value.ref (He.ga _ _) = _ ∧ _); (refine w_xge (ExT.xf (by assumption) _ (by decide)) (ExT.fg (by assumption) _ (by decide)) (by walk_at "lk") ?_))
  | ((with_reducible show rIsX _ (.ref (He.ga _ _)) _ _ _ _ _); (refine w_isx (ExT.xx (by assumption) _ (by decide)) (ExT.kd (by assumption) _ (by decide)) (by walk_at "lk") ?_))
  | ((with_reducible show uAdd _ (V.ref _) (V.ref _) _ _); (refine n_add_ll (by walk_at "lk") (by walk_at "lk") rfl ?_); intro _ _ _ _ _)
  | ((with_reducible show iSeq _ (tLst _) _ _ _); (refine w_sqL ?_))
  | ((with_reducible show iSeq _ (tTup _) _ _ _); (refine w_sqT ?_))
  | (refine ⟨(rfl : wipe _ _ = wipe _ _), ?_⟩)
  | (walk_at "hc"))
local macro_rules | `(tactic| walk_at "hs") => `(tactic| repeat' (walk_at "hs1"))

local macro_rules | `(tactic| walk_at "rg") => `(tactic| repeat' (first | exact rg_nil | (refine rg_cons (by omega) (by omega) ?_)))
local macro_rules | `(tactic| walk_at "sm") => `(tactic| first | exact Same.refl _ | assumption | ((with_reducible show Same _ (upd _ _ _)); (refine Same.trans ?_ (sm_new (by assumption))); walk_at "sm") | ((refine Same.trans ?_ (by assumption)); walk_at "sm"))
local macro_rules | `(tactic| walk_at "bx") => `(tactic| first | assumption | ((with_reducible show BoxAt (upd _ _ _) _ _); (exact BoxAt.new (by assumption) (by walk_at "bx"))) | (exact BoxAt.same (by assumption) (by walk_at "bx")))
local macro_rules | `(tactic| walk_at "ks") => `(tactic| first | exact Ks.refl _ | assumption | ((with_reducible show Ks _ (upd _ _ _)); (refine Ks.trans ?_ (Ks.of (sm_new (by assumption))); walk_at "ks")) | (refine Ks.trans ?_ (by assumption); walk_at "ks") | (refine Ks.trans ?_ (Ks.of (by assumption)); walk_at "ks"))
local macro_rules | `(tactic| walk_at "ob") => `(tactic| first | assumption | exact .sc rfl | (exact Ob.same (by assumption) (by walk_at "ob")) | (exact Ob.ks (by assumption) (by walk_at "ob")))
local macro_rules | `(tactic| walk_at "nd") => `(tactic| first | assumption | (exact Nd.same (by assumption) (by walk_at "nd")) | (exact Nd.ks (by assumption) (by walk_at "nd")))
local macro_rules | `(tactic| walk_at "df") => `(tactic| first | assumption | exact df_sc rfl | (exact df_vr (by assumption) (by walk_at "lk")) | (exact df_rv (by assumption) (by walk_at "ob")) | (exact df_vv (by assumption) (by walk_at "ob")) | (exact Df.symm (df_vv (by assumption) (by walk_at "ob"))))
local macro_rules | `(tactic| walk_at "hc") => `(tactic| (with_reducible show sp_is_whole _ _ _ _ _); (refine u_is_whole (by walk_at "kd") ?_))
local macro_rules | `(tactic| walk_at "hc") => `(tactic| (with_reducible show sp_is_between _ _ _ _ _); (refine u_is_between (by walk_at "kd") ?_))
local macro_rules | `(tactic| walk_at "hc") => `(tactic| (with_reducible show sp_is_day _ _ _ _ _); (refine u_is_day (by walk_at "kd") ?_))
local macro_rules | `(tactic| walk_at "hc") => `(tactic| (with_reducible refine u_is_leap_year ?_))
local macro_rules | `(tactic| walk_at "hc") => `(tactic| (with_reducible refine' u_length_of ?k1 ?k2 ?_); (case k1 => omega); (case k2 => omega))
local macro_rules | `(tactic| walk_at "hc") => `(tactic| (with_reducible refine' u_year_begin ?k1 ?k2 ?_); (case k1 => omega); (case k2 => omega))
local macro_rules | `(tactic| walk_at "hc") => `(tactic| (with_reducible refine' u_month_begin ?k1 ?k2 ?k3 ?k4 ?_); (case k1 => omega); (case k2 => omega); (case k3 => omega); (case k4 => omega); intro _ _)
local macro_rules | `(tactic| walk_at "hc") => `(tactic| (with_reducible show sp__law_take _ _ _ _ _); (refine u__law_take (by walk_at "bx") (by omega) (by omega) (by omega) ?_); intro _ _ _ _ _ _)
local macro_rules | `(tactic| walk_at "hc") => `(tactic| (with_reducible refine u__law_leap ?_))
local macro_rules | `(tactic| walk_at "hc") => `(tactic| (with_reducible show sp__law_length _ _ _ _ _); (refine u__law_length (by omega) (by omega) ?_); intro _ _)
local macro_rules | `(tactic| walk_at "hc") => `(tactic| (with_reducible show sp__law_next _ _ _ _ _); (refine u__law_next (by walk_at "st") (by omega) (by omega) ?_); intro _ _ _ _ _)
local macro_rules | `(tactic| walk_at "hc") => `(tactic| (with_reducible show sp__law_no_number _ _ _ _ _); (refine u__law_no_number (by walk_at "bx") (by omega) (by omega) (by omega) ?_); intro _ _ _ _ _ _ _)
local macro_rules | `(tactic| walk_at "hc") => `(tactic| (with_reducible refine u_weekday_at ?_))
local macro_rules | `(tactic| walk_at "hc") => `(tactic| (with_reducible show sp_first_monday _ _ _ _ _); (refine u_first_monday (by omega) (by omega) ?_))
local macro_rules | `(tactic| walk_at "hc") => `(tactic| (with_reducible show sp_weeks_of _ _ _ _ _); (refine u_weeks_of (by omega) (by omega) ?_))
local macro_rules | `(tactic| walk_at "hc") => `(tactic| (with_reducible show sp__law_begin _ _ _ _ _); (refine u__law_begin (by omega) (by omega) ?_))
local macro_rules | `(tactic| walk_at "hc") => `(tactic| (with_reducible show sp__law_weeks _ _ _ _ _); (refine u__law_weeks (by omega) (by omega) ?_))
local macro_rules | `(tactic| walk_at "hc") => `(tactic| (with_reducible show sp__law_year _ _ _ _ _); (refine u__law_year (by walk_at "bx") (by omega) ?_); intro _ _ _ _ _ _)
local macro_rules | `(tactic| walk_at "hc") => `(tactic| (with_reducible show sp__law_days_right _ _ _ _ _); (refine u__law_days_right (by walk_at "bx") (by omega) ?_); intro _ _ _)
local macro_rules | `(tactic| walk_at "hc") => `(tactic| (with_reducible show sp__law_months_right _ _ _ _ _); (refine u__law_months_right (by walk_at "bx") (by omega) ?_); intro _ _ _)
local macro_rules | `(tactic| walk_at "hc") => `(tactic| (with_reducible show sp__law_weeks_right _ _ _ _ _); (refine u__law_weeks_right (by walk_at "bx") (by omega) ?_); intro _ _ _)
local macro_rules | `(tactic| walk_at "df") => `(tactic| exact Df.symm (df_sc rfl))
local macro_rules | `(tactic| walk_at "hc") => `(tactic| (with_reducible show sp__law_take _ _ _ _ _); (refine u__law_take_B (by walk_at "bx") (by omega) (by omega) (by omega) ?_); intro _ _ _ _ _ _ _)
local macro_rules | `(tactic| walk_at "hc") => `(tactic| (with_reducible show sp__law_no_number _ _ _ _ _); (refine u__law_no_number_B (by walk_at "bx") (by omega) (by omega) (by omega) ?_); intro _ _ _ _ _ _ _ _)
variable {K : PySem.W.Frag}
theorem p__law_refused (vs : List V) (H : Hp) (Q : VK) (E : XK) (h : sp__law_refused K vs H Q E) : t__law_refused K E (D0 Q) (start N__law_refused vs) H := by
  obtain ⟨b, c, nm, rfl, hb, hc, q⟩ := h
  walk_at "hs"
  refine for_range (lo := 0) (n := 2) (fun i σ H2 => ∃ s2 s3 s4 s5 s6 s7 s8 s9 s10 s11 s12 s13 s14 s15, σ = [some (.ref b), some (.bl nm), s2, s3, s4, s5, s6, s7, s8, s9, s10, s11, s12, s13, s14, s15] ∧ Ks H H2 ∧ BoxAt H2 b (c + 60 * (i : Int)))
    ⟨_, _, _, _, _, _, _, _, _, _, _, _, _, _, rfl, Ks.refl _, by simpa using hb⟩ ?_ ?_
  · rintro i σ H2 hi ⟨s2, s3, s4, s5, s6, s7, s8, s9, s10, s11, s12, s13, s14, s15, rfl, e, hb⟩
    have i1 : (i : Int) < 2 := by omega
    have e1 : c + 60 * ((i + 1 : Nat) : Int) = c + 60 * (i : Int) + 60 := by omega
    rw [e1]
    clear e1 hi
    generalize hk : c + 60 * (i : Int) = k at *
    have k0 : k < 750000000 := by omega
    clear hk
    generalize htf : (tFor (iSeq K (tVar 10)) (gSq K 4 (gCons (gName 11) (gCons (gName 12) (gCons (gName 13) (gCons (gName 14) gNil))))) (tSeq (tAsg (tKn (sp__law_ask K) (tCons (tVar 11) (tCons (tVar 12) (tCons (tIf (tTest (tOp (uEq K) (tVar 2) (tC (.int 0)))) (tVar 1) (tNotV (tVar 1))) tNil)))) (gName 15)) (tIfS (tOr (tTest (tOp (uNe K) (tOp (rIx K) (tVar 15) (tC (.int 0))) (tVar 13))) (tOr (tTest (tOp uIsn (tOp (rIx K) (tVar 15) (tC (.int 2))) (tC (.bl true)))) (tNot (tTr K (tKn (sp__law_very K) (tCons (tOp (rIx K) (tVar 15) (tC (.int 1))) (tCons (tOp (rIx K) (tVar 12) (tVar 14)) tNil))))))) (tRet (tC (.bl false))) tNext))) = TF
    generalize ht2 : (tSeq (tAsg (tOp (uAdd K) (tVar 10) (tLst (tCons (tLst (tCons (tC (.str "nth")) (tCons (tLst (tCons (tVar 3) (tCons (tVar 4) (tCons (tC (.int 0)) (tCons (tVar 9) tNil))))) (tCons (tC (.str "month")) (tCons (tC (.int 1)) tNil))))) (tCons (tLst (tCons (tC (.str "nth")) (tCons (tLst (tCons (tVar 3) (tCons (tC (.int 2)) (tCons (tVar 7) (tCons (tVar 9) tNil))))) (tCons (tC (.str "number")) (tCons (tC (.int 2)) tNil))))) tNil)))) (gName 10)) (tSeq (tAsg (tOp (uAdd K) (tVar 10) (tLst (tCons (tLst (tCons (tC (.str "nth")) (tCons (tLst (tCons (tVar 3) (tCons (tC (.int 2)) (tCons (tUn uNeg (tC (.int 1))) (tCons (tKn (sp__law_no_number K) (tCons (tVar 0) (tCons (tC (.int 0)) (tCons (tC (.int 6)) tNil)))) tNil))))) (tCons (tC (.str "weekday")) (tCons (tC (.int 3)) tNil))))) tNil))) (gName 10)) (tSeq (tDrop (tBM K "list" rAppend (tVar 10) (tCons (tLst (tCons (tC (.str "nth")) (tCons (tLst (tCons (tKn (sp__law_no_number K) (tCons (tVar 0) (tCons (tC (.int 2000)) (tCons (tC (.int 2700000000)) tNil)))) (tCons (tOp (rIx K) (tLst (tCons (tC (.int 1)) (tCons (tC (.int 13)) tNil))) (tKn (sp__law_take K) (tCons (tVar 0) (tCons (tC (.int 2)) tNil)))) (tCons (tC (.int 0)) (tCons (tC (.int 7)) tNil))))) (tCons (tC (.str "year")) (tCons (tC (.int 0)) tNil))))) tNil))) TF))) = T2
    generalize ht1 : (tSeq (tAsg (tLst (tCons (tLst (tCons (tC (.str "weekday")) (tCons (tLst (tCons (tKn (sp__law_no_number K) (tCons (tVar 0) (tCons (tC (.int 0)) (tCons (tOp uPow (tC (.int 10)) (tC (.int 12))) tNil)))) tNil)) (tCons (tC (.str "day")) (tCons (tC (.int 0)) tNil))))) (tCons (tLst (tCons (tC (.str "week")) (tCons (tLst (tCons (tKn (sp__law_no_number K) (tCons (tVar 0) (tCons (tC (.int 0)) (tCons (tOp uPow (tC (.int 10)) (tC (.int 12))) tNil)))) tNil)) (tCons (tC (.str "day")) (tCons (tC (.int 0)) tNil))))) tNil))) (gName 10)) (tSeq (tAsg (tOp (uAdd K) (tVar 10) (tLst (tCons (tLst (tCons (tC (.str "weeks")) (tCons (tLst (tCons (tKn (sp__law_no_number K) (tCons (tVar 0) (tCons (tC (.int 2000)) (tCons (tC (.int 2700000000)) tNil)))) tNil)) (tCons (tC (.str "year")) (tCons (tC (.int 0)) tNil))))) (tCons (tLst (tCons (tC (.str "day")) (tCons (tLst (tCons (tVar 8) (tCons (tC (.int 1)) (tCons (tVar 9) tNil)))) (tCons (tC (.str "year")) (tCons (tC (.int 0)) tNil))))) tNil)))) (gName 10)) (tSeq (tAsg (tOp (uAdd K) (tVar 10) (tLst (tCons (tLst (tCons (tC (.str "day")) (tCons (tLst (tCons (tVar 3) (tCons (tVar 5) (tCons (tVar 9) tNil)))) (tCons (tC (.str "week")) (tCons (tC (.int 1)) tNil))))) (tCons (tLst (tCons (tC (.str "day")) (tCons (tLst (tCons (tC (.int 2005)) (tCons (tC (.int 53)) (tCons (tVar 9) tNil)))) (tCons (tC (.str "week")) (tCons (tC (.int 1)) tNil))))) (tCons (tLst (tCons (tC (.str "day")) (tCons (tLst (tCons (tC (.int 2004)) (tCons (tC (.int 53)) (tCons (tVar 6) tNil)))) (tCons (tC (.str "weekday")) (tCons (tC (.int 2)) tNil))))) tNil))))) (gName 10)) T2))) = T1
    walk_at "hs"
    refine w_pow_20 ?_
    walk_at "hs"
    rename_i y H3 y0 y1 k3 b3 mo H4 k4 q4 b4 om wm fm wk H5 k5 q5 b5 ow ww fw wd' H6 k6 q6 b6 od wd_ fd pl1 H7 n7 s7' h7 pn H8 n8 s8' h8 ri H9 ri0 ri1 k9 q9 b9
    clear q4 q5 q6 q9
    have s68 : Same H6 H8 := Same.trans s7' s8'
    have hnum : ∀ v ∈ [V.int 0, V.int 6, V.int (-6), .non, .bl true, .str "1", .ref pl1, .int 100000000000000000000], Ob H9 v ∧ numOk v = false ∧ Fresh H6 v := by
      refine fm_cons ⟨.sc rfl, rfl, fresh_sc rfl⟩ (fm_cons ⟨.sc rfl, rfl, fresh_sc rfl⟩ (fm_cons ⟨.sc rfl, rfl, fresh_sc rfl⟩ (fm_cons ⟨.sc rfl, rfl, fresh_sc rfl⟩ (fm_cons ⟨.sc rfl, rfl, fresh_sc rfl⟩ (fm_cons ⟨.sc rfl, rfl, fresh_sc rfl⟩ (fm_cons ⟨?_, rfl, ?_⟩ (fm_cons ⟨.sc rfl, rfl, fresh_sc rfl⟩ fm_nil)))))))
      · exact .lst (ks_get k9 (s8' _ _ h7) rfl) (bN_le rfl) rfl
      · exact fun a ea => by cases ea; exact n7
    refine w_ixl_v 8 (by walk_at "sl") rfl (by omega) (by omega) fun num hn => ?_
    obtain ⟨on, wn, fnn⟩ := hnum num hn
    clear hnum hn
    walk_at "hs"
    rename_i la Ha ka qa ba ol wl fl wv Hb kb qb bb ov wv_ fv p2 Hc nc sc hc' rw' Hd rw0 rw1 kd qd bd
    clear qa qb qd
    have hwide : ∀ v ∈ [V.int 3, wv], Ob Hd v ∧ Fresh Ha v := fm_cons ⟨.sc rfl, fresh_sc rfl⟩ (fm_cons ⟨(ov.same sc).ks kd, fv⟩ fm_nil)
    refine w_ixl_v 2 (by walk_at "sl") rfl (by omega) (by omega) fun wi hw => ?_
    obtain ⟨owi, fwi⟩ := hwide wi hw
    clear hwide hw
    walk_at "hs"
    subst ht1
    walk_at "hs"
    subst ht2
    walk_at "hs"
    rename_i v1 G2 e3 kb1 e4 e5 e6 e7 p8 G9 e10 e11 e12 p13 G14 e15 e16 e17 v18 G19 e20 kb18 e21 e22 e23 e24 p25 G26 e27 e28 e29 p30 G31 e32 e33 e34 p35 G36 e37 e38 e39 v40 G41 e42 kb40 e43 e44 e45 e46 p47 G48 e49 e50 e51 p52 G53 e54 e55 e56 p57 G58 e59 e60 e61 p62 G63 e64 e65 e66 p67 G68 e69 e70 e71 p72 G73 e74 e75 e76 p77 G78 e79 e80 e81 p82 G83 e84 e85 e86 p87 G88 e89 e90 e91 p92 G93 e94 e95 e96 p97 G98 e99 e100 e101 p102 G103 e104 e105 e106 p107 G108 e109 e110 e111 p112 G113 e114 e115 e116 p117 G118 e119 e120 e121 p122 G123 e124 e125 e126 p127 G128 e129 e130 e131 p132 G133 e134 e135 e136 p137 G138 e139 e140 e141 p142 G143 e144 e145 e146 v147 G148 e149 kb147 e150 e151 e152 e153 p154 G155 e156 e157 e158 p159 G160 e161 e162 e163 p164 G165 e166 e167 e168 p169 G170 e171 e172 e173 v174 G175 e176 kb174 e177 e178 e179 e180 p181 G182 e183 e184 e185 z186 G187 e188 e189 e190 kb186 e191
    have hz : ∀ v ∈ [V.int 1, V.int 13], sca v = true := fm_cons rfl (fm_cons rfl fm_nil)
    refine w_ixl_v 2 (by walk_at "sl") rfl (by omega) (by omega) fun m13 h13 => ?_
    have s13 := hz m13 h13
    clear hz h13
    walk_at "hs"
    rename_i pA GA nA_ sA hA rA GB nB sB hB
    subst htf
    exact rows_end k0 hb y0 y1 k3 b3 k4 om wm fm k5 ow ww fw k6 od wd_ fd s7' s8' k9 on wn fnn ka ol wl fl kb sc kd owi fwi e3 kb1 e4 e5 e6 e7 e10 e11 e12 e15 e16 e17 e20 kb18 e21 e22 e23 e24 e27 e28 e29 e32 e33 e34 e37 e38 e39 e42 kb40 e43 e44 e45 e46 e49 e50 e51 e54 e55 e56 e59 e60 e61 e64 e65 e66 e69 e70 e71 e74 e75 e76 e79 e80 e81 e84 e85 e86 e89 e90 e91 e94 e95 e96 e99 e100 e101 e104 e105 e106 e109 e110 e111 e114 e115 e116 e119 e120 e121 e124 e125 e126 e129 e130 e131 e134 e135 e136 e139 e140 e141 e144 e145 e146 e149 kb147 e150 e151 e152 e153 e156 e157 e158 e161 e162 e163 e166 e167 e168 e171 e172 e173 e176 kb174 e177 e178 e179 e180 e183 e184 e185 e188 e189 e190 kb186 e191 s13 nA_ sA hA nB sB hB _ fun s11 s12 s13 s14 s15 H' kk bb => ⟨_, _, _, _, _, _, _, _, _, _, _, _, _, _, rfl, Ks.trans e kk, bb⟩
  · rintro σ H2 ⟨s2, s3, s4, s5, s6, s7, s8, s9, s10, s11, s12, s13, s14, s15, rfl, e, hb⟩
    walk_at "hs"
    exact q _ e
theorem u__law_refused {H : Hp} {Q : VK} {E : XK} {b : Addr} {c : Int} {nm : Bool} (hb : BoxAt H b c) (hc : c < 700000000) (q : ∀ H', Ks H H' → Q (.bl true) H') : sp__law_refused K [.ref b, .bl nm] H Q E := ⟨b, c, nm, rfl, hb, hc, q⟩
end My
set_option linter.all false
set_option maxRecDepth 100000
set_option maxHeartbeats 4000000
namespace My
open PySem PySem.Spec PyProof.Rows L2 Kx
local macro_rules | `(tactic| walk_at "lk") => `(tactic| first | assumption | ((with_reducible show upd _ _ _ _ = _); (first | exact upd_same | (exact up_new (by assumption) (by walk_at "lk")) | (exact up_other (by assumption) (by walk_at "lk")))) | (exact (by assumption : Same _ _) _ _ (by walk_at "lk")) | (exact ks_get (by assumption) (by walk_at "lk") (by first | rfl | assumption | exact notBox_len rfl)))
local macro_rules | `(tactic| walk_at "sl") => `(tactic| first | assumption | (exact l_of (by walk_at "lk")) | (exact Same.seq (by assumption) (by walk_at "sl")) | ((with_reducible show SqL _ (upd _ _ _) _ _); (exact Same.seq (sm_new (by assumption)) (by walk_at "sl"))))
local macro_rules | `(tactic| walk_at "st") => `(tactic| first | assumption | (exact t_of (by walk_at "lk")) | (exact Kx.Same.tup (by assumption) (by walk_at "st")) | ((with_reducible show SqT _ (upd _ _ _) _ _); (exact Kx.Same.tup (sm_new (by assumption)) (by walk_at "st"))) | (exact ks_tup (by assumption) (by walk_at "st")))
local macro_rules | `(tactic| walk_at "kd") => `(tactic| first | assumption | exact .non | exact .bl _ | exact .int _ | exact .str _ | (exact .lst (by walk_at "sl")) | (exact .tup (by walk_at "st")) | (exact .dic (by walk_at "lk")) | (exact Kd.same (by assumption) (by walk_at "kd")) | ((with_reducible show Kd _ (upd _ _ _) _ _); (exact Kd.same (sm_new (by assumption)) (by walk_at "kd"))))
local macro_rules | `(tactic| walk_at "tt") => `(tactic| first | rfl | assumption | decide +kernel | (simp only [decide_eq_true_eq, Bool.not_eq_true', decide_eq_false_iff_not, Bool.and_eq_true, Bool.or_eq_true]; omega))
local macro_rules | `(tactic| walk_at "ff") => `(tactic| first | rfl | assumption | decide +kernel | (simp only [decide_eq_true_eq, Bool.not_eq_false', decide_eq_false_iff_not, Bool.and_eq_false_imp, Bool.or_eq_false_iff]; omega))
local macro_rules | `(tactic| walk_at "hc") => `(tactic| fail)
local macro_rules | `(tactic| walk_at "hif") => `(tactic| ((with_reducible refine w_b2 ?_ ?_) <;> intro))
local macro_rules | `(tactic| walk_at "hs1") => `(tactic| first
  | (with_reducible refine w_seq ?_)
  | (with_reducible refine w_asg ?_)
  | ((with_reducible refine' w_var ?k1 ?_); (case k1 => exact rfl))
  | (with_reducible refine w_c ?_)
  | (with_reducible refine w_op ?_)
  | (with_reducible refine w_cons ?_)
  | (with_reducible refine w_nil ?_)
  | (with_reducible refine w_name ?_)
  | (with_reducible refine w_kn ?_)
  | (with_reducible refine w_kx ?_)
  | (with_reducible refine w_kk ?_)
  | (with_reducible refine w_cb ?_)
  | (with_reducible refine w_if ?_)
  | (with_reducible refine w_test ?_)
  | (with_reducible refine w_exb ?_)
  | (with_reducible refine iteT ?_)
  | (with_reducible refine iteF ?_)
  | ((with_reducible refine w_bt ?_ ?_); (first | rfl | decide +kernel))
  | ((with_reducible refine w_bf ?_ ?_); (first | rfl | decide +kernel))
  | ((with_reducible refine w_bt ?_ ?_); (walk_at "tt"))
  | ((with_reducible refine w_bf ?_ ?_); (walk_at "ff"))
  | (with_reducible refine w_ret ?_)
  | (with_reducible refine w_retN ?_)
  | (with_reducible refine w_drop ?_)
  | (with_reducible refine w_next ?_)
  | (with_reducible refine w_brk ?_)
  | (with_reducible refine w_cont ?_)
  | (with_reducible refine w_and ?_)
  | (with_reducible refine w_or ?_)
  | (with_reducible refine w_not ?_)
  | (with_reducible refine w_tr ?_)
  | (with_reducible refine w_yes ?_)
  | (with_reducible refine w_tru_bl ?_)
  | (with_reducible refine w_tru_int ?_)
  | (with_reducible refine w_tru_non ?_)
  | (with_reducible refine w_andV ?_)
  | (with_reducible refine w_orV ?_)
  | (with_reducible refine w_notV ?_)
  | (with_reducible refine w_ifx ?_)
  | (with_reducible refine w_chain ?_)
  | (with_reducible refine w_un ?_)
  | (with_reducible refine n_tup ?_)
  | (with_reducible refine n_lst ?_)
  | ((with_reducible show kTup _ _ _); (refine n_ktup rfl ?_); intro _ _ _ _ _)
  | ((with_reducible show kLst _ _ _); (refine n_klst rfl ?_); intro _ _ _ _ _)
  | (with_reducible refine w_par ?_)
  | (with_reducible refine w_par2 ?_)
  | (with_reducible refine w_par3 ?_)
  | (with_reducible refine w_par33 ?_)
  | ((with_reducible refine' w_aug ?k1 ?_); (case k1 => exact rfl))
  | (with_reducible refine w_raise ?_)
  | (with_reducible refine w_mkdue ?_)
  | (with_reducible refine w_one ?_)
  | ((with_reducible show gSq _ _ _ (V.ref _) _ _ _); (first | (refine n_gsq (by walk_at "lk") (by exact rfl) (by exact rfl) ?_) | (refine w_gtup (by walk_at "st") (by exact rfl) ?_) | (refine w_glst (by walk_at "sl") (by exact rfl) ?_)))
  | (with_reducible refine w_gcons ?_)
  | (with_reducible refine w_gnil ?_)
  | (with_reducible refine w_bm ?_)
  | ((with_reducible show tyV _ "list" (V.ref _) _ ∧ _); (refine w_tyl (by walk_at "sl") ?_))
  | (with_reducible refine w_for ?_)
  | (with_reducible refine w_rng1 ?_)
  | (with_reducible refine w_rng2 ?_)
  | (with_reducible refine w_add_ii ?_)
  | (with_reducible refine w_sub_ii ?_)
  | ((with_reducible refine w_fdv_ii ?_ ?_ ?_); (first | decide | omega); (first | decide | omega))
  | ((with_reducible refine w_mul_b ?_ ?_ ?_); (refine ⟨?_, ?_⟩ <;> omega); (refine ⟨?_, ?_⟩ <;> omega))
  | ((with_reducible refine w_mod_ii ?_ ?_); (first | decide | omega))
  | (with_reducible refine w_neg_i ?_)
  | (with_reducible refine w_lt_ii ?_)
  | (with_reducible refine w_le_ii ?_)
  | (with_reducible refine w_gt_ii ?_)
  | (with_reducible refine w_ge_ii ?_)
  | (with_reducible refine w_eq_ii ?_)
  | (with_reducible refine w_ne_ii ?_)
  | (with_reducible refine n_eq_same ?_)
  | (with_reducible refine n_ne_same ?_)
  | (with_reducible refine w_eq_ss ?_)
  | (with_reducible refine w_ne_ss ?_)
  | (with_reducible refine w_eq_bb ?_)
  | (with_reducible refine w_ne_bb ?_)
  | (with_reducible refine w_is_n ?_)
  | (with_reducible refine w_isn_n ?_)
  | (with_reducible refine w_is_bb ?_)
  | (with_reducible refine w_isn_bb ?_)
  | ((with_reducible show rIx _ (V.ref _) (V.int _) _ _); (first | (refine n_ix (by decide) (by walk_at "lk") (by exact rfl) ?_) | (refine n_ixl (by decide) (by walk_at "sl") (by exact rfl) ?_) | (refine n_ixt (by decide) (by walk_at "st") (by exact rfl) ?_)))
  | (with_reducible refine w_ipadd ?_)
  | (with_reducible refine w_ipsub ?_)
  | (with_reducible refine w_int_i ?_)
  | (with_reducible refine w_int_b ?_)
  | (with_reducible refine w_abs ?_)
  | ((with_reducible refine w_max2r ?_); intro _ _ _ _)
  | ((with_reducible refine w_min2r ?_); intro _ _ _ _)
  | ((with_reducible show uLen _ [V.ref _] _ _); (first | (refine n_len (by walk_at "lk") (by exact rfl) ?_) | (refine w_len_l (by walk_at "sl") ?_) | (refine w_len_t (by walk_at "st") ?_) | (refine w_len_d (by walk_at "lk") ?_)))
  | ((with_reducible show uIsi _ [_, V.ty _] _ _); (refine w_isk (by walk_at "kd") (by decide) ?_))
  | ((with_reducible show uIsi _ [_, V.ref _] _ _); (refine w_isk2 (by walk_at "lk") (by walk_at "kd") (by decide) (by decide) ?_))
  | (with_reducible refine w_wN ?_)
  | (with_reducible refine w_lc ?_)
  | ((with_reducible refine' w_rng2e ?k1 ?_); (case k1 => (refine ⟨?_, ?_, ?_, ?_⟩ <;> omega)))
  | ((with_reducible refine' w_rng1e ?k1 ?k2 ?_); (case k1 => omega); (case k2 => omega))
  | ((with_reducible show ∃ a', V.ref _ = .ref a' ∧ (∃ xs, SqL _ _ a' xs) ∧ _); (refine w_sqLe (by walk_at "sl") ?_))
  | ((with_reducible show ∃ a', V.ref _ = .ref a' ∧ (∃ xs, SqT _ _ a' xs) ∧ _); (refine w_sqTe (by walk_at "st") ?_))
  | (with_reducible refine w_slc ?_)
  | (with_reducible refine w_nop ?_)
  | (with_reducible refine w_part ?_)
  | (with_reducible refine w_exi ?_)
  | ((with_reducible show uSl _ (V.ref _) _ _ _ _); (refine n_slL (by walk_at "sl") ?_); intro _ _ _ _ _)
  | (with_reducible refine w_gsub ?_)
  | ((with_reducible show rSetL (V.ref _) (V.int _) _ _ _); (refine w_setl (by walk_at "lk") (by exact rfl) ?_))
  | (with_reducible refine w_pow_9 ?_)
  | (with_reducible refine w_pow_12 ?_)
  | (with_reducible refine w_pow_13 ?_)
  | (with_reducible refine w_pow_18 ?_)
  | (with_reducible refine w_pow_29 ?_)
  | ((with_reducible refine n_disp1 ?_); intro _ _ _ _ _)
  | (with_reducible refine w_dput ?_)
  | ((with_reducible show rAppend (V.ref _) [_] _ _); (refine w_append (by walk_at "lk") (by first | omega | (exact Nat.lt_of_le_of_lt (wN_le rfl) (by decide))) ?_))
  | ((with_reducible show ∃ a' H4, V.ref _ = .ref a' ∧ DPut _ a' (V.str _) _ H4 ∧ _); (refine w_dputS (by walk_at "lk") (by first | omega | exact wN_le rfl) ?_))
  | (with_reducible refine w_try ?_)
  | ((with_reducible show wManyA _ _ _ _ (.ref (He.ga _ _)) _ _ _); (first | ((refine w_hit (ExT.ex (by assumption) _ (by decide) _ (by decide)) ?_); intro _ _) | (refine w_miss (ExT.ex (by assumption) _ (by decide) _ (by decide)) ?_)))
  | (with_reducible refine w_xg ?_)
  | ((with_reducible show V.ref _ = .ref _ ∧ ∃ _ _ _ _, Value.ref (He.ga _ _) = _ ∧ _); (refine w_xge (ExT.xf (by assumption) _ (by decide)) (ExT.fg (by assumption) _ (by decide)) (by walk_at "lk") ?_))
  | ((with_reducible show rIsX _ (.ref (He.ga _ _)) _ _ _ _ _); (refine w_isx (ExT.xx (by assumption) _ (by decide)) (ExT.kd (by assumption) _ (by decide)) (by walk_at "lk") ?_))
  | ((with_reducible show uAdd _ (V.ref _) (V.ref _) _ _); (refine n_add_ll (by walk_at "lk") (by walk_at "lk") rfl ?_); intro _ _ _ _ _)
  | ((with_reducible show iSeq _ (tLst _) _ _ _); (refine w_sqL ?_))
  | ((with_reducible show iSeq _ (tTup _) _ _ _); (refine w_sqT ?_))
  | (refine ⟨(rfl : wipe _ _ = wipe _ _), ?_⟩)
  | (walk_at "hc"))
local macro_rules | `(tactic| walk_at "hs") => `(tactic| repeat' (walk_at "hs1"))

local macro_rules | `(tactic| walk_at "rg") => `(tactic| repeat' (first | exact rg_nil | (refine rg_cons (by omega) (by omega) ?_)))
local macro_rules | `(tactic| walk_at "sm") => `(tactic| first | exact Same.refl _ | assumption | ((with_reducible show Same _ (upd _ _ _)); (refine Same.trans ?_ (sm_new (by assumption))); walk_at "sm") | ((refine Same.trans ?_ (by assumption)); walk_at "sm"))
local macro_rules | `(tactic| walk_at "bx") => `(tactic| first | assumption | ((with_reducible show BoxAt (upd _ _ _) _ _); (exact BoxAt.new (by assumption) (by walk_at "bx"))) | (exact BoxAt.same (by assumption) (by walk_at "bx")))
local macro_rules | `(tactic| walk_at "ks") => `(tactic| first | exact Ks.refl _ | assumption | ((with_reducible show Ks _ (upd _ _ _)); (refine Ks.trans ?_ (Ks.of (sm_new (by assumption))); walk_at "ks")) | (refine Ks.trans ?_ (by assumption); walk_at "ks") | (refine Ks.trans ?_ (Ks.of (by assumption)); walk_at "ks"))
local macro_rules | `(tactic| walk_at "ob") => `(tactic| first | assumption | exact .sc rfl | (exact Ob.same (by assumption) (by walk_at "ob")) | (exact Ob.ks (by assumption) (by walk_at "ob")))
local macro_rules | `(tactic| walk_at "nd") => `(tactic| first | assumption | (exact Nd.same (by assumption) (by walk_at "nd")) | (exact Nd.ks (by assumption) (by walk_at "nd")))
local macro_rules | `(tactic| walk_at "df") => `(tactic| first | assumption | exact df_sc rfl | (exact df_vr (by assumption) (by walk_at "lk")) | (exact df_rv (by assumption) (by walk_at "ob")) | (exact df_vv (by assumption) (by walk_at "ob")) | (exact Df.symm (df_vv (by assumption) (by walk_at "ob"))))
local macro_rules | `(tactic| walk_at "hc") => `(tactic| (with_reducible show sp_is_whole _ _ _ _ _); (refine u_is_whole (by walk_at "kd") ?_))
local macro_rules | `(tactic| walk_at "hc") => `(tactic| (with_reducible show sp_is_between _ _ _ _ _); (refine u_is_between (by walk_at "kd") ?_))
local macro_rules | `(tactic| walk_at "hc") => `(tactic| (with_reducible show sp_is_day _ _ _ _ _); (refine u_is_day (by walk_at "kd") ?_))
local macro_rules | `(tactic| walk_at "hc") => `(tactic| (with_reducible refine u_is_leap_year ?_))
local macro_rules | `(tactic| walk_at "hc") => `(tactic| (with_reducible refine' u_length_of ?k1 ?k2 ?_); (case k1 => omega); (case k2 => omega))
local macro_rules | `(tactic| walk_at "hc") => `(tactic| (with_reducible refine' u_year_begin ?k1 ?k2 ?_); (case k1 => omega); (case k2 => omega))
local macro_rules | `(tactic| walk_at "hc") => `(tactic| (with_reducible refine' u_month_begin ?k1 ?k2 ?k3 ?k4 ?_); (case k1 => omega); (case k2 => omega); (case k3 => omega); (case k4 => omega); intro _ _)
local macro_rules | `(tactic| walk_at "hc") => `(tactic| (with_reducible show sp__law_take _ _ _ _ _); (refine u__law_take (by walk_at "bx") (by omega) (by omega) (by omega) ?_); intro _ _ _ _ _ _)
local macro_rules | `(tactic| walk_at "hc") => `(tactic| (with_reducible refine u__law_leap ?_))
local macro_rules | `(tactic| walk_at "hc") => `(tactic| (with_reducible show sp__law_length _ _ _ _ _); (refine u__law_length (by omega) (by omega) ?_); intro _ _)
local macro_rules | `(tactic| walk_at "hc") => `(tactic| (with_reducible show sp__law_next _ _ _ _ _); (refine u__law_next (by walk_at "st") (by omega) (by omega) ?_); intro _ _ _ _ _)
local macro_rules | `(tactic| walk_at "hc") => `(tactic| (with_reducible show sp__law_no_number _ _ _ _ _); (refine u__law_no_number (by walk_at "bx") (by omega) (by omega) (by omega) ?_); intro _ _ _ _ _ _ _)
local macro_rules | `(tactic| walk_at "hc") => `(tactic| (with_reducible refine u_weekday_at ?_))
local macro_rules | `(tactic| walk_at "hc") => `(tactic| (with_reducible show sp_first_monday _ _ _ _ _); (refine u_first_monday (by omega) (by omega) ?_))
local macro_rules | `(tactic| walk_at "hc") => `(tactic| (with_reducible show sp_weeks_of _ _ _ _ _); (refine u_weeks_of (by omega) (by omega) ?_))
local macro_rules | `(tactic| walk_at "hc") => `(tactic| (with_reducible show sp__law_begin _ _ _ _ _); (refine u__law_begin (by omega) (by omega) ?_))
local macro_rules | `(tactic| walk_at "hc") => `(tactic| (with_reducible show sp__law_weeks _ _ _ _ _); (refine u__law_weeks (by omega) (by omega) ?_))
local macro_rules | `(tactic| walk_at "hc") => `(tactic| (with_reducible show sp__law_year _ _ _ _ _); (refine u__law_year (by walk_at "bx") (by omega) ?_); intro _ _ _ _ _ _)
local macro_rules | `(tactic| walk_at "hc") => `(tactic| (with_reducible show sp__law_days_right _ _ _ _ _); (refine u__law_days_right (by walk_at "bx") (by omega) ?_); intro _ _ _)
local macro_rules | `(tactic| walk_at "hc") => `(tactic| (with_reducible show sp__law_months_right _ _ _ _ _); (refine u__law_months_right (by walk_at "bx") (by omega) ?_); intro _ _ _)
local macro_rules | `(tactic| walk_at "hc") => `(tactic| (with_reducible show sp__law_weeks_right _ _ _ _ _); (refine u__law_weeks_right (by walk_at "bx") (by omega) ?_); intro _ _ _)
variable {K : PySem.W.Frag}
theorem u__law_refused' {H : Hp} {Q : VK} {E : XK} {b : Addr} {c : Int} {nm : Bool} (hb : BoxAt H b c) (hc : c < 700000000) (q : ∀ H', Ks H H' → Q (.bl true) H') : sp__law_refused K [.ref b, .bl nm] H Q E := ⟨b, c, nm, rfl, hb, hc, q⟩
local macro_rules | `(tactic| walk_at "sn") => `(tactic| first | assumption | (exact Same.seq (by assumption) (by walk_at "sn")) | (exact ks_ints (by assumption) (by walk_at "sn")))
local macro_rules | `(tactic| walk_at "hc") => `(tactic| (with_reducible show sp__law_cell _ _ _ _ _); (refine u__law_cell (by walk_at "sn") (by omega) (by omega) (by omega) ?_); intro _ _ _)
local macro_rules | `(tactic| walk_at "hc") => `(tactic| (with_reducible show sp__law_box _ _ _ _ _); (refine u__law_box ?_); intro _ _ _ _)
local macro_rules | `(tactic| walk_at "hc") => `(tactic| (with_reducible show sp__law_refused _ _ _ _ _); (refine u__law_refused' (by walk_at "bx") (by omega) ?_); intro _ _)
theorem p_law (vs : List V) (H : Hp) (Q : VK) (E : XK) (h : sp_law K vs H Q E) : t_law K E (D0 Q) (start N_law vs) H := by
  obtain ⟨a, ns, rfl, hs, hn, q⟩ := h
  walk_at "hs"
  rename_i m m1 m2 m3 r r1 r2 r3
  refine for_range (lo := 0) (n := r.toNat) (fun i σ H2 => ∃ s1 s2 s3, σ = [some (.ref a), s1, s2, s3] ∧ Ks H H2)
    ⟨_, _, _, rfl, Ks.refl _⟩ ?_ ?_
  · rintro i σ H2 hi ⟨s1, s2, s3, rfl, e⟩
    have i1 : (i : Int) < 3 := by omega
    have hs := ks_ints e hs
    clear hi r1 r2 r3 m1 m2 m3
    walk_at "hs"
    exact ⟨_, _, _, rfl, by walk_at "ks"⟩
  · rintro σ H2 ⟨s1, s2, s3, rfl, e⟩
    walk_at "hs"
    exact q _
end My
set_option Elab.async false
set_option linter.all false
set_option maxRecDepth 100000
set_option maxHeartbeats 0
namespace My
open PySem PySem.Spec PyProof.Rows L2 Kx
section
variable {K : PySem.W.Frag} {h : Heap} {mg : Str → Option Value}
theorem tx (X : K.In h) (G : h.Ns mainGlobals mg) (c : SaysM fs fn fc K) : Tx PR K mg where
  n_abs := He.free_ok X G (x := "abs") (c.fact 0 (f := fun K => (He.Fa.free "abs").ok K) rfl)
  n_bool := He.free_ok X G (x := "bool") (c.fact 1 (f := fun K => (He.Fa.free "bool").ok K) rfl)
  n_dict := He.free_ok X G (x := "dict") (c.fact 2 (f := fun K => (He.Fa.free "dict").ok K) rfl)
  n_int := He.free_ok X G (x := "int") (c.fact 3 (f := fun K => (He.Fa.free "int").ok K) rfl)
  n_isinstance := He.free_ok X G (x := "isinstance") (c.fact 4 (f := fun K => (He.Fa.free "isinstance").ok K) rfl)
  n_len := He.free_ok X G (x := "len") (c.fact 5 (f := fun K => (He.Fa.free "len").ok K) rfl)
  n_list := He.free_ok X G (x := "list") (c.fact 6 (f := fun K => (He.Fa.free "list").ok K) rfl)
  n_max := He.free_ok X G (x := "max") (c.fact 7 (f := fun K => (He.Fa.free "max").ok K) rfl)
  n_min := He.free_ok X G (x := "min") (c.fact 8 (f := fun K => (He.Fa.free "min").ok K) rfl)
  n_range := He.free_ok X G (x := "range") (c.fact 9 (f := fun K => (He.Fa.free "range").ok K) rfl)
  n_str := He.free_ok X G (x := "str") (c.fact 10 (f := fun K => (He.Fa.free "str").ok K) rfl)
  n_sum := He.free_ok X G (x := "sum") (c.fact 11 (f := fun K => (He.Fa.free "sum").ok K) rfl)
  n_super := He.free_ok X G (x := "super") (c.fact 12 (f := fun K => (He.Fa.free "super").ok K) rfl)
  n_tuple := He.free_ok X G (x := "tuple") (c.fact 13 (f := fun K => (He.Fa.free "tuple").ok K) rfl)
  c_FEBRUARY := (by obtain ⟨t, e⟩ := He.int_ok X G (x := "FEBRUARY") (c.fact 14 (f := fun K => (He.Fa.int "FEBRUARY" 2).ok K) rfl); exact ⟨_, e, ⟨t, rfl⟩⟩)
  c_FIRST_WEEKDAY := (by obtain ⟨t, e⟩ := He.int_ok X G (x := "FIRST_WEEKDAY") (c.fact 15 (f := fun K => (He.Fa.int "FIRST_WEEKDAY" 5).ok K) rfl); exact ⟨_, e, ⟨t, rfl⟩⟩)
  c_FIRST_YEAR := (by obtain ⟨t, e⟩ := He.int_ok X G (x := "FIRST_YEAR") (c.fact 16 (f := fun K => (He.Fa.int "FIRST_YEAR" 2000).ok K) rfl); exact ⟨_, e, ⟨t, rfl⟩⟩)
  c_LAST_YEAR := (by obtain ⟨t, e⟩ := He.int_ok X G (x := "LAST_YEAR") (c.fact 17 (f := fun K => (He.Fa.int "LAST_YEAR" 2700000000).ok K) rfl); exact ⟨_, e, ⟨t, rfl⟩⟩)
  r_LENGTHS := ⟨_, He.glo_ok X G (x := "LENGTHS") (c.fact 18 (f := fun K => (He.Fa.glo "LENGTHS").ok K) rfl), rfl⟩
  c_LONG_DAYS := (by obtain ⟨t, e⟩ := He.int_ok X G (x := "LONG_DAYS") (c.fact 19 (f := fun K => (He.Fa.int "LONG_DAYS" 146097).ok K) rfl); exact ⟨_, e, ⟨t, rfl⟩⟩)
  c_LONG_YEARS := (by obtain ⟨t, e⟩ := He.int_ok X G (x := "LONG_YEARS") (c.fact 20 (f := fun K => (He.Fa.int "LONG_YEARS" 400).ok K) rfl); exact ⟨_, e, ⟨t, rfl⟩⟩)
  c_MOST_DAY := (by obtain ⟨t, e⟩ := He.int_ok X G (x := "MOST_DAY") (c.fact 21 (f := fun K => (He.Fa.int "MOST_DAY" 1000000000000).ok K) rfl); exact ⟨_, e, ⟨t, rfl⟩⟩)
  r_DueError := ⟨_, He.glo_ok X G (x := "DueError") (c.fact 22 (f := fun K => (He.Fa.glo "DueError").ok K) rfl), rfl⟩
  g_DueError := He.glo_ok X G (x := "DueError") (c.fact 22 (f := fun K => (He.Fa.glo "DueError").ok K) rfl)
  x_DueError := PySem.DueE.cls_ok (c.fact 23 (f := fun K => PySem.DueE.dueClsB (He.ga K "DueError") (He.ga K "DueError") (He.ma K (He.ga K "DueError") "__init__") K) rfl)
  r_InvalidDay := ⟨_, He.glo_ok X G (x := "InvalidDay") (c.fact 24 (f := fun K => (He.Fa.glo "InvalidDay").ok K) rfl), rfl⟩
  g_InvalidDay := He.glo_ok X G (x := "InvalidDay") (c.fact 24 (f := fun K => (He.Fa.glo "InvalidDay").ok K) rfl)
  x_InvalidDay := PySem.DueE.cls_ok (c.fact 25 (f := fun K => PySem.DueE.dueClsB (He.ga K "DueError") (He.ga K "InvalidDay") (He.ma K (He.ga K "DueError") "__init__") K) rfl)
  r_InvalidMonth := ⟨_, He.glo_ok X G (x := "InvalidMonth") (c.fact 26 (f := fun K => (He.Fa.glo "InvalidMonth").ok K) rfl), rfl⟩
  g_InvalidMonth := He.glo_ok X G (x := "InvalidMonth") (c.fact 26 (f := fun K => (He.Fa.glo "InvalidMonth").ok K) rfl)
  x_InvalidMonth := PySem.DueE.cls_ok (c.fact 27 (f := fun K => PySem.DueE.dueClsB (He.ga K "DueError") (He.ga K "InvalidMonth") (He.ma K (He.ga K "DueError") "__init__") K) rfl)
  r_InvalidNumber := ⟨_, He.glo_ok X G (x := "InvalidNumber") (c.fact 28 (f := fun K => (He.Fa.glo "InvalidNumber").ok K) rfl), rfl⟩
  g_InvalidNumber := He.glo_ok X G (x := "InvalidNumber") (c.fact 28 (f := fun K => (He.Fa.glo "InvalidNumber").ok K) rfl)
  x_InvalidNumber := PySem.DueE.cls_ok (c.fact 29 (f := fun K => PySem.DueE.dueClsB (He.ga K "DueError") (He.ga K "InvalidNumber") (He.ma K (He.ga K "DueError") "__init__") K) rfl)
  r_InvalidWeek := ⟨_, He.glo_ok X G (x := "InvalidWeek") (c.fact 30 (f := fun K => (He.Fa.glo "InvalidWeek").ok K) rfl), rfl⟩
  g_InvalidWeek := He.glo_ok X G (x := "InvalidWeek") (c.fact 30 (f := fun K => (He.Fa.glo "InvalidWeek").ok K) rfl)
  x_InvalidWeek := PySem.DueE.cls_ok (c.fact 31 (f := fun K => PySem.DueE.dueClsB (He.ga K "DueError") (He.ga K "InvalidWeek") (He.ma K (He.ga K "DueError") "__init__") K) rfl)
  r_InvalidWeekday := ⟨_, He.glo_ok X G (x := "InvalidWeekday") (c.fact 32 (f := fun K => (He.Fa.glo "InvalidWeekday").ok K) rfl), rfl⟩
  g_InvalidWeekday := He.glo_ok X G (x := "InvalidWeekday") (c.fact 32 (f := fun K => (He.Fa.glo "InvalidWeekday").ok K) rfl)
  x_InvalidWeekday := PySem.DueE.cls_ok (c.fact 33 (f := fun K => PySem.DueE.dueClsB (He.ga K "DueError") (He.ga K "InvalidWeekday") (He.ma K (He.ga K "DueError") "__init__") K) rfl)
  r_InvalidYear := ⟨_, He.glo_ok X G (x := "InvalidYear") (c.fact 34 (f := fun K => (He.Fa.glo "InvalidYear").ok K) rfl), rfl⟩
  g_InvalidYear := He.glo_ok X G (x := "InvalidYear") (c.fact 34 (f := fun K => (He.Fa.glo "InvalidYear").ok K) rfl)
  x_InvalidYear := PySem.DueE.cls_ok (c.fact 35 (f := fun K => PySem.DueE.dueClsB (He.ga K "DueError") (He.ga K "InvalidYear") (He.ma K (He.ga K "DueError") "__init__") K) rfl)
  due := by
    obtain ⟨p1, p2, p3, q1, q2, q3, q4, q5, q6, r1, r2, r3, r4, e1, e2⟩ := ini_eq
    exact PySem.DueE.init_ok ((c.cell 0 (p := iniP) rfl).trans e1) e2 (c.fact 36 (f := fun K => PySem.DueE.dueInitB PR.main.file (He.ga K "DueError") (He.ma K (He.ga K "DueError") "__init__") K) rfl) (by decide +kernel) (c.fact 37 (f := fun K => He.eqO (PySem.W.nsIn K mainGlobals "super") (some none)) rfl) (c.fact 38 (f := fun K => He.eqO (PySem.W.nsIn K cStatics "thirdparty.any") (some none)) rfl)
end
local macro_rules | `(tactic| walk_at "ln") => `(tactic| (intro vs H Q E h; repeat (first | (obtain ⟨e, _⟩ := h; subst e; rfl) | (obtain ⟨_, h⟩ := h))))
theorem g_day_of_week_weekday_week_year_rel {zs : List V} {ws : List Value} (r : Vals zs ws) : Vals (g_day_of_week_weekday_week_year zs) (g_day_of_week_weekday_week_year ws) := by
  cases r with
  | nil => exact .nil
  | cons r0 r =>
    cases r with
    | nil => exact .nil
    | cons r1 r =>
      cases r with
      | nil => exact .nil
      | cons r2 r =>
        cases r with
        | cons _ _ => exact .nil
        | nil => exact .cons r2 (.cons r1 (.cons r0 (.nil)))
theorem g_nth_weekday_weekday_number_month_year_rel {zs : List V} {ws : List Value} (r : Vals zs ws) : Vals (g_nth_weekday_weekday_number_month_year zs) (g_nth_weekday_weekday_number_month_year ws) := by
  cases r with
  | nil => exact .nil
  | cons r0 r =>
    cases r with
    | nil => exact .nil
    | cons r1 r =>
      cases r with
      | nil => exact .nil
      | cons r2 r =>
        cases r with
        | nil => exact .nil
        | cons r3 r =>
          cases r with
          | cons _ _ => exact .nil
          | nil => exact .cons r3 (.cons r2 (.cons r1 (.cons r0 (.nil))))
theorem g_week_of_day_rel {zs : List V} {ws : List Value} (r : Vals zs ws) : Vals (g_week_of_day zs) (g_week_of_day ws) := by
  cases r with
  | nil => exact .nil
  | cons r0 r =>
    cases r with
    | cons _ _ => exact .nil
    | nil => exact .cons r0 (.nil)
theorem g_weekday_of_day_rel {zs : List V} {ws : List Value} (r : Vals zs ws) : Vals (g_weekday_of_day zs) (g_weekday_of_day ws) := by
  cases r with
  | nil => exact .nil
  | cons r0 r =>
    cases r with
    | cons _ _ => exact .nil
    | nil => exact .cons r0 (.nil)
theorem g_weeks_in_year_rel {zs : List V} {ws : List Value} (r : Vals zs ws) : Vals (g_weeks_in_year zs) (g_weeks_in_year ws) := by
  cases r with
  | nil => exact .nil
  | cons r0 r =>
    cases r with
    | cons _ _ => exact .nil
    | nil => exact .cons r0 (.nil)
theorem facts {w : World} {K : PySem.W.Frag} {h : Heap} {mg : Str → Option Value} (X : K.In h) (G : h.Ns mainGlobals mg) (c : SaysM fs fn fc K) :
    ∃ fd : FuncData, (∀ (s : Shared) (v : Value), BindsTo s fd ⟨[v], []⟩ [("script", v)]) ∧ ∀ base : Heap, K.In base → base.Ns mainGlobals mg → FnOk PR w K mg base (L2.CX PR w) 43 (He.ga K "law") fd ["script"] (sp_law K) := by
  have T := tx X G c
  obtain ⟨fd_is_whole, F_is_whole⟩ := c.def_ 0 (d := dd "is_whole" 10) rfl
  obtain ⟨fd_is_between, F_is_between⟩ := c.def_ 1 (d := dd "is_between" 11) rfl
  obtain ⟨fd_is_day, F_is_day⟩ := c.def_ 2 (d := dd "is_day" 12) rfl
  obtain ⟨fd_is_leap_year, F_is_leap_year⟩ := c.def_ 3 (d := dd "is_leap_year" 21) rfl
  obtain ⟨fd_length_of, F_length_of⟩ := c.def_ 4 (d := dd "length_of" 22) rfl
  obtain ⟨fd_check_year, F_check_year⟩ := c.def_ 5 (d := dd "check_year" 23) rfl
  obtain ⟨fd_check_month, F_check_month⟩ := c.def_ 6 (d := dd "check_month" 24) rfl
  obtain ⟨fd_check_weekday, F_check_weekday⟩ := c.def_ 7 (d := dd "check_weekday" 25) rfl
  obtain ⟨fd_check_day, F_check_day⟩ := c.def_ 8 (d := dd "check_day" 26) rfl
  obtain ⟨fd_year_begin, F_year_begin⟩ := c.def_ 9 (d := dd "year_begin" 27) rfl
  obtain ⟨fd_month_begin, F_month_begin⟩ := c.def_ 10 (d := dd "month_begin" 28) rfl
  obtain ⟨fd_year_of, F_year_of⟩ := c.def_ 11 (d := dd "year_of" 29) rfl
  obtain ⟨fd_date_at, F_date_at⟩ := c.def_ 12 (d := dd "date_at" 30) rfl
  obtain ⟨fd_weekday_at, F_weekday_at⟩ := c.def_ 13 (d := dd "weekday_at" 31) rfl
  obtain ⟨fd_weekday_of, F_weekday_of⟩ := c.def_ 14 (d := dd "weekday_of" 32) rfl
  obtain ⟨fd_nth_in_month, F_nth_in_month⟩ := c.def_ 15 (d := dd "nth_in_month" 33) rfl
  obtain ⟨fd_nth_weekday, F_nth_weekday⟩ := c.def_ 16 (d := dd "nth_weekday" 34) rfl
  obtain ⟨fd_first_monday, F_first_monday⟩ := c.def_ 17 (d := dd "first_monday" 36) rfl
  obtain ⟨fd_weeks_of, F_weeks_of⟩ := c.def_ 18 (d := dd "weeks_of" 37) rfl
  obtain ⟨fd_week_of, F_week_of⟩ := c.def_ 19 (d := dd "week_of" 38) rfl
  obtain ⟨fd_weeks_in, F_weeks_in⟩ := c.def_ 20 (d := dd "weeks_in" 39) rfl
  obtain ⟨fd_day_of_week, F_day_of_week⟩ := c.def_ 21 (d := dd "day_of_week" 40) rfl
  obtain ⟨fd__law_cell, F__law_cell⟩ := c.def_ 22 (d := dd "_law_cell" 42) rfl
  obtain ⟨fd__law_box, F__law_box⟩ := c.def_ 23 (d := dd "_law_box" 43) rfl
  obtain ⟨fd__law_take, F__law_take⟩ := c.def_ 24 (d := dd "_law_take" 44) rfl
  obtain ⟨fd__law_same, F__law_same⟩ := c.def_ 25 (d := dd "_law_same" 45) rfl
  obtain ⟨fd__law_very, F__law_very⟩ := c.def_ 26 (d := dd "_law_very" 46) rfl
  obtain ⟨fd__law_leap, F__law_leap⟩ := c.def_ 27 (d := dd "_law_leap" 47) rfl
  obtain ⟨fd__law_length, F__law_length⟩ := c.def_ 28 (d := dd "_law_length" 48) rfl
  obtain ⟨fd__law_date, F__law_date⟩ := c.def_ 29 (d := dd "_law_date" 49) rfl
  obtain ⟨fd__law_next, F__law_next⟩ := c.def_ 30 (d := dd "_law_next" 50) rfl
  obtain ⟨fd__law_ask, F__law_ask⟩ := c.def_ 31 (d := dd "_law_ask" 51) rfl
  obtain ⟨fd__law_begin, F__law_begin⟩ := c.def_ 32 (d := dd "_law_begin" 52) rfl
  obtain ⟨fd__law_week, F__law_week⟩ := c.def_ 33 (d := dd "_law_week" 53) rfl
  obtain ⟨fd__law_weeks, F__law_weeks⟩ := c.def_ 34 (d := dd "_law_weeks" 54) rfl
  obtain ⟨fd__law_year, F__law_year⟩ := c.def_ 35 (d := dd "_law_year" 55) rfl
  obtain ⟨fd__law_told, F__law_told⟩ := c.def_ 36 (d := dd "_law_told" 56) rfl
  obtain ⟨fd__law_days_right, F__law_days_right⟩ := c.def_ 37 (d := dd "_law_days_right" 57) rfl
  obtain ⟨fd__law_months_right, F__law_months_right⟩ := c.def_ 38 (d := dd "_law_months_right" 58) rfl
  obtain ⟨fd__law_weeks_right, F__law_weeks_right⟩ := c.def_ 39 (d := dd "_law_weeks_right" 59) rfl
  obtain ⟨fd__law_no_number, F__law_no_number⟩ := c.def_ 40 (d := dd "_law_no_number" 60) rfl
  obtain ⟨fd__law_refused, F__law_refused⟩ := c.def_ 41 (d := dd "_law_refused" 61) rfl
  obtain ⟨fd_law, F_law⟩ := c.def_ 42 (d := dd "law" 62) rfl
  have bl := FunD.bindsA (ps := ["script"]) F_law fun _ _ _ _ _ _ us hl => match us, hl with | [_], _ => rfl
  refine ⟨fd_law, fun s v => bl s [v] rfl, fun base _ _ => ?_⟩
  have ok_is_whole : FnOk PR w K mg base (L2.CX PR w) 3 (He.ga K "is_whole") fd_is_whole ["value"] (sp_is_whole K) := kn_ok F_is_whole sc_is_whole (by walk_at "ln") (fun E => t_is_whole K E) (fun cdv A outer s H E hr => d_is_whole T  hr) (fun vs H Q E h => p_is_whole  vs H Q E h)
  have c_is_whole : Kn PR w K mg base 3 "is_whole" ["value"] (sp_is_whole K) := Kn.of F_is_whole ok_is_whole (He.glo_ok X G (x := "is_whole") (c.fact 41 (f := fun K => (He.Fa.glo "is_whole").ok K) rfl)) (FunD.bindsN (ps := ["value"]) F_is_whole fun _ _ _ _ _ _ us hl => match us, hl with | [_], _ => rfl)
  have ok_is_between : FnOk PR w K mg base (L2.CX PR w) 4 (He.ga K "is_between") fd_is_between ["value", "least", "most"] (sp_is_between K) := kn_ok F_is_between sc_is_between (by walk_at "ln") (fun E => t_is_between K E) (fun cdv A outer s H E hr => d_is_between T c_is_whole hr) (fun vs H Q E h => p_is_between  vs H Q E h)
  have c_is_between : Kn PR w K mg base 4 "is_between" ["value", "least", "most"] (sp_is_between K) := Kn.of F_is_between ok_is_between (He.glo_ok X G (x := "is_between") (c.fact 42 (f := fun K => (He.Fa.glo "is_between").ok K) rfl)) (FunD.bindsN (ps := ["value", "least", "most"]) F_is_between fun _ _ _ _ _ _ us hl => match us, hl with | [_, _, _], _ => rfl)
  have ok_is_day : FnOk PR w K mg base (L2.CX PR w) 5 (He.ga K "is_day") fd_is_day ["value"] (sp_is_day K) := kn_ok F_is_day sc_is_day (by walk_at "ln") (fun E => t_is_day K E) (fun cdv A outer s H E hr => d_is_day T c_is_between hr) (fun vs H Q E h => p_is_day  vs H Q E h)
  have c_is_day : Kn PR w K mg base 5 "is_day" ["value"] (sp_is_day K) := Kn.of F_is_day ok_is_day (He.glo_ok X G (x := "is_day") (c.fact 43 (f := fun K => (He.Fa.glo "is_day").ok K) rfl)) (FunD.bindsN (ps := ["value"]) F_is_day fun _ _ _ _ _ _ us hl => match us, hl with | [_], _ => rfl)
  have ok_is_leap_year : FnOk PR w K mg base (L2.CX PR w) 3 (He.ga K "is_leap_year") fd_is_leap_year ["year"] (sp_is_leap_year K) := kn_ok F_is_leap_year sc_is_leap_year (by walk_at "ln") (fun E => t_is_leap_year K E) (fun cdv A outer s H E hr => d_is_leap_year T  hr) (fun vs H Q E h => p_is_leap_year  vs H Q E h)
  have c_is_leap_year : Kn PR w K mg base 3 "is_leap_year" ["year"] (sp_is_leap_year K) := Kn.of F_is_leap_year ok_is_leap_year (He.glo_ok X G (x := "is_leap_year") (c.fact 44 (f := fun K => (He.Fa.glo "is_leap_year").ok K) rfl)) (FunD.bindsN (ps := ["year"]) F_is_leap_year fun _ _ _ _ _ _ us hl => match us, hl with | [_], _ => rfl)
  have ok_length_of : FnOk PR w K mg base (L2.CX PR w) 4 (He.ga K "length_of") fd_length_of ["year", "month"] (sp_length_of K) := kn_ok F_length_of sc_length_of (by walk_at "ln") (fun E => t_length_of K E) (fun cdv A outer s H E hr => d_length_of T c_is_leap_year hr) (fun vs H Q E h => p_length_of (fun H => He.tupB_ok (vs := [31, 28, 31, 30, 31, 30, 31, 31, 30, 31, 30, 31].map He.Dv.int) (c.fact 39 (f := fun K => He.tupB K "LENGTHS" ([31, 28, 31, 30, 31, 30, 31, 31, 30, 31, 30, 31].map He.Dv.int)) rfl) H) vs H Q E h)
  have c_length_of : Kn PR w K mg base 4 "length_of" ["year", "month"] (sp_length_of K) := Kn.of F_length_of ok_length_of (He.glo_ok X G (x := "length_of") (c.fact 45 (f := fun K => (He.Fa.glo "length_of").ok K) rfl)) (FunD.bindsN (ps := ["year", "month"]) F_length_of fun _ _ _ _ _ _ us hl => match us, hl with | [_, _], _ => rfl)
  have ok_check_year : FnOk PR w K mg base (L2.CX PR w) 5 (He.ga K "check_year") fd_check_year ["year"] (sp_check_year K) := kn_ok F_check_year sc_check_year (by walk_at "ln") (fun E => t_check_year K E) (fun cdv A outer s H E hr => d_check_year T c_is_between hr) (fun vs H Q E h => p_check_year  vs H Q E h)
  have c_check_year : Kn PR w K mg base 5 "check_year" ["year"] (sp_check_year K) := Kn.of F_check_year ok_check_year (He.glo_ok X G (x := "check_year") (c.fact 46 (f := fun K => (He.Fa.glo "check_year").ok K) rfl)) (FunD.bindsN (ps := ["year"]) F_check_year fun _ _ _ _ _ _ us hl => match us, hl with | [_], _ => rfl)
  have ok_check_month : FnOk PR w K mg base (L2.CX PR w) 5 (He.ga K "check_month") fd_check_month ["month"] (sp_check_month K) := kn_ok F_check_month sc_check_month (by walk_at "ln") (fun E => t_check_month K E) (fun cdv A outer s H E hr => d_check_month T c_is_between hr) (fun vs H Q E h => p_check_month  vs H Q E h)
  have c_check_month : Kn PR w K mg base 5 "check_month" ["month"] (sp_check_month K) := Kn.of F_check_month ok_check_month (He.glo_ok X G (x := "check_month") (c.fact 47 (f := fun K => (He.Fa.glo "check_month").ok K) rfl)) (FunD.bindsN (ps := ["month"]) F_check_month fun _ _ _ _ _ _ us hl => match us, hl with | [_], _ => rfl)
  have ok_check_weekday : FnOk PR w K mg base (L2.CX PR w) 5 (He.ga K "check_weekday") fd_check_weekday ["weekday"] (sp_check_weekday K) := kn_ok F_check_weekday sc_check_weekday (by walk_at "ln") (fun E => t_check_weekday K E) (fun cdv A outer s H E hr => d_check_weekday T c_is_between hr) (fun vs H Q E h => p_check_weekday  vs H Q E h)
  have c_check_weekday : Kn PR w K mg base 5 "check_weekday" ["weekday"] (sp_check_weekday K) := Kn.of F_check_weekday ok_check_weekday (He.glo_ok X G (x := "check_weekday") (c.fact 48 (f := fun K => (He.Fa.glo "check_weekday").ok K) rfl)) (FunD.bindsN (ps := ["weekday"]) F_check_weekday fun _ _ _ _ _ _ us hl => match us, hl with | [_], _ => rfl)
  have ok_check_day : FnOk PR w K mg base (L2.CX PR w) 6 (He.ga K "check_day") fd_check_day ["day"] (sp_check_day K) := kn_ok F_check_day sc_check_day (by walk_at "ln") (fun E => t_check_day K E) (fun cdv A outer s H E hr => d_check_day T c_is_day hr) (fun vs H Q E h => p_check_day  vs H Q E h)
  have c_check_day : Kn PR w K mg base 6 "check_day" ["day"] (sp_check_day K) := Kn.of F_check_day ok_check_day (He.glo_ok X G (x := "check_day") (c.fact 49 (f := fun K => (He.Fa.glo "check_day").ok K) rfl)) (FunD.bindsN (ps := ["day"]) F_check_day fun _ _ _ _ _ _ us hl => match us, hl with | [_], _ => rfl)
  have ok_year_begin : FnOk PR w K mg base (L2.CX PR w) 3 (He.ga K "year_begin") fd_year_begin ["year"] (sp_year_begin K) := kn_ok F_year_begin sc_year_begin (by walk_at "ln") (fun E => t_year_begin K E) (fun cdv A outer s H E hr => d_year_begin T  hr) (fun vs H Q E h => p_year_begin  vs H Q E h)
  have c_year_begin : Kn PR w K mg base 3 "year_begin" ["year"] (sp_year_begin K) := Kn.of F_year_begin ok_year_begin (He.glo_ok X G (x := "year_begin") (c.fact 50 (f := fun K => (He.Fa.glo "year_begin").ok K) rfl)) (FunD.bindsN (ps := ["year"]) F_year_begin fun _ _ _ _ _ _ us hl => match us, hl with | [_], _ => rfl)
  have ok_month_begin : FnOk PR w K mg base (L2.CX PR w) 5 (He.ga K "month_begin") fd_month_begin ["year", "month"] (sp_month_begin K) := kn_ok F_month_begin sc_month_begin (by walk_at "ln") (fun E => t_month_begin K E) (fun cdv A outer s H E hr => d_month_begin T c_length_of c_year_begin hr) (fun vs H Q E h => p_month_begin  vs H Q E h)
  have c_month_begin : Kn PR w K mg base 5 "month_begin" ["year", "month"] (sp_month_begin K) := Kn.of F_month_begin ok_month_begin (He.glo_ok X G (x := "month_begin") (c.fact 51 (f := fun K => (He.Fa.glo "month_begin").ok K) rfl)) (FunD.bindsN (ps := ["year", "month"]) F_month_begin fun _ _ _ _ _ _ us hl => match us, hl with | [_, _], _ => rfl)
  have ok_year_of : FnOk PR w K mg base (L2.CX PR w) 4 (He.ga K "year_of") fd_year_of ["day"] (sp_year_of K) := kn_ok F_year_of sc_year_of (by walk_at "ln") (fun E => t_year_of K E) (fun cdv A outer s H E hr => d_year_of T c_year_begin hr) (fun vs H Q E h => p_year_of  vs H Q E h)
  have c_year_of : Kn PR w K mg base 4 "year_of" ["day"] (sp_year_of K) := Kn.of F_year_of ok_year_of (He.glo_ok X G (x := "year_of") (c.fact 52 (f := fun K => (He.Fa.glo "year_of").ok K) rfl)) (FunD.bindsN (ps := ["day"]) F_year_of fun _ _ _ _ _ _ us hl => match us, hl with | [_], _ => rfl)
  have ok_date_at : FnOk PR w K mg base (L2.CX PR w) 5 (He.ga K "date_at") fd_date_at ["day"] (sp_date_at K) := kn_ok F_date_at sc_date_at (by walk_at "ln") (fun E => t_date_at K E) (fun cdv A outer s H E hr => d_date_at T c_length_of c_year_begin c_year_of hr) (fun vs H Q E h => p_date_at  vs H Q E h)
  have c_date_at : Kn PR w K mg base 5 "date_at" ["day"] (sp_date_at K) := Kn.of F_date_at ok_date_at (He.glo_ok X G (x := "date_at") (c.fact 53 (f := fun K => (He.Fa.glo "date_at").ok K) rfl)) (FunD.bindsN (ps := ["day"]) F_date_at fun _ _ _ _ _ _ us hl => match us, hl with | [_], _ => rfl)
  have ok_weekday_at : FnOk PR w K mg base (L2.CX PR w) 3 (He.ga K "weekday_at") fd_weekday_at ["day"] (sp_weekday_at K) := kn_ok F_weekday_at sc_weekday_at (by walk_at "ln") (fun E => t_weekday_at K E) (fun cdv A outer s H E hr => d_weekday_at T  hr) (fun vs H Q E h => p_weekday_at  vs H Q E h)
  have c_weekday_at : Kn PR w K mg base 3 "weekday_at" ["day"] (sp_weekday_at K) := Kn.of F_weekday_at ok_weekday_at (He.glo_ok X G (x := "weekday_at") (c.fact 54 (f := fun K => (He.Fa.glo "weekday_at").ok K) rfl)) (FunD.bindsN (ps := ["day"]) F_weekday_at fun _ _ _ _ _ _ us hl => match us, hl with | [_], _ => rfl)
  have ok_weekday_of : FnOk PR w K mg base (L2.CX PR w) 7 (He.ga K "weekday_of") fd_weekday_of ["day"] (sp_weekday_of K) := kn_ok F_weekday_of sc_weekday_of (by walk_at "ln") (fun E => t_weekday_of K E) (fun cdv A outer s H E hr => d_weekday_of T c_check_day c_weekday_at hr) (fun vs H Q E h => p_weekday_of  vs H Q E h)
  have c_weekday_of : Kn PR w K mg base 7 "weekday_of" ["day"] (sp_weekday_of K) := Kn.of F_weekday_of ok_weekday_of (He.glo_ok X G (x := "weekday_of") (c.fact 55 (f := fun K => (He.Fa.glo "weekday_of").ok K) rfl)) (FunD.bindsN (ps := ["day"]) F_weekday_of fun _ _ _ _ _ _ us hl => match us, hl with | [_], _ => rfl)
  have k_weekday_of_day : Kk PR w K mg base 7 "weekday_of" ["day"] ["day"] g_weekday_of_day (sp_weekday_of K) := Kk.of F_weekday_of ok_weekday_of (He.glo_ok X G (x := "weekday_of") (c.fact 55 (f := fun K => (He.Fa.glo "weekday_of").ok K) rfl)) (fun _ _ _ _ _ _ us hl => match us, hl with | [_], _ => rfl) (fun {zs ws} r => g_weekday_of_day_rel r)
  have ok_nth_in_month : FnOk PR w K mg base (L2.CX PR w) 3 (He.ga K "nth_in_month") fd_nth_in_month ["length", "first", "number", "weekday"] (sp_nth_in_month K) := kn_ok F_nth_in_month sc_nth_in_month (by walk_at "ln") (fun E => t_nth_in_month K E) (fun cdv A outer s H E hr => d_nth_in_month T  hr) (fun vs H Q E h => p_nth_in_month  vs H Q E h)
  have c_nth_in_month : Kn PR w K mg base 3 "nth_in_month" ["length", "first", "number", "weekday"] (sp_nth_in_month K) := Kn.of F_nth_in_month ok_nth_in_month (He.glo_ok X G (x := "nth_in_month") (c.fact 56 (f := fun K => (He.Fa.glo "nth_in_month").ok K) rfl)) (FunD.bindsN (ps := ["length", "first", "number", "weekday"]) F_nth_in_month fun _ _ _ _ _ _ us hl => match us, hl with | [_, _, _, _], _ => rfl)
  have ok_nth_weekday : FnOk PR w K mg base (L2.CX PR w) 6 (He.ga K "nth_weekday") fd_nth_weekday ["year", "month", "number", "weekday"] (sp_nth_weekday K) := kn_ok F_nth_weekday sc_nth_weekday (by walk_at "ln") (fun E => t_nth_weekday K E) (fun cdv A outer s H E hr => d_nth_weekday T c_check_month c_check_weekday c_check_year c_is_between c_length_of c_month_begin c_nth_in_month c_weekday_at hr) (fun vs H Q E h => p_nth_weekday  vs H Q E h)
  have c_nth_weekday : Kn PR w K mg base 6 "nth_weekday" ["year", "month", "number", "weekday"] (sp_nth_weekday K) := Kn.of F_nth_weekday ok_nth_weekday (He.glo_ok X G (x := "nth_weekday") (c.fact 57 (f := fun K => (He.Fa.glo "nth_weekday").ok K) rfl)) (FunD.bindsN (ps := ["year", "month", "number", "weekday"]) F_nth_weekday fun _ _ _ _ _ _ us hl => match us, hl with | [_, _, _, _], _ => rfl)
  have k_nth_weekday_weekday_number_month_year : Kk PR w K mg base 6 "nth_weekday" ["year", "month", "number", "weekday"] ["weekday", "number", "month", "year"] g_nth_weekday_weekday_number_month_year (sp_nth_weekday K) := Kk.of F_nth_weekday ok_nth_weekday (He.glo_ok X G (x := "nth_weekday") (c.fact 57 (f := fun K => (He.Fa.glo "nth_weekday").ok K) rfl)) (fun _ _ _ _ _ _ us hl => match us, hl with | [_, _, _, _], _ => rfl) (fun {zs ws} r => g_nth_weekday_weekday_number_month_year_rel r)
  have ok_first_monday : FnOk PR w K mg base (L2.CX PR w) 4 (He.ga K "first_monday") fd_first_monday ["year"] (sp_first_monday K) := kn_ok F_first_monday sc_first_monday (by walk_at "ln") (fun E => t_first_monday K E) (fun cdv A outer s H E hr => d_first_monday T c_weekday_at c_year_begin hr) (fun vs H Q E h => p_first_monday  vs H Q E h)
  have c_first_monday : Kn PR w K mg base 4 "first_monday" ["year"] (sp_first_monday K) := Kn.of F_first_monday ok_first_monday (He.glo_ok X G (x := "first_monday") (c.fact 58 (f := fun K => (He.Fa.glo "first_monday").ok K) rfl)) (FunD.bindsN (ps := ["year"]) F_first_monday fun _ _ _ _ _ _ us hl => match us, hl with | [_], _ => rfl)
  have ok_weeks_of : FnOk PR w K mg base (L2.CX PR w) 5 (He.ga K "weeks_of") fd_weeks_of ["year"] (sp_weeks_of K) := kn_ok F_weeks_of sc_weeks_of (by walk_at "ln") (fun E => t_weeks_of K E) (fun cdv A outer s H E hr => d_weeks_of T c_first_monday hr) (fun vs H Q E h => p_weeks_of  vs H Q E h)
  have c_weeks_of : Kn PR w K mg base 5 "weeks_of" ["year"] (sp_weeks_of K) := Kn.of F_weeks_of ok_weeks_of (He.glo_ok X G (x := "weeks_of") (c.fact 59 (f := fun K => (He.Fa.glo "weeks_of").ok K) rfl)) (FunD.bindsN (ps := ["year"]) F_weeks_of fun _ _ _ _ _ _ us hl => match us, hl with | [_], _ => rfl)
  have ok_week_of : FnOk PR w K mg base (L2.CX PR w) 7 (He.ga K "week_of") fd_week_of ["day"] (sp_week_of K) := kn_ok F_week_of sc_week_of (by walk_at "ln") (fun E => t_week_of K E) (fun cdv A outer s H E hr => d_week_of T c_check_day c_date_at c_first_monday hr) (fun vs H Q E h => p_week_of  vs H Q E h)
  have c_week_of : Kn PR w K mg base 7 "week_of" ["day"] (sp_week_of K) := Kn.of F_week_of ok_week_of (He.glo_ok X G (x := "week_of") (c.fact 60 (f := fun K => (He.Fa.glo "week_of").ok K) rfl)) (FunD.bindsN (ps := ["day"]) F_week_of fun _ _ _ _ _ _ us hl => match us, hl with | [_], _ => rfl)
  have k_week_of_day : Kk PR w K mg base 7 "week_of" ["day"] ["day"] g_week_of_day (sp_week_of K) := Kk.of F_week_of ok_week_of (He.glo_ok X G (x := "week_of") (c.fact 60 (f := fun K => (He.Fa.glo "week_of").ok K) rfl)) (fun _ _ _ _ _ _ us hl => match us, hl with | [_], _ => rfl) (fun {zs ws} r => g_week_of_day_rel r)
  have ok_weeks_in : FnOk PR w K mg base (L2.CX PR w) 6 (He.ga K "weeks_in") fd_weeks_in ["year"] (sp_weeks_in K) := kn_ok F_weeks_in sc_weeks_in (by walk_at "ln") (fun E => t_weeks_in K E) (fun cdv A outer s H E hr => d_weeks_in T c_check_year c_weeks_of hr) (fun vs H Q E h => p_weeks_in  vs H Q E h)
  have c_weeks_in : Kn PR w K mg base 6 "weeks_in" ["year"] (sp_weeks_in K) := Kn.of F_weeks_in ok_weeks_in (He.glo_ok X G (x := "weeks_in") (c.fact 61 (f := fun K => (He.Fa.glo "weeks_in").ok K) rfl)) (FunD.bindsN (ps := ["year"]) F_weeks_in fun _ _ _ _ _ _ us hl => match us, hl with | [_], _ => rfl)
  have k_weeks_in_year : Kk PR w K mg base 6 "weeks_in" ["year"] ["year"] g_weeks_in_year (sp_weeks_in K) := Kk.of F_weeks_in ok_weeks_in (He.glo_ok X G (x := "weeks_in") (c.fact 61 (f := fun K => (He.Fa.glo "weeks_in").ok K) rfl)) (fun _ _ _ _ _ _ us hl => match us, hl with | [_], _ => rfl) (fun {zs ws} r => g_weeks_in_year_rel r)
  have ok_day_of_week : FnOk PR w K mg base (L2.CX PR w) 6 (He.ga K "day_of_week") fd_day_of_week ["year", "week", "weekday"] (sp_day_of_week K) := kn_ok F_day_of_week sc_day_of_week (by walk_at "ln") (fun E => t_day_of_week K E) (fun cdv A outer s H E hr => d_day_of_week T c_check_weekday c_check_year c_first_monday c_is_between c_weeks_of hr) (fun vs H Q E h => p_day_of_week  vs H Q E h)
  have c_day_of_week : Kn PR w K mg base 6 "day_of_week" ["year", "week", "weekday"] (sp_day_of_week K) := Kn.of F_day_of_week ok_day_of_week (He.glo_ok X G (x := "day_of_week") (c.fact 62 (f := fun K => (He.Fa.glo "day_of_week").ok K) rfl)) (FunD.bindsN (ps := ["year", "week", "weekday"]) F_day_of_week fun _ _ _ _ _ _ us hl => match us, hl with | [_, _, _], _ => rfl)
  have k_day_of_week_weekday_week_year : Kk PR w K mg base 6 "day_of_week" ["year", "week", "weekday"] ["weekday", "week", "year"] g_day_of_week_weekday_week_year (sp_day_of_week K) := Kk.of F_day_of_week ok_day_of_week (He.glo_ok X G (x := "day_of_week") (c.fact 62 (f := fun K => (He.Fa.glo "day_of_week").ok K) rfl)) (fun _ _ _ _ _ _ us hl => match us, hl with | [_, _, _], _ => rfl) (fun {zs ws} r => g_day_of_week_weekday_week_year_rel r)
  have ok__law_cell : FnOk PR w K mg base (L2.CX PR w) 3 (He.ga K "_law_cell") fd__law_cell ["script", "k"] (sp__law_cell K) := kn_ok F__law_cell sc__law_cell (by walk_at "ln") (fun E => t__law_cell K E) (fun cdv A outer s H E hr => d__law_cell T  hr) (fun vs H Q E h => p__law_cell  vs H Q E h)
  have c__law_cell : Kn PR w K mg base 3 "_law_cell" ["script", "k"] (sp__law_cell K) := Kn.of F__law_cell ok__law_cell (He.glo_ok X G (x := "_law_cell") (c.fact 63 (f := fun K => (He.Fa.glo "_law_cell").ok K) rfl)) (FunD.bindsN (ps := ["script", "k"]) F__law_cell fun _ _ _ _ _ _ us hl => match us, hl with | [_, _], _ => rfl)
  have ok__law_box : FnOk PR w K mg base (L2.CX PR w) 3 (He.ga K "_law_box") fd__law_box ["great"] (sp__law_box K) := kn_ok F__law_box sc__law_box (by walk_at "ln") (fun E => t__law_box K E) (fun cdv A outer s H E hr => d__law_box T  hr) (fun vs H Q E h => p__law_box  vs H Q E h)
  have c__law_box : Kn PR w K mg base 3 "_law_box" ["great"] (sp__law_box K) := Kn.of F__law_box ok__law_box (He.glo_ok X G (x := "_law_box") (c.fact 64 (f := fun K => (He.Fa.glo "_law_box").ok K) rfl)) (FunD.bindsN (ps := ["great"]) F__law_box fun _ _ _ _ _ _ us hl => match us, hl with | [_], _ => rfl)
  have ok__law_take : FnOk PR w K mg base (L2.CX PR w) 3 (He.ga K "_law_take") fd__law_take ["box", "many"] (sp__law_take K) := kn_ok F__law_take sc__law_take (by walk_at "ln") (fun E => t__law_take K E) (fun cdv A outer s H E hr => d__law_take T  hr) (fun vs H Q E h => p__law_take  vs H Q E h)
  have c__law_take : Kn PR w K mg base 3 "_law_take" ["box", "many"] (sp__law_take K) := Kn.of F__law_take ok__law_take (He.glo_ok X G (x := "_law_take") (c.fact 65 (f := fun K => (He.Fa.glo "_law_take").ok K) rfl)) (FunD.bindsN (ps := ["box", "many"]) F__law_take fun _ _ _ _ _ _ us hl => match us, hl with | [_, _], _ => rfl)
  have cs : ∀ n, Kn PR w K mg base (4 + n) "_law_same" ["told", "due"] (spIn K n) := by
    intro n
    induction n with
    | zero => exact Kn.of F__law_same ⟨fun _ _ _ _ z => z.elim, fun _ _ _ _ _ _ _ _ _ _ _ _ _ z => z.elim⟩ (He.glo_ok X G (x := "_law_same") (c.fact 66 (f := fun K => (He.Fa.glo "_law_same").ok K) rfl)) (FunD.bindsN (ps := ["told", "due"]) F__law_same fun _ _ _ _ _ _ us hl => match us, hl with | [_, _], _ => rfl)
    | succ n ih => exact Kn.of F__law_same (kn_ok F__law_same sc__law_same (by walk_at "ln") (fun E => t__law_same K (spIn K n) E) (fun cdv A outer s H E hr => d__law_same T ih (Nat.le_refl _) (by omega) hr) (fun vs H Q E h => p__law_same n vs H Q E h)) (He.glo_ok X G (x := "_law_same") (c.fact 66 (f := fun K => (He.Fa.glo "_law_same").ok K) rfl)) (FunD.bindsN (ps := ["told", "due"]) F__law_same fun _ _ _ _ _ _ us hl => match us, hl with | [_, _], _ => rfl)
  have c__law_same : Kn PR w K mg base 40 "_law_same" ["told", "due"] (sp__law_same K) := Kn_mono (cs 9) (by decide)
  have ok__law_very : FnOk PR w K mg base (L2.CX PR w) 41 (He.ga K "_law_very") fd__law_very ["given", "value"] (sp__law_very K) := kn_ok F__law_very sc__law_very (by walk_at "ln") (fun E => t__law_very K E) (fun cdv A outer s H E hr => d__law_very T c__law_same hr) (fun vs H Q E h => p__law_very  vs H Q E h)
  have c__law_very : Kn PR w K mg base 41 "_law_very" ["given", "value"] (sp__law_very K) := Kn.of F__law_very ok__law_very (He.glo_ok X G (x := "_law_very") (c.fact 67 (f := fun K => (He.Fa.glo "_law_very").ok K) rfl)) (FunD.bindsN (ps := ["given", "value"]) F__law_very fun _ _ _ _ _ _ us hl => match us, hl with | [_, _], _ => rfl)
  have ok__law_leap : FnOk PR w K mg base (L2.CX PR w) 3 (He.ga K "_law_leap") fd__law_leap ["year"] (sp__law_leap K) := kn_ok F__law_leap sc__law_leap (by walk_at "ln") (fun E => t__law_leap K E) (fun cdv A outer s H E hr => d__law_leap T  hr) (fun vs H Q E h => p__law_leap  vs H Q E h)
  have c__law_leap : Kn PR w K mg base 3 "_law_leap" ["year"] (sp__law_leap K) := Kn.of F__law_leap ok__law_leap (He.glo_ok X G (x := "_law_leap") (c.fact 68 (f := fun K => (He.Fa.glo "_law_leap").ok K) rfl)) (FunD.bindsN (ps := ["year"]) F__law_leap fun _ _ _ _ _ _ us hl => match us, hl with | [_], _ => rfl)
  have ok__law_length : FnOk PR w K mg base (L2.CX PR w) 4 (He.ga K "_law_length") fd__law_length ["year", "month"] (sp__law_length K) := kn_ok F__law_length sc__law_length (by walk_at "ln") (fun E => t__law_length K E) (fun cdv A outer s H E hr => d__law_length T c__law_leap hr) (fun vs H Q E h => p__law_length  vs H Q E h)
  have c__law_length : Kn PR w K mg base 4 "_law_length" ["year", "month"] (sp__law_length K) := Kn.of F__law_length ok__law_length (He.glo_ok X G (x := "_law_length") (c.fact 69 (f := fun K => (He.Fa.glo "_law_length").ok K) rfl)) (FunD.bindsN (ps := ["year", "month"]) F__law_length fun _ _ _ _ _ _ us hl => match us, hl with | [_, _], _ => rfl)
  have ok__law_date : FnOk PR w K mg base (L2.CX PR w) 5 (He.ga K "_law_date") fd__law_date ["day"] (sp__law_date K) := kn_ok F__law_date sc__law_date (by walk_at "ln") (fun E => t__law_date K E) (fun cdv A outer s H E hr => d__law_date T c__law_leap c__law_length hr) (fun vs H Q E h => p__law_date  vs H Q E h)
  have c__law_date : Kn PR w K mg base 5 "_law_date" ["day"] (sp__law_date K) := Kn.of F__law_date ok__law_date (He.glo_ok X G (x := "_law_date") (c.fact 70 (f := fun K => (He.Fa.glo "_law_date").ok K) rfl)) (FunD.bindsN (ps := ["day"]) F__law_date fun _ _ _ _ _ _ us hl => match us, hl with | [_], _ => rfl)
  have ok__law_next : FnOk PR w K mg base (L2.CX PR w) 5 (He.ga K "_law_next") fd__law_next ["date"] (sp__law_next K) := kn_ok F__law_next sc__law_next (by walk_at "ln") (fun E => t__law_next K E) (fun cdv A outer s H E hr => d__law_next T c__law_length hr) (fun vs H Q E h => p__law_next  vs H Q E h)
  have c__law_next : Kn PR w K mg base 5 "_law_next" ["date"] (sp__law_next K) := Kn.of F__law_next ok__law_next (He.glo_ok X G (x := "_law_next") (c.fact 71 (f := fun K => (He.Fa.glo "_law_next").ok K) rfl)) (FunD.bindsN (ps := ["date"]) F__law_next fun _ _ _ _ _ _ us hl => match us, hl with | [_], _ => rfl)
  have ok__law_ask : FnOk PR w K mg base (L2.CX PR w) 8 (He.ga K "_law_ask") fd__law_ask ["word", "parts", "named"] (sp__law_ask K) := kn_ok F__law_ask sc__law_ask (by walk_at "ln") (fun E => t__law_ask K E) (fun cdv A outer s H E hr => d__law_ask T c_day_of_week c_nth_weekday c_week_of c_weekday_of c_weeks_in k_day_of_week_weekday_week_year k_nth_weekday_weekday_number_month_year k_week_of_day k_weekday_of_day k_weeks_in_year hr) (fun vs H Q E h => p__law_ask (ext_ok (c.fact 40 (f := fun K => extB ["InvalidDay", "InvalidYear", "InvalidMonth", "InvalidNumber", "InvalidWeek", "InvalidWeekday"] "DueError" K) rfl)) vs H Q E h)
  have c__law_ask : Kn PR w K mg base 8 "_law_ask" ["word", "parts", "named"] (sp__law_ask K) := Kn.of F__law_ask ok__law_ask (He.glo_ok X G (x := "_law_ask") (c.fact 72 (f := fun K => (He.Fa.glo "_law_ask").ok K) rfl)) (FunD.bindsN (ps := ["word", "parts", "named"]) F__law_ask fun _ _ _ _ _ _ us hl => match us, hl with | [_, _, _], _ => rfl)
  have ok__law_begin : FnOk PR w K mg base (L2.CX PR w) 4 (He.ga K "_law_begin") fd__law_begin ["year"] (sp__law_begin K) := kn_ok F__law_begin sc__law_begin (by walk_at "ln") (fun E => t__law_begin K E) (fun cdv A outer s H E hr => d__law_begin T c__law_leap hr) (fun vs H Q E h => p__law_begin  vs H Q E h)
  have c__law_begin : Kn PR w K mg base 4 "_law_begin" ["year"] (sp__law_begin K) := Kn.of F__law_begin ok__law_begin (He.glo_ok X G (x := "_law_begin") (c.fact 73 (f := fun K => (He.Fa.glo "_law_begin").ok K) rfl)) (FunD.bindsN (ps := ["year"]) F__law_begin fun _ _ _ _ _ _ us hl => match us, hl with | [_], _ => rfl)
  have ok__law_week : FnOk PR w K mg base (L2.CX PR w) 6 (He.ga K "_law_week") fd__law_week ["day"] (sp__law_week K) := kn_ok F__law_week sc__law_week (by walk_at "ln") (fun E => t__law_week K E) (fun cdv A outer s H E hr => d__law_week T c__law_begin c__law_date hr) (fun vs H Q E h => p__law_week  vs H Q E h)
  have c__law_week : Kn PR w K mg base 6 "_law_week" ["day"] (sp__law_week K) := Kn.of F__law_week ok__law_week (He.glo_ok X G (x := "_law_week") (c.fact 74 (f := fun K => (He.Fa.glo "_law_week").ok K) rfl)) (FunD.bindsN (ps := ["day"]) F__law_week fun _ _ _ _ _ _ us hl => match us, hl with | [_], _ => rfl)
  have ok__law_weeks : FnOk PR w K mg base (L2.CX PR w) 5 (He.ga K "_law_weeks") fd__law_weeks ["year"] (sp__law_weeks K) := kn_ok F__law_weeks sc__law_weeks (by walk_at "ln") (fun E => t__law_weeks K E) (fun cdv A outer s H E hr => d__law_weeks T c__law_begin c__law_leap hr) (fun vs H Q E h => p__law_weeks  vs H Q E h)
  have c__law_weeks : Kn PR w K mg base 5 "_law_weeks" ["year"] (sp__law_weeks K) := Kn.of F__law_weeks ok__law_weeks (He.glo_ok X G (x := "_law_weeks") (c.fact 75 (f := fun K => (He.Fa.glo "_law_weeks").ok K) rfl)) (FunD.bindsN (ps := ["year"]) F__law_weeks fun _ _ _ _ _ _ us hl => match us, hl with | [_], _ => rfl)
  have ok__law_year : FnOk PR w K mg base (L2.CX PR w) 4 (He.ga K "_law_year") fd__law_year ["box"] (sp__law_year K) := kn_ok F__law_year sc__law_year (by walk_at "ln") (fun E => t__law_year K E) (fun cdv A outer s H E hr => d__law_year T c__law_take hr) (fun vs H Q E h => p__law_year  vs H Q E h)
  have c__law_year : Kn PR w K mg base 4 "_law_year" ["box"] (sp__law_year K) := Kn.of F__law_year ok__law_year (He.glo_ok X G (x := "_law_year") (c.fact 76 (f := fun K => (He.Fa.glo "_law_year").ok K) rfl)) (FunD.bindsN (ps := ["box"]) F__law_year fun _ _ _ _ _ _ us hl => match us, hl with | [_], _ => rfl)
  have ok__law_told : FnOk PR w K mg base (L2.CX PR w) 41 (He.ga K "_law_told") fd__law_told ["word", "parts", "due", "named"] (sp__law_told K) := kn_ok F__law_told sc__law_told (by walk_at "ln") (fun E => t__law_told K E) (fun cdv A outer s H E hr => d__law_told T c__law_ask c__law_same hr) (fun vs H Q E h => p__law_told  vs H Q E h)
  have c__law_told : Kn PR w K mg base 41 "_law_told" ["word", "parts", "due", "named"] (sp__law_told K) := Kn.of F__law_told ok__law_told (He.glo_ok X G (x := "_law_told") (c.fact 77 (f := fun K => (He.Fa.glo "_law_told").ok K) rfl)) (FunD.bindsN (ps := ["word", "parts", "due", "named"]) F__law_told fun _ _ _ _ _ _ us hl => match us, hl with | [_, _, _, _], _ => rfl)
  have ok__law_days_right : FnOk PR w K mg base (L2.CX PR w) 42 (He.ga K "_law_days_right") fd__law_days_right ["box", "named"] (sp__law_days_right K) := kn_ok F__law_days_right sc__law_days_right (by walk_at "ln") (fun E => t__law_days_right K E) (fun cdv A outer s H E hr => d__law_days_right T c__law_begin c__law_take c__law_told c__law_week hr) (fun vs H Q E h => p__law_days_right  vs H Q E h)
  have c__law_days_right : Kn PR w K mg base 42 "_law_days_right" ["box", "named"] (sp__law_days_right K) := Kn.of F__law_days_right ok__law_days_right (He.glo_ok X G (x := "_law_days_right") (c.fact 78 (f := fun K => (He.Fa.glo "_law_days_right").ok K) rfl)) (FunD.bindsN (ps := ["box", "named"]) F__law_days_right fun _ _ _ _ _ _ us hl => match us, hl with | [_, _], _ => rfl)
  have ok__law_months_right : FnOk PR w K mg base (L2.CX PR w) 42 (He.ga K "_law_months_right") fd__law_months_right ["box", "named"] (sp__law_months_right K) := kn_ok F__law_months_right sc__law_months_right (by walk_at "ln") (fun E => t__law_months_right K E) (fun cdv A outer s H E hr => d__law_months_right T c__law_begin c__law_length c__law_take c__law_told c__law_year hr) (fun vs H Q E h => p__law_months_right  vs H Q E h)
  have c__law_months_right : Kn PR w K mg base 42 "_law_months_right" ["box", "named"] (sp__law_months_right K) := Kn.of F__law_months_right ok__law_months_right (He.glo_ok X G (x := "_law_months_right") (c.fact 79 (f := fun K => (He.Fa.glo "_law_months_right").ok K) rfl)) (FunD.bindsN (ps := ["box", "named"]) F__law_months_right fun _ _ _ _ _ _ us hl => match us, hl with | [_, _], _ => rfl)
  have ok__law_weeks_right : FnOk PR w K mg base (L2.CX PR w) 42 (He.ga K "_law_weeks_right") fd__law_weeks_right ["box", "named"] (sp__law_weeks_right K) := kn_ok F__law_weeks_right sc__law_weeks_right (by walk_at "ln") (fun E => t__law_weeks_right K E) (fun cdv A outer s H E hr => d__law_weeks_right T c__law_ask c__law_take c__law_told c__law_week c__law_weeks c__law_year hr) (fun vs H Q E h => p__law_weeks_right  vs H Q E h)
  have c__law_weeks_right : Kn PR w K mg base 42 "_law_weeks_right" ["box", "named"] (sp__law_weeks_right K) := Kn.of F__law_weeks_right ok__law_weeks_right (He.glo_ok X G (x := "_law_weeks_right") (c.fact 80 (f := fun K => (He.Fa.glo "_law_weeks_right").ok K) rfl)) (FunD.bindsN (ps := ["box", "named"]) F__law_weeks_right fun _ _ _ _ _ _ us hl => match us, hl with | [_, _], _ => rfl)
  have ok__law_no_number : FnOk PR w K mg base (L2.CX PR w) 4 (He.ga K "_law_no_number") fd__law_no_number ["box", "low", "high"] (sp__law_no_number K) := kn_ok F__law_no_number sc__law_no_number (by walk_at "ln") (fun E => t__law_no_number K E) (fun cdv A outer s H E hr => d__law_no_number T c__law_take hr) (fun vs H Q E h => p__law_no_number  vs H Q E h)
  have c__law_no_number : Kn PR w K mg base 4 "_law_no_number" ["box", "low", "high"] (sp__law_no_number K) := Kn.of F__law_no_number ok__law_no_number (He.glo_ok X G (x := "_law_no_number") (c.fact 81 (f := fun K => (He.Fa.glo "_law_no_number").ok K) rfl)) (FunD.bindsN (ps := ["box", "low", "high"]) F__law_no_number fun _ _ _ _ _ _ us hl => match us, hl with | [_, _, _], _ => rfl)
  have ok__law_refused : FnOk PR w K mg base (L2.CX PR w) 42 (He.ga K "_law_refused") fd__law_refused ["box", "named"] (sp__law_refused K) := kn_ok F__law_refused sc__law_refused (by walk_at "ln") (fun E => t__law_refused K E) (fun cdv A outer s H E hr => d__law_refused T c__law_ask c__law_no_number c__law_take c__law_very c__law_year hr) (fun vs H Q E h => p__law_refused  vs H Q E h)
  have c__law_refused : Kn PR w K mg base 42 "_law_refused" ["box", "named"] (sp__law_refused K) := Kn.of F__law_refused ok__law_refused (He.glo_ok X G (x := "_law_refused") (c.fact 82 (f := fun K => (He.Fa.glo "_law_refused").ok K) rfl)) (FunD.bindsN (ps := ["box", "named"]) F__law_refused fun _ _ _ _ _ _ us hl => match us, hl with | [_, _], _ => rfl)
  have ok_law : FnOk PR w K mg base (L2.CX PR w) 43 (He.ga K "law") fd_law ["script"] (sp_law K) := kn_ok F_law sc_law (by walk_at "ln") (fun E => t_law K E) (fun cdv A outer s H E hr => d_law T c__law_box c__law_cell c__law_days_right c__law_months_right c__law_refused c__law_take c__law_weeks_right hr) (fun vs H Q E h => p_law  vs H Q E h)
  exact ok_law
end My
open PySem PySem.W PySem.Calls PyProof.Rows
theorem PySem.Challenge.cw_dueagain_k02_weekdays_and_weeks_holds : PySem.Challenge.rw_dueagain_k02_weekdays_and_weeks.Holds := by
  w_on; o_law
  refine HandSHeadRun.head_any (r := OpenLaw.row PySem.Challenge.rw_dueagain_k02_weekdays_and_weeks) (q := view (OpenLaw.row PySem.Challenge.rw_dueagain_k02_weekdays_and_weeks).prog [62]) (H := My.hk) (ob := My.ob) (M := 4000) (loose := My.names) (d := HandSHeadRun.topDef (OpenLaw.row PySem.Challenge.rw_dueagain_k02_weekdays_and_weeks).prog 62) (kwd := []) My.ob_eq
    (by kernel_rfl) (fun s => by kernel_rfl) My.run (by kernel_rfl) (by kernel_rfl) (by kernel_rfl) (by rfl) (by first | assumption | decide +kernel) (by decide +kernel) ⟨rfl, rfl, rfl, rfl, rfl, by decide +kernel⟩ ?hw ?hc
  case hw => w_witness2
  case hc =>
    refine Kx.walk_ofX (l := PySem.Challenge.rw_dueagain_k02_weekdays_and_weeks) (n := 63) (k := 43) (x := "script") rfl (by decide) (by kernel_rfl) ⟨rfl, by decide, by decide⟩ ?F
    intro w mg fa h Y G hmg0
    obtain ⟨K, KX, c⟩ := Y
    have hmg : mg ("law" : PySem.Str) = some (.ref fa) := by
      have e : (HandSHeadRun.topDef (OpenLaw.row PySem.Challenge.rw_dueagain_k02_weekdays_and_weeks).prog 62).name = ("law" : PySem.Str) := by kernel_rfl
      rw [← e]
      exact hmg0
    have e := hmg.symm.trans (He.glo_ok KX G (x := "law") (c.fact 83 rfl))
    cases e
    obtain ⟨fd, hb, hF⟩ := My.facts (w := w) KX G c
    exact ⟨K, fd, My.sp_law K, KX, hb, fun H a ns hl _ hS => ⟨a, ns, rfl, hS, hl, fun _ => rfl⟩, hF⟩
