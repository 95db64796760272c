import PyProof.Rows.All
import Wide.All
import OpenK.AllK
import Wide.FinOn
import KE.KExcSuper
import HandS.ForExc
import HandS.ExcInit
import HandS.ExcSuper
import HandS.ExcField
import HandS.TryMany
import HandS.CallSlots
import HandS.Defaults
import KE.KExcIs
import HandS.IsInst
import HandS.ForMost
import HandS.Wide
import HandS.TupAny
import HandS.TupLe
import HandS.Style
import HandS.Deep
import HandS.Codes
import HandS.TryOnly
import HandS.WordsDict
import HandS.TupLen
import HandS.HeadHook2
import HandS.Conv
import HandS.Iter
import HandS.MakeKw
import HandS.SortInts
import HandS.Zip
import HandS.HeadEnd
import HandS.Head0
import HandS.Head1
import HandS.Head2
import PySem.Challenge.RW_dueagain_k17_whole_due_moments_of_local
import HandS.IterVal
import HandS.Walk
set_option Elab.async false
set_option linter.all false
set_option maxRecDepth 100000
set_option maxHeartbeats 4000000
namespace PySem
namespace DueE
open PySem.W PySem.Calls PyProof.Rows PySem.HandSPX
/-! the text of DueError.__init__: super().__init__(given); self.given = given -/
def iA (p1 p2 p3 : Pos) : Arguments := { posonlyargs := [], args := [{ arg := "self", annotation := none, pos := p1 }, { arg := "given", annotation := none, pos := p2 }], vararg := none, kwonlyargs := [], kw_defaults := [], kwarg := none, defaults := [.Constant .none 0 p3] }
def iB (q1 q2 q3 q4 q5 q6 r1 r2 r3 r4 : Pos) : List Stmt :=
  [.Expr (.Call (.Attribute (.Call (.Name "super" q1) [] [] q2) "__init__" q3) [.Name "given" q4] [] q5) q6, .Assign [.Attribute (.Name "self" r1) "given" r2] (.Name "given" r3) r4]
def iS : Scope := { kind := .function, names := [(PySem.Str.ofString "self", .local), (PySem.Str.ofString "given", .local), (PySem.Str.ofString "__class__", .free), (PySem.Str.ofString "super", .globalImplicit)], isGenerator := false, isCoroutine := false, more := [] }
/-- what the written part says of DueError, at D, of its __init__, at fI -/
structure InitTxt (P : Program) (K : Frag) (D fI : Addr) : Prop where
  fn : ∃ (cc cda TD : Addr) (oD : Obj) (itD : Value) (nD : Nat) (oc : Value) (od : Option Addr) (kV doc pm : Value) (an : Option Addr) (ct : Value) (osl : Array (Option Value)) (p1 p2 p3 q1 q2 q3 q4 q5 q6 r1 r2 r3 r4 : Pos)
      (ccl : Value) (cdd : Option Addr) (ccs : Array (Option Value)) (vs : Array Value) (file : Str) (tf : Tok) (cl : Value) (cld : Option Addr) (csl : Array (Option Value)) (cdD : ClassData),
    K.lookup fI = some ⟨oc, od, .func (fnX "__init__" "DueError.__init__" (iA p1 p2 p3) (iB q1 q2 q3 q4 q5 q6 r1 r2 r3 r4) iS [("__class__", cc)] (.ref TD) kV doc pm an (.ref cda) ct), osl⟩ ∧ K.lookup TD = some oD ∧ oD.data = .seq #[itD] nD ∧ codeIn K (.ref cda) "DueError.__init__" = true ∧
    K.lookup cda = some ⟨ccl, cdd, .fields vs, ccs⟩ ∧ vs[2]? = some (.str file tf) ∧ ((P.main.file : Str) == file) = true ∧ (q3.endLine == q5.line) = true ∧
    K.lookup cc = some ⟨cl, cld, .cell (some (.ref D)), csl⟩ ∧ clsIn K D = some cdD
  top : (P.main.scope.names.lookup ("super" : Str)).isSome = false
  noSuper : nsIn K mainGlobals "super" = some none
  stat : nsIn K cStatics "thirdparty.any" = some none
/-- what it says of a class of the family, at C -/
structure ClsTxt (K : Frag) (D C fI : Addr) : Prop where
  cls : ∃ nm q N bs bm sn sub ab col dd k0 k1 k2 k3 k5, K.lookup C = some (excClassObj nm q C N bs bm true sn sub ab col dd k0 k1 k2 k3 k5 "ValueError.__new__") ∧ refsVE bm = true
  sup : ks_superIn K C D "__init__" = some (some (.builtin "ValueError.__init__"))
  isD : mroIn K C (.ref D) = some true
  isV : subIn K (.ref C) (.type "ValueError") = some true
  sa : findIn K (.ref C) "__setattr__" = some (some (.builtin "object.__setattr__"))
  noN : findIn K (.ref C) "given" = some none
  iC : findIn K (.ref C) "__init__" = some (some (.ref fI))
  tI : typeIn K (.ref fI) = some (.type "function")
  kC : keepIn K (.ref C) = true
  exC : subIn K (.ref C) (.type "BaseException") = some true
  tyC : typeIn K (.ref C) = some (.type "type")
theorem one_size (v : Value) : [v].length ≤ sizeLine := by
  rw [sizeLine_eq]
  exact (by decide : 1 ≤ 16777216)
theorem kept_but {K : Frag} {h h' : Heap} {x : Addr} (X : K.In h) (hx : K.lookup x = none) (k : ∀ b o, b ≠ x → h.get? b = some o → h'.get? b = some o) : K.In h' := fun a o e =>
  k a o (fun z => by rw [z, hx] at e; cases e) (X a o e)
theorem ldL {M : Model} {s : Shared} {env : Env} {m : Str → Option Value} {x : Str} {pos : Pos} {v : Value} {Q : Value → Shared → Prop} {A : Around} {E : Value → Shared → Prop} (hn : s.heap.Ns env.locals m) (hv : m x = some v) (h : Q v s)
    (hk : env.scope.kind = .function := by rfl) (hl : env.kindOf x = some .local := by rfl) (hd : (x == ("__debug__" : Str)) = false := by decide) :
    wpAny M A (eval (.Name x pos) env) Q E s := wpAny_Name (wpAny_loadName_local hk hl hn hv h) hd
/-- what __init__ leaves of a fresh exception at x -/
structure InitEnd (h h' : Heap) (x C dx t1 : Addr) (v : Value) : Prop where
  keep : ∀ b o, b ≠ x → h.get? b = some o → h'.get? b = some o
  obj : h'.get? x = some { cls := .ref C, dict := some dx, data := .fields #[.ref t1, .none, .none, .none, .bool false, .none] }
  dbig : h.objs.size ≤ dx
  dne : dx ≠ x
  ns : h'.Ns1 dx (fun y => if y = "given" then some v else none)
/-- a made one -/
structure OwnMade (h h' : Heap) (e C d : Addr) (v : Value) : Prop where
  keep : ∀ b o, h.get? b = some o → h'.get? b = some o
  new : h.objs.size ≤ e
  obj : ∃ oe vs, h'.get? e = some oe ∧ oe.cls = .ref C ∧ oe.dict = some d ∧ oe.data = .fields vs ∧ vs[1]? = some .none
  dbig : h.objs.size ≤ d
  dne : d ≠ e
  ns : h'.Ns1 d (fun y => if y = "given" then some v else none)
section
variable {prog : Program} {w : World} {A : Around} {E : Value → Shared → Prop} {R : Result → Shared → Prop} {s : Shared} {K : Frag} {mg mb : Str → Option Value} {C D fI : Addr}
theorem bind_looks {M : Model} {cc cda TD : Addr} {oD : Obj} {itD : Value} {nD : Nat} {h : Heap} {kV doc pm : Value} {an : Option Addr} {ct u v : Value} {p1 p2 p3 : Pos} {body : List Stmt} (X : K.In h) (lT : K.lookup TD = some oD) (oT : oD.data = .seq #[itD] nD) :
    Looks M h (bindArgs (fnX "__init__" "DueError.__init__" (iA p1 p2 p3) body iS [("__class__", cc)] (.ref TD) kV doc pm an (.ref cda) ct) ⟨[u, v], []⟩) [("self", u), ("given", v)] := by
  have e : ∃ k, bindArgs (fnX "__init__" "DueError.__init__" (iA p1 p2 p3) body iS [("__class__", cc)] (.ref TD) kV doc pm an (.ref cda) ct) ⟨[u, v], []⟩ = seqItems? (.ref TD) >>= k ∧ k (some #[itD]) = (pure [("self", u), ("given", v)] : Sem (List (Str × Value))) := ⟨_, by first | rfl | with_unfolding_all rfl, by first | with_unfolding_all rfl | kernel_rfl⟩
  obtain ⟨k, e1, e2⟩ := e
  rw [e1]
  exact L2.looks_items X lT oT (.of_pure e2)
/-- super().__init__(v), the built-in's wrapper called -/
theorem call_mw {u e t0 : Addr} {rest : List Value} {Q : Value → Shared → Prop} {nm q : Str} {N : Addr} {bs bm : List Value} {hdct : Bool} {sn : List Str} {sub : List Value} {ab : Bool} {col : Option Bool} {dd : Option Addr} {k0 k1 k2 k3 k5 : Option Value}
    {h : Heap} {g : Array GenState} {d : Drawn} {t : Nat} {os : OsState}
    (hC : h.get? C = some (excClassObj nm q C N bs bm hdct sn sub ab col dd k0 k1 k2 k3 k5 "ValueError.__new__")) (he : h.get? e = some (excO C t0)) (hu : h.get? u = some (kxs_mw "ValueError.__init__" e)) (hrest : rest.length ≤ sizeLine)
    (hq : ∀ h' t1, (∀ b o, b ≠ e → h.get? b = some o → h'.get? b = some o) → h'.get? e = some (excO C t1) → Q .none ⟨h', g, d, t, os⟩) :
    wpAny (model prog w) A (call (.ref u) rest) Q E ⟨h, g, d, t, os⟩ := by
  refine wpAny_call (codeAny_of_tree ?_)
  show wpAny _ A.in1 (callAny (.ref u) ⟨rest, []⟩) _ _ _
  simp only [callAny]
  refine wpAny_bind (wpAny_load hu ?_)
  simp only [kxs_mw, show (Value.type "method-wrapper" == Value.type "method" || Value.type "method-wrapper" == Value.type "builtin_function_or_method" || Value.type "method-wrapper" == Value.type "method-wrapper") = true by decide, if_true]
  refine KFB.if_so (by decide) ?_
  refine wpAny_bind (check_bound_init F.excBase_ValueError.toExcCallFacts hC he rfl ?_)
  refine wpAny_bind (wpAny_pure (wpAny_pure ?_))
  refine ⟨Code.quiet_builtin _ (by decide +kernel), codeAny_builtin F.excBase_ValueError.initEntry ?_⟩
  rw [Around.under_plainId F.excBase_ValueError.init.plain _]
  wp_walk
  refine hq _ h.objs.size (fun b o hb ho => ?_) ?_
  · rw [Heap.get?_update_other _ _ (Ne.symm hb)]
    exact Heap.get?_push_of_some _ ho
  · rw [Heap.get?_update_self _ (Heap.get?_push_of_some _ he) rfl]
    rfl
theorem he_of {o g : Expr} {name : Str} {apos pos : Pos} {env : Env} (hl : (apos.endLine == pos.line) = true) (hf : methodCallForm 1 (backTo pos (starEach [g] env)) [] = true) :
    eval (.Call (.Attribute o name apos) [g] [] pos) env = (do
      let ov ← attributeBase o name env (eval o env)
      standAt apos.atName
      let (f, first) ← holding [ov] (getMethod ov name (do return (← importBound o env).getD true))
      callWith pos f first (backTo pos (starEach [g] env)) []) := by
  rw [arm_eval_Call]
  have e0 : backToKw pos (keywordEach [] env) = [] := rfl
  have e1 : (([g] : List Expr).length + ([] : List Keyword).length) = 1 := rfl
  rw [e0, e1]
  unfold methodCall methodCallPos calleeOf
  rw [hf, hl]
  simp only [Bool.not_true, Bool.false_or, if_true, pure_bind]
theorem due_init (T : InitTxt prog K D fI) (U : ClsTxt K D C fI) {x t0 : Addr} {v : Value} (X : K.In s.heap) (G : s.heap.Ns mainGlobals mg) (B : s.heap.Ns builtinsNs mb) (hmg : mg "super" = none) (hmb : mb "super" = some (.type "super"))
    (hlim : s.heap.NoLimit) (hx : s.heap.get? x = some (excO C t0)) (hnx : K.lookup x = none) (hroom : A.depth < recursionLimit)
    (hq : ∀ h' tk dx t1, InitEnd s.heap h' x C dx t1 v → R (.ok (.ret .none)) { s with heap := h', toks := tk }) :
    codeAny (model prog w) A (.call (.ref fI) ⟨[.ref x, v], []⟩) R s := by
  obtain ⟨cc, cda, TD, oD, itD, nD, oc, od, kV, doc, pm, an, ct, osl, p1, p2, p3, q1, q2, q3, q4, q5, q6, r1, r2, r3, r4, ccl, cdd, ccs, vs, file, tf, cl, cld, csl, cdD, ho, lT, oT, hcd, hcda, hvs, hfile, hln, hcell, hD⟩ := T.fn
  obtain ⟨nm, q, N, bs, bm, sn, sub, ab, col, dd, k0, k1, k2, k3, k5, hC, hbm⟩ := U.cls
  have hcl : clsIn K C = some { name := nm, bases := bs, mro := .ref C :: bm, ns := N, qualname := q, hasDict := true, slotNames := sn, subclasses := sub, abstract := ab, collection := col, hasDel := false } := by unfold clsIn; rw [hC] <;> rfl
  have I : InstAt s.heap x (excO C t0) C none := ⟨hx, rfl, rfl, trivial⟩
  refine ks_codeAny_call_defAt (binds := [("self", .ref x), ("given", v)]) hroom (X _ _ ho) rfl hlim (codeRec_of X hcd) rfl (L2.BindsTo.of_looks fun M => bind_looks X lT oT) (by show ∀ z ∈ iS.names, z.2 ≠ .cell; decide)
    (by
      intro z hz
      rcases List.mem_cons.mp hz with rfl | hz
      · rfl
      · rcases List.mem_cons.mp hz with rfl | hz
        · rfl
        · cases hz) (fun h₁ hn k => ?_) rfl rfl rfl
  have X₁ : K.In h₁ := X.keeps k
  have hx₁ := k _ _ hx
  have hxL : s.heap.objs.size ≠ x := Nat.ne_of_gt (Heap.lt_size hx)
  have G₁ := G.keeps k
  have B₁ := B.keeps k
  have I₁ : InstAt h₁ x (excO C t0) C none := ⟨hx₁, rfl, rfl, trivial⟩
  -- super().__init__(given)
  refine ks_wpAt_execs_cons (ks_wpAt_Expr_any (ks_wpAt_MethodCall (he := he_of hln rfl) ?_))
  obtain ⟨oDD, hD1, hD2⟩ : ∃ o, h₁.get? D = some o ∧ o.data = .cls cdD := by
    unfold clsIn at hD
    split at hD
    · rename_i c d cd' sl ho
      cases hD
      exact ⟨_, X₁ _ _ ho, rfl⟩
    · cases hD
  refine ks_wpAt_super_base (by rfl) (by rfl) (by rfl) rfl (X₁ _ _ ho) rfl rfl rfl (X₁ _ _ hcda) rfl hvs hfile T.top ?_
  refine ks_loadName_global rfl (by rfl) (loadGlobal_builtin G₁ hmg B₁ hmb ⟨rfl, ?_⟩)
  refine wpAny_loadName_free rfl (by rfl) rfl ⟨_, X₁ _ _ hcell, rfl⟩ ?_
  refine wpAny_loadName_local rfl (by rfl) hn rfl ?_
  refine ks_wpAny_isType_cls hD1 hD2 ⟨rfl, ?_⟩
  refine ks_wpAny_call_super hD1 hD2 hx₁ rfl (fun c e => by cases e) (looks_mroIn X₁ U.isD) (fun h₂ hso k₂ => ?_)
  have X₂ : K.In h₂ := X₁.keeps k₂
  have hx₂ := k₂ _ _ hx₁
  have I₂ : InstAt h₂ x (excO C t0) C none := ⟨hx₂, rfl, rfl, trivial⟩
  have hsup := U.sup
  unfold ks_superIn at hsup
  rw [hcl] at hsup
  refine kxs_getMethod kxs_ValueError hso (looks_opaque X₂ T.stat) (l₀ := .ref C :: bm) (fun A Q E s k q => wpAny_bind ((looks_clsIn X₂ hcl) A _ E s k (wpAny_pure q))) rfl X₂ hsup (I₂.type.andThen (looks_subIn X₂ U.isV)) (ks_ne X₂ I₂ hcl) rfl ?_
  have hn₂ := hn.keeps k₂
  have k₃ : ∀ b o, h₂.get? b = some o → (h₂.push (kxs_mw "ValueError.__init__" x)).get? b = some o := fun b o e => Heap.get?_push_of_some _ e
  have hu₃ : (h₂.push (kxs_mw "ValueError.__init__" x)).get? h₂.objs.size = some (kxs_mw "ValueError.__init__" x) := Heap.get?_push_at rfl rfl
  have X₃ := X₂.keeps k₃
  refine kxs_callWith (i := "ValueError.__init__") (x := x) rfl ?_
  refine evalArgs_plain (spliced_more (ldL (v := v) (hn₂.keeps k₃) rfl (spliced_none ?_)))
  refine ⟨hu₃, ?_⟩
  refine call_mw (X₃ _ _ hC) (k₃ _ _ hx₂) hu₃ (one_size v) fun h₄ t1 k₄ hx₄ => ?_
  -- self.given = given
  have hxL' : ∀ {b : Addr}, b = s.heap.objs.size → b ≠ x := fun {b} e z => hxL (e.symm.trans z)
  have hn₄ : h₄.Ns s.heap.objs.size fun x_1 => List.lookup x_1 [(Str.ofString "self", Value.ref x), (Str.ofString "given", v)].reverse := (hn₂.keeps k₃).at fun o e => k₄ _ o hxL e
  have X₄ : K.In h₄ := kept_but X₃ hnx k₄
  refine ks_wpAt_execs_cons (wpAt_of_wpAny (plainObj_wpAny_Assign_Attribute ?_))
  refine ldL (v := v) hn₄ rfl (ldL (v := .ref x) hn₄ rfl ?_)
  refine set_plain X₄ (ox := excO C t1) (od := none) ⟨hx₄, rfl, rfl, trivial⟩ U.sa ?_
  refine exc_osa X₄ hx₄ hcl (show refsVE (.ref C :: bm) = true from hbm) rfl U.noN (fun h₅ tk₅ dx k₅ dn dne hx₅ hn₅ => ?_)
  show wpAt _ _ _ (execs _ _) _ _ _
  have z : s.heap.objs.size < h₄.objs.size := hn₄.lt
  exact wpAt_of_wpAny (wpAny_execs_nil (hq h₅ tk₅ dx t1 ⟨fun b o hb e => k₅ b o hb (k₄ b o hb (k₃ b o (k₂ b o (k b o e)))), hx₅, Nat.le_of_lt (Nat.lt_of_lt_of_le z dn), dne, hn₅⟩))
theorem due_made (T : InitTxt prog K D fI) (U : ClsTxt K D C fI) {v : Value} (X : K.In s.heap) (G : s.heap.Ns mainGlobals mg) (B : s.heap.Ns builtinsNs mb) (hmg : mg "super" = none) (hmb : mb "super" = some (.type "super"))
    (hlim : s.heap.NoLimit) (hroom : A.depth + 1 < recursionLimit)
    (hq : ∀ h' tk e d, OwnMade s.heap h' e C d v → R (.ok (.ret (.ref e))) { s with heap := h', toks := tk }) :
    codeAny (model prog w) A (.call (.ref C) ⟨[v], []⟩) R s := by
  obtain ⟨nm, q, N, bs, bm, sn, sub, ab, col, dd, k0, k1, k2, k3, k5, hC, hbm⟩ := id U.cls
  obtain ⟨hp, g, dr, tk, os⟩ := s
  have k : ∀ b o, hp.get? b = some o → ((hp.push (kdv_tup [v])).push (excO C hp.objs.size)).get? b = some o := fun b o e => Heap.get?_push_of_some _ (Heap.get?_push_of_some _ e)
  have hget : ((hp.push (kdv_tup [v])).push (excO C hp.objs.size)).get? (hp.objs.size + 1) = some (excO C hp.objs.size) := by heap_get
  have hnx : K.lookup (hp.objs.size + 1) = none := by
    cases e : K.lookup (hp.objs.size + 1) with
    | none => rfl
    | some o =>
      have z : hp.get? (hp.objs.size + 1) = some o := X _ _ e
      exact absurd (Nat.lt_of_succ_lt (Heap.lt_size z)) (Nat.lt_irrefl _)
  refine call_own F.excBase_ValueError (fun X => refsVE_contains X bm hbm) (X _ _ hC) (looks_findIn X U.iC) (fun self => bind_fn X self U.tI) (one_size v) ?_
  refine due_init (s := ⟨(hp.push (kdv_tup [v])).push (excO C hp.objs.size), g, dr, tk, os⟩) T U (X.keeps k) (G.keeps k) (B.keeps k) hmg hmb (hlim.keeps k) hget hnx ?_ fun h' tk' dx t1 ⟨k', hx, dn, dne, hns⟩ => ?_
  · show A.depth + 1 < recursionLimit
    exact hroom
  · have old : ∀ b o, hp.get? b = some o → h'.get? b = some o := fun b o e => k' b o (Nat.ne_of_lt (Nat.lt_succ_of_lt (Heap.lt_size e))) (k b o e)
    have z : hp.objs.size + 1 + 1 ≤ dx := by
      first
        | (simpa only [Heap.size_push] using dn)
        | exact dn
        | (have q := dn; rw [Heap.size_push, Heap.size_push] at q; exact q)
    exact ⟨rfl, hq h' tk' (hp.objs.size + 1) dx ⟨old, Nat.le_succ _, ⟨_, _, hx, rfl, rfl, rfl, rfl⟩, Nat.le_trans (Nat.le_trans (Nat.le_succ _) (Nat.le_succ _)) z, dne, hns⟩⟩
end
end DueE
end PySem
namespace L2
open PySem PySem.Spec PyProof.Rows
theorem relO_given {v : V} {v' : Value} (r : RelV v v') (f : Str) : RelO (List.lookup f [(("given" : Str), v)]) (if f = "given" then some v' else none) := by
  by_cases hw : f = "given"
  · subst hw
    rw [if_pos rfl]
    have q : List.lookup ("given" : Str) [(("given" : Str), v)] = some v := by simp [List.lookup]
    rw [q]
    exact r
  · rw [if_neg hw]
    have qw : (f == ("given" : Str)) = false := by simpa using hw
    have q2 : List.lookup f [(("given" : Str), v)] = none := by simp [List.lookup, qw]
    rw [q2]
    trivial
/-- X(e), X of DueError's family: its class, its own dict -/
def tMkDue (C : Addr) (ta : TA) : St → Hp → XK → Prop := fun σ H Q => ta σ H fun vs H1 => ∃ v, vs = [v] ∧ ∀ d, H1 d = none → Q (.ref C) (some d) (upd H1 d (.xd [(("given" : Str), v)]))
section
variable {X : Cx} {C D fI : Addr}
theorem pmk_due {x : Str} {a : Expr} {ta : TA} {p pos : Pos} {k : Nat} (T : PySem.DueE.InitTxt X.prog X.K D fI) (U : PySem.DueE.ClsTxt X.K D C fI) (hr : Room k X.A) (hgC : X.mg x = some (.ref C)) (hsu : X.mg "super" = none) (ha : PA X [a] ta) (hg : Gl X x := by rfl)
    (hdb : (x == ("__debug__" : Str)) = false := by decide)
    (he : starEach (a :: []) X.env = (false, eval a X.env) :: starEach [] X.env := by rfl) (hpl : (backTo pos (starEach [] X.env)).any (·.1) = false := by rfl) :
    PMk X (.Call (.Name x p) [a] [] pos) (tMkDue C ta) := by
  intro pins s σ H Q I h
  refine wpAny_Call_Name_kw (ld_glob I hg hgC ?_ hdb)
  refine PySem.W.callWith_K (h₀ := X.base) I.ok.mod.kin U.kC (thn (ha.run pos pins s σ H _ I h) fun us s1 hh => ?_) he hpl
  obtain ⟨vs, H1, I1, r1, v, ev, q1⟩ := hh
  subst ev
  refine ⟨I1.kIn, ?_⟩
  cases r1 with
  | cons rv rn =>
    rename_i v' us'
    cases rn
    show wpAny _ _ (call (.ref C) [v']) _ _ _
    have hlim := I1.nolimit
    obtain ⟨mb, hB, hbb⟩ := I1.mod.blt
    have G1 := I1.mod.glob.keeps I1.bk
    have B1 := hB.keeps I1.bk
    obtain ⟨hp, g, dr, tk, os⟩ := s1
    refine wpAny_call (PySem.DueE.due_made T U I1.kIn G1 B1 hsu ((hbb "super" (by decide)).trans PyProof.Rows.Boot.«super») hlim (by have := hr.dp; omega) fun h' tk' e d M => ?_)
    show MkP X pins σ Q (.ref e) ⟨h', g, dr, tk', os⟩
    obtain ⟨oe, fv, hoe, hc, hd, hdat, h1⟩ := M.obj
    have hns := M.ns
    obtain ⟨G', g1, g2⟩ := restrict h' fun b => decide (b ≠ e)
    have gk : ∀ b, b ≠ e → G'.get? b = h'.get? b := fun b hb => g1 b (decide_eq_true hb)
    have ge : G'.get? e = none := g2 e (by simp)
    have old : ∀ b o, hp.get? b = some o → G'.get? b = some o := fun b o q => (gk b (Nat.ne_of_lt (Nat.lt_of_lt_of_le (Heap.lt_size q) M.new))).trans (M.keep b o q)
    have ob : ObjOk X.prog X.w (upd H1 d (.xd [(("given" : Str), v)])) G' d (.xd [(("given" : Str), v)]) :=
      ⟨_, hns.at (fun o q => (gk d M.dne).trans q), fun f => relO_given rv f⟩
    have J : Inv X pins σ (upd H1 d (.xd [(("given" : Str), v)])) ⟨G', g, dr, tk', os⟩ := I1.laid (t' := tk') old M.dbig ob
    refine ⟨e, oe, fv, ⟨G', g, dr, tk', os⟩, _, .ref C, some d, rfl, J, fun b o q => ?_, ge, hoe, ⟨hc, hd⟩, hdat, h1, ?_, rfl, I1.bare, raises_own U.exC U.tyC, q1 d (I1.hok.fresh M.dbig)⟩
    · by_cases hb : b = e
      · have q' : G'.get? b = some o := q
        rw [hb, ge] at q'; cases q'
      · exact (gk b hb).symm.trans q
    · rw [upd_ne (Ne.symm M.dne)]
      exact I1.hok.fresh M.new
/-- raise X(e) -/
def tRaiseDue (C : Addr) (W : WX) (ta : TA) : TS := fun _ σ H => tMkDue C ta σ H fun cls d H' => W cls d σ H'
theorem ps_raiseDue {x : Str} {a : Expr} {ta : TA} {W : WX} {p pos pos2 : Pos} {k : Nat} (hc : X.calm = true) (T : PySem.DueE.InitTxt X.prog X.K D fI) (U : PySem.DueE.ClsTxt X.K D C fI) (hr : Room k X.A) (hgC : X.mg x = some (.ref C)) (hsu : X.mg "super" = none) (tk : Takes X W) (ha : PA X [a] ta) (hg : Gl X x := by rfl)
    (hdb : (x == ("__debug__" : Str)) = false := by decide)
    (he : starEach (a :: []) X.env = (false, eval a X.env) :: starEach [] X.env := by rfl) (hpl : (backTo pos (starEach [] X.env)).any (·.1) = false := by rfl) :
    PS X (.Raise (some (.Call (.Name x p) [a] [] pos)) none pos2) (tRaiseDue C W ta) := ps_raise hc tk (pmk_due T U hr hgC hsu ha hg hdb he hpl)
end
end L2
set_option Elab.async false
set_option linter.all false
set_option maxRecDepth 100000
set_option maxHeartbeats 4000000
namespace L2
open PySem PySem.Spec PyProof.Rows
/-! several except clauses, each with a name or without -/
def dAs (o : Option Nat) (D : Ends) : Ends := match o with
  | none => D
  | some i => { nx := fun σ' H' => D.nx (σ'.set i none) H', rt := D.rt, bk := fun σ' H' => D.bk (σ'.set i none) H', ct := fun σ' H' => D.ct (σ'.set i none) H' }
def sAs (o : Option Nat) (σ : St) (a : Addr) : St := match o with
  | none => σ
  | some i => σ.set i (some (.ref a))
/-- what the clauses wish, one after the other: the class, the name's slot, the suite -/
def wManyA (K : PySem.W.Frag) (Wout : WX) (D : Ends) : List (Value × Option Nat × (Addr → Value → Option Addr → TS)) → WX
  | [] => Wout
  | (c, o, ts) :: r => fun cls d σ H => ∃ b, PySem.W.exmOne K cls c = some b ∧ (b = true → ∀ a, H a = none → ts a cls d (dAs o D) (sAs o σ a) H) ∧ (b = false → wManyA K Wout D r cls d σ H)
inductive HdsA (X : Cx) : List ExceptHandler → List (Value × Option Nat × (Addr → Value → Option Addr → TS)) → Prop
  | nil : HdsA X [] []
  | bare {x : Str} {c : Value} {ts : Addr → Value → Option Addr → TS} {b₀ : Stmt} {suite : List Stmt} {np pos' : Pos} {hds : List ExceptHandler} {l : List (Value × Option Nat × (Addr → Value → Option Addr → TS))} (hc : Names X x c)
      (hsu : ∀ (a : Addr) (oe : Obj) (cls : Value) (d : Option Addr) (pn : List (Addr × Obj)), Zc cls d oe → (∃ vs, oe.data = .fields vs) → PSs (X.suite a ((a, oe) :: pn)) (b₀ :: suite) (ts a cls d)) (r : HdsA X hds l) :
      HdsA X (.ExceptHandler (some (.Name x np)) none (b₀ :: suite) pos' :: hds) ((c, none, ts) :: l)
  | named {x n : Str} {c : Value} {i : Nat} {ts : Addr → Value → Option Addr → TS} {b₀ : Stmt} {suite : List Stmt} {np pos' : Pos} {hds : List ExceptHandler} {l : List (Value × Option Nat × (Addr → Value → Option Addr → TS))} (hN : X.N.Nodup) (hi : X.N[i]? = some n) (hln : X.env.kindOf n = some .local) (hc : Names X x c)
      (hsu : ∀ (a : Addr) (oe : Obj) (cls : Value) (d : Option Addr) (pn : List (Addr × Obj)), Zc cls d oe → (∃ vs, oe.data = .fields vs) → PSs (X.suite a ((a, oe) :: pn)) (b₀ :: suite) (ts a cls d)) (r : HdsA X hds l) :
      HdsA X (.ExceptHandler (some (.Name x np)) (some n) (b₀ :: suite) pos' :: hds) ((c, some i, ts) :: l)
section
variable {X : Cx} {body : List Stmt} {h₀ : ExceptHandler} {hds : List ExceptHandler} {l : List (Value × Option Nat × (Addr → Value → Option Addr → TS))} {pos : Pos} {tb : WX → TS} {Wout : WX}
theorem ps_try_manyA (hs : X.stack = X.env :: X.outer) (hf : X.env.frame = some X.env.locals) (tk : Takes X Wout)
    (hb : ∀ (W : WX) (pn : List (Addr × Obj)) (xe : Value → Shared → Prop), Takes (X.tr pn xe) W → PassesOwn (model X.prog X.w) X.A X.env xe → PSs (X.tr pn xe) body (tb W))
    (hh : HdsA X (h₀ :: hds) l) : PS X (.Try body (h₀ :: hds) [] [] pos) (fun D σ H => tb (wManyA X.K Wout D l) D σ H) := by
  refine ⟨fun pins s σ H D I h => ?_⟩
  have ok := I.ok
  have hfr : X.A.frames = some (X.env :: X.outer) := by rw [ok.frames, hs]
  refine wpAny_Try_except ?_
  refine wpAny_mono ((hb (wManyA X.K Wout D l) (X.pn ++ pins) (fun e s₁ => wpAny (model X.prog X.w) X.A (noteFrame e X.env) (fun _ s₂ => wpAny (model X.prog X.w) X.A (setFlight e none) (fun _ s₃ =>
    wpAny (model X.prog X.w) X.A (handleBy e X.env (h₀ :: hds)) (SP X pins D) X.xe s₃) X.xe s₂) X.xe s₁) (fun u s' xx => ?_) PassesOwn.looking).run [] s σ H D (I.toTry _) h) (fun f s1 hsp => ?_) (fun e s1 he => he)
  · obtain ⟨a, B, sI, pins', σ', H', cls, d, rfl, J', nb, up, sky, na, os, ag, w⟩ := xx
    have J : Inv X pins σ' H' sI := J'.ofTry ok
    have sky' : Sky B (X.env :: X.outer) a (Zc cls d) X.env.locals s'.heap := by rw [← hs]; exact sky
    show wpAny (model X.prog X.w) X.A (noteFrame (.ref a) X.env) _ _ _
    refine Sky.land Zc.steady hfr hf sky' fun h3 fl3 up3 => ?_
    have J3 : Inv X pins σ' H' { s' with heap := h3 } := J.landed nb fl3.1 (up.trans up3) os ag
    obtain ⟨oe3, vs3, he3, hz3, hd3⟩ := fl3.there
    have notFr : ∀ {h : Heap} {o : Obj} {vs : Array Value}, h.FunFrames B (X.env :: X.outer) → h.get? a = some o → o.data = .fields vs → a ∉ frs (X.env :: X.outer) := fun {h o vs} ff e dd hm => by
      obtain ⟨_, o', e', hnf⟩ := ff.mem hm
      rw [e] at e'; cases e'
      exact hnf _ dd
    have nfr := notFr fl3.2.2.1 he3 hd3
    have nL : a ≠ X.env.locals := fun z => nfr (List.mem_filterMap.mpr ⟨X.env, List.mem_cons_self, by rw [hf, z]⟩)
    have nF : a ∉ X.fs := fun hm => by
      obtain ⟨e, he, q⟩ := List.mem_filterMap.mp hm
      exact nfr (List.mem_filterMap.mpr ⟨e, List.mem_cons_of_mem _ he, q⟩)
    have S3 := J3.suite he3 hd3 na nL nF
    have LT : PySem.W.Looks (model X.prog X.w) h3 (typeOf (.ref a)) cls := fun A Q E s k q => wpAny_typeOf_ref (k _ _ he3) (by rw [hz3.1]; exact q)
    have test : ∀ {x : Str} {c : Value} {np : Pos} {Q : Value → Shared → Prop} {E : Value → Shared → Prop}, Names X x c → Q c { s' with heap := h3 } → wpAny (model X.prog X.w) (X.A.mark (some (.ref a))) (eval (.Name x np) X.env) Q E { s' with heap := h3 } := fun {x c np Q E} hc q => by
      obtain ⟨hg, hdbg, hm | ⟨hm, hv, hnn⟩⟩ := hc
      · exact ld_glob (X := X.suite a ((a, oe3) :: (X.pn ++ pins))) S3 hg hm q hdbg
      · exact ld_blt (X := X.suite a ((a, oe3) :: (X.pn ++ pins))) S3 hg hm hv q hnn hdbg
    have go : ∀ {hds' : List ExceptHandler} {l' : List (Value × Option Nat × (Addr → Value → Option Addr → TS))}, HdsA X hds' l' → wManyA X.K Wout D l' cls d σ' H' →
        wpAny (model X.prog X.w) X.A (handleBy (.ref a) X.env hds') (SP X pins D) X.xe { s' with heap := h3 } := by
      intro hds' l' hk
      induction hk with
      | nil =>
        intro w
        refine wpAny_handleBy_nil ?_
        obtain ⟨k1, k2, k3, oe, vs, T, oT, ts', he, hz, hd, h1, hr⟩ := id fl3
        unfold PySem.passOn
        refine wpAny_bind (wpAny_field he hd h1 ?_)
        rw [if_neg (show ¬ ((Value.ref T == Value.none) = true) from by simp)]
        have fin : wpAny (model X.prog X.w) X.A (setFlight (.ref a) X.env.frame) (fun _ s4 => wpAny (model X.prog X.w) X.A (throw (.ref a) : Sem Flow) (SP X pins D) X.xe s4) X.xe { s' with heap := h3 } := by
          rw [hf]
          refine HandSPX.setFlight_upZ fl3 fun h4 hh4 up4 => wpAny_throw (tk _ _ ?_)
          exact ⟨a, B, sI, pins, σ', H', cls, d, rfl, J, nb, (up.trans up3).trans up4, .inr (.inr (by rw [hs]; exact hh4)), na, os, ag, w⟩
        first
          | exact wpAny_bind (wpAny_pure (wpAny_bind fin))
          | exact wpAny_bind fin
      | @bare x c ts b₀ suite np pos' hds2 l2 hc hsu r ih =>
        intro w
        obtain ⟨b, hb1, hyes, hno⟩ := w
        refine wpAny_handleBy_cons (codeAny_handlers_test ?_) (by intro q; cases q)
        have LM := PySem.W.exm_one (M := model X.prog X.w) (J3.kIn) LT hb1
        refine test hc (LM.here ?_)
        cases b with
        | true =>
          refine codeAny_handlers_suite ?_
          refine HandSPX.lands_againZ fl3 fun h4 fl4 up4 => ?_
          have J4 : Inv X pins σ' H' { s' with heap := h4 } := J.landed nb fl4.1 ((up.trans up3).trans up4) os ag
          obtain ⟨oe4, vs4, he4, hz4, hd4⟩ := fl4.there
          have S4 := J4.suite he4 hd4 na nL nF
          refine wpAny_mono ((hsu a oe4 cls d (X.pn ++ pins) hz4 ⟨_, hd4⟩).run [] _ _ H' _ S4 (hyes rfl a na)) (fun f s6 hsp => ?_) (fun _ _ z => False.elim z)
          cases f with
          | next =>
            obtain ⟨σ6, H6, S6, q6⟩ := hsp
            exact ⟨_, _, S6.unsuite ok, q6⟩
          | brk =>
            obtain ⟨σ6, H6, S6, q6⟩ := hsp
            exact ⟨_, _, S6.unsuite ok, q6⟩
          | cont =>
            obtain ⟨σ6, H6, S6, q6⟩ := hsp
            exact ⟨_, _, S6.unsuite ok, q6⟩
          | ret u =>
            obtain ⟨v6, σ6, H6, S6, r6, q6⟩ := hsp
            exact ⟨_, _, _, S6.unsuite ok, r6, q6⟩
        | false =>
          show wpAny _ X.A (handleBy (.ref a) X.env hds2) _ _ _
          exact ih (hno rfl)
      | @named x n c i ts b₀ suite np pos' hds2 l2 hN hi hln hc hsu r ih =>
        intro w
        have hloc : Loc X.env.scope n := .inl hln
        obtain ⟨b, hb1, hyes, hno⟩ := w
        refine wpAny_handleBy_cons (codeAny_handlers_test ?_) (by intro q; cases q)
        have LM := PySem.W.exm_one (M := model X.prog X.w) (J3.kIn) LT hb1
        refine test hc (LM.here ?_)
        cases b with
        | true =>
          refine codeAny_handlers_suite_as ?_
          refine HandSPX.lands_againZ fl3 fun h4 fl4 up4 => ?_
          have J4 : Inv X pins σ' H' { s' with heap := h4 } := J.landed nb fl4.1 ((up.trans up3).trans up4) os ag
          obtain ⟨oe4, vs4, he4, hz4, hd4⟩ := fl4.there
          have S4 := J4.suite he4 hd4 na nL nF
          refine store_ok (X := X.suite a ((a, oe4) :: (X.pn ++ pins))) (v := .ref a) S4 hN hi hloc rfl (fun s5 S5 => ?_) (.inr hln)
          refine wpAny_mono ((hsu a oe4 cls d (X.pn ++ pins) hz4 ⟨_, hd4⟩).run [] s5 _ H' _ S5 (hyes rfl a na)) (fun f s6 hsp => ?_) (fun _ _ z => False.elim z)
          have end_ : ∀ {σ6 : St} {H6 : Hp} {Q : Shared → Prop}, Inv (X.suite a ((a, oe4) :: (X.pn ++ pins))) [] σ6 H6 s6 → (∀ s7, Inv X pins (σ6.set i none) H6 s7 → Q s7) →
              wpAny (model X.prog X.w) X.A (do bindName X.env n .none; unbindBehindTheSuite X.env n pos') (fun _ s7 => Q s7) X.xe s6 := fun {σ6 H6 Q} S6 hq => gone_ok (S6.unsuite ok) hN hi hln hq
          cases f with
          | next =>
            obtain ⟨σ6, H6, S6, q6⟩ := hsp
            exact end_ S6 fun s7 J7 => ⟨_, _, J7, q6⟩
          | brk =>
            obtain ⟨σ6, H6, S6, q6⟩ := hsp
            exact end_ S6 fun s7 J7 => ⟨_, _, J7, q6⟩
          | cont =>
            obtain ⟨σ6, H6, S6, q6⟩ := hsp
            exact end_ S6 fun s7 J7 => ⟨_, _, J7, q6⟩
          | ret u =>
            obtain ⟨v6, σ6, H6, S6, r6, q6⟩ := hsp
            exact end_ S6 fun s7 J7 => ⟨_, _, _, J7, r6, q6⟩
        | false =>
          show wpAny _ X.A (handleBy (.ref a) X.env hds2) _ _ _
          exact ih (hno rfl)
    exact go hh w
  · cases f with
    | next =>
      obtain ⟨σ', H', J', q⟩ := hsp
      exact wpAny_execs_nil ⟨σ', H', J'.ofTry ok, q⟩
    | brk =>
      obtain ⟨σ', H', J', q⟩ := hsp
      exact ⟨σ', H', J'.ofTry ok, q⟩
    | cont =>
      obtain ⟨σ', H', J', q⟩ := hsp
      exact ⟨σ', H', J'.ofTry ok, q⟩
    | ret u =>
      obtain ⟨v, σ', H', J', r, q⟩ := hsp
      exact ⟨v, σ', H', J'.ofTry ok, r, q⟩
end
/-! isinstance(e, c), e the exception that the suite holds, with its own dict -/
structure ExcX (K : PySem.W.Frag) (D : Addr) : Prop where
  hc : (PySem.W.clsIn K D).isSome = true
  hg : PySem.W.findIn K (.ref D) "__getattribute__" = some (some (.builtin "BaseException.__getattribute__"))
  hk : PySem.W.findIn K (.ref D) "__getattr__" = some none
  hs : PySem.W.subIn K (.ref D) (.type "BaseException") = some true
  ha : PySem.W.findIn K (.ref D) "__class__" = some (some (.builtin "object.__class__"))
  hn : PySem.W.specialIn K (.builtin "object.__class__") "__get__" = some (some (.builtin "getset_descriptor.__get__"))
  ht : PySem.W.takesIn K (.builtin "object.__class__") = some true
  hm : PySem.W.mroIn K D (.type "object") = some true
def rIsX (K : PySem.W.Frag) (cls : Value) (d : Option Addr) (a : Addr) : List V → Hp → VK → Prop := fun xs H Q => ∃ (D : Addr) (dd : Addr) (fs : List (Str × V)) (c : V) (cv : Value) (b : Bool), cls = .ref D ∧ ExcX K D ∧ d = some dd ∧ H dd = some (.xd fs) ∧ xs = [.ref a, c] ∧ ClsV c cv ∧ PySem.W.kitOne K (.ref D) cv = some b ∧ Q (.bl b) H
theorem call_isX {X : Cx} {a : Addr} {cls : Value} {d : Option Addr} {oe : Obj} {pn : List (Addr × Obj)} (hz : Zc cls d oe) (hf : ∃ vs, oe.data = .fields vs) : CallR (X.suite a ((a, oe) :: pn)) (.builtin "isinstance") (rIsX X.K cls d a) := by
  intro pins s σ H xs us Q I r h
  obtain ⟨D, dd, fs, c, cv, b, rfl, C, rfl, ed, rfl, hcv, e, q⟩ := h
  cases r with
  | cons rx rr =>
    cases rr with
    | cons rt rr =>
      cases rr
      cases rx
      have ec := hcv.eq rt
      subst ec
      obtain ⟨hget, _⟩ := I.pin (a, oe) (List.mem_append.mpr (.inl List.mem_cons_self))
      obtain ⟨vs, hv⟩ := hf
      have hx : ObjOk X.prog X.w H s.heap dd (.xd fs) := I.hok dd _ ed
      obtain ⟨mA, hns, hr⟩ := hx
      obtain ⟨od, ho, hl⟩ := lookIn_ns hns
      have J : PySem.W.InstAt s.heap a oe D (some od) := ⟨hget, hz.1, by unfold PySem.W.notCls; rw [hv] <;> rfl, by rw [hz.2]; exact ho⟩
      exact PySem.W.kia_one (PySem.W.kitx_exc C.hc C.hg C.hk C.hs C.ha C.hn C.ht C.hm) I.kIn J e (fun z => nomatch z) fun tk => ⟨.bl b, H, I.kept (t' := tk) fun _ _ z => z, rfl, q⟩
end L2
set_option Elab.async false
set_option linter.all false
set_option maxRecDepth 100000
set_option maxHeartbeats 4000000
namespace Kx
open PySem PySem.Spec PyProof.Rows L2
/-! operators by whatever their operands are -/
def rStr2 (g : Str → Str → V) : R2 := fun x y H Q => ∃ i j, x = .str i ∧ y = .str j ∧ Q (g i j) H
def uAdd (K : PySem.W.Frag) : R2 := fun x y H Q => rI0 (fun i j => .int (i + j)) x y H Q ∨ rCat x y H Q ∨ rCatA K x y H Q ∨
  (∃ i j, x = .str i ∧ y = .str j ∧ i.length + j.length ≤ sizeLine ∧ Q (.str (i ++ j)) H) ∨ (∃ i k, x = .int i ∧ y = .bl k ∧ Q (.int (i + b2i k)) H)
def uSub : R2 := rI0 fun i j => .int (i - j)
def uMul : R2 := fun x y H Q => rI CMulW (fun i j => .int (i * j)) x y H Q ∨ rRep x y H Q
def uFdv : R2 := rI CDivW fun i j => .int (i / j)
def uMod : R2 := rI (fun _ j => 0 < j) fun i j => .int (i % j)
def uPow : R2 := rI CPow fun i j => .int (i ^ j.toNat)
def uLt (K : PySem.W.Frag) : R2 := fun x y H Q => rI0 (fun i j => .bl (decide (i < j))) x y H Q ∨ rLtT K x y H Q ∨ (∃ i j, x = .str i ∧ y = .str j ∧ Q (.bl (decide (i.cps.toList < j.cps.toList))) H)
def uLe : R2 := rI0 fun i j => .bl (decide (i ≤ j))
def uGt : R2 := rI0 fun i j => .bl (decide (j < i))
def uGe : R2 := rI0 fun i j => .bl (decide (j ≤ i))
def uEq (K : PySem.W.Frag) : R2 := fun x y H Q => rEq x y H Q ∨ rEqD K x y H Q
def uNe (K : PySem.W.Frag) : R2 := fun x y H Q => rNe x y H Q ∨ rNeD K x y H Q
def uIs : R2 := fun x y H Q => (y = .non ∧ Q (.bl (decide (x = .non))) H) ∨ rIsB x y H Q
def uIsn : R2 := fun x y H Q => (y = .non ∧ Q (.bl (!decide (x = .non))) H) ∨ rNotB x y H Q
def uIn (K : PySem.W.Frag) : R2 := fun x y H Q => rIn K false x y H Q ∨ (∃ i j, x = .str i ∧ y = .str j ∧ Q (.bl (!(Builtin.Str.occurrences j i 0 j.length 1).isEmpty)) H) ∨ rInD K x y H Q
def uNin (K : PySem.W.Frag) : R2 := fun x y H Q => rIn K true x y H Q ∨ (∃ i j, x = .str i ∧ y = .str j ∧ Q (.bl (!(!(Builtin.Str.occurrences j i 0 j.length 1).isEmpty))) H) ∨ rNotInD K x y H Q
def uNeg : V → Hp → VK → Prop := rU fun i => .int (-i)
section
variable {X : Cx}
theorem u_add : OpR X (binaryOp .Add) (uAdd X.K) := op_add.or (op_cat.or (op_catA.or (op_add_str.or op_add_ib)))
theorem u_sub : OpR X (binaryOp .Sub) uSub := op_sub
theorem u_mul : OpR X (binaryOp .Mult) uMul := op_mulW.or op_rep
theorem u_fdv : OpR X (binaryOp .FloorDiv) uFdv := op_fdivW
theorem u_mod : OpR X (binaryOp .Mod) uMod := op_mod
theorem u_pow : OpR X (binaryOp .Pow) uPow := op_pow
theorem u_lt (hu : X.A.units < cLine) : OpR X (compareOp .Lt) (uLt X.K) := op_lt.or ((op_ltT hu).or op_lt_str)
theorem u_le : OpR X (compareOp .LtE) uLe := op_le
theorem u_gt : OpR X (compareOp .Gt) uGt := op_gt
theorem u_ge : OpR X (compareOp .GtE) uGe := op_ge
theorem u_eq (hu : X.A.units + 64 < cLine) : OpR X (compareOp .Eq) (uEq X.K) := op_eq.or (op_eqD hu)
theorem u_ne (hu : X.A.units + 64 < cLine) : OpR X (compareOp .NotEq) (uNe X.K) := op_ne.or (op_neD hu)
theorem u_is : OpR X (compareOp .Is) uIs := op_isN.or op_isBl
theorem u_isn : OpR X (compareOp .IsNot) uIsn := op_notN.or op_notBl
theorem u_in (hu : X.A.units + 65 < cLine) : OpR X (compareOp .In) (uIn X.K) := op_in_seq.or (op_in_str.or (op_inD hu))
theorem u_nin (hu : X.A.units + 65 < cLine) : OpR X (compareOp .NotIn) (uNin X.K) := op_notIn_seq.or (op_notin_str.or (op_notInD hu))
theorem u_neg : UnR X (unaryOp .USub) uNeg := un_neg
end
/-- a test by truth -/
def tTr (K : PySem.W.Frag) (ta : TE) : TT := fun σ H Q => ta σ H fun x H' => ∃ k, TruV K x H' k ∧ Q k H'
theorem pt_tr {X : Cx} {a : Expr} {ta : TE} (ha : PE X a ta) (he : ∀ whole, isTrue a X.env whole = (do let v ← whole; standAt a.pos; holding [v] (truthy v))) : PT X a (tTr X.K ta) := pt_truth ha he
/-! built-ins by their names -/
def uLen (K : PySem.W.Frag) : List V → Hp → VK → Prop := fun xs H Q => (∃ x n, xs = [x] ∧ LenV K x H n ∧ Q (.int n) H) ∨ (∃ a kvs, xs = [V.ref a] ∧ H a = some (.dK kvs) ∧ Q (.int kvs.length) H) ∨ rLenT xs H Q
theorem c_len {X : Cx} : CallR X (.builtin "len") (uLen X.K) := call_len.or (call_lenD.or call_len_dT)
def uInt : List V → Hp → VK → Prop := fun xs H Q => (∃ i, xs = [.int i] ∧ Q (.int i) H) ∨ ∃ k, xs = [.bl k] ∧ Q (.int (if k then 1 else 0)) H
theorem c_int {X : Cx} : CallR X (.type "int") uInt := call_int1
def uAbs : List V → Hp → VK → Prop := fun xs H Q => ∃ i, xs = [.int i] ∧ Q (.int (if i < 0 then -i else i)) H
theorem c_abs {X : Cx} : CallR X (.builtin "abs") uAbs := call_abs
def uMax : List V → Hp → VK → Prop := fun xs H Q => ∃ i j, xs = [.int i, .int j] ∧ Q (.int (if j > i then j else i)) H
theorem c_max {X : Cx} (hc : X.calm = true) : CallR X (.builtin "max") uMax := call_max2 hc
def uMin : List V → Hp → VK → Prop := fun xs H Q => ∃ i j, xs = [.int i, .int j] ∧ Q (.int (if j < i then j else i)) H
theorem c_min {X : Cx} (hc : X.calm = true) : CallR X (.builtin "min") uMin := call_min2 hc
def uIsi (K : PySem.W.Frag) : List V → Hp → VK → Prop := fun xs H Q => rIsi K xs H Q ∨ rIsiT K xs H Q
theorem c_isi {X : Cx} : CallR X (.builtin "isinstance") (uIsi X.K) := call_isi.or call_isiT
/-! a def that may be called by its name; it may raise -/
structure Kn (P : Program) (w : World) (K : PySem.W.Frag) (mg : Str → Option Value) (base : Heap) (k : Nat) (x : Str) (ps : List Str) (sp : Sp) : Prop where
  ex : ∃ (f : Addr) (fd : FuncData), FnOk P w K mg base (L2.CX P w) k f fd ps sp ∧ mg x = some (.ref f) ∧ PySem.W.keepIn K (.ref f) = true ∧ Binds K fd ps []
/-- .. by keywords alone, ks their order, g puts them in the parameters' order -/
structure Kk (P : Program) (w : World) (K : PySem.W.Frag) (mg : Str → Option Value) (base : Heap) (k : Nat) (x : Str) (ps ks : List Str) (g : {α : Type} → List α → List α) (sp : Sp) : Prop where
  ex : ∃ (f : Addr) (fd : FuncData), FnOk P w K mg base (L2.CX P w) k f fd ps sp ∧ mg x = some (.ref f) ∧ PySem.W.keepIn K (.ref f) = true ∧
    (∀ (s : Shared) (ws : List Value), K.In s.heap → (g ws).length = ps.length → BindsTo s fd ⟨[], ks.zip ws⟩ (ps.zip (g ws))) ∧ ∀ {zs : List V} {ws : List Value}, Vals zs ws → Vals (g zs) (g ws)
abbrev E00 : XK := fun _ _ _ => False
/-- a call that raises nothing -/
def tKn (sp : Sp) (t : TA) : TE := fun σ H Q => t σ H fun vs H1 => sp vs H1 Q E00
/-- a call that may raise: W what is wished then -/
def tKx (sp : Sp) (W : WX) (t : TA) : TE := fun σ H Q => t σ H fun vs H1 => sp vs H1 Q fun cls d H' => W cls d σ H'
/-- by keywords -/
def tKk (sp : Sp) (g : {α : Type} → List α → List α) (W : WX) (t : TA) : TE := fun σ H Q => t σ H fun vs H1 => sp (g vs) H1 Q fun cls d H' => W cls d σ H'
section
variable {X : Cx} {k j : Nat} {x : Str} {ps ks : List Str} {sp : Sp} {p pos : Pos} {e : Expr} {es : List Expr} {t : TA} {W : WX} {kws : List Keyword}
theorem run_kn {E : L2.St → XK} {pins : List (Addr × Obj)} {σ : L2.St} {H : Hp} {s : Shared} {Q : VK} {us : List Value} {vs : List V} {f : Addr} {fd : FuncData} (F : FnOk X.prog X.w X.K X.mg X.base (L2.CX X.prog X.w) k f fd ps sp) (hr : Room k X.A) (hb : Binds X.K fd ps []) (hx : PassesAt (L2.CX X.prog X.w) X σ (E σ))
    (I : Inv X pins σ H s) (r : Vals vs us) (h : sp vs H Q (E σ)) : wpAny (model X.prog X.w) X.A (call (.ref f) us) (EP X pins σ Q) X.xe s := run_fnS F hr hb hx I r h
theorem no_pass {σ : L2.St} : PassesAt (L2.CX X.prog X.w) X σ E00 := fun _ _ _ _ _ _ c => by
  obtain ⟨_, _, _, _, _, _, _, _, _, _, _, _, z⟩ := c
  exact z.elim
theorem pe_kn (c : Kn X.prog X.w X.K X.mg X.base k x ps sp) (hr : Room j X.A) (hk : k ≤ j) (hg : Gl X x) (ha : PA X (e :: es) t)
    (hdb : (x == ("__debug__" : Str)) = false := by decide) (he : starEach (e :: es) X.env = (false, eval e X.env) :: starEach es X.env := by rfl) (hpl : (backTo pos (starEach es X.env)).any (·.1) = false := by rfl) :
    PE X (.Call (.Name x p) (e :: es) [] pos) (tKn sp t) := by
  obtain ⟨f, fd, F, hm, kp, b⟩ := c.ex
  refine ⟨fun pins s σ H Q I h => ?_⟩
  refine wpAny_Call_Name_kw (ld_glob I hg hm ?_ hdb)
  refine PySem.W.callWith_K (h₀ := X.base) I.ok.mod.kin kp (thn (ha.run pos pins s σ H _ I h) fun us s1 ⟨vs, H1, I1, r, q⟩ => ⟨I1.kIn, ?_⟩) he hpl
  exact run_kn (E := fun _ => E00) F (hr.mono hk) b no_pass I1 r q
theorem pe_kx (c : Kn X.prog X.w X.K X.mg X.base k x ps sp) (hr : Room j X.A) (hk : k ≤ j) (tk : Takes X W) (hg : Gl X x) (ha : PA X (e :: es) t)
    (hdb : (x == ("__debug__" : Str)) = false := by decide) (he : starEach (e :: es) X.env = (false, eval e X.env) :: starEach es X.env := by rfl) (hpl : (backTo pos (starEach es X.env)).any (·.1) = false := by rfl) :
    PE X (.Call (.Name x p) (e :: es) [] pos) (tKx sp W t) := by
  obtain ⟨f, fd, F, hm, kp, b⟩ := c.ex
  refine ⟨fun pins s σ H Q I h => ?_⟩
  refine wpAny_Call_Name_kw (ld_glob I hg hm ?_ hdb)
  refine PySem.W.callWith_K (h₀ := X.base) I.ok.mod.kin kp (thn (ha.run pos pins s σ H _ I h) fun us s1 ⟨vs, H1, I1, r, q⟩ => ⟨I1.kIn, ?_⟩) he hpl
  exact run_kn (E := WE W) F (hr.mono hk) b (passAt tk σ) I1 r q
theorem pe_kk {g : {α : Type} → List α → List α} (c : Kk X.prog X.w X.K X.mg X.base k x ps ks g sp) (hr : Room j X.A) (hk : k ≤ j) (tk : Takes X W) (hg : Gl X x) (hkw : PK X kws t)
    (hall : (backToKw pos (keywordEach kws X.env)).all (·.1.isSome) = true := by rfl) (hks : (backToKw pos (keywordEach kws X.env)).filterMap (·.1) = ks := by rfl) (hdb : (x == ("__debug__" : Str)) = false := by decide)
    (hpl : ((backTo pos (starEach [] X.env)).any (·.1) || (backToKw pos (keywordEach kws X.env)).any (·.1.isNone)) = false := by rfl) :
    PE X (.Call (.Name x p) [] kws pos) (tKk sp g W t) := by
  obtain ⟨f, fd, F, hm, kp, b, rel⟩ := c.ex
  refine ⟨fun pins s σ H Q I h => ?_⟩
  refine wpAny_Call_Name_kw (ld_glob I hg hm ?_ hdb)
  refine PySem.W.callWith_KW0 (h₀ := X.base) I.ok.mod.kin kp hall ?_ hpl
  refine thn (hkw.run pos pins s σ H _ I h) fun ws s2 ⟨zs, H2, I2, rz, q2⟩ => ⟨I2.kIn, ?_⟩
  rw [hks]
  have r2 := rel rz
  have hl : (g ws).length = ps.length := by rw [← r2.length]; exact F.len _ _ _ _ q2
  refine wpAny_call (codeAny_mono (F.run X.A X.stack s2 H2 ⟨[], ks.zip ws⟩ (g ws) (g zs) Q (WE W σ) (hr.mono hk) I2.env0 (b s2 ws I2.kIn hl) r2 q2) fun r s' hq => ?_)
  cases r with
  | error e => exact passAt tk σ pins H2 s2 e s' I2 hq
  | ok fl =>
    cases fl with
    | ret u => exact I2.after hq
    | next => exact False.elim hq
    | brk => exact False.elim hq
    | cont => exact False.elim hq
end
/-- a module's constant -/
theorem pe_cst {X : Cx} {x : Str} {pos : Pos} {v : V} (hg : Gl X x) (h : ∃ u, X.mg x = some u ∧ RelV v u) (hdb : (x == ("__debug__" : Str)) = false := by decide) : PE X (.Name x pos) (tC v) := by
  obtain ⟨u, hm, r⟩ := h
  exact pe_glob hg hm r hdb
/-- a class, built-in, as a value -/
theorem pe_ty {X : Cx} {x : Str} {n : String} {pos : Pos} (hg : Gl X x) (hm : X.mg x = none) (hv : bootBuiltins x = some (.type n)) (hn : x ≠ "__name__" := by decide) (hdb : (x == ("__debug__" : Str)) = false := by decide) : PE X (.Name x pos) (tC (.ty n)) := by
  first | exact pe_bltn hg hm hv rfl | exact pe_bltn hg hm hv rfl hn | exact pe_bltn hg hm hv rfl hn hdb
section
variable {P : Program} {w : World} {K : PySem.W.Frag} {mg : Str → Option Value} {base : Heap}
/-- a def by its body's walk (hd) and the reading's law (hp) -/
theorem kn_ok {x qual : Str} {st : Stmt} {f : Addr} {fd : FuncData} {N ps : List Str} {k : Nat} {sp : Sp} (F : FunD K x qual (defArgs st) (defBody st) (defScope st) [] [] f fd) (S : FnScope N ps (defScope st)) (len : ∀ vs H Q E, sp vs H Q E → vs.length = ps.length) (t : XK → TS)
    (hd : ∀ (cdv : Value) (A : Around) (outer : List Env) (s : Shared) (H : Hp) (E : XK), Room k (A.deeper (envOfC qual (defScope st) s.heap.objs.size f cdv)) → PSs (cxOf (L2.CX P w) P w K mg base N qual (defScope st) f cdv A outer s H E) (defBody st) (t E))
    (hp : ∀ (vs : List V) (H : Hp) (Q : VK) (E : XK), sp vs H Q E → t E { nx := fun _ H' => Q .non H', rt := Q } (start N vs) H) : FnOk P w K mg base (L2.CX P w) (k + 1) f fd ps sp :=
  F.ok S len fun cdv A outer s H vs Q E hr h => ⟨t E, hd cdv A outer s H E hr, hp vs H Q E h⟩
end
theorem hu0_of {A : Around} {k : Nat} (hr : Room k A) : A.units < cLine := by have := hr.un; omega
theorem hu64_of {A : Around} {k : Nat} (hr : Room k A) : A.units + 64 < cLine := by have := hr.un; omega
theorem hu65_of {A : Around} {k : Nat} (hr : Room k A) : A.units + 65 < cLine := by have := hr.un; omega
abbrev W0 (E : XK) : WX := fun cls d _ H => E cls d H
def tTryM (K : PySem.W.Frag) (Wout : WX) (tb : WX → TS) (l : List (Value × Option Nat × (Addr → Value → Option Addr → TS))) : TS := fun D σ H => tb (wManyA K Wout D l) D σ H
def iSeq (K : PySem.W.Frag) (tl : TE) : TI := fun σ H R => iList K tl σ H R ∨ iTup K tl σ H R
theorem pi_seq {X : Cx} {tg l : Expr} {tl : TE} (hl : PE X l tl) : PI X tg l (iSeq X.K tl) :=
  ⟨fun pins s σ H R I h => h.elim ((pi_list hl).run pins s σ H R I) ((pi_tup hl).run pins s σ H R I)⟩
/-- (a, b, ..) = a tuple or a list of that length -/
def gSq (K : PySem.W.Frag) (n : Nat) (t : TGs) : TG := fun v σ H Q => gTup K n t v σ H Q ∨ gLst K n t v σ H Q
theorem pg_sq {X : Cx} {pos : Pos} {es : List Expr} {k : Nat} {t : TGs} {n : Nat} (hc : X.calm = true) (h : PGs X es t)
    (hn : (assignEach es X.env).length = n := by rfl) (hst : (assignEach es X.env).findIdx? (·.1) = none := by rfl) : PG X (.Tuple es k pos) (gSq X.K n t) :=
  ⟨fun pins s σ H v u Q I r hw => hw.elim ((pg_tup hc h hn hst).run pins s σ H v u Q I r) ((pg_lst hc h hn hst).run pins s σ H v u Q I r)⟩
def uSl (K : PySem.W.Frag) : V → Option Int → Option Int → Hp → VK → Prop := fun x lo hi H Q => rSlL K x lo hi H Q ∨ rSlA K x lo hi H Q ∨ rSlS x lo hi H Q
theorem u_sl {X : Cx} : SlR X (uSl X.K) := fun pins s σ H x v vl vu lo hi sl Q I rx hs pl pu h => by
  rcases h with h | h | h
  · exact sl_list pins s σ H x v vl vu lo hi sl Q I rx hs pl pu h
  · exact sl_tupA pins s σ H x v vl vu lo hi sl Q I rx hs pl pu h
  · exact sl_str pins s σ H x v vl vu lo hi sl Q I rx hs pl pu h
def uSum (K : PySem.W.Frag) : List V → Hp → VK → Prop := rSum K
theorem c_sum {X : Cx} (hc : X.calm = true) : CallR X (.builtin "sum") (uSum X.K) := cr_sum hc
def uAll (K : PySem.W.Frag) : List V → Hp → VK → Prop := rAll K
theorem c_all {X : Cx} (hc : X.calm = true) : CallR X (.builtin "all") (uAll X.K) := cr_all hc
def uAny (K : PySem.W.Frag) : List V → Hp → VK → Prop := rAny K
theorem c_any {X : Cx} (hc : X.calm = true) : CallR X (.builtin "any") (uAny X.K) := cr_any hc
def tpAdd : TIp := ipI fun i j => i + j
def tpSub : TIp := ipI fun i j => i - j
/-- e.n, e the error that the suite holds -/
def tXg (K : PySem.W.Frag) (a : Addr) (cls : Value) (d : Option Addr) (f : Str) (te : TE) : TE := fun σ H Q => te σ H fun x H1 => x = .ref a ∧ ∃ (C dd : Addr) (fs : List (Str × V)) (v : V), cls = .ref C ∧ XfC K C ∧ PySem.W.findIn K (.ref C) f = some none ∧ d = some dd ∧ H1 dd = some (.xd fs) ∧ fs.lookup f = some v ∧ Q v H1
theorem pe_xg {X : Cx} {a : Addr} {oe : Obj} {cls : Value} {d : Option Addr} {pn : List (Addr × Obj)} {e : Expr} {te : TE} {pos : Pos} {n : Str} (hz : Zc cls d oe) (hf : ∃ vs, oe.data = .fields vs) (he : PE (X.suite a ((a, oe) :: pn)) e te)
    (hb : attributeBase e n X.env (eval e X.env) = eval e X.env := by rfl) :
    PE (X.suite a ((a, oe) :: pn)) (.Attribute e n pos) (tXg X.K a cls d n te) := by
  refine ⟨fun pins s σ H Q I h => ?_⟩
  refine attr_of hb (thn (he.run pins s σ H _ I h) fun u s1 hh => ?_)
  obtain ⟨x, H1, I1, rx, ex, C, dd, fs, v, ec, T, hno, ed, ea, l, q⟩ := hh
  subst ex
  obtain rfl : u = Value.ref a := rx
  subst ec
  subst ed
  obtain ⟨ha, _⟩ := I1.pin (a, oe) (List.mem_append_left _ List.mem_cons_self)
  obtain ⟨vs, hd⟩ := hf
  have hx : ObjOk X.prog X.w H1 s1.heap dd (.xd fs) := I1.hok dd _ ea
  obtain ⟨mA, hns, hr⟩ := hx
  obtain ⟨od, ho, hl⟩ := lookIn_ns hns
  obtain ⟨u, hu, ru⟩ := RelO.some_of (v := v) (o := mA n) (by rw [← l]; exact hr n)
  have J : PySem.W.InstAt s1.heap a oe C (some od) := ⟨ha, hz.1, by unfold PySem.W.notCls; rw [hd] <;> rfl, by rw [hz.2]; exact ho⟩
  exact HandSPX.exc_get I1.kIn J T.ga T.gg T.exC (PySem.W.findObj_own T.hdC hno rfl (by rw [hl, hu])) (handed_of ru) ⟨v, H1, I1.tok _, ru, q⟩
end Kx
set_option Elab.async false
set_option linter.all false
set_option maxRecDepth 100000
set_option maxHeartbeats 4000000
namespace Kx
open PySem PySem.Spec PyProof.Rows L2
section
variable {K : PySem.W.Frag} {σ : L2.St} {H : Hp} {Q : VK} {QB : Bool → Hp → Prop} {QA : List V → Hp → Prop} {D : Ends} {E : XK} {W : WX} {ta tb tc te : TE} {tr : TA} {c u : TT} {t t2 : TS} {g : TG} {gs : TGs} {r r' : R2} {x y v : V} {xs vs : List V} {i j : Int} {n : Nat} {b k : Bool} {s z : Str} {sp : Sp} {p q a d : Addr} {wi : TI}
/-! expressions -/
theorem w_var {n : Nat} (h : σ[n]? = some (some v)) (q : Q v H) : tVar n σ H Q := ⟨v, h, q⟩
theorem w_c (q : Q v H) : tC v σ H Q := q
theorem w_op (q : ta σ H fun x H1 => tb σ H1 fun y H2 => r x y H2 Q) : tOp r ta tb σ H Q := q
theorem w_un {r : V → Hp → VK → Prop} (q : ta σ H fun x H1 => r x H1 Q) : tUn r ta σ H Q := q
theorem w_cons (q : ta σ H fun x H1 => tr σ H1 fun xs H2 => QA (x :: xs) H2) : tCons ta tr σ H QA := q
theorem w_nil (q : QA [] H) : tNil σ H QA := q
theorem w_kn (q : tr σ H fun vs H1 => sp vs H1 Q E00) : tKn sp tr σ H Q := q
theorem w_kx (q : tr σ H fun vs H1 => sp vs H1 Q fun cls d H' => W cls d σ H') : tKx sp W tr σ H Q := q
theorem w_kk {g : {α : Type} → List α → List α} (q : tr σ H fun vs H1 => sp (g vs) H1 Q fun cls d H' => W cls d σ H') : tKk sp g W tr σ H Q := q
theorem w_cb {r : List V → Hp → VK → Prop} (q : tr σ H fun vs H1 => r vs H1 Q) : tCB r tr σ H Q := q
theorem w_chain (q : ta σ H fun x H1 => tb σ H1 fun y H2 => r x y H2 fun z H3 => ∃ k, z = .bl k ∧ (if k = true then tc σ H3 fun w' H4 => r' y w' H4 Q else Q (.bl false) H3)) : tChain r r' ta tb tc σ H Q := q
theorem w_andV (q : ta σ H fun x H1 => ∃ c, x = .bl c ∧ if c = true then tb σ H1 Q else Q (.bl false) H1) : tAndV ta tb σ H Q := q
theorem w_orV (q : ta σ H fun x H1 => ∃ c, x = .bl c ∧ if c = true then Q (.bl true) H1 else tb σ H1 Q) : tOrV ta tb σ H Q := q
theorem w_notV (q : ta σ H fun x H1 => ∃ c, x = .bl c ∧ Q (.bl (!c)) H1) : tNotV ta σ H Q := q
theorem w_ifx (q : c σ H fun b H1 => if b = true then ta σ H1 Q else tb σ H1 Q) : tIf c ta tb σ H Q := q
theorem w_tup (q : tr σ H fun xs H1 => xs.length ≤ sizeLine ∧ ∀ p, H1 p = none → Q (.ref p) (upd H1 p (.tup xs))) : tTup tr σ H Q := q
theorem w_lst (q : tr σ H fun xs H1 => xs.length ≤ sizeLine ∧ ∀ p, H1 p = none → Q (.ref p) (upd H1 p (.lst xs))) : tLst tr σ H Q := q
theorem w_tupE {F : Addr → Prop} (h : xs.length ≤ 1000) (q : ∀ p, H p = none → F p) : xs.length ≤ sizeLine ∧ ∀ p, H p = none → F p := ⟨Nat.le_trans h (by decide), q⟩
/-! tests -/
theorem w_test (q : te σ H fun x H' => ∃ k, x = .bl k ∧ QB k H') : tTest te σ H QB := q
theorem w_tr (q : te σ H fun x H' => ∃ k, TruV K x H' k ∧ QB k H') : tTr K te σ H QB := q
theorem w_and (q : c σ H fun b H1 => if b = true then u σ H1 QB else QB false H1) : tAnd c u σ H QB := q
theorem w_or (q : c σ H fun b H1 => if b = true then QB true H1 else u σ H1 QB) : tOr c u σ H QB := q
theorem w_not (q : c σ H fun b H1 => QB (!b) H1) : tNot c σ H QB := q
theorem w_yes (q : QB true H) : tYes σ H QB := q
theorem w_exb {P : Bool → Prop} (q : P b) : ∃ c, V.bl b = V.bl c ∧ P c := ⟨b, rfl, q⟩
theorem w_tru_bl {P : Bool → Prop} (q : P b) : ∃ k, TruV K (.bl b) H k ∧ P k := ⟨b, rfl, q⟩
theorem w_tru_int {P : Bool → Prop} (q : P (i != 0)) : ∃ k, TruV K (.int i) H k ∧ P k := ⟨_, rfl, q⟩
theorem w_tru_non {P : Bool → Prop} (q : P false) : ∃ k, TruV K .non H k ∧ P k := ⟨_, rfl, q⟩
theorem w_ite_t {c : Prop} [Decidable c] {A B : Prop} (h : c) (q : A) : if c then A else B := by rw [if_pos h]; exact q
theorem w_ite_f {c : Prop} [Decidable c] {A B : Prop} (h : ¬ c) (q : B) : if c then A else B := by rw [if_neg h]; exact q
theorem w_bt {A B : Prop} (h : b = true) (q : A) : if b = true then A else B := by rw [if_pos h]; exact q
theorem w_bf {A B : Prop} (h : b = false) (q : B) : if b = true then A else B := by rw [if_neg (by rw [h]; exact Bool.false_ne_true)]; exact q
theorem w_b2 {A B : Prop} (q1 : b = true → A) (q2 : b = false → B) : if b = true then A else B := by
  cases b
  · rw [if_neg Bool.false_ne_true]; exact q2 rfl
  · rw [if_pos rfl]; exact q1 rfl
/-! statements -/
theorem w_seq (q : t { D with nx := t2 D } σ H) : tSeq t t2 D σ H := q
theorem w_asg (q : te σ H fun x H1 => g x σ H1 D.nx) : tAsg te g D σ H := q
theorem w_name {Q : L2.St → Hp → Prop} {n : Nat} (q : Q (σ.set n (some v)) H) : gName n v σ H Q := q
theorem w_ret (q : te σ H D.rt) : tRet te D σ H := q
theorem w_retN (q : D.rt .non H) : tRetN D σ H := q
theorem w_drop (q : te σ H fun _ H1 => D.nx σ H1) : tDrop te D σ H := q
theorem w_if (q : c σ H fun b H1 => if b = true then t D σ H1 else t2 D σ H1) : tIfS c t t2 D σ H := q
theorem w_next (q : D.nx σ H) : tNext D σ H := q
theorem w_brk (q : D.bk σ H) : tBreak D σ H := q
theorem w_cont (q : D.ct σ H) : tCont D σ H := q
theorem w_par {n m : Nat} (q : tr σ H fun vs H1 => ∃ v w, vs = [v, w] ∧ D.nx ((σ.set n (some v)).set m (some w)) H1) : tPar n m tr D σ H := q
theorem w_par2 {P : V → V → Prop} (q : P x y) : ∃ v w, [x, y] = [v, w] ∧ P v w := ⟨x, y, rfl, q⟩
theorem w_par3 {n m l : Nat} (q : tr σ H fun vs H1 => ∃ u v w, vs = [u, v, w] ∧ D.nx (((σ.set n (some u)).set m (some v)).set l (some w)) H1) : tPar3 n m l tr D σ H := q
theorem w_par33 {P : V → V → V → Prop} {z : V} (q : P x y z) : ∃ u v w, [x, y, z] = [u, v, w] ∧ P u v w := ⟨x, y, z, rfl, q⟩
theorem w_aug {n : Nat} {ti : TIp} (h : σ[n]? = some (some x)) (q : te σ H fun y H1 => ti x y H1 fun z H2 => D.nx (σ.set n (some z)) H2) : tAug n te ti D σ H := ⟨x, h, q⟩
theorem w_raise {C : Addr} (q : tMkDue C tr σ H fun cls d H' => W cls d σ H') : tRaiseDue C W tr D σ H := q
theorem w_mkdue {C : Addr} {QX : XK} (q : tr σ H fun vs H1 => ∃ v, vs = [v] ∧ ∀ d, H1 d = none → QX (.ref C) (some d) (upd H1 d (.xd [(("given" : Str), v)]))) : tMkDue C tr σ H QX := q
theorem w_one {P : V → Prop} (q : P x) : ∃ v, [x] = [v] ∧ P v := ⟨x, rfl, q⟩
theorem w_gtup {Q : L2.St → Hp → Prop} {n : Nat} (h : SqT K H a xs) (hn : xs.length = n) (q : gs xs σ H Q) : gSq K n gs (.ref a) σ H Q := .inl ⟨a, xs, rfl, h, hn, q⟩
theorem w_glst {Q : L2.St → Hp → Prop} {n : Nat} (h : SqL K H a xs) (hn : xs.length = n) (q : gs xs σ H Q) : gSq K n gs (.ref a) σ H Q := .inr ⟨a, xs, rfl, h, hn, q⟩
theorem w_gcons {Q : L2.St → Hp → Prop} (q : g x σ H fun σ' H' => gs xs σ' H' Q) : gCons g gs (x :: xs) σ H Q := ⟨x, xs, rfl, q⟩
theorem w_gnil {Q : L2.St → Hp → Prop} (q : Q σ H) : gNil [] σ H Q := ⟨rfl, q⟩
theorem w_bm {T : String} {rr : V → List V → Hp → VK → Prop} (q : te σ H fun x H1 => tyV K T x H1 ∧ tr σ H1 fun xs H2 => rr x xs H2 Q) : tBM K T rr te tr σ H Q := q
theorem w_tyl {P : Prop} (h : SqL K H a xs) (q : P) : tyV K "list" (.ref a) H ∧ P := ⟨.inl ⟨rfl, _, h⟩, q⟩
theorem w_append {l : Addr} (h : H l = some (.lst xs)) (hn : xs.length < 1000000) (q : Q .non (upd H l (.lst (xs ++ [y])))) : rAppend (.ref l) [y] H Q := ⟨l, xs, y, rfl, rfl, h, Nat.lt_of_lt_of_le hn (by decide), q⟩
theorem w_for (q : wi σ H fun J H1 => ∃ W : Nat → Nat → L2.St → Hp → Prop, (∃ m, W 0 m σ H1) ∧ ∀ i m σ H, W i m σ H → ((J.stop i H ∧ D.nx σ H) ∨ (J.go i H ∧ ∃ N : L2.St → Hp → Prop, (∀ σ' H', N σ' H' → ∃ m', m' < m ∧ W (i + 1) m' σ' H') ∧ ∀ x H', J.yld i H x H' → g x σ H' fun σ2 H2 => t { D with nx := N, ct := N, bk := D.nx } σ2 H2))) : tFor wi g t D σ H := q
theorem w_rng1 {R : It → Hp → Prop} (q : tr σ H fun vs H1 => ∃ j : Int, vs = [.int j] ∧ -(2 ^ 62) ≤ j ∧ j < 2 ^ 62 ∧ R (Itr 0 j.toNat) H1) : iRng1 tr σ H R := q
theorem w_rng2 {R : It → Hp → Prop} (q : tr σ H fun vs H1 => ∃ i j : Int, vs = [.int i, .int j] ∧ (-(2 ^ 62) ≤ i ∧ i < 2 ^ 62 ∧ -(2 ^ 62) ≤ j ∧ j < 2 ^ 62) ∧ R (Itr i (j - i).toNat) H1) : iRng2 tr σ H R := q
theorem w_rng1e {P : Int → Prop} (h1 : -(2 ^ 62) ≤ i) (h2 : i < 2 ^ 62) (q : P i) : ∃ j : Int, [V.int i] = [.int j] ∧ -(2 ^ 62) ≤ j ∧ j < 2 ^ 62 ∧ P j := ⟨i, rfl, h1, h2, q⟩
theorem w_rng2e {P : Int → Int → Prop} (h : -(2 ^ 62) ≤ i ∧ i < 2 ^ 62 ∧ -(2 ^ 62) ≤ j ∧ j < 2 ^ 62) (q : P i j) : ∃ i' j' : Int, [V.int i, V.int j] = [.int i', .int j'] ∧ (-(2 ^ 62) ≤ i' ∧ i' < 2 ^ 62 ∧ -(2 ^ 62) ≤ j' ∧ j' < 2 ^ 62) ∧ P i' j' := ⟨i, j, rfl, h, q⟩
/-! operators by their operands -/
theorem w_add_ii (q : Q (.int (i + j)) H) : uAdd K (.int i) (.int j) H Q := .inl ⟨_, _, rfl, rfl, q⟩
theorem w_add_ll (h1 : H p = some (.lst xs)) (h2 : H a = some (.lst vs)) (hn : xs.length + vs.length ≤ 1000000) (q : ∀ p, H p = none → Q (.ref p) (upd H p (.lst (xs ++ vs)))) : uAdd K (.ref p) (.ref a) H Q :=
  .inr (.inl ⟨p, a, xs, vs, rfl, rfl, h1, h2, Nat.le_trans hn (by decide), q⟩)
theorem w_add_ss (hn : s.length + z.length ≤ 1000000) (q : Q (.str (s ++ z)) H) : uAdd K (.str s) (.str z) H Q := .inr (.inr (.inr (.inl ⟨_, _, rfl, rfl, Nat.le_trans hn (by decide), q⟩)))
theorem w_sub_ii (q : Q (.int (i - j)) H) : uSub (.int i) (.int j) H Q := ⟨_, _, rfl, rfl, q⟩
theorem w_mul_ii (h : i.natAbs < 2 ^ 500000) (h2 : j.natAbs < 2 ^ 400000) (q : Q (.int (i * j)) H) : uMul (.int i) (.int j) H Q := .inl ⟨_, _, rfl, rfl, wide_mul h h2 (by decide) (by decide) (by decide), q⟩
theorem w_mul_b (h : -1000000000000000000000000000000 < i ∧ i < 1000000000000000000000000000000) (h2 : -1000000000000000000000000000000 < j ∧ j < 1000000000000000000000000000000) (q : Q (.int (i * j)) H) : uMul (.int i) (.int j) H Q := by
  refine .inl ⟨_, _, rfl, rfl, wide_mul (a := 200) (b := 200) ?_ ?_ (by decide) (by decide) (by decide), q⟩
  · have : (1000000000000000000000000000000 : Nat) < 2 ^ 200 := by decide
    omega
  · have : (1000000000000000000000000000000 : Nat) < 2 ^ 200 := by decide
    omega
theorem w_mul_li (h1 : H p = some (.lst xs)) (h2 : 0 ≤ j) (h3 : j < 1000) (h4 : xs.length ≤ 1000) (q : ∀ q, H q = none → Q (.ref q) (upd H q (.lst ((List.replicate j.toNat xs).flatten)))) : uMul (.ref p) (.int j) H Q := by
  refine .inr ⟨p, j, xs, rfl, rfl, h1, by omega, by omega, ?_, q⟩
  have : xs.length * j.toNat ≤ 1000 * 1000 := Nat.mul_le_mul h4 (by omega)
  exact Nat.le_trans this (by decide)
theorem w_fdv_ii (h : 0 < j) (h2 : j < 1000000000000000000000000000000) (q : Q (.int (i / j)) H) : uFdv (.int i) (.int j) H Q := by
  refine ⟨_, _, rfl, rfl, wide_div h (b := 200) ?_ (by decide) (by decide), q⟩
  have : (1000000000000000000000000000000 : Nat) < 2 ^ 200 := by decide
  omega
theorem w_mod_ii (h : 0 < j) (q : Q (.int (i % j)) H) : uMod (.int i) (.int j) H Q := ⟨_, _, rfl, rfl, h, q⟩
theorem w_pow_ii (h : 0 ≤ j ∧ j ≤ 1000000 ∧ i.natAbs < 2 ^ 64) (q : Q (.int (i ^ j.toNat)) H) : uPow (.int i) (.int j) H Q := ⟨_, _, rfl, rfl, h, q⟩
theorem w_neg_i (q : Q (.int (-i)) H) : uNeg (.int i) H Q := ⟨_, rfl, q⟩
theorem w_lt_ii (q : Q (.bl (decide (i < j))) H) : uLt K (.int i) (.int j) H Q := .inl ⟨_, _, rfl, rfl, q⟩
theorem w_le_ii (q : Q (.bl (decide (i ≤ j))) H) : uLe (.int i) (.int j) H Q := ⟨_, _, rfl, rfl, q⟩
theorem w_gt_ii (q : Q (.bl (decide (j < i))) H) : uGt (.int i) (.int j) H Q := ⟨_, _, rfl, rfl, q⟩
theorem w_ge_ii (q : Q (.bl (decide (j ≤ i))) H) : uGe (.int i) (.int j) H Q := ⟨_, _, rfl, rfl, q⟩
theorem dec_ii : decide (V.int i = V.int j) = decide (i = j) := by
  by_cases h : i = j
  · rw [h]; simp
  · rw [decide_eq_false h, decide_eq_false (fun e => h (V.int.inj e))]
theorem dec_ss : decide (V.str s = V.str z) = decide (s = z) := by
  by_cases h : s = z
  · rw [h]; simp
  · rw [decide_eq_false h, decide_eq_false (fun e => h (V.str.inj e))]
theorem dec_bb {b c : Bool} : decide (V.bl b = V.bl c) = decide (b = c) := by
  by_cases h : b = c
  · rw [h]; simp
  · rw [decide_eq_false h, decide_eq_false (fun e => h (V.bl.inj e))]
theorem w_eq_ii (q : Q (.bl (decide (i = j))) H) : uEq K (.int i) (.int j) H Q := .inl ⟨rfl, by rw [dec_ii]; exact q⟩
theorem w_ne_ii (q : Q (.bl (!decide (i = j))) H) : uNe K (.int i) (.int j) H Q := .inl ⟨rfl, by rw [dec_ii]; exact q⟩
theorem w_eq_ss (q : Q (.bl (decide (s = z))) H) : uEq K (.str s) (.str z) H Q := .inl ⟨rfl, by rw [dec_ss]; exact q⟩
theorem w_ne_ss (q : Q (.bl (!decide (s = z))) H) : uNe K (.str s) (.str z) H Q := .inl ⟨rfl, by rw [dec_ss]; exact q⟩
theorem w_eq_bb {b c : Bool} (q : Q (.bl (decide (b = c))) H) : uEq K (.bl b) (.bl c) H Q := .inl ⟨rfl, by rw [dec_bb]; exact q⟩
theorem w_ne_bb {b c : Bool} (q : Q (.bl (!decide (b = c))) H) : uNe K (.bl b) (.bl c) H Q := .inl ⟨rfl, by rw [dec_bb]; exact q⟩
theorem w_eq_d {d e : PyData} (h1 : Dp K H x d) (h2 : Dp K H y e) (s1 : SeqAt.shaped d = true) (s2 : SeqAt.shaped e = true) (q : Q (.bl (PyData.eqv d e)) H) : uEq K x y H Q := .inr ⟨d, e, h1, h2, s1, s2, q⟩
theorem w_ne_d {d e : PyData} (h1 : Dp K H x d) (h2 : Dp K H y e) (s1 : SeqAt.shaped d = true) (s2 : SeqAt.shaped e = true) (q : Q (.bl (!PyData.eqv d e)) H) : uNe K x y H Q := .inr ⟨d, e, h1, h2, s1, s2, q⟩
theorem w_is_n (q : Q (.bl (decide (x = .non))) H) : uIs x .non H Q := .inl ⟨rfl, q⟩
theorem w_isn_n (q : Q (.bl (!decide (x = .non))) H) : uIsn x .non H Q := .inl ⟨rfl, q⟩
theorem w_is_bb {b c : Bool} (q : Q (.bl (decide (b = c))) H) : uIs (.bl b) (.bl c) H Q := .inr ⟨_, _, rfl, rfl, q⟩
theorem w_isn_bb {b c : Bool} (q : Q (.bl (!decide (b = c))) H) : uIsn (.bl b) (.bl c) H Q := .inr ⟨_, _, rfl, rfl, q⟩
theorem w_in_f (h : SqL K H p xs ∨ SqT K H p xs) (h1 : flatV x = true) (h2 : xs.all flatV = true) (q : Q (.bl (inV x xs)) H) : uIn K x (.ref p) H Q := .inl ⟨p, xs, rfl, h, h1, h2, q⟩
theorem w_nin_f (h : SqL K H p xs ∨ SqT K H p xs) (h1 : flatV x = true) (h2 : xs.all flatV = true) (q : Q (.bl (!inV x xs)) H) : uNin K x (.ref p) H Q := .inl ⟨p, xs, rfl, h, h1, h2, q⟩
theorem w_ixl (h : SqL K H p xs) (e : atI xs i = some v) (q : Q v H) : rIx K (.ref p) (.int i) H Q := .inl ⟨p, xs, i, v, rfl, rfl, h, e, q⟩
theorem w_ixt (h : SqT K H p xs) (e : atI xs i = some v) (q : Q v H) : rIx K (.ref p) (.int i) H Q := .inr (.inl ⟨p, xs, i, v, rfl, rfl, h, e, q⟩)
theorem w_ipadd {P : V → Hp → Prop} (q : P (.int (i + j)) H) : tpAdd (.int i) (.int j) H P := ⟨_, _, rfl, rfl, q⟩
theorem w_ipsub {P : V → Hp → Prop} (q : P (.int (i - j)) H) : tpSub (.int i) (.int j) H P := ⟨_, _, rfl, rfl, q⟩
/-! built-ins -/
theorem w_int_i (q : Q (.int i) H) : uInt [.int i] H Q := .inl ⟨_, rfl, q⟩
theorem w_int_b (q : Q (.int (if k then 1 else 0)) H) : uInt [.bl k] H Q := .inr ⟨_, rfl, q⟩
theorem w_abs (q : Q (.int (if i < 0 then -i else i)) H) : uAbs [.int i] H Q := ⟨_, rfl, q⟩
theorem w_max2 (q : Q (.int (if j > i then j else i)) H) : uMax [.int i, .int j] H Q := ⟨_, _, rfl, q⟩
theorem w_min2 (q : Q (.int (if j < i then j else i)) H) : uMin [.int i, .int j] H Q := ⟨_, _, rfl, q⟩
theorem w_len_l (h : SqL K H p xs) (q : Q (.int (xs.length : Nat)) H) : uLen K [.ref p] H Q := .inl ⟨_, _, rfl, .inl ⟨_, h, rfl⟩, q⟩
theorem w_len_t (h : SqT K H p xs) (q : Q (.int (xs.length : Nat)) H) : uLen K [.ref p] H Q := .inl ⟨_, _, rfl, .inr ⟨_, h, rfl⟩, q⟩
theorem w_len_d {kvs : List (Key × V)} (h : H p = some (.dK kvs)) (q : Q (.int (kvs.length : Nat)) H) : uLen K [.ref p] H Q := .inr (.inl ⟨_, _, rfl, h, q⟩)
theorem w_len_s (h : s.length ≤ 1000000) (q : Q (.int (s.length : Nat)) H) : uLen K [.str s] H Q := .inl ⟨_, _, rfl, ⟨Nat.le_trans h (by decide), rfl⟩, q⟩
theorem w_sum {ns : List Int} (h : SqL K H p (ns.map V.int)) (q : Q (.int ns.sum) H) : uSum K [.ref p] H Q := ⟨p, ns, rfl, h, q⟩
theorem w_isi {T : String} {n : String} (h : TyX K H x (.type T)) (e : kitB T n = some b) (q : Q (.bl b) H) : uIsi K [x, .ty n] H Q := .inl ⟨x, .ty n, .type T, .type n, b, rfl, .ty n, h, kit_ty e, q⟩
theorem w_isi2 {T : String} {n m : String} {b1 b2 : Bool} (ht : H p = some (.tup [.ty n, .ty m])) (h : TyX K H x (.type T)) (e1 : kitB T n = some b1) (e2 : kitB T m = some b2) (q : Q (.bl (b1 || b2)) H) : uIsi K [x, .ref p] H Q := by
  refine .inr ⟨x, p, [.ty n, .ty m], .type T, [.type n, .type m], b1 || b2, rfl, ht, .cons (.ty n) (.cons (.ty m) .nil), h, ?_, q⟩
  cases b1
  · cases b2
    · exact kitAny_cons (kit_ty e1) (fun _ => kitAny_cons (kit_ty e2) (fun _ => kitAny_nil) (by decide)) (by decide)
    · exact kitAny_cons (kit_ty e1) (fun _ => kitAny_cons (kit_ty e2) (fun z => by cases z) (fun _ => rfl)) (by decide)
  · exact kitAny_cons (kit_ty e1) (fun z => by cases z) (fun _ => rfl)
end
/-! heaps -/
theorem ty_l {K : PySem.W.Frag} {H : Hp} {a : Addr} {xs : List V} (h : SqL K H a xs) : TyX K H (.ref a) (.type "list") := by
  rcases h with (h | ⟨o, h⟩) | ⟨o, its, n, h1, h2, _⟩
  · exact .base (.lst h)
  · exact .base (.frz h)
  · exact .kList h1 h2
theorem ty_t {K : PySem.W.Frag} {H : Hp} {a : Addr} {xs : List V} (h : SqT K H a xs) : TyX K H (.ref a) (.type "tuple") := by
  rcases h with (h | ⟨o, h⟩) | ⟨o, its, n, h1, h2, _⟩
  · exact .base (.tup h)
  · exact .fTuple h
  · exact .kTuple h1 h2
theorem l_of {K : PySem.W.Frag} {H : Hp} {a : Addr} {xs : List V} (h : H a = some (.lst xs)) : SqL K H a xs := .inl (.inl h)
theorem t_of {K : PySem.W.Frag} {H : Hp} {a : Addr} {xs : List V} (h : H a = some (.tup xs)) : SqT K H a xs := .inl (.inl h)
theorem up_new {H : Hp} {a p : Addr} {o u : HO} (hp : H p = none) (h : H a = some o) : upd H p u a = some o := (upd_ne (ne_of_none h hp)).trans h
theorem up_other {H : Hp} {a p : Addr} {o u : HO} (hp : a ≠ p) (h : H a = some o) : upd H p u a = some o := (upd_ne hp).trans h
theorem sm_new {H : Hp} {p : Addr} {u : HO} (hp : H p = none) : Same H (upd H p u) := fun _ _ h => up_new hp h
theorem Same.tup {K : PySem.W.Frag} {H H' : Hp} {a : Addr} {xs : List V} (e : Same H H') (h : SqT K H a xs) : SqT K H' a xs := by
  rcases h with (h | ⟨o, h⟩) | h
  · exact .inl (.inl (e _ _ h))
  · exact .inl (.inr ⟨o, e _ _ h⟩)
  · exact .inr h
/-! isinstance by kinds -/
def tys : List String := ["NoneType", "bool", "int", "str", "list", "tuple", "dict"]
def kT (T n : String) : Bool := T == n || (T == "bool" && n == "int")
theorem kb_all : ∀ T ∈ tys, ∀ n ∈ tys, kitB T n = some (kT T n) := by decide +kernel
/-- what a value is, as far as the tests ask -/
inductive Kd (K : PySem.W.Frag) (H : Hp) : V → String → Prop
  | non : Kd K H .non "NoneType"
  | bl (b : Bool) : Kd K H (.bl b) "bool"
  | int (i : Int) : Kd K H (.int i) "int"
  | str (s : Str) : Kd K H (.str s) "str"
  | lst {a : Addr} {xs : List V} (h : SqL K H a xs) : Kd K H (.ref a) "list"
  | tup {a : Addr} {xs : List V} (h : SqT K H a xs) : Kd K H (.ref a) "tuple"
  | dic {a : Addr} {kvs : List (Key × V)} (h : H a = some (.dK kvs)) : Kd K H (.ref a) "dict"
theorem Kd.ty {K : PySem.W.Frag} {H : Hp} {x : V} {T : String} (h : Kd K H x T) : TyX K H x (.type T) := by
  cases h with
  | non => exact .base .non
  | bl b => exact .base (.bl b)
  | int i => exact .base (.int i)
  | str s => exact .base (.str s)
  | lst h => exact ty_l h
  | tup h => exact ty_t h
  | dic h => exact .base (.dK h)
theorem Kd.mem {K : PySem.W.Frag} {H : Hp} {x : V} {T : String} (h : Kd K H x T) : T ∈ tys := by cases h <;> decide
theorem Kd.same {K : PySem.W.Frag} {H H' : Hp} {x : V} {T : String} (e : Same H H') (h : Kd K H x T) : Kd K H' x T := by
  cases h with
  | non => exact .non
  | bl b => exact .bl b
  | int i => exact .int i
  | str s => exact .str s
  | lst h => exact .lst (e.seq h)
  | tup h => exact .tup (Kx.Same.tup e h)
  | dic h => exact .dic (e _ _ h)
section
variable {K : PySem.W.Frag} {H : Hp} {Q : VK} {x : V} {T n m : String} {p : Addr}
theorem w_isk (h : Kd K H x T) (hn : n ∈ tys) (q : Q (.bl (kT T n)) H) : uIsi K [x, .ty n] H Q := w_isi h.ty (kb_all T h.mem n hn) q
theorem w_isk2 (ht : H p = some (.tup [.ty n, .ty m])) (h : Kd K H x T) (hn : n ∈ tys) (hm : m ∈ tys) (q : Q (.bl (kT T n || kT T m)) H) : uIsi K [x, .ref p] H Q := w_isi2 ht h.ty (kb_all T h.mem n hn) (kb_all T h.mem m hm) q
end
theorem wN_le {n : Nat} (h : Nat.ble n 1000 = true) : n ≤ 1000 := Nat.le_of_ble_eq_true h
end Kx
set_option Elab.async false
set_option linter.all false
set_option maxRecDepth 100000
set_option maxHeartbeats 4000000
namespace Kx
open PySem PySem.Spec PyProof.Rows L2
/-! loops -/
section
variable {K : PySem.W.Frag} {c tt : TT} {tb : TS} {D : Ends} {σ : L2.St} {H H1 H2 H4 : Hp} {g : TG} {te : TE} {wi : TI} {vs : List Nat} {Q : VK} {a A : Addr} {xs : List V} {y : V} {i n : Nat}
theorem w_while (Pv : Nat → L2.St → Hp → Prop) (m0 : Nat) (h0 : Pv m0 σ H)
    (hs : ∀ m σ H, Pv m σ H → c σ H fun b H1 => if b = true then ∃ N : L2.St → Hp → Prop, (∀ σ' H', N σ' H' → ∃ m', m' < m ∧ Pv m' σ' H') ∧ tb { D with nx := N, ct := N, bk := D.nx } σ H1 else D.nx σ H1) : tWhile c tb D σ H := ⟨Pv, ⟨m0, h0⟩, hs⟩
theorem w_wN {W : Nat → L2.St → Hp → Prop} {m : Nat} (q : tb { D with nx := fun σ' H' => ∃ m', m' < m ∧ W m' σ' H', ct := fun σ' H' => ∃ m', m' < m ∧ W m' σ' H', bk := D.nx } σ H) :
    ∃ N : L2.St → Hp → Prop, (∀ σ' H', N σ' H' → ∃ m', m' < m ∧ W m' σ' H') ∧ tb { D with nx := N, ct := N, bk := D.nx } σ H := ⟨_, fun _ _ z => z, q⟩
/-- a list for the for: read as a list, as a tuple -/
theorem w_sqL {te : TE} {R : It → Hp → Prop} (q : te σ H fun x H1 => ∃ a, x = .ref a ∧ (∃ xs, SqL K H1 a xs) ∧ R (Itl K a) H1) : iSeq K te σ H R := .inl q
theorem w_sqT {te : TE} {R : It → Hp → Prop} (q : te σ H fun x H1 => ∃ a, x = .ref a ∧ (∃ xs, SqT K H1 a xs) ∧ R (Itt K a) H1) : iSeq K te σ H R := .inr q
theorem w_sqLe {P : Addr → Prop} (h : SqL K H a xs) (q : P a) : ∃ a', V.ref a = .ref a' ∧ (∃ xs, SqL K H a' xs) ∧ P a' := ⟨a, rfl, ⟨_, h⟩, q⟩
theorem w_sqTe {P : Addr → Prop} (h : SqT K H a xs) (q : P a) : ∃ a', V.ref a = .ref a' ∧ (∃ xs, SqT K H a' xs) ∧ P a' := ⟨a, rfl, ⟨_, h⟩, q⟩
/-! comprehensions -/
theorem w_lc (q : wi σ H fun J H1 => ∀ D, H1 D = none → ∃ W : Nat → Nat → Hp → Prop, (∃ m, W 0 m (upd H1 D (.lst []))) ∧ ∀ i m H, W i m H →
  (J.stop i H ∧ Q (.ref D) H) ∨ (J.go i H ∧ ∃ Nx : Hp → Prop, (∀ H', Nx H' → ∃ m', m' < m ∧ W (i + 1) m' H') ∧ ∀ x H', J.yld i H x H' → g x (wipe σ vs) H' fun σ2 H2 => wipe σ2 vs = wipe σ vs ∧ tt σ2 H2 fun b H3 =>
    if b = true then te σ2 H3 fun y H4 => ∃ acc, H4 D = some (.lst acc) ∧ acc.length < sizeLine ∧ Nx (upd H4 D (.lst (acc ++ [y]))) else Nx H3)) : tLc wi g tt te vs σ H Q := q
theorem sm_mut {p : Addr} {o : HO} (e : Same H H1) (h : H p = none) : Same H (upd H1 p o) := fun a u ha => by
  rw [upd_ne (ne_of_none ha h)]
  exact e a u ha
/-- the list at A holds acc i behind i turns; all that stood before stands -/
def LcP (H1 : Hp) (A : Addr) (acc : Nat → List V) : Nat → Hp → Prop := fun i H => Same H1 H ∧ H A = some (.lst (acc i))
theorem LcP.zero {acc : Nat → List V} (h : H1 A = none) (h0 : acc 0 = []) : LcP H1 A acc 0 (upd H1 A (.lst [])) := ⟨sm_new h, by rw [h0]; exact upd_same⟩
theorem LcP.one {acc : Nat → List V} (P : LcP H1 A acc i H) (e : Same H H4) (hA : H1 A = none) (hl : (acc i).length < 1000000) (hy : acc (i + 1) = acc i ++ [y]) :
    ∃ l, H4 A = some (.lst l) ∧ l.length < sizeLine ∧ LcP H1 A acc (i + 1) (upd H4 A (.lst (l ++ [y]))) :=
  ⟨acc i, e _ _ P.2, Nat.lt_of_lt_of_le hl (by decide), sm_mut (Same.trans P.1 e) hA, by rw [hy]; exact upd_same⟩
theorem LcP.no {acc : Nat → List V} (P : LcP H1 A acc i H) (e : Same H H4) (hy : acc (i + 1) = acc i) : LcP H1 A acc (i + 1) H4 := ⟨Same.trans P.1 e, by rw [hy]; exact e _ _ P.2⟩
end
theorem w_wipe {σ : L2.St} {vs : List Nat} {P : Prop} (h : wipe σ vs = wipe σ vs) (q : P) : wipe σ vs = wipe σ vs ∧ P := ⟨h, q⟩
end Kx
set_option Elab.async false
set_option linter.all false
set_option maxRecDepth 100000
set_option maxHeartbeats 4000000
namespace Kx
open PySem PySem.Spec PyProof.Rows L2
section
variable {K : PySem.W.Frag} {σ : L2.St} {H H' : Hp} {Q : VK} {QA : List V → Hp → Prop} {QO : Option Int → Hp → Prop} {D : Ends} {E : XK} {ta tb tc te to ti tv : TE} {tr : TA} {tl th : TO} {x y v : V} {xs vs : List V} {i j : Int} {n : Nat} {b k : Bool} {s z : Str} {p q a d : Addr}
/-! slices -/
theorem w_slc {r : V → Option Int → Option Int → Hp → VK → Prop} (q : te σ H fun x H1 => tl σ H1 fun l H2 => th σ H2 fun u H3 => r x l u H3 Q) : L2.tSl r te tl th σ H Q := q
theorem w_nop (q : QO none H) : tNoPart σ H QO := q
theorem w_part (q : te σ H fun x H1 => ∃ i, x = .int i ∧ QO (some i) H1) : tPart te σ H QO := q
theorem w_exi {P : Int → Prop} (q : P i) : ∃ j, V.int i = .int j ∧ P j := ⟨i, rfl, q⟩
theorem w_slL {lo hi : Option Int} (h : SqL K H a xs) (q : ∀ p, H p = none → Q (.ref p) (upd H p (.lst (cutV xs lo hi)))) : uSl K (.ref a) lo hi H Q := .inl ⟨a, xs, rfl, h, q⟩
theorem cut_int {ns : List Int} {lo hi : Option Int} : ∃ ms : List Int, cutV (ns.map V.int) lo hi = ms.map V.int ∧ ms.length ≤ ns.length := by
  refine ⟨(ns.drop (HT.sIx (ns.map V.int).length 0 lo)).take (HT.sIx (ns.map V.int).length (ns.map V.int).length hi - HT.sIx (ns.map V.int).length 0 lo), ?_, ?_⟩
  · rw [List.map_take, List.map_drop]; rfl
  · rw [List.length_take, List.length_drop]; omega
/-! an index that is known by its bounds alone -/
theorem at_mem (h0 : 0 ≤ i) (h1 : i < xs.length) : ∃ v, atI xs i = some v ∧ v ∈ xs := by
  have e : ((i.toNat : Nat) : Int) = i := by omega
  have hn : i.toNat < xs.length := by omega
  have h := atI_nat (List.getElem?_eq_getElem hn)
  rw [e] at h
  exact ⟨_, h, List.getElem_mem hn⟩
theorem w_ixl_mem (h : SqL K H p xs) (h0 : 0 ≤ i) (h1 : i < xs.length) (q : ∀ v, v ∈ xs → Q v H) : rIx K (.ref p) (.int i) H Q := by
  obtain ⟨v, e, m⟩ := at_mem h0 h1
  exact .inl ⟨p, xs, i, v, rfl, rfl, h, e, q v m⟩
theorem w_ixlc (h : SqL K H p xs) (g : decide (i ≤ 100000) = true) (e : atI xs i = some v) (q : Q v H) : rIx K (.ref p) (.int i) H Q := w_ixl h e q
theorem w_ixtc (h : SqT K H p xs) (g : decide (i ≤ 100000) = true) (e : atI xs i = some v) (q : Q v H) : rIx K (.ref p) (.int i) H Q := w_ixt h e q
/-! setting an item -/
theorem w_gsub {Q : L2.St → Hp → Prop} {t : TSet} (q : to σ H fun o H1 => ti σ H1 fun i H2 => t o i v H2 fun H3 => Q σ H3) : gSub to ti t v σ H Q := q
theorem w_setl {Q : Hp → Prop} {j : Nat} (h : H p = some (.lst xs)) (e : ixN xs.length i = some j) (q : Q (upd H p (.lst (xs.set j v)))) : rSetL (.ref p) (.int i) v H Q := ⟨p, xs, i, j, rfl, rfl, h, e, q⟩
/-! powers of ten -/
theorem w_pow_9 (q : Q (.int 1000000000) H) : uPow (.int 10) (.int 9) H Q := w_pow_ii (by decide) q
theorem w_pow_12 (q : Q (.int 1000000000000) H) : uPow (.int 10) (.int 12) H Q := w_pow_ii (by decide) q
theorem w_pow_13 (q : Q (.int 10000000000000) H) : uPow (.int 10) (.int 13) H Q := w_pow_ii (by decide) q
theorem w_pow_18 (q : Q (.int 1000000000000000000) H) : uPow (.int 10) (.int 18) H Q := w_pow_ii (by decide) q
theorem w_pow_29 (q : Q (.int 100000000000000000000000000000) H) : uPow (.int 10) (.int 29) H Q := w_pow_ii (by decide) q
theorem w_pow_x (h : -10000000000000000000 < i ∧ i < 10000000000000000000) (h2 : 0 ≤ j ∧ j ≤ 1000000) (q : Q (.int (i ^ j.toNat)) H) : uPow (.int i) (.int j) H Q := w_pow_ii ⟨h2.1, h2.2, by omega⟩ q
theorem w_mod_x (h : 0 < j) (q : ∀ r, 0 ≤ r → r < j → r = i % j → Q (.int r) H) : uMod (.int i) (.int j) H Q := w_mod_ii h (q _ (Int.emod_nonneg _ (by omega)) (Int.emod_lt_of_pos _ h) rfl)
/-! dicts -/
theorem w_dput {te1 te2 te3 : TE} (q : te3 σ H fun v H1 => te1 σ H1 fun x H2 => te2 σ H2 fun y H3 => ∃ a H4, x = .ref a ∧ DPut H3 a y v H4 ∧ D.nx σ H4) : sDPut te1 te2 te3 D σ H := q
theorem w_dputS {P : Hp → Prop} {kvs : List (Key × V)} (h : H a = some (.dK kvs)) (hl : kvs.length ≤ 1000) (q : P (upd H a (.dK (putK kvs (.inr s) v)))) : ∃ a' H4, V.ref a = .ref a' ∧ DPut H a' (.str s) v H4 ∧ P H4 :=
  ⟨a, _, rfl, DPut.k (k := .inr s) h (Nat.lt_of_le_of_lt hl (by decide)), q⟩
theorem w_disp {trs : List (TE × TE)} (q : ∀ p, H p = none → tPairs trs σ (upd H p (.dK [])) fun ps H2 => H2 p = some (.dK []) ∧ ∃ kvs : List (Key × V), ps = kvs.map (fun kv => (kV kv.1, kv.2)) ∧ kvs.length ≤ 15 ∧ Q (.ref p) (upd H2 p (.dK (mergeK [] kvs)))) : tDisp trs σ H Q := q
theorem w_disp1 {ks : Str} (q : ∀ p, H p = none → Q (.ref p) (upd (upd H p (.dK [])) p (.dK [(.inr ks, v)]))) : tDisp [(tC (.str ks), tC v)] σ H Q := fun p hp => ⟨upd_same, [(.inr ks, v)], rfl, by simp, q p hp⟩
/-! try, and what the suite asks of the error that it holds -/
variable {W : WX} {tb : WX → TS} {l : List (Value × Option Nat × (Addr → Value → Option Addr → TS))} {cls c : Value} {o : Option Nat} {ts : Addr → Value → Option Addr → TS} {dd : Option Addr} {C : Addr} {fs : List (Str × V)}
theorem w_try (q : tb (wManyA K W D l) D σ H) : tTryM K W tb l D σ H := q
theorem w_hit (e : PySem.W.exmOne K cls c = some true) (q : ∀ a, H a = none → ts a cls dd (dAs o D) (sAs o σ a) H) : wManyA K W D ((c, o, ts) :: l) cls dd σ H := ⟨true, e, fun _ => q, fun z => (by cases z)⟩
theorem w_miss (e : PySem.W.exmOne K cls c = some false) (q : wManyA K W D l cls dd σ H) : wManyA K W D ((c, o, ts) :: l) cls dd σ H := ⟨false, e, fun z => (by cases z), fun _ => q⟩
theorem w_xg {f : Str} (q : te σ H fun x H1 => x = .ref a ∧ ∃ (C dd : Addr) (fs : List (Str × V)) (v : V), cls = .ref C ∧ XfC K C ∧ PySem.W.findIn K (.ref C) f = some none ∧ some d = some dd ∧ H1 dd = some (.xd fs) ∧ fs.lookup f = some v ∧ Q v H1) : tXg K a cls (some d) f te σ H Q := q
theorem w_xge {f : Str} {P : V → Prop} (T : XfC K C) (hn : PySem.W.findIn K (.ref C) f = some none) (h : H d = some (.xd [(f, v)])) (q : P v) :
    V.ref a = .ref a ∧ ∃ (C' dd : Addr) (fs : List (Str × V)) (v : V), Value.ref C = .ref C' ∧ XfC K C' ∧ PySem.W.findIn K (.ref C') f = some none ∧ some d = some dd ∧ H dd = some (.xd fs) ∧ fs.lookup f = some v ∧ P v :=
  ⟨rfl, C, d, _, v, rfl, T, hn, rfl, h, by simp [List.lookup], q⟩
theorem w_isx {X : Addr} (T : ExcX K C) (e : PySem.W.kitOne K (.ref C) (.ref X) = some b) (h : H d = some (.xd fs)) (q : Q (.bl b) H) : rIsX K (.ref C) (some d) a [.ref a, .ref X] H Q := ⟨C, d, fs, .ref X, .ref X, b, rfl, T, rfl, h, rfl, .own X, e, q⟩
end
/-- the package's errors of these names, as the module lays them -/
structure ExT (K : PySem.W.Frag) (ns : List Str) (base : Str) : Prop where
  ex : ∀ c ∈ ns, ∀ c' ∈ ns, PySem.W.exmOne K (.ref (He.ga K c)) (.ref (He.ga K c')) = some (c == c')
  xf : ∀ c ∈ ns, XfC K (He.ga K c)
  fg : ∀ c ∈ ns, PySem.W.findIn K (.ref (He.ga K c)) "given" = some none
  xx : ∀ c ∈ ns, ExcX K (He.ga K c)
  kd : ∀ c ∈ ns, PySem.W.kitOne K (.ref (He.ga K c)) (.ref (He.ga K base)) = some true
end Kx
set_option Elab.async false
set_option linter.all false
set_option maxRecDepth 100000
set_option maxHeartbeats 4000000
namespace Kx
open PySem PySem.Spec PyProof.Rows L2
section
variable {K : PySem.W.Frag} {σ : L2.St} {H H' : Hp} {Q : VK} {D : Ends} {E : XK} {x y v : V} {xs vs : List V} {i j lo hi : Int} {n : Nat} {b k : Bool} {p q a d : Addr}
theorem w_max2r (q : ∀ r, i ≤ r → j ≤ r → (r = i ∨ r = j) → Q (.int r) H) : uMax [.int i, .int j] H Q := by
  refine w_max2 ?_
  by_cases h : j > i
  · rw [if_pos h]; exact q j (by omega) (by omega) (.inr rfl)
  · rw [if_neg h]; exact q i (by omega) (by omega) (.inl rfl)
theorem w_min2r (q : ∀ r, r ≤ i → r ≤ j → (r = i ∨ r = j) → Q (.int r) H) : uMin [.int i, .int j] H Q := by
  refine w_min2 ?_
  by_cases h : j < i
  · rw [if_pos h]; exact q j (by omega) (by omega) (.inr rfl)
  · rw [if_neg h]; exact q i (by omega) (by omega) (.inl rfl)
/-- an index known by its bounds, into ints known by theirs -/
theorem w_ixl_int (lo hi : Int) (n : Nat) (h : SqL K H p xs) (hn : xs.length = n) (h0 : 0 ≤ i) (h1 : i < n) (hr : ∀ v ∈ xs, ∃ j, v = .int j ∧ lo ≤ j ∧ j ≤ hi) (q : ∀ j, lo ≤ j → j ≤ hi → Q (.int j) H) : rIx K (.ref p) (.int i) H Q :=
  w_ixl_mem h h0 (by rw [hn]; exact h1) fun v hv => by
    obtain ⟨j, rfl, j0, j1⟩ := hr v hv
    exact q j j0 j1
/-- .. into any values -/
theorem w_ixl_v (n : Nat) (h : SqL K H p xs) (hn : xs.length = n) (h0 : 0 ≤ i) (h1 : i < n) (q : ∀ v ∈ xs, Q v H) : rIx K (.ref p) (.int i) H Q := w_ixl_mem h h0 (by rw [hn]; exact h1) q
theorem rg_nil : ∀ v ∈ ([] : List V), ∃ j, v = .int j ∧ lo ≤ j ∧ j ≤ hi := fun _ h => by cases h
theorem rg_cons (h0 : lo ≤ i) (h1 : i ≤ hi) (h : ∀ v ∈ xs, ∃ j, v = .int j ∧ lo ≤ j ∧ j ≤ hi) : ∀ v ∈ V.int i :: xs, ∃ j, v = .int j ∧ lo ≤ j ∧ j ≤ hi := fun v hv => by
  rcases List.mem_cons.mp hv with rfl | hv
  · exact ⟨i, rfl, h0, h1⟩
  · exact h v hv
theorem fm_nil {P : V → Prop} : ∀ v ∈ ([] : List V), P v := fun _ h => by cases h
theorem fm_cons {P : V → Prop} (h : P x) (r : ∀ v ∈ xs, P v) : ∀ v ∈ x :: xs, P v := fun v hv => by
  rcases List.mem_cons.mp hv with rfl | hv
  · exact h
  · exact r v hv
theorem upd_upd {o o' : HO} : upd (upd H p o) p o' = upd H p o' := by
  funext a
  by_cases e : a = p
  · subst e; rw [upd_same, upd_same]
  · rw [upd_ne e, upd_ne e, upd_ne e]
theorem w_disp1n {ks : Str} (q : ∀ p, H p = none → Q (.ref p) (upd H p (.dK [(.inr ks, v)]))) : tDisp [(tC (.str ks), tC v)] σ H Q := w_disp1 fun p hp => by rw [upd_upd]; exact q p hp
/-! making an object, the heap behind it with a name of its own -/
def kTup (Q : VK) (xs : List V) (H : Hp) : Prop := xs.length ≤ sizeLine ∧ ∀ p, H p = none → Q (.ref p) (upd H p (.tup xs))
def kLst (Q : VK) (xs : List V) (H : Hp) : Prop := xs.length ≤ sizeLine ∧ ∀ p, H p = none → Q (.ref p) (upd H p (.lst xs))
theorem n_tup {tr : TA} (q : tr σ H (kTup Q)) : tTup tr σ H Q := q
theorem n_lst {tr : TA} (q : tr σ H (kLst Q)) : tLst tr σ H Q := q
theorem n_ktup (h : Nat.ble xs.length 1000 = true) (q : ∀ p H', H p = none → Same H H' → H' p = some (.tup xs) → Q (.ref p) H') : kTup Q xs H := ⟨Nat.le_trans (Nat.le_of_ble_eq_true h) (by decide), fun p hp => q p _ hp (sm_new hp) upd_same⟩
theorem n_klst (h : Nat.ble xs.length 1000 = true) (q : ∀ p H', H p = none → Same H H' → H' p = some (.lst xs) → Q (.ref p) H') : kLst Q xs H := ⟨Nat.le_trans (Nat.le_of_ble_eq_true h) (by decide), fun p hp => q p _ hp (sm_new hp) upd_same⟩
theorem n_add_ll (h1 : H p = some (.lst xs)) (h2 : H a = some (.lst vs)) (hn : Nat.ble (xs.length + vs.length) 1000 = true) (q : ∀ p H', H p = none → Same H H' → H' p = some (.lst (xs ++ vs)) → Q (.ref p) H') : uAdd K (.ref p) (.ref a) H Q :=
  w_add_ll h1 h2 (Nat.le_trans (Nat.le_of_ble_eq_true hn) (by decide)) fun p hp => q p _ hp (sm_new hp) upd_same
theorem n_slL {lo hi : Option Int} (h : SqL K H a xs) (q : ∀ p H', H p = none → Same H H' → H' p = some (.lst (cutV xs lo hi)) → Q (.ref p) H') : uSl K (.ref a) lo hi H Q := w_slL h fun p hp => q p _ hp (sm_new hp) upd_same
theorem n_disp1 {ks : Str} (q : ∀ p H', H p = none → Same H H' → H' p = some (.dK [(.inr ks, v)]) → Q (.ref p) H') : tDisp [(tC (.str ks), tC v)] σ H Q := w_disp1n fun p hp => q p _ hp (sm_new hp) upd_same
/-! an item, the length: by the object that stands there -/
def ixO : HO → Int → Option V
  | .lst xs, i => atI xs i
  | .tup xs, i => atI xs i
  | _, _ => none
theorem n_ix {o : HO} (g : decide (i ≤ 100000) = true) (h : H p = some o) (e : ixO o i = some v) (q : Q v H) : rIx K (.ref p) (.int i) H Q := by
  cases o with
  | lst xs => exact w_ixl (l_of h) e q
  | tup xs => exact w_ixt (t_of h) e q
  | _ => cases e
theorem n_ixl (g : decide (i ≤ 100000) = true) (h : SqL K H p xs) (e : atI xs i = some v) (q : Q v H) : rIx K (.ref p) (.int i) H Q := w_ixl h e q
theorem n_ixt (g : decide (i ≤ 100000) = true) (h : SqT K H p xs) (e : atI xs i = some v) (q : Q v H) : rIx K (.ref p) (.int i) H Q := w_ixt h e q
def lenO : HO → Option Nat
  | .lst xs => some xs.length
  | .tup xs => some xs.length
  | .dK kvs => some kvs.length
  | _ => none
theorem n_len {o : HO} {n : Nat} (h : H p = some o) (e : lenO o = some n) (q : Q (.int (n : Nat)) H) : uLen K [.ref p] H Q := by
  cases o with
  | lst xs => cases e; exact w_len_l (l_of h) q
  | tup xs => cases e; exact w_len_t (t_of h) q
  | dK kvs => cases e; exact w_len_d h q
  | _ => cases e
def itsO : HO → Option (List V)
  | .lst xs => some xs
  | .tup xs => some xs
  | _ => none
theorem n_gsq {Q : L2.St → Hp → Prop} {n : Nat} {gs : TGs} {o : HO} (h : H a = some o) (e : itsO o = some xs) (hn : xs.length = n) (q : gs xs σ H Q) : gSq K n gs (.ref a) σ H Q := by
  cases o with
  | lst xs => cases e; exact w_glst (l_of h) hn q
  | tup xs => cases e; exact w_gtup (t_of h) hn q
  | _ => cases e
theorem n_ne_same (q : Q (.bl false) H) {s : Str} : uNe K (.str s) (.str s) H Q := w_ne_ss (by simpa using q)
theorem n_eq_same (q : Q (.bl true) H) {s : Str} : uEq K (.str s) (.str s) H Q := w_eq_ss (by simpa using q)
theorem bN_le {a b : Nat} (h : Nat.ble a b = true) : a ≤ b := Nat.le_of_ble_eq_true h
end
end Kx
set_option Elab.async false
set_option linter.all false
set_option maxRecDepth 100000
set_option maxHeartbeats 4000000
/-! parallel assignment to any names of the def; list(range(a, b, c)) -/
namespace Kx
open PySem PySem.Spec PyProof.Rows L2
section
variable {X : Cx} {pos : Pos} {ta : TA}
abbrev Fl (X : Cx) (x : Str) : Prop := X.fn x = true ∨ X.env.scope.names.lookup x = some .local
theorem ps_parL {i j : Nat} {x y : Str} {a b : Expr} {px py pt : Pos} {kt k2 pt2} (hc : X.calm = true) (hN : X.N.Nodup) (hi : X.N[i]? = some x) (hj : X.N[j]? = some y) (hij : i ≠ j)
    (hx : Loc X.env.scope x) (hy : Loc X.env.scope y) (fx : Fl X x) (fy : Fl X y) (ha : PA X [a, b] ta)
    (hw : swappedStores [.Tuple [.Name x px, .Name y py] kt pt] (.Tuple [a, b] k2 pt2) X.env = pure (some [x, y]))
    (hs : swapsWithSole [.Tuple [.Name x px, .Name y py] kt pt] (.Tuple [a, b] k2 pt2) pos.line X.env = pure false := by rfl) :
    PS X (.Assign [.Tuple [.Name x px, .Name y py] kt pt] (.Tuple [a, b] k2 pt2) pos) (tPar i j ta) := by
  refine ⟨fun pins s σ H D I h => ?_⟩
  rw [exec_Assign_arm]
  refine wpAny_bind (wpAny_standAt ?_)
  rw [hs]
  refine wpAny_bind (wpAny_pure ?_)
  rw [if_neg (by decide)]
  refine wpAny_bind (Tuple_ (thn (ha.run _ pins s σ H _ I h) fun us s1 ⟨vs, H1, I1, r1, q1⟩ => ?_))
  obtain ⟨v, w, e1, q1⟩ := q1
  subst e1
  obtain ⟨u1, u2, rfl, rv, rw'⟩ : ∃ u1 u2, us = [u1, u2] ∧ RelV v u1 ∧ RelV w u2 := by
    cases r1 with
    | cons p q =>
      cases q with
      | cons p' q' =>
        cases q'
        exact ⟨_, _, rfl, p, p'⟩
  refine wpAny_newObj_type ?_ (by show 2 ≤ sizeLine; decide)
  have I2 : Inv X pins σ H1 { s1 with heap := s1.heap.push { cls := .type "tuple", data := .seq [u1, u2].toArray } } := I1.kept (t' := s1.toks) fun b o e => Heap.get?_push_of_some _ e
  rw [hw]
  refine wpAny_bind (wpAny_pure ?_)
  show wpAny (model X.prog X.w) X.A (do rule "assign.swapped-stores"; let items ← unpackItems (.ref s1.heap.objs.size) 2 none; assignInOrder [fun v => bindName X.env y v, fun v => bindName X.env x v] items.reverse; pure Flow.next) _ _ _
  refine wpAny_bind (wpAny_rule (wpAny_bind (unpackItems_tuple (items := #[u1, u2]) (I.ok.hd hc) (IsTup.new s1.heap _) fun h' hx' => ?_)))
  have I3 := I2.kept (h' := h') (t' := s1.toks) fun b o e => hx' b o (Nat.ne_of_lt (Heap.lt_size e)) e
  show wpAny _ _ (assignInOrder [fun v => bindName X.env y v, fun v => bindName X.env x v] [u2, u1] >>= fun _ => pure Flow.next) _ _ _
  refine wpAny_bind (assignInOrder_cons (wpAny_bindName (store_ok I3 hN hj hy rw' (fun s2 I4 => ?_) fy)))
  refine assignInOrder_cons (wpAny_bindName (store_ok I4 hN hi hx rv (fun s3 I5 => assignInOrder_nil (wpAny_pure ?_)) fx))
  rw [List.set_comm _ _ (Ne.symm hij)] at I5
  exact ⟨_, H1, I5, q1⟩
theorem ps_parL3 {i j l : Nat} {x y z : Str} {a b c : Expr} {px py pz pt pos : Pos} {kt k2 pt2} (hc : X.calm = true) (hN : X.N.Nodup) (hi : X.N[i]? = some x) (hj : X.N[j]? = some y) (hl : X.N[l]? = some z) (hij : i ≠ j) (hil : i ≠ l) (hjl : j ≠ l)
    (hx : Loc X.env.scope x) (hy : Loc X.env.scope y) (hz : Loc X.env.scope z) (fx : Fl X x) (fy : Fl X y) (fz : Fl X z) (ha : PA X [a, b, c] ta)
    (hw : swappedStores [.Tuple [.Name x px, .Name y py, .Name z pz] kt pt] (.Tuple [a, b, c] k2 pt2) X.env = pure (some [x, y, z]))
    (hs : swapsWithSole [.Tuple [.Name x px, .Name y py, .Name z pz] kt pt] (.Tuple [a, b, c] k2 pt2) pos.line X.env = pure false := by rfl) :
    PS X (.Assign [.Tuple [.Name x px, .Name y py, .Name z pz] kt pt] (.Tuple [a, b, c] k2 pt2) pos) (tPar3 i j l ta) := by
  refine ⟨fun pins s σ H D I h => ?_⟩
  rw [exec_Assign_arm]
  refine wpAny_bind (wpAny_standAt ?_)
  rw [hs]
  refine wpAny_bind (wpAny_pure ?_)
  rw [if_neg (by decide)]
  refine wpAny_bind (Tuple_ (thn (ha.run _ pins s σ H _ I h) fun us s1 ⟨vs, H1, I1, r1, q1⟩ => ?_))
  obtain ⟨v1, v2, v3, e1, q1⟩ := q1
  subst e1
  obtain ⟨u1, u2, u3, rfl, r1', r2', r3'⟩ : ∃ u1 u2 u3, us = [u1, u2, u3] ∧ RelV v1 u1 ∧ RelV v2 u2 ∧ RelV v3 u3 := by
    cases r1 with
    | cons p q =>
      cases q with
      | cons p' q' =>
        cases q' with
        | cons p'' q'' =>
          cases q''
          exact ⟨_, _, _, rfl, p, p', p''⟩
  refine wpAny_newObj_type ?_ (by show 3 ≤ sizeLine; decide)
  have I2 : Inv X pins σ H1 { s1 with heap := s1.heap.push { cls := .type "tuple", data := .seq [u1, u2, u3].toArray } } := I1.kept (t' := s1.toks) fun b o e => Heap.get?_push_of_some _ e
  rw [hw]
  refine wpAny_bind (wpAny_pure ?_)
  show wpAny (model X.prog X.w) X.A (do rule "assign.swapped-stores"; let items ← unpackItems (.ref s1.heap.objs.size) 3 none; assignInOrder [fun v => bindName X.env z v, fun v => bindName X.env y v, fun v => bindName X.env x v] items.reverse; pure Flow.next) _ _ _
  refine wpAny_bind (wpAny_rule (wpAny_bind (unpackItems_tuple (items := #[u1, u2, u3]) (I.ok.hd hc) (IsTup.new s1.heap _) fun h' hx' => ?_)))
  have I3 := I2.kept (h' := h') (t' := s1.toks) fun b o e => hx' b o (Nat.ne_of_lt (Heap.lt_size e)) e
  show wpAny _ _ (assignInOrder [fun v => bindName X.env z v, fun v => bindName X.env y v, fun v => bindName X.env x v] [u3, u2, u1] >>= fun _ => pure Flow.next) _ _ _
  refine wpAny_bind (assignInOrder_cons (wpAny_bindName (store_ok I3 hN hl hz r3' (fun s2 I4 => ?_) fz)))
  refine assignInOrder_cons (wpAny_bindName (store_ok I4 hN hj hy r2' (fun s3 I5 => ?_) fy))
  refine assignInOrder_cons (wpAny_bindName (store_ok I5 hN hi hx r1' (fun s4 I6 => assignInOrder_nil (wpAny_pure ?_)) fx))
  rw [List.set_comm _ _ (Ne.symm hjl), List.set_comm _ _ (Ne.symm hil), List.set_comm _ _ (Ne.symm hij)] at I6
  exact ⟨_, H1, I6, q1⟩
/-- the ints of range(a, b, c), n of them -/
def stV (a c : Int) (n : Nat) : List V := (List.range n).map fun (i : Nat) => V.int (a + (i : Int) * c)
def tLstRg3 (ta : TA) : TE := fun σ H Q => ta σ H fun vs H1 => ∃ (a b c : Int) (n : Nat), vs = [.int a, .int b, .int c] ∧ RgC a b c n ∧ n ≤ 1000 ∧ ∀ q, H1 q = none → Q (.ref q) (upd H1 q (.lst (stV a c n)))
theorem pe_listRg3 {a b c : Expr} {p p2 pos pos2 : Pos} (hc : X.calm = true) (hg : Gl X "list") (hm : X.mg "list" = none) (hg2 : Gl X "range") (hm2 : X.mg "range" = none) (ha : PA X [a, b, c] ta)
    (hs : starEach [a, b, c] X.env = (false, eval a X.env) :: starEach [b, c] X.env := by rfl) (hpl : (backTo pos2 (starEach [b, c] X.env)).any (·.1) = false := by rfl)
    (na : starEach [.Call (.Name "range" p2) [a, b, c] [] pos2] X.env = (false, eval (.Call (.Name "range" p2) [a, b, c] [] pos2) X.env) :: starEach [] X.env := by rfl) :
    PE X (.Call (.Name "list" p) [.Call (.Name "range" p2) [a, b, c] [] pos2] [] pos) (tLstRg3 ta) := by
  refine ⟨fun pins s σ H Q I h => ?_⟩
  have he : wpAny (model X.prog X.w) X.A (eval (.Call (.Name "range" p2) [a, b, c] [] pos2) X.env) (fun x s' => ∃ r i j k t u v H' n, x = .ref r ∧ IsRange s'.heap r i j k t u v ∧ Inv X pins σ H' s' ∧ RgC i j k n ∧ n ≤ 1000 ∧ ∀ q, H' q = none → Q (.ref q) (upd H' q (.lst (stV i k n)))) X.xe s := by
    refine Call_ (ld_blt I hg2 hm2 boot_range (PyProof.Rows.callWith_type1 (thn (ha.run pos2 pins s σ H _ I h) fun us s1 ⟨vs, H1, I1, r1, q1⟩ => ?_) hs hpl))
    obtain ⟨i, j, k, n, e, rg, hn, q⟩ := q1
    subst e
    cases r1 with
    | cons r rr =>
      cases rr with
      | cons r' rr =>
        cases rr with
        | cons r'' rr =>
          cases rr
          obtain ⟨t, rfl⟩ := r
          obtain ⟨t', rfl⟩ := r'
          obtain ⟨t'', rfl⟩ := r''
          exact call_range_3 rg.1 ⟨_, i, j, k, _, _, _, H1, n, rfl, IsRange.new _ _ _ _ _ _ _, I1.kept fun b u e => Heap.get?_push_of_some _ e, rg, hn, q⟩ (.inl (PyProof.noPylong_small rg.2.1))
  refine Call_ (ld_blt I hg hm boot_list (PyProof.Rows.callWith_type1 (args_cons (thn he fun x s1 ⟨r, i, j, k, t, u, v, H1, n, ex, hr, I1, rg, hn, q⟩ => args_nil ?_) na) na))
  subst ex
  refine call_list_range (n := n) (I1.ok.hd hc) hr rg.2.2.1 rg.2.2.2 (Nat.le_trans hn (by decide)) fun h' tk acc c' hk e' hi => ?_
  have hv : Vals (stV i k n) acc.toList := by
    have e : acc.toList.length = n := by rw [Array.length_toList]; exact hi.1
    unfold stV
    rw [← e]
    refine vals_of_get acc.toList _ fun j u hj => ?_
    obtain ⟨t, rfl⟩ := hi.2 j u (by rw [← hj, Array.getElem?_toList])
    exact ⟨t, rfl⟩
  refine ⟨.ref s1.heap.objs.size, upd H1 s1.heap.objs.size (.lst (stV i k n)), I1.laid hk (Nat.le_refl _) (show ObjOk X.prog X.w _ _ _ (.lst (stV i k n)) from ⟨?_, acc.toList, c', hv, ?_⟩), rfl, q _ (I1.hok.fresh (Nat.le_refl _))⟩
  · unfold stV
    rw [List.length_map, List.length_range]
    exact Nat.le_trans hn (by decide)
  · rw [Array.toArray_toList]; exact e'
end
end Kx
set_option Elab.async false
set_option linter.all false
set_option maxRecDepth 100000
set_option maxHeartbeats 4000000
/-! own classes: instances made, methods called, by position and by name; what is raised is wished for at the caller's slots -/
namespace Kx
open PySem PySem.Spec PyProof.Rows L2
/-- a method, self ahead -/
structure Km (P : Program) (w : World) (K : PySem.W.Frag) (mg : Str → Option Value) (base : Heap) (k : Nat) (C : Addr) (m : Str) (ps : List Str) (sp : Sp) : Prop where
  ex : ∃ (f : Addr) (fd : FuncData), FnOk P w K mg base (L2.CX P w) k f fd ps sp ∧ Meth K C m f ∧ Cls K C ∧ Binds K fd ps []
/-- .. by keywords alone -/
structure Kmk (P : Program) (w : World) (K : PySem.W.Frag) (mg : Str → Option Value) (base : Heap) (k : Nat) (C : Addr) (m : Str) (ps ks : List Str) (g : {α : Type} → List α → List α) (sp : Sp) : Prop where
  ex : ∃ (f : Addr) (fd : FuncData), FnOk P w K mg base (L2.CX P w) k f fd ps sp ∧ Meth K C m f ∧ Cls K C ∧
    (∀ (s : Shared) (a : Addr) (ws : List Value), K.In s.heap → (g ws).length + 1 = ps.length → BindsTo s fd ⟨[.ref a], ks.zip ws⟩ (ps.zip (.ref a :: g ws))) ∧ ∀ {zs : List V} {ws : List Value}, Vals zs ws → Vals (g zs) (g ws)
/-- a class that may be called -/
structure Kc (P : Program) (w : World) (K : PySem.W.Frag) (mg : Str → Option Value) (base : Heap) (k : Nat) (x : Str) (C : Addr) (ps : List Str) (sp : Sp) : Prop where
  ex : ∃ (f : Addr) (fd : FuncData), FnOk P w K mg base (L2.CX P w) k f fd ps sp ∧ Mk K C f ∧ mg x = some (.ref C) ∧ Binds K fd ps []
structure Kck (P : Program) (w : World) (K : PySem.W.Frag) (mg : Str → Option Value) (base : Heap) (k : Nat) (x : Str) (C : Addr) (ps ks : List Str) (g : {α : Type} → List α → List α) (sp : Sp) : Prop where
  ex : ∃ (f : Addr) (fd : FuncData), FnOk P w K mg base (L2.CX P w) k f fd ps sp ∧ Mk K C f ∧ mg x = some (.ref C) ∧
    (∀ (s : Shared) (a : Addr) (ws : List Value), K.In s.heap → (g ws).length + 1 = ps.length → BindsTo s fd ⟨[.ref a], ks.zip ws⟩ (ps.zip (.ref a :: g ws))) ∧ ∀ {zs : List V} {ws : List Value}, Vals zs ws → Vals (g zs) (g ws)
def tKm (C : Addr) (m : Str) (sp : Sp) (W : WX) (ta : TE) (t : TA) : TE := fun σ H Q => ta σ H fun x H1 => ∃ a dx fs, x = .ref a ∧ H1 a = some (.ins C dx fs) ∧ fs.lookup m = none ∧ t σ H1 fun vs H2 => sp (x :: vs) H2 Q fun cls d H' => W cls d σ H'
def tKmk (C : Addr) (m : Str) (sp : Sp) (g : {α : Type} → List α → List α) (W : WX) (ta : TE) (t : TA) : TE := fun σ H Q => ta σ H fun x H1 => ∃ a dx fs, x = .ref a ∧ H1 a = some (.ins C dx fs) ∧ fs.lookup m = none ∧ t σ H1 fun vs H2 => sp (x :: g vs) H2 Q fun cls d H' => W cls d σ H'
def kMade (C : Addr) (sp : Sp) (vs : List V) (H1 : Hp) (Q : VK) (E : XK) : Prop := ∀ x dx, H1 x = none → H1 dx = none → dx ≠ x → sp (.ref x :: vs) (upd (upd H1 dx (.own x)) x (.ins C dx [])) (fun v H2 => v = .non ∧ Q (.ref x) H2) E
def tKc (C : Addr) (sp : Sp) (W : WX) (t : TA) : TE := fun σ H Q => t σ H fun vs H1 => kMade C sp vs H1 Q fun cls d H' => W cls d σ H'
def tKck (C : Addr) (sp : Sp) (g : {α : Type} → List α → List α) (W : WX) (t : TA) : TE := fun σ H Q => t σ H fun vs H1 => kMade C sp (g vs) H1 Q fun cls d H' => W cls d σ H'
section
variable {X : Cx} {k j : Nat} {C : Addr} {m x : Str} {ps ks : List Str} {sp : Sp} {p pos apos : Pos} {o e : Expr} {es : List Expr} {kws : List Keyword} {t : TA} {ta : TE} {W : WX}
theorem pe_km {pl : Sem Bool} (c : Km X.prog X.w X.K X.mg X.base k C m ps sp) (hr : Room j X.A) (hk : k ≤ j) (tk : Takes X W) (he : PE X o ta) (ha : PA X (e :: es) t)
    (hst : starEach (e :: es) X.env = (false, eval e X.env) :: starEach es X.env := by rfl) (hpl : (backTo pos (starEach es X.env)).any (·.1) = false := by rfl)
    (ht : eval (.Call (.Attribute o m apos) (e :: es) [] pos) X.env = (do
      let ov ← eval o X.env
      standAt apos.atName
      let (f, first) ← holding [ov] (getMethod ov m pl)
      callWith pos f first (backTo pos (starEach (e :: es) X.env)) (backToKw pos (keywordEach [] X.env))) := by rfl) :
    PE X (.Call (.Attribute o m apos) (e :: es) [] pos) (tKm C m sp W ta t) := by
  obtain ⟨f, fd, F, hm, cl, b⟩ := c.ex
  refine ⟨fun pins s σ H Q I h => ?_⟩
  refine PySem.W.methodCall_KW (pl := pl) (thn (he.run pins s σ H _ I h) fun u s1 ⟨x, H1, I1, rx, a, dx, fs, ex, ea, l, q⟩ => ?_) ht
  subst ex
  obtain rfl : u = Value.ref a := rx
  refine getmeth_ok I1 ea cl hm l ?_
  refine PySem.W.callWith_K (first := [.ref a]) (h₀ := X.base) I.ok.mod.kin hm.kp (thn (ha.run pos pins s1 σ H1 _ I1 q) fun us s2 ⟨vs, H2, I2, r, q2⟩ => ⟨I2.kIn, ?_⟩) hst hpl
  exact run_kn (E := WE W) (us := .ref a :: us) (vs := .ref a :: vs) F (hr.mono hk) b (passAt tk σ) I2 (.cons rfl r) q2
theorem pe_km0 {pl : Sem Bool} (c : Km X.prog X.w X.K X.mg X.base k C m ps sp) (hr : Room j X.A) (hk : k ≤ j) (tk : Takes X W) (he : PE X o ta)
    (ht : eval (.Call (.Attribute o m apos) [] [] pos) X.env = (do
      let ov ← eval o X.env
      standAt apos.atName
      let (f, first) ← holding [ov] (getMethod ov m pl)
      callWith pos f first (backTo pos (starEach [] X.env)) (backToKw pos (keywordEach [] X.env))) := by rfl) :
    PE X (.Call (.Attribute o m apos) [] [] pos) (tKm C m sp W ta tNil) := by
  obtain ⟨f, fd, F, hm, cl, b⟩ := c.ex
  refine ⟨fun pins s σ H Q I h => ?_⟩
  refine PySem.W.methodCall_KW (pl := pl) (thn (he.run pins s σ H _ I h) fun u s1 ⟨x, H1, I1, rx, a, dx, fs, ex, ea, l, q⟩ => ?_) ht
  subst ex
  obtain rfl : u = Value.ref a := rx
  refine getmeth_ok I1 ea cl hm l ?_
  exact PySem.W.callWith_K0 (first := [.ref a]) I1.kIn hm.kp (run_kn (E := WE W) (us := [.ref a]) (vs := [.ref a]) F (hr.mono hk) b (passAt tk σ) I1 (.cons rfl .nil) q)
theorem no_takes {σ : L2.St} : PassesAt (L2.CX X.prog X.w) X σ fun _ _ _ => False := fun _ _ _ _ _ _ c => by
  obtain ⟨_, _, _, _, _, _, _, _, _, _, _, _, z⟩ := c
  exact z.elim
/-- .. that raises nothing -/
abbrev W00 : WX := fun _ _ _ _ => False
theorem pe_kmn {pl : Sem Bool} (c : Km X.prog X.w X.K X.mg X.base k C m ps sp) (hr : Room j X.A) (hk : k ≤ j) (he : PE X o ta) (ha : PA X (e :: es) t)
    (hst : starEach (e :: es) X.env = (false, eval e X.env) :: starEach es X.env := by rfl) (hpl : (backTo pos (starEach es X.env)).any (·.1) = false := by rfl)
    (ht : eval (.Call (.Attribute o m apos) (e :: es) [] pos) X.env = (do
      let ov ← eval o X.env
      standAt apos.atName
      let (f, first) ← holding [ov] (getMethod ov m pl)
      callWith pos f first (backTo pos (starEach (e :: es) X.env)) (backToKw pos (keywordEach [] X.env))) := by rfl) :
    PE X (.Call (.Attribute o m apos) (e :: es) [] pos) (tKm C m sp W00 ta t) := by
  obtain ⟨f, fd, F, hm, cl, b⟩ := c.ex
  refine ⟨fun pins s σ H Q I h => ?_⟩
  refine PySem.W.methodCall_KW (pl := pl) (thn (he.run pins s σ H _ I h) fun u s1 ⟨x, H1, I1, rx, a, dx, fs, ex, ea, l, q⟩ => ?_) ht
  subst ex
  obtain rfl : u = Value.ref a := rx
  refine getmeth_ok I1 ea cl hm l ?_
  refine PySem.W.callWith_K (first := [.ref a]) (h₀ := X.base) I.ok.mod.kin hm.kp (thn (ha.run pos pins s1 σ H1 _ I1 q) fun us s2 ⟨vs, H2, I2, r, q2⟩ => ⟨I2.kIn, ?_⟩) hst hpl
  exact run_kn (E := fun _ => E00) (us := .ref a :: us) (vs := .ref a :: vs) F (hr.mono hk) b no_pass I2 (.cons rfl r) q2
theorem pe_kmn0 {pl : Sem Bool} (c : Km X.prog X.w X.K X.mg X.base k C m ps sp) (hr : Room j X.A) (hk : k ≤ j) (he : PE X o ta)
    (ht : eval (.Call (.Attribute o m apos) [] [] pos) X.env = (do
      let ov ← eval o X.env
      standAt apos.atName
      let (f, first) ← holding [ov] (getMethod ov m pl)
      callWith pos f first (backTo pos (starEach [] X.env)) (backToKw pos (keywordEach [] X.env))) := by rfl) :
    PE X (.Call (.Attribute o m apos) [] [] pos) (tKm C m sp W00 ta tNil) := by
  obtain ⟨f, fd, F, hm, cl, b⟩ := c.ex
  refine ⟨fun pins s σ H Q I h => ?_⟩
  refine PySem.W.methodCall_KW (pl := pl) (thn (he.run pins s σ H _ I h) fun u s1 ⟨x, H1, I1, rx, a, dx, fs, ex, ea, l, q⟩ => ?_) ht
  subst ex
  obtain rfl : u = Value.ref a := rx
  refine getmeth_ok I1 ea cl hm l ?_
  exact PySem.W.callWith_K0 (first := [.ref a]) I1.kIn hm.kp (run_kn (E := fun _ => E00) (us := [.ref a]) (vs := [.ref a]) F (hr.mono hk) b no_pass I1 (.cons rfl .nil) q)
theorem pe_kmk {g : {α : Type} → List α → List α} {pl : Sem Bool} (c : Kmk X.prog X.w X.K X.mg X.base k C m ps ks g sp) (hr : Room j X.A) (hk : k ≤ j) (tk : Takes X W) (he : PE X o ta) (hkw : PK X kws t)
    (hall : (backToKw pos (keywordEach kws X.env)).all (·.1.isSome) = true := by rfl) (hks : (backToKw pos (keywordEach kws X.env)).filterMap (·.1) = ks := by rfl)
    (hpl : ((backTo pos (starEach [] X.env)).any (·.1) || (backToKw pos (keywordEach kws X.env)).any (·.1.isNone)) = false := by rfl)
    (ht : eval (.Call (.Attribute o m apos) [] kws pos) X.env = (do
      let ov ← eval o X.env
      standAt apos.atName
      let (f, first) ← holding [ov] (getMethod ov m pl)
      callWith pos f first (backTo pos (starEach [] X.env)) (backToKw pos (keywordEach kws X.env))) := by rfl) :
    PE X (.Call (.Attribute o m apos) [] kws pos) (tKmk C m sp g W ta t) := by
  obtain ⟨f, fd, F, hm, cl, b, rel⟩ := c.ex
  refine ⟨fun pins s σ H Q I h => ?_⟩
  refine PySem.W.methodCall_KW (pl := pl) (thn (he.run pins s σ H _ I h) fun u s1 ⟨x, H1, I1, rx, a, dx, fs, ex, ea, l, q⟩ => ?_) ht
  subst ex
  obtain rfl : u = Value.ref a := rx
  refine getmeth_ok I1 ea cl hm l ?_
  refine PySem.W.callWith_KW0 (first := [.ref a]) (h₀ := X.base) I.ok.mod.kin hm.kp hall ?_ hpl
  refine thn (hkw.run pos pins s1 σ H1 _ I1 q) fun ws s2 ⟨zs, H2, I2, rz, q2⟩ => ⟨I2.kIn, ?_⟩
  rw [hks]
  have r2 : Vals (V.ref a :: g zs) (Value.ref a :: g ws) := .cons rfl (rel rz)
  have hl : (g ws).length + 1 = ps.length := by
    have := r2.length
    rw [F.len _ _ _ _ q2] at this
    exact this.symm
  refine wpAny_call (codeAny_mono (F.run X.A X.stack s2 H2 ⟨[.ref a], ks.zip ws⟩ (.ref a :: g ws) (.ref a :: g zs) Q (WE W σ) (hr.mono hk) I2.env0 (b s2 a ws I2.kIn hl) r2 q2) fun r s' hq => ?_)
  cases r with
  | error e => exact passAt tk σ pins H2 s2 e s' I2 hq
  | ok fl =>
    cases fl with
    | ret u => exact I2.after hq
    | next => exact False.elim hq
    | brk => exact False.elim hq
    | cont => exact False.elim hq
theorem run_kc {E : L2.St → XK} {f : Addr} {fd : FuncData} {pins : List (Addr × Obj)} {σ : L2.St} {H : Hp} {s : Shared} {Q : VK} {us its : List Value} {kvs : List (Str × Value)} {vs : List V} (M : Mk X.K C f) (F : FnOk X.prog X.w X.K X.mg X.base (L2.CX X.prog X.w) k f fd ps sp) (hr : Room (k + 1) X.A)
    (hb : ∀ a : Addr, (Value.ref a :: its).length = ps.length → BindsTo { s with heap := (s.heap.push PySem.W.emptyDict).push (PySem.W.instObj C s.heap.objs.size) } fd ⟨Value.ref a :: us, kvs⟩ (ps.zip (.ref a :: its)))
    (hx : PassesAt (L2.CX X.prog X.w) X σ (E σ)) (I : Inv X pins σ H s) (r : Vals vs its) (h : kMade C sp vs H Q (E σ)) :
    wpAny (model X.prog X.w) X.A (call (.ref C) us kvs) (EP X pins σ Q) X.xe s := by
  have hq := h (s.heap.objs.size + 1) s.heap.objs.size (I.hok.fresh (Nat.le_succ _)) (I.hok.fresh (Nat.le_refl _)) (Nat.ne_of_lt (Nat.lt_succ_self _))
  have I2 := Inv.made (C := C) I
  have r2 : Vals (V.ref (s.heap.objs.size + 1) :: vs) (Value.ref (s.heap.objs.size + 1) :: its) := .cons rfl r
  have hl : (Value.ref (s.heap.objs.size + 1) :: its).length = ps.length := by
    have e := r2.length
    rw [F.len _ _ _ _ hq] at e
    exact e.symm
  refine wpAny_call (make_map (f := f) I.kIn M.makes M.init (beq_iff_eq.mp M.fn) (codeAny_mono (F.run _ X.stack _ _ ⟨Value.ref (s.heap.objs.size + 1) :: us, kvs⟩ (Value.ref (s.heap.objs.size + 1) :: its) _ _ (E σ) (hr.make C us kvs)
    (I2.env0.make C us kvs) (hb _ hl) r2 hq) fun r s' hq' => ?_))
  cases r with
  | error e => exact hx pins _ _ e s' I2 hq'
  | ok fl =>
    cases fl with
    | ret u =>
      obtain ⟨v, H', I3, rv, ev, q3⟩ := I2.after hq'
      subst ev
      exact ⟨rv, ⟨V.ref (s.heap.objs.size + 1), H', I3, rfl, q3⟩⟩
    | next => exact False.elim hq'
    | brk => exact False.elim hq'
    | cont => exact False.elim hq'
theorem pe_kc (c : Kc X.prog X.w X.K X.mg X.base k x C ps sp) (hr : Room j X.A) (hk : k + 1 ≤ j) (tk : Takes X W) (hg : Gl X x) (ha : PA X (e :: es) t)
    (hdb : (x == ("__debug__" : Str)) = false := by decide) (he : starEach (e :: es) X.env = (false, eval e X.env) :: starEach es X.env := by rfl) (hpl : (backTo pos (starEach es X.env)).any (·.1) = false := by rfl) :
    PE X (.Call (.Name x p) (e :: es) [] pos) (tKc C sp W t) := by
  obtain ⟨f, fd, F, M, hm, b⟩ := c.ex
  refine ⟨fun pins s σ H Q I h => ?_⟩
  refine wpAny_Call_Name_kw (ld_glob I hg hm ?_ hdb)
  refine PySem.W.callWith_K (h₀ := X.base) I.ok.mod.kin M.kp (thn (ha.run pos pins s σ H _ I h) fun us s1 ⟨vs, H1, I1, r, q⟩ => ⟨I1.kIn, ?_⟩) he hpl
  refine run_kc (E := WE W) (its := us) M F (hr.mono hk) (fun a hl => ?_) (passAt tk σ) I1 r q
  have := b _ (.ref a :: us) (Inv.made (C := C) I1).kIn (by rw [List.append_nil]; exact hl)
  rw [List.append_nil] at this
  exact this
theorem pe_kcn (c : Kc X.prog X.w X.K X.mg X.base k x C ps sp) (hr : Room j X.A) (hk : k + 1 ≤ j) (hg : Gl X x) (ha : PA X (e :: es) t)
    (hdb : (x == ("__debug__" : Str)) = false := by decide) (he : starEach (e :: es) X.env = (false, eval e X.env) :: starEach es X.env := by rfl) (hpl : (backTo pos (starEach es X.env)).any (·.1) = false := by rfl) :
    PE X (.Call (.Name x p) (e :: es) [] pos) (tKc C sp W00 t) := by
  obtain ⟨f, fd, F, M, hm, b⟩ := c.ex
  refine ⟨fun pins s σ H Q I h => ?_⟩
  refine wpAny_Call_Name_kw (ld_glob I hg hm ?_ hdb)
  refine PySem.W.callWith_K (h₀ := X.base) I.ok.mod.kin M.kp (thn (ha.run pos pins s σ H _ I h) fun us s1 ⟨vs, H1, I1, r, q⟩ => ⟨I1.kIn, ?_⟩) he hpl
  refine run_kc (E := fun _ => E00) (its := us) M F (hr.mono hk) (fun a hl => ?_) no_pass I1 r q
  have := b _ (.ref a :: us) (Inv.made (C := C) I1).kIn (by rw [List.append_nil]; exact hl)
  rw [List.append_nil] at this
  exact this
theorem pe_kck {g : {α : Type} → List α → List α} (c : Kck X.prog X.w X.K X.mg X.base k x C ps ks g sp) (hr : Room j X.A) (hk : k + 1 ≤ j) (tk : Takes X W) (hg : Gl X x) (hkw : PK X kws t)
    (hall : (backToKw pos (keywordEach kws X.env)).all (·.1.isSome) = true := by rfl) (hks : (backToKw pos (keywordEach kws X.env)).filterMap (·.1) = ks := by rfl) (hdb : (x == ("__debug__" : Str)) = false := by decide)
    (hpl : ((backTo pos (starEach [] X.env)).any (·.1) || (backToKw pos (keywordEach kws X.env)).any (·.1.isNone)) = false := by rfl) :
    PE X (.Call (.Name x p) [] kws pos) (tKck C sp g W t) := by
  obtain ⟨f, fd, F, M, hm, b, rel⟩ := c.ex
  refine ⟨fun pins s σ H Q I h => ?_⟩
  refine wpAny_Call_Name_kw (ld_glob I hg hm ?_ hdb)
  refine PySem.W.callWith_KW0 (h₀ := X.base) I.ok.mod.kin M.kp hall ?_ hpl
  refine thn (hkw.run pos pins s σ H _ I h) fun ws s2 ⟨zs, H2, I2, rz, q2⟩ => ⟨I2.kIn, ?_⟩
  rw [hks]
  refine run_kc (E := WE W) (its := g ws) M F (hr.mono hk) (fun a hl => ?_) (passAt tk σ) I2 (rel rz) q2
  exact b _ a ws (Inv.made (C := C) I2).kIn (by simpa using hl)
end
/-! step lemmas -/
section
variable {K : PySem.W.Frag} {σ : L2.St} {H : Hp} {Q : VK} {D : Ends} {ta tv : TE} {t : TA} {sp : Sp} {W : WX} {C a dx : Addr} {m f : Str} {fs : List (Str × V)} {v x : V} {E : XK} {vs : List V}
theorem w_km (q : ta σ H fun x H1 => ∃ a dx fs, x = .ref a ∧ H1 a = some (.ins C dx fs) ∧ fs.lookup m = none ∧ t σ H1 fun vs H2 => sp (x :: vs) H2 Q fun cls d H' => W cls d σ H') : tKm C m sp W ta t σ H Q := q
theorem w_kmk {g : {α : Type} → List α → List α} (q : ta σ H fun x H1 => ∃ a dx fs, x = .ref a ∧ H1 a = some (.ins C dx fs) ∧ fs.lookup m = none ∧ t σ H1 fun vs H2 => sp (x :: g vs) H2 Q fun cls d H' => W cls d σ H') : tKmk C m sp g W ta t σ H Q := q
theorem w_kme {P : V → Prop} (h : H a = some (.ins C dx fs)) (l : fs.lookup m = none) (q : P (.ref a)) : ∃ a' dx' fs', V.ref a = .ref a' ∧ H a' = some (.ins C dx' fs') ∧ fs'.lookup m = none ∧ P (.ref a) := ⟨a, dx, fs, rfl, h, l, q⟩
theorem w_kc (q : t σ H fun vs H1 => kMade C sp vs H1 Q fun cls d H' => W cls d σ H') : tKc C sp W t σ H Q := q
theorem w_kck {g : {α : Type} → List α → List α} (q : t σ H fun vs H1 => kMade C sp (g vs) H1 Q fun cls d H' => W cls d σ H') : tKck C sp g W t σ H Q := q
theorem w_kmade (q : ∀ x dx H1, H x = none → H dx = none → dx ≠ x → Same H H1 → H1 x = some (.ins C dx []) → H1 dx = some (.own x) → sp (.ref x :: vs) H1 (fun v H2 => v = .non ∧ Q (.ref x) H2) E) : kMade C sp vs H Q E := fun x dx hx hd ne =>
  q x dx _ hx hd ne (Same.trans (sm_new hd) (sm_new (by rw [upd_ne (Ne.symm ne)]; exact hx))) upd_same (by rw [upd_ne ne]; exact upd_same)
theorem w_fld (q : ta σ H fun x H1 => ∃ a C dx fs v, x = .ref a ∧ H1 a = some (.ins C dx fs) ∧ Cls K C ∧ NoAttr K C f ∧ fs.lookup f = some v ∧ Q v H1) : tFld K ta f σ H Q := q
theorem w_flde {P : V → Prop} (cl : Cls K C) (na : NoAttr K C f) (h : H a = some (.ins C dx fs)) (l : fs.lookup f = some v) (q : P v) :
    ∃ a' C' dx' fs' v', V.ref a = .ref a' ∧ H a' = some (.ins C' dx' fs') ∧ Cls K C' ∧ NoAttr K C' f ∧ fs'.lookup f = some v' ∧ P v' := ⟨a, C, dx, fs, v, rfl, h, cl, na, l, q⟩
end
end Kx
set_option Elab.async false
set_option linter.all false
set_option maxRecDepth 100000
set_option maxHeartbeats 4000000
/-! dicts by values, beside sequences: in, [], a store -/
namespace Kx
open PySem PySem.Spec PyProof.Rows L2
def rInK : R2 := fun y x H Q => ∃ a o, x = .ref a ∧ DGet H a y o ∧ Q (.bl o.isSome) H
def rNinK : R2 := fun y x H Q => ∃ a o, x = .ref a ∧ DGet H a y o ∧ Q (.bl (!o.isSome)) H
def rIxK : R2 := fun x y H Q => ∃ a v, x = .ref a ∧ DGet H a y (some v) ∧ Q v H
def rSetK : TSet := fun o i v H Q => ∃ a H', o = .ref a ∧ DPut H a i v H' ∧ Q H'
def uInX (K : PySem.W.Frag) : R2 := fun x y H Q => uIn K x y H Q ∨ rInK x y H Q
def uNinX (K : PySem.W.Frag) : R2 := fun x y H Q => uNin K x y H Q ∨ rNinK x y H Q
def uIx (K : PySem.W.Frag) : R2 := fun x y H Q => rIx K x y H Q ∨ rIxK x y H Q
def rSetX : TSet := fun o i v H Q => rSetL o i v H Q ∨ rSetK o i v H Q
section
variable {X : Cx}
theorem op_inK (hu : X.A.units + 1 < cLine) : OpR X (compareOp .In) rInK := by
  intro pins s σ H y x u v Q I ry rx h
  obtain ⟨a, o, rfl, g, q⟩ := h
  obtain rfl : v = Value.ref a := rx
  exact d_in hu I g ry fun s3 I3 => ⟨.bl o.isSome, H, I3, rfl, q⟩
theorem op_ninK (hu : X.A.units + 1 < cLine) : OpR X (compareOp .NotIn) rNinK := by
  intro pins s σ H y x u v Q I ry rx h
  obtain ⟨a, o, rfl, g, q⟩ := h
  obtain rfl : v = Value.ref a := rx
  exact d_notIn hu I g ry fun s3 I3 => ⟨.bl (!o.isSome), H, I3, rfl, q⟩
theorem u_inX (hu : X.A.units + 65 < cLine) : OpR X (compareOp .In) (uInX X.K) := (u_in hu).or (op_inK (by omega))
theorem u_ninX (hu : X.A.units + 65 < cLine) : OpR X (compareOp .NotIn) (uNinX X.K) := (u_nin hu).or (op_ninK (by omega))
theorem ix_dk (hu : X.A.units + 1 < cLine) : IxR X rIxK := by
  intro value slice pins s σ H x y v u Q I rx ry h hs
  obtain ⟨a, z, rfl, g, q⟩ := h
  obtain rfl : v = Value.ref a := rx
  have hT := dict_typeIs I g
  have hl := PySem.F.slot_dict_getitem.lookup
  have h2 : wpAny (model X.prog X.w) X.A (getItem (.ref a) u) (EP X pins σ Q) X.xe s := d_getItem hu I g ry fun w' s3 I3 rw' => ⟨z, H, I3, rw', q⟩
  unfold subscriptTail
  refine wpAny_bind ?_
  rw [getitemInPython_of_ne hT.not_modules]
  refine wpAny_bind (wpAny_specialOf hT hl ?_)
  have fin : wpAny (model X.prog X.w) X.A (subscripted slice false (.ref a) u) (fun r s₃ => wpAny (model X.prog X.w) X.A (letTemporaryGo value (.ref a) r >>= fun _ => pure r) (EP X pins σ Q) X.xe s₃) X.xe s := by
    rw [hs]
    exact wpAny_operating (wpAny_mono h2 (fun r s₃ h₃ => wpAny_bind (wpAny_letTemporaryGo (wpAny_pure h₃))) fun _ _ x => x)
  first
    | exact wpAny_pure (wpAny_bind fin)
    | exact wpAny_bind (wpAny_pure (wpAny_bind fin))
    | exact wpAny_bind fin
theorem ixr_or {r r' : R2} (h : IxR X r) (h' : IxR X r') : IxR X (fun x y H Q => r x y H Q ∨ r' x y H Q) := by
  intro value slice pins s σ H x y v u Q I rx ry q hs
  rcases q with q | q
  · exact h value slice pins s σ H x y v u Q I rx ry q hs
  · exact h' value slice pins s σ H x y v u Q I rx ry q hs
theorem u_ix (hu : X.A.units + 1 < cLine) : IxR X (uIx X.K) := ixr_or ix_seq (ix_dk hu)
theorem set_dk (hu : X.A.units + 1 < cLine) : PSet X rSetK := by
  intro pins s σ H o i v ov iv u Q I ro ri rv h
  obtain ⟨a, H', rfl, g, q⟩ := h
  obtain rfl : ov = Value.ref a := ro
  exact d_setItem hu I g ri rv fun s4 I4 => ⟨H', I4, q⟩
theorem set_X (hu : X.A.units + 1 < cLine) : PSet X rSetX := by
  intro pins s σ H o i v ov iv u Q I ro ri rv h
  rcases h with h | h
  · exact set_list pins s σ H o i v ov iv u Q I ro ri rv h
  · exact set_dk hu pins s σ H o i v ov iv u Q I ro ri rv h
end
end Kx
set_option Elab.async false
set_option linter.all false
set_option maxRecDepth 100000
set_option maxHeartbeats 4000000
namespace L2
open PySem PySem.Spec PyProof.Rows
/-! several except clauses, each of one class or of a tuple of classes, with a name or without -/
/-- what a clause's test answers: whether the error is one of these classes -/
def Tst (X : Cx) (e : Expr) (cs : List Value) : Prop := ∀ (a : Addr) (oe : Obj) (pn : List (Addr × Obj)) (σ : St) (H : Hp) (s : Shared) (cls : Value) (b : Bool) (Q : Bool → Shared → Prop) (E : Value → Shared → Prop),
  Inv (X.suite a ((a, oe) :: pn)) [] σ H s → PySem.W.Looks (model X.prog X.w) s.heap (typeOf (.ref a)) cls → PySem.W.exmAny X.K cls cs = some b →
  (∀ h', (∀ q o, s.heap.get? q = some o → h'.get? q = some o) → Q b { s with heap := h' }) →
  wpAny (model X.prog X.w) (X.A.mark (some (.ref a))) (eval e X.env) (fun c s1 => wpAny (model X.prog X.w) (X.A.mark (some (.ref a))) (excMatches (.ref a) c) Q E s1) E s
section
variable {X : Cx} {x x1 x2 x3 x4 : Str} {c c1 c2 c3 c4 : Value} {np p1 p2 p3 p4 tpos : Pos} {kk : Nat}
theorem nm_ok {a : Addr} {oe : Obj} {pn : List (Addr × Obj)} {σ : St} {H : Hp} {s : Shared} {Q : Value → Shared → Prop} {E : Value → Shared → Prop} (hc : Names X x c) (S3 : Inv (X.suite a ((a, oe) :: pn)) [] σ H s) (q : Q c s) :
    wpAny (model X.prog X.w) (X.A.mark (some (.ref a))) (eval (.Name x np) X.env) Q E s := by
  obtain ⟨hg, hdbg, hm | ⟨hm, hv, hnn⟩⟩ := hc
  · exact ld_glob (X := X.suite a ((a, oe) :: pn)) S3 hg hm q hdbg
  · exact ld_blt (X := X.suite a ((a, oe) :: pn)) S3 hg hm hv q hnn hdbg
theorem exmAny_one {K : PySem.W.Frag} {cls c : Value} {b : Bool} (h : PySem.W.exmAny K cls [c] = some b) : PySem.W.exmOne K cls c = some b := by
  obtain ⟨b1, d1, h1, h2, rfl⟩ := PySem.W.exmAny_cons h
  cases (show some false = some d1 from h2)
  rw [Bool.or_false]
  exact h1
theorem tst1 (hc : Names X x c) : Tst X (.Name x np) [c] := fun a oe pn σ H s cls b Q E I LT he q =>
  nm_ok hc I ((PySem.W.exm_one (M := model X.prog X.w) I.kIn LT (exmAny_one he)).here (q s.heap fun _ _ z => z))
theorem tst2 (h1 : Names X x1 c1) (h2 : Names X x2 c2) : Tst X (.Tuple [.Name x1 p1, .Name x2 p2] kk tpos) [c1, c2] := fun a oe pn σ H s cls b Q E I LT he q => by
  refine wpAny_Tuple ?_
  refine wpAny_items_cons (nm_ok h1 I ?_)
  refine wpAny_items_cons (nm_ok h2 I ?_)
  refine wpAny_items_nil ⟨by size_fits, ?_⟩
  have kp : ∀ q o, s.heap.get? q = some o → (s.heap.push { cls := .type "tuple", data := .seq [c1, c2].toArray }).get? q = some o := fun _ _ z => Heap.get?_push_of_some _ z
  exact (PySem.W.exm_tup2 (PySem.W.Frag.In.keeps I.kIn kp) (LT.keeps kp) (Heap.get?_push_size s.heap rfl) he).here (q _ kp)
theorem tst3 (h1 : Names X x1 c1) (h2 : Names X x2 c2) (h3 : Names X x3 c3) : Tst X (.Tuple [.Name x1 p1, .Name x2 p2, .Name x3 p3] kk tpos) [c1, c2, c3] := fun a oe pn σ H s cls b Q E I LT he q => by
  refine wpAny_Tuple ?_
  refine wpAny_items_cons (nm_ok h1 I ?_)
  refine wpAny_items_cons (nm_ok h2 I ?_)
  refine wpAny_items_cons (nm_ok h3 I ?_)
  refine wpAny_items_nil ⟨by size_fits, ?_⟩
  have kp : ∀ q o, s.heap.get? q = some o → (s.heap.push { cls := .type "tuple", data := .seq [c1, c2, c3].toArray }).get? q = some o := fun _ _ z => Heap.get?_push_of_some _ z
  exact (PySem.W.exm_tup3 (PySem.W.Frag.In.keeps I.kIn kp) (LT.keeps kp) (Heap.get?_push_size s.heap rfl) he).here (q _ kp)
theorem tst4 (h1 : Names X x1 c1) (h2 : Names X x2 c2) (h3 : Names X x3 c3) (h4 : Names X x4 c4) : Tst X (.Tuple [.Name x1 p1, .Name x2 p2, .Name x3 p3, .Name x4 p4] kk tpos) [c1, c2, c3, c4] := fun a oe pn σ H s cls b Q E I LT he q => by
  refine wpAny_Tuple ?_
  refine wpAny_items_cons (nm_ok h1 I ?_)
  refine wpAny_items_cons (nm_ok h2 I ?_)
  refine wpAny_items_cons (nm_ok h3 I ?_)
  refine wpAny_items_cons (nm_ok h4 I ?_)
  refine wpAny_items_nil ⟨by size_fits, ?_⟩
  have kp : ∀ q o, s.heap.get? q = some o → (s.heap.push { cls := .type "tuple", data := .seq [c1, c2, c3, c4].toArray }).get? q = some o := fun _ _ z => Heap.get?_push_of_some _ z
  exact (PySem.W.exm_tup4 (PySem.W.Frag.In.keeps I.kIn kp) (LT.keeps kp) (Heap.get?_push_size s.heap rfl) he).here (q _ kp)
end
abbrev Cl := List Value × Option Nat × (Addr → Value → Option Addr → TS)
def wManyB (K : PySem.W.Frag) (Wout : WX) (D : Ends) : List Cl → WX
  | [] => Wout
  | (cs, o, ts) :: r => fun cls d σ H => ∃ b, PySem.W.exmAny K cls cs = some b ∧ (b = true → ∀ a, H a = none → ts a cls d (dAs o D) (sAs o σ a) H) ∧ (b = false → wManyB K Wout D r cls d σ H)
inductive HdsB (X : Cx) : List ExceptHandler → List Cl → Prop
  | nil : HdsB X [] []
  | bare {e : Expr} {cs : List Value} {ts : Addr → Value → Option Addr → TS} {b₀ : Stmt} {suite : List Stmt} {pos' : Pos} {hds : List ExceptHandler} {l : List Cl} (hc : Tst X e cs) 
      (hsu : ∀ (a : Addr) (oe : Obj) (cls : Value) (d : Option Addr) (pn : List (Addr × Obj)), Zc cls d oe → (∃ vs, oe.data = .fields vs) → PSs (X.suite a ((a, oe) :: pn)) (b₀ :: suite) (ts a cls d)) (r : HdsB X hds l) :
      HdsB X (.ExceptHandler (some e) none (b₀ :: suite) pos' :: hds) ((cs, none, ts) :: l)
  | named {e : Expr} {n : Str} {cs : List Value} {i : Nat} {ts : Addr → Value → Option Addr → TS} {b₀ : Stmt} {suite : List Stmt} {pos' : Pos} {hds : List ExceptHandler} {l : List Cl} (hN : X.N.Nodup) (hi : X.N[i]? = some n) (hln : X.env.kindOf n = some .local) (hc : Tst X e cs) 
      (hsu : ∀ (a : Addr) (oe : Obj) (cls : Value) (d : Option Addr) (pn : List (Addr × Obj)), Zc cls d oe → (∃ vs, oe.data = .fields vs) → PSs (X.suite a ((a, oe) :: pn)) (b₀ :: suite) (ts a cls d)) (r : HdsB X hds l) :
      HdsB X (.ExceptHandler (some e) (some n) (b₀ :: suite) pos' :: hds) ((cs, some i, ts) :: l)
theorem flyingZ_keeps {base : Heap} {l : List Env} {e : Addr} {Z : Obj → Prop} {h h' : Heap} (R : HandSPX.FlyingZ base l e Z h) (k : ∀ b o, h.get? b = some o → h'.get? b = some o) : HandSPX.FlyingZ base l e Z h' := by
  obtain ⟨f1, f2, f3, oe, vs, T, oT, ts, he, hz, hd, h1, hnT, hTe, hT, hdT, h3⟩ := R
  exact ⟨fun b o q => k b o (f1 b o q), f2, f3.of_keeps fun b o q _ => ⟨o, k b o q, rfl⟩, oe, vs, T, oT, ts, k _ _ he, hz, hd, h1, hnT, hTe, k _ _ hT, hdT, h3⟩
section
variable {X : Cx} {body : List Stmt} {h₀ : ExceptHandler} {hds : List ExceptHandler} {l : List Cl} {pos : Pos} {tb : WX → TS} {Wout : WX}
theorem ps_try_manyB (hs : X.stack = X.env :: X.outer) (hf : X.env.frame = some X.env.locals) (tk : Takes X Wout)
    (hb : ∀ (W : WX) (pn : List (Addr × Obj)) (xe : Value → Shared → Prop), Takes (X.tr pn xe) W → PassesOwn (model X.prog X.w) X.A X.env xe → PSs (X.tr pn xe) body (tb W))
    (hh : HdsB X (h₀ :: hds) l) : PS X (.Try body (h₀ :: hds) [] [] pos) (fun D σ H => tb (wManyB X.K Wout D l) D σ H) := by
  refine ⟨fun pins s σ H D I h => ?_⟩
  have ok := I.ok
  have hfr : X.A.frames = some (X.env :: X.outer) := by rw [ok.frames, hs]
  refine wpAny_Try_except ?_
  refine wpAny_mono ((hb (wManyB X.K Wout D l) (X.pn ++ pins) (fun e s₁ => wpAny (model X.prog X.w) X.A (noteFrame e X.env) (fun _ s₂ => wpAny (model X.prog X.w) X.A (setFlight e none) (fun _ s₃ =>
    wpAny (model X.prog X.w) X.A (handleBy e X.env (h₀ :: hds)) (SP X pins D) X.xe s₃) X.xe s₂) X.xe s₁) (fun u s' xx => ?_) PassesOwn.looking).run [] s σ H D (I.toTry _) h) (fun f s1 hsp => ?_) (fun e s1 he => he)
  · obtain ⟨a, B, sI, pins', σ', H', cls, d, rfl, J', nb, up, sky, na, os, ag, w⟩ := xx
    have J : Inv X pins σ' H' sI := J'.ofTry ok
    have sky' : Sky B (X.env :: X.outer) a (Zc cls d) X.env.locals s'.heap := by rw [← hs]; exact sky
    show wpAny (model X.prog X.w) X.A (noteFrame (.ref a) X.env) _ _ _
    refine Sky.land Zc.steady hfr hf sky' fun h3 fl3 up3 => ?_
    have notFr : ∀ {h : Heap} {o : Obj} {vs : Array Value}, h.FunFrames B (X.env :: X.outer) → h.get? a = some o → o.data = .fields vs → a ∉ frs (X.env :: X.outer) := fun {h o vs} ff e dd hm => by
      obtain ⟨_, o', e', hnf⟩ := ff.mem hm
      rw [e] at e'; cases e'
      exact hnf _ dd
    have go : ∀ {hds' : List ExceptHandler} {l' : List Cl}, HdsB X hds' l' → wManyB X.K Wout D l' cls d σ' H' → ∀ h3, HandSPX.FlyingZ B (X.env :: X.outer) a (Zc cls d) h3 → sI.heap.UpToSlots h3 →
        wpAny (model X.prog X.w) X.A (handleBy (.ref a) X.env hds') (SP X pins D) X.xe { s' with heap := h3 } := by
      intro hds' l' hk
      induction hk with
      | nil =>
        intro w h3 fl3 up
        refine wpAny_handleBy_nil ?_
        obtain ⟨k1, k2, k3, oe, vs, T, oT, ts', he, hz, hd, h1, hr⟩ := id fl3
        unfold PySem.passOn
        refine wpAny_bind (wpAny_field he hd h1 ?_)
        rw [if_neg (show ¬ ((Value.ref T == Value.none) = true) from by simp)]
        have fin : wpAny (model X.prog X.w) X.A (setFlight (.ref a) X.env.frame) (fun _ s4 => wpAny (model X.prog X.w) X.A (throw (.ref a) : Sem Flow) (SP X pins D) X.xe s4) X.xe { s' with heap := h3 } := by
          rw [hf]
          refine HandSPX.setFlight_upZ fl3 fun h4 hh4 up4 => wpAny_throw (tk _ _ ?_)
          exact ⟨a, B, sI, pins, σ', H', cls, d, rfl, J, nb, up.trans up4, .inr (.inr (by rw [hs]; exact hh4)), na, os, ag, w⟩
        first
          | exact wpAny_bind (wpAny_pure (wpAny_bind fin))
          | exact wpAny_bind fin
      | @bare e cs ts b₀ suite pos' hds2 l2 hc hsu r ih =>
        intro w h3 fl3 up
        obtain ⟨b, hb1, hyes, hno⟩ := w
        have J3 : Inv X pins σ' H' { s' with heap := h3 } := J.landed nb fl3.1 up os ag
        obtain ⟨oe3, vs3, he3, hz3, hd3⟩ := fl3.there
        have nfr := notFr fl3.2.2.1 he3 hd3
        have nL : a ≠ X.env.locals := fun z => nfr (List.mem_filterMap.mpr ⟨X.env, List.mem_cons_self, by rw [hf, z]⟩)
        have nF : a ∉ X.fs := fun hm => by
          obtain ⟨e, he, q⟩ := List.mem_filterMap.mp hm
          exact nfr (List.mem_filterMap.mpr ⟨e, List.mem_cons_of_mem _ he, q⟩)
        have S3 := J3.suite he3 hd3 na nL nF
        have LT : PySem.W.Looks (model X.prog X.w) h3 (typeOf (.ref a)) cls := fun A Q E s k q => wpAny_typeOf_ref (k _ _ he3) (by rw [hz3.1]; exact q)
        refine wpAny_handleBy_cons (codeAny_handlers_test ?_) (by intro q; cases q)
        refine hc a oe3 _ _ _ _ _ _ _ _ S3 LT hb1 fun h5 k5 => ?_
        have fl5 := flyingZ_keeps fl3 k5
        have up5 := up.trans (Heap.UpToSlots.of_keeps k5)
        cases b with
        | true =>
          refine codeAny_handlers_suite ?_
          refine HandSPX.lands_againZ fl5 fun h4 fl4 up4 => ?_
          have J4 : Inv X pins σ' H' { s' with heap := h4 } := J.landed nb fl4.1 (up5.trans up4) os ag
          obtain ⟨oe4, vs4, he4, hz4, hd4⟩ := fl4.there
          have S4 := J4.suite he4 hd4 na nL nF
          refine wpAny_mono ((hsu a oe4 cls d (X.pn ++ pins) hz4 ⟨_, hd4⟩).run [] _ _ H' _ S4 (hyes rfl a na)) (fun f s6 hsp => ?_) (fun _ _ z => False.elim z)
          cases f with
          | next =>
            obtain ⟨σ6, H6, S6, q6⟩ := hsp
            exact ⟨_, _, S6.unsuite ok, q6⟩
          | brk =>
            obtain ⟨σ6, H6, S6, q6⟩ := hsp
            exact ⟨_, _, S6.unsuite ok, q6⟩
          | cont =>
            obtain ⟨σ6, H6, S6, q6⟩ := hsp
            exact ⟨_, _, S6.unsuite ok, q6⟩
          | ret u =>
            obtain ⟨v6, σ6, H6, S6, r6, q6⟩ := hsp
            exact ⟨_, _, _, S6.unsuite ok, r6, q6⟩
        | false =>
          show wpAny _ X.A (handleBy (.ref a) X.env hds2) _ _ _
          exact ih (hno rfl) h5 fl5 up5
      | @named e n cs i ts b₀ suite pos' hds2 l2 hN hi hln hc hsu r ih =>
        intro w h3 fl3 up
        have hloc : Loc X.env.scope n := .inl hln
        obtain ⟨b, hb1, hyes, hno⟩ := w
        have J3 : Inv X pins σ' H' { s' with heap := h3 } := J.landed nb fl3.1 up os ag
        obtain ⟨oe3, vs3, he3, hz3, hd3⟩ := fl3.there
        have nfr := notFr fl3.2.2.1 he3 hd3
        have nL : a ≠ X.env.locals := fun z => nfr (List.mem_filterMap.mpr ⟨X.env, List.mem_cons_self, by rw [hf, z]⟩)
        have nF : a ∉ X.fs := fun hm => by
          obtain ⟨e, he, q⟩ := List.mem_filterMap.mp hm
          exact nfr (List.mem_filterMap.mpr ⟨e, List.mem_cons_of_mem _ he, q⟩)
        have S3 := J3.suite he3 hd3 na nL nF
        have LT : PySem.W.Looks (model X.prog X.w) h3 (typeOf (.ref a)) cls := fun A Q E s k q => wpAny_typeOf_ref (k _ _ he3) (by rw [hz3.1]; exact q)
        refine wpAny_handleBy_cons (codeAny_handlers_test ?_) (by intro q; cases q)
        refine hc a oe3 _ _ _ _ _ _ _ _ S3 LT hb1 fun h5 k5 => ?_
        have fl5 := flyingZ_keeps fl3 k5
        have up5 := up.trans (Heap.UpToSlots.of_keeps k5)
        cases b with
        | true =>
          refine codeAny_handlers_suite_as ?_
          refine HandSPX.lands_againZ fl5 fun h4 fl4 up4 => ?_
          have J4 : Inv X pins σ' H' { s' with heap := h4 } := J.landed nb fl4.1 (up5.trans up4) os ag
          obtain ⟨oe4, vs4, he4, hz4, hd4⟩ := fl4.there
          have S4 := J4.suite he4 hd4 na nL nF
          refine store_ok (X := X.suite a ((a, oe4) :: (X.pn ++ pins))) (v := .ref a) S4 hN hi hloc rfl (fun s5 S5 => ?_) (.inr hln)
          refine wpAny_mono ((hsu a oe4 cls d (X.pn ++ pins) hz4 ⟨_, hd4⟩).run [] s5 _ H' _ S5 (hyes rfl a na)) (fun f s6 hsp => ?_) (fun _ _ z => False.elim z)
          have end_ : ∀ {σ6 : St} {H6 : Hp} {Q : Shared → Prop}, Inv (X.suite a ((a, oe4) :: (X.pn ++ pins))) [] σ6 H6 s6 → (∀ s7, Inv X pins (σ6.set i none) H6 s7 → Q s7) →
              wpAny (model X.prog X.w) X.A (do bindName X.env n .none; unbindBehindTheSuite X.env n pos') (fun _ s7 => Q s7) X.xe s6 := fun {σ6 H6 Q} S6 hq => gone_ok (S6.unsuite ok) hN hi hln hq
          cases f with
          | next =>
            obtain ⟨σ6, H6, S6, q6⟩ := hsp
            exact end_ S6 fun s7 J7 => ⟨_, _, J7, q6⟩
          | brk =>
            obtain ⟨σ6, H6, S6, q6⟩ := hsp
            exact end_ S6 fun s7 J7 => ⟨_, _, J7, q6⟩
          | cont =>
            obtain ⟨σ6, H6, S6, q6⟩ := hsp
            exact end_ S6 fun s7 J7 => ⟨_, _, J7, q6⟩
          | ret u =>
            obtain ⟨v6, σ6, H6, S6, r6, q6⟩ := hsp
            exact end_ S6 fun s7 J7 => ⟨_, _, _, J7, r6, q6⟩
        | false =>
          show wpAny _ X.A (handleBy (.ref a) X.env hds2) _ _ _
          exact ih (hno rfl) h5 fl5 up5
    exact go hh w h3 fl3 (up.trans up3)
  · cases f with
    | next =>
      obtain ⟨σ', H', J', q⟩ := hsp
      exact wpAny_execs_nil ⟨σ', H', J'.ofTry ok, q⟩
    | brk =>
      obtain ⟨σ', H', J', q⟩ := hsp
      exact ⟨σ', H', J'.ofTry ok, q⟩
    | cont =>
      obtain ⟨σ', H', J', q⟩ := hsp
      exact ⟨σ', H', J'.ofTry ok, q⟩
    | ret u =>
      obtain ⟨v, σ', H', J', r, q⟩ := hsp
      exact ⟨v, σ', H', J'.ofTry ok, r, q⟩
end
end L2
set_option Elab.async false
set_option linter.all false
set_option maxRecDepth 100000
set_option maxHeartbeats 4000000
namespace Kx
open PySem PySem.Spec PyProof.Rows L2
/-- a plain class of the text, its attributes' names -/
structure CF (K : PySem.W.Frag) (C : Addr) (fs : List Str) : Prop where
  cls : Cls K C
  na : ∀ f ∈ fs, NoAttr K C f
  inc : C8.InsC K C
  no : ∀ T ∈ tys, PySem.W.kitOne K (.type T) (.ref C) = some false
def cfB (C : Addr) (fs : List Str) (K : PySem.W.Frag) : Bool := PySem.W.plainGet K C Str.empty && (PySem.W.hasDictIn K C && (PySem.W.plainOver K C && (He.eqO (PySem.W.findIn K (.ref C) "__setattr__") (some (some (.builtin "object.__setattr__"))) &&
  (fs.all (fun f => He.eqO (PySem.W.findIn K (.ref C) f) (some none)) && (He.eqO (PySem.W.findIn K (.ref C) "__class__") (some (some (.builtin "object.__class__"))) && (He.eqO (PySem.W.specialIn K (.builtin "object.__class__") "__get__") (some (some (.builtin "getset_descriptor.__get__"))) &&
  (decide (PySem.W.takesIn K (.builtin "object.__class__") = some true) && (decide (PySem.W.mroIn K C (.type "object") = some true) && (decide (PySem.W.kitOne K (.ref C) (.ref C) = some true) && tys.all fun T => decide (PySem.W.kitOne K (.type T) (.ref C) = some false))))))))))
theorem cf_ok {K : PySem.W.Frag} {C : Addr} {fs : List Str} (h : cfB C fs K = true) : CF K C fs := by
  unfold cfB at h
  obtain ⟨h0, h⟩ := Bool.and_eq_true_iff.mp h
  obtain ⟨h1, h⟩ := Bool.and_eq_true_iff.mp h
  obtain ⟨h2, h⟩ := Bool.and_eq_true_iff.mp h
  obtain ⟨h3, h⟩ := Bool.and_eq_true_iff.mp h
  obtain ⟨h4, h⟩ := Bool.and_eq_true_iff.mp h
  obtain ⟨h5, h⟩ := Bool.and_eq_true_iff.mp h
  obtain ⟨h6, h⟩ := Bool.and_eq_true_iff.mp h
  obtain ⟨h7, h⟩ := Bool.and_eq_true_iff.mp h
  obtain ⟨h8, h⟩ := Bool.and_eq_true_iff.mp h
  obtain ⟨h9, h⟩ := Bool.and_eq_true_iff.mp h
  have c : Cls K C := ⟨h0, h1, h2, He.eqO_ok h3⟩
  exact ⟨c, fun f hf => He.eqO_ok (List.all_eq_true.mp h4 f hf), ⟨c, He.eqO_ok h5, He.eqO_ok h6, of_decide_eq_true h7, of_decide_eq_true h8, of_decide_eq_true h9⟩, fun T hT => of_decide_eq_true (List.all_eq_true.mp h T hT)⟩
/-- a class tuple of an except clause -/
def clsL (K : PySem.W.Frag) (ns : List Str) : List Value := ns.map fun c => .ref (He.ga K c)
theorem ExT.any {K : PySem.W.Frag} {ns : List Str} {base c : Str} (T : ExT K ns base) (hc : c ∈ ns) : ∀ cs : List Str, (∀ c' ∈ cs, c' ∈ ns) → PySem.W.exmAny K (.ref (He.ga K c)) (clsL K cs) = some (cs.any fun c' => c == c')
  | [], _ => rfl
  | c' :: cs, h => by
    have e1 := T.ex c hc c' (h c' List.mem_cons_self)
    have e2 := ExT.any T hc cs fun z hz => h z (List.mem_cons_of_mem _ hz)
    show (match PySem.W.exmOne K (.ref (He.ga K c)) (.ref (He.ga K c')), PySem.W.exmAny K (.ref (He.ga K c)) (clsL K cs) with
      | some b, some d => some (b || d)
      | _, _ => none) = _
    rw [e1, e2]
    rfl
def tTryB (K : PySem.W.Frag) (Wout : WX) (tb : WX → TS) (l : List L2.Cl) : TS := fun D σ H => tb (L2.wManyB K Wout D l) D σ H
section
variable {K : PySem.W.Frag} {σ : L2.St} {H H' : Hp} {Q : VK} {QB : Bool → Hp → Prop} {D : Ends} {W : WX} {tb : WX → TS} {ta tv te : TE} {l : List L2.Cl} {cs : List Str} {c f : Str} {o : Option Nat} {ts : Addr → Value → Option Addr → TS} {dd : Option Addr} {ns : List Str} {base : Str} {a b p C dx : Addr} {fs : List (Str × V)} {xs : List V} {i : Int} {x y v : V} {T : String} {k : Key} {kvs : List (Key × V)} {E : XK} {sp : Sp} {vs : List V}
theorem w_tryB (q : tb (L2.wManyB K W D l) D σ H) : tTryB K W tb l D σ H := q
theorem w_hitB (T : ExT K ns base) (hc : c ∈ ns) (hs : ∀ c' ∈ cs, c' ∈ ns) (hh : (cs.any fun c' => c == c') = true) (q : ∀ a, H a = none → ts a (.ref (He.ga K c)) dd (dAs o D) (sAs o σ a) H) : L2.wManyB K W D ((clsL K cs, o, ts) :: l) (.ref (He.ga K c)) dd σ H :=
  ⟨true, by rw [ExT.any T hc cs hs, hh], fun _ => q, fun z => (by cases z)⟩
theorem w_missB (T : ExT K ns base) (hc : c ∈ ns) (hs : ∀ c' ∈ cs, c' ∈ ns) (hh : (cs.any fun c' => c == c') = false) (q : L2.wManyB K W D l (.ref (He.ga K c)) dd σ H) : L2.wManyB K W D ((clsL K cs, o, ts) :: l) (.ref (He.ga K c)) dd σ H :=
  ⟨false, by rw [ExT.any T hc cs hs, hh], fun z => (by cases z), fun _ => q⟩
/-! sequences and dicts by values -/
theorem w_ixX (q : rIx K x y H Q) : uIx K x y H Q := .inl q
theorem w_ixK (h : H a = some (.dK kvs)) (k : Key) (e : valV kvs k = some v) (q : Q v H) : uIx K (.ref a) (kV k) H Q := .inr ⟨a, v, rfl, .inl ⟨kvs, k, .inl h, rfl, e.symm⟩, q⟩
theorem w_ixT {kvs : List (List Key × V)} {k : List Key} (h : H a = some (.dT kvs)) (hb : H b = some (.tup (k.map kV))) (e : valV kvs k = some v) (q : Q v H) : uIx K (.ref a) (.ref b) H Q := .inr ⟨a, v, rfl, .inr ⟨kvs, k, b, .inl h, rfl, hb, e.symm⟩, q⟩
theorem w_inX (q : uIn K x y H Q) : uInX K x y H Q := .inl q
theorem w_ninX (q : uNin K x y H Q) : uNinX K x y H Q := .inl q
theorem w_setX {Q : Hp → Prop} (q : rSetL x y v H Q) : rSetX x y v H Q := .inl q
theorem w_setK {Q : Hp → Prop} (h : H a = some (.dK kvs)) (hl : kvs.length ≤ 100000) (k : Key) (q : Q (upd H a (.dK (putK kvs k v)))) : rSetX (.ref a) (kV k) v H Q := .inr ⟨a, _, rfl, .inl ⟨kvs, k, h, rfl, Nat.lt_of_le_of_lt hl (by decide), rfl⟩, q⟩
theorem w_setT {Q : Hp → Prop} {kvs : List (List Key × V)} {k : List Key} (h : H a = some (.dT kvs)) (hb : H b = some (.tup (k.map kV))) (hl : kvs.length ≤ 100000) (q : Q (upd H a (.dT (putK kvs k v)))) : rSetX (.ref a) (.ref b) v H Q := .inr ⟨a, _, rfl, .inr ⟨kvs, k, b, h, rfl, hb, Nat.lt_of_le_of_lt hl (by decide), rfl⟩, q⟩
/-! instances -/
theorem w_isC_t (c : CF K C ns) (h : H a = some (.ins C dx fs)) (q : Q (.bl true) H) : uIsi K [.ref a, .ref C] H Q := .inl ⟨_, _, .ref C, .ref C, true, rfl, .own C, .base (TyOf.ins h c.inc.cl c.inc.ha c.inc.hn c.inc.htk c.inc.hm), c.inc.me, q⟩
theorem w_isC_f (c : CF K C ns) (h : Kd K H x T) (q : Q (.bl false) H) : uIsi K [x, .ref C] H Q := .inl ⟨_, _, .type T, .ref C, false, rfl, .own C, h.ty, c.no T h.mem, q⟩
theorem w_sfld (q : tv σ H fun y H1 => ta σ H1 fun x H2 => ∃ a C dx fs, x = .ref a ∧ H2 a = some (.ins C dx fs) ∧ Cls K C ∧ NoAttr K C f ∧ fs.length < 1000 ∧ D.nx σ (upd H2 a (.ins C dx (putF f y fs)))) : sFld K ta tv f D σ H := q
/-- all but a stands; the heap has a name of its own -/
theorem w_sflde {P : Hp → Prop} (cl : Cls K C) (na : NoAttr K C f) (h : H a = some (.ins C dx fs)) (hl : Nat.ble fs.length 100 = true) (q : ∀ H', (∀ b o, b ≠ a → H b = some o → H' b = some o) → H' a = some (.ins C dx (putF f y fs)) → P H') :
    ∃ a' C' dx' fs', V.ref a = .ref a' ∧ H a' = some (.ins C' dx' fs') ∧ Cls K C' ∧ NoAttr K C' f ∧ fs'.length < 1000 ∧ P (upd H a' (.ins C' dx' (putF f y fs'))) :=
  ⟨a, C, dx, fs, rfl, h, cl, na, Nat.lt_of_le_of_lt (Nat.le_of_ble_eq_true hl) (by decide), q _ (fun b o n hb => by rw [upd_ne n]; exact hb) upd_same⟩
end
def uMax1 (K : PySem.W.Frag) : List V → Hp → VK → Prop := rMax K
def uMin1 (K : PySem.W.Frag) : List V → Hp → VK → Prop := rMin K
def uList (K : PySem.W.Frag) : List V → Hp → VK → Prop := fun xs H Q => (∃ p ys, xs = [.ref p] ∧ (SqL K H p ys ∨ SqT K H p ys) ∧ ∀ l, H l = none → Q (.ref l) (upd H l (.lst ys))) ∨ rListD xs H Q
def uTuple (K : PySem.W.Frag) : List V → Hp → VK → Prop := fun xs H Q => ∃ p ys, xs = [.ref p] ∧ ((SqL K H p ys ∧ ∀ l, H l = none → Q (.ref l) (upd H l (.tup ys))) ∨ (SqT K H p ys ∧ Q (.ref p) H))
def uSorted (K : PySem.W.Frag) : List V → Hp → VK → Prop := fun xs H Q => rSortedI K xs H Q ∨ rSortedS K xs H Q
section
variable {X : Cx}
theorem c_max1 (hc : X.calm = true) : CallR X (.builtin "max") (uMax1 X.K) := cr_max hc
theorem c_min1 (hc : X.calm = true) : CallR X (.builtin "min") (uMin1 X.K) := cr_min hc
theorem c_list (hc : X.calm = true) : CallR X (.type "list") (uList X.K) := call_list_of.or (call_list_dK hc)
theorem c_tuple : CallR X (.type "tuple") (uTuple X.K) := call_tuple_of
theorem c_sorted : CallR X (.builtin "sorted") (uSorted X.K) := cr_sortedI.or cr_sortedS
end
/-- unlike kinds of objects -/
def kne : HO → HO → Bool
  | .ins _ _ _, .ins _ _ _ => false
  | .ins _ _ _, _ => true
  | _, .ins _ _ _ => true
  | .lst _, .lst _ => false
  | .lst _, _ => true
  | _, .lst _ => true
  | .dK _, .dK _ => false
  | .dK _, _ => true
  | _, .dK _ => true
  | _, _ => false
theorem kne_ne {H : Hp} {a b : Addr} {o u : HO} (h : H a = some o) (h' : H b = some u) (k : kne o u = true) : a ≠ b := ne_of h h' fun z => by
  subst z
  cases o <;> cases k
end Kx
set_option Elab.async false
set_option linter.all false
set_option maxRecDepth 100000
set_option maxHeartbeats 4000000
/-! lists of tuples: read, made by comprehensions, grown by append -/
namespace Kx
open PySem PySem.Spec PyProof.Rows L2
/-- a tuple of these values -/
def IsT (K : PySem.W.Frag) (H : Hp) (v : V) (l : List V) : Prop := ∃ t, v = .ref t ∧ SqT K H t l
/-- tuples, one after the other -/
inductive RwT (K : PySem.W.Frag) (H : Hp) : List V → List (List V) → Prop
  | nil : RwT K H [] []
  | cons {v : V} {l : List V} {vs : List V} {ls : List (List V)} (h : IsT K H v l) (r : RwT K H vs ls) : RwT K H (v :: vs) (l :: ls)
/-- .. all of them tracked, made by the run -/
inductive RnT (H : Hp) : List V → List (List V) → Prop
  | nil : RnT H [] []
  | cons {t : Addr} {l : List V} {vs : List V} {ls : List (List V)} (h : H t = some (.tup l)) (r : RnT H vs ls) : RnT H (.ref t :: vs) (l :: ls)
section
variable {K : PySem.W.Frag} {H H' : Hp} {vs ws : List V} {ls ms : List (List V)} {v : V} {l : List V} {D t : Addr}
theorem IsT.same (e : Same H H') (h : IsT K H v l) : IsT K H' v l := by
  obtain ⟨t, rfl, h⟩ := h
  exact ⟨t, rfl, Kx.Same.tup e h⟩
theorem RwT.same (e : Same H H') (h : RwT K H vs ls) : RwT K H' vs ls := by
  induction h with
  | nil => exact .nil
  | cons h r ih => exact .cons (h.same e) ih
theorem RnT.rw (h : RnT H vs ls) : RwT K H vs ls := by
  induction h with
  | nil => exact .nil
  | cons h r ih => exact .cons ⟨_, rfl, t_of h⟩ ih
theorem RwT.len (h : RwT K H vs ls) : vs.length = ls.length := by
  induction h with
  | nil => rfl
  | cons h r ih => exact congrArg (· + 1) ih
theorem RnT.len (h : RnT H vs ls) : vs.length = ls.length := by
  induction h with
  | nil => rfl
  | cons h r ih => exact congrArg (· + 1) ih
theorem RwT.get (h : RwT K H vs ls) : ∀ {i : Nat} {v : V}, vs[i]? = some v → ∃ l, ls[i]? = some l ∧ IsT K H v l := by
  induction h with
  | nil => intro i v e; cases e
  | cons h r ih =>
    intro i v e
    cases i with
    | zero => cases e; exact ⟨_, rfl, h⟩
    | succ i => exact ih e
theorem RwT.get2 (h : RwT K H vs ls) : ∀ {i : Nat} {l : List V}, ls[i]? = some l → ∃ v, vs[i]? = some v ∧ IsT K H v l := by
  induction h with
  | nil => intro i v e; cases e
  | cons h r ih =>
    intro i v e
    cases i with
    | zero => cases e; exact ⟨_, rfl, h⟩
    | succ i => exact ih e
theorem RnT.get2 (h : RnT H vs ls) : ∀ {i : Nat} {l : List V}, ls[i]? = some l → ∃ t, vs[i]? = some (.ref t) ∧ H t = some (.tup l) := by
  induction h with
  | nil => intro i v e; cases e
  | cons h r ih =>
    intro i v e
    cases i with
    | zero => cases e; exact ⟨_, rfl, h⟩
    | succ i => exact ih e
theorem RwT.app (h : RwT K H vs ls) (h2 : RwT K H ws ms) : RwT K H (vs ++ ws) (ls ++ ms) := by
  induction h with
  | nil => exact h2
  | cons h r ih => exact .cons h ih
theorem RnT.app (h : RnT H vs ls) (h2 : RnT H ws ms) : RnT H (vs ++ ws) (ls ++ ms) := by
  induction h with
  | nil => exact h2
  | cons h r ih => exact .cons h ih
theorem RnT.but (e : ∀ b o, b ≠ D → H b = some o → H' b = some o) (hD : ∃ xs, H D = some (.lst xs)) (h : RnT H vs ls) : RnT H' vs ls := by
  obtain ⟨xs, hD⟩ := hD
  induction h with
  | nil => exact .nil
  | cons h r ih => exact .cons (e _ _ (fun z => by rw [z, hD] at h; cases h) h) ih
theorem RnT.same (e : Same H H') (h : RnT H vs ls) : RnT H' vs ls := by
  induction h with
  | nil => exact .nil
  | cons h r ih => exact .cons (e _ _ h) ih
/-- a comprehension that makes tuples -/
def LcR (H1 : Hp) (D : Addr) (acc : Nat → List (List V)) : Nat → Hp → Prop := fun i H => Same H1 H ∧ ∃ xs, H D = some (.lst xs) ∧ RnT H xs (acc i)
theorem LcR.zero {H1 : Hp} {acc : Nat → List (List V)} (h : H1 D = none) (h0 : acc 0 = []) : LcR H1 D acc 0 (upd H1 D (.lst [])) := ⟨sm_new h, [], upd_same, by rw [h0]; exact .nil⟩
theorem LcR.one {H1 H4 : Hp} {acc : Nat → List (List V)} {i : Nat} (P : LcR H1 D acc i H) (e : Same H H4) (hD : H1 D = none) (hl : (acc i).length < 1000000) (ht : H4 t = some (.tup l)) (hy : acc (i + 1) = acc i ++ [l]) :
    ∃ zs, H4 D = some (.lst zs) ∧ zs.length < sizeLine ∧ LcR H1 D acc (i + 1) (upd H4 D (.lst (zs ++ [.ref t]))) := by
  obtain ⟨e1, xs, hx, r⟩ := P
  have hx4 := e _ _ hx
  have r4 := r.same e
  have hlen := r.len
  refine ⟨xs, hx4, Nat.lt_of_lt_of_le (by rw [hlen]; exact hl) (by decide), sm_mut (Same.trans e1 e) hD, _, upd_same, ?_⟩
  rw [hy]
  refine RnT.app ?_ ?_
  · exact r4.but (fun b o n h => by rw [upd_ne n]; exact h) ⟨xs, hx4⟩
  · refine .cons ?_ .nil
    rw [upd_ne (fun z => by rw [z, hx4] at ht; cases ht)]
    exact ht
theorem LcR.no {H1 H4 : Hp} {acc : Nat → List (List V)} {i : Nat} (P : LcR H1 D acc i H) (e : Same H H4) (hy : acc (i + 1) = acc i) : LcR H1 D acc (i + 1) H4 := by
  obtain ⟨e1, xs, hx, r⟩ := P
  exact ⟨Same.trans e1 e, xs, e _ _ hx, by rw [hy]; exact r.same e⟩
theorem RnT.map_get {α : Type} {f : α → List V} {xs : List α} {i : Nat} {v : V} (h : RwT K H vs (xs.map f)) (e : vs[i]? = some v) : ∃ x, xs[i]? = some x ∧ IsT K H v (f x) := by
  obtain ⟨l, hl, h2⟩ := h.get e
  rw [List.getElem?_map] at hl
  obtain ⟨x, hx, rfl⟩ := Option.map_eq_some_iff.mp hl
  exact ⟨x, hx, h2⟩
/-- take one more -/
theorem take_succ_map {α β : Type} {f : α → β} {xs : List α} {i : Nat} {x : α} (h : xs[i]? = some x) : (xs.take (i + 1)).map f = (xs.take i).map f ++ [f x] := by
  rw [List.take_succ, h, List.map_append]; rfl
theorem take_succ_filter {α : Type} {p : α → Bool} {xs : List α} {i : Nat} {x : α} (h : xs[i]? = some x) : (xs.take (i + 1)).filter p = (xs.take i).filter p ++ (if p x = true then [x] else []) := by
  rw [List.take_succ, h, List.filter_append]
  show _ ++ List.filter p [x] = _
  rw [List.filter_cons]
  rfl
end
end Kx
set_option Elab.async false
set_option linter.all false
set_option maxRecDepth 100000
/-! classes beside each other: none is of another -/
namespace Kx
open PySem PySem.Spec PyProof.Rows L2
structure KiT (K : PySem.W.Frag) (ns : List Str) : Prop where
  kk : ∀ c ∈ ns, ∀ c' ∈ ns, PySem.W.kitOne K (.ref (He.ga K c)) (.ref (He.ga K c')) = some (c == c')
def kitB (ns : List Str) (K : PySem.W.Frag) : Bool := ns.all fun c => ns.all fun c' => decide (PySem.W.kitOne K (.ref (He.ga K c)) (.ref (He.ga K c')) = some (c == c'))
theorem kit_ok {K : PySem.W.Frag} {ns : List Str} (h : kitB ns K = true) : KiT K ns :=
  ⟨fun c hc c' hc' => of_decide_eq_true (List.all_eq_true.mp (List.all_eq_true.mp h c hc) c' hc')⟩
end Kx
set_option Elab.async false
set_option linter.all false
set_option maxRecDepth 100000
set_option maxHeartbeats 4000000
/-! the written part's facts: own tests -/
namespace PySem
namespace DueE
open PySem.W PySem.Calls PyProof.Rows PySem.HandSPX
def dueInitB (file : Str) (D fI : Addr) (K : Frag) : Bool := match K.lookup fI with
  | some ⟨_, _, .func fd, _⟩ => (match fd.closure, fd.defaults, fd.code with
    | [(_, cc)], .ref TD, .ref cda => (match K.lookup TD with
        | some ⟨_, _, .seq xs _, _⟩ => (match xs.toList with
          | [_] => true
          | _ => false)
        | _ => false) && (codeIn K (.ref cda) "DueError.__init__" && ((match K.lookup cda with
        | some ⟨_, _, .fields vs, _⟩ => (match vs[2]? with
          | some (Value.str f _) => file == f
          | _ => false)
        | _ => false) && ((match K.lookup cc with
        | some ⟨_, _, .cell (some (.ref D')), _⟩ => D' == D
        | _ => false) && (clsIn K D).isSome)))
    | _, _, _ => false)
  | _ => false
/-- a function object, its cells' places left out -/
def fnC (K : Frag) (p : Str × Option Str) : He.FnW := match K.lookup (He.fAd K p) with
  | some ⟨_, _, .func fd, _⟩ => some (fd.name, fd.qualname, fd.params, fd.body, fd.scope, fd.globals, fd.closure.map (fun c => (c.1, 0)), fd.builtins)
  | _ => none
def iFn (p1 p2 p3 q1 q2 q3 q4 q5 q6 r1 r2 r3 r4 : Pos) : He.FnW := some (PySem.Str.ofString "__init__", PySem.Str.ofString "DueError.__init__", iA p1 p2 p3, FuncBody.stmts (iB q1 q2 q3 q4 q5 q6 r1 r2 r3 r4), iS, mainGlobals, [(PySem.Str.ofString "__class__", 0)], builtinsNs)
theorem init_ok {P : Program} {K : Frag} {p1 p2 p3 q1 q2 q3 q4 q5 q6 r1 r2 r3 r4 : Pos} (hf : fnC K ("DueError", some "__init__") = iFn p1 p2 p3 q1 q2 q3 q4 q5 q6 r1 r2 r3 r4)
    (hl : (q3.endLine == q5.line) = true) (hb : dueInitB P.main.file (He.ga K "DueError") (He.ma K (He.ga K "DueError") "__init__") K = true) (htop : (P.main.scope.names.lookup ("super" : Str)).isSome = false)
    (hs : He.eqO (nsIn K mainGlobals "super") (some none) = true) (hst : He.eqO (nsIn K cStatics "thirdparty.any") (some none) = true) : InitTxt P K (He.ga K "DueError") (He.ma K (He.ga K "DueError") "__init__") := by
  refine ⟨?_, htop, He.eqO_ok hs, He.eqO_ok hst⟩
  have hf : (match K.lookup (He.ma K (He.ga K "DueError") "__init__") with
    | some ⟨_, _, .func fd, _⟩ => some (fd.name, fd.qualname, fd.params, fd.body, fd.scope, fd.globals, fd.closure.map (fun c => (c.1, 0)), fd.builtins)
    | _ => (none : He.FnW)) = some (PySem.Str.ofString "__init__", PySem.Str.ofString "DueError.__init__", iA p1 p2 p3, FuncBody.stmts (iB q1 q2 q3 q4 q5 q6 r1 r2 r3 r4), iS, mainGlobals, [(PySem.Str.ofString "__class__", 0)], builtinsNs) := hf
  generalize He.ma K (He.ga K "DueError") "__init__" = fI at *
  generalize He.ga K "DueError" = D at *
  unfold dueInitB at hb
  cases e : K.lookup fI with
  | none => rw [e] at hb; cases hb
  | some o =>
    obtain ⟨oc, od, dt, osl⟩ := o
    cases dt with
    | func fd =>
      rw [e] at hb hf
      dsimp only at hb hf
      obtain ⟨name, qual, params, body, scope, gl, cl, dV, kV, doc, pm, an, code, ct, blt⟩ := fd
      have hf := Option.some.inj hf
      simp only [Prod.mk.injEq] at hf
      obtain ⟨rfl, rfl, rfl, rfl, rfl, rfl, hcl, rfl⟩ := hf
      split at hb
      · rename_i nm cc TD cda hc hd hco
        dsimp only at hc hd hco hcl
        subst hc hd hco
        simp only [List.map_cons, List.map_nil, List.cons.injEq, Prod.mk.injEq, and_true] at hcl
        subst hcl
        rw [Bool.and_eq_true, Bool.and_eq_true, Bool.and_eq_true, Bool.and_eq_true] at hb
        obtain ⟨h1, h2, h3, h4, h5⟩ := hb
        split at h1
        · rename_i t1 t2 xs n t3 hT
          split at h1
          · rename_i itD hx
            split at h3
            · rename_i ccl cdd vs ccs hcd
              split at h3
              · rename_i file tf hv
                split at h4
                · rename_i c1 c2 D' c3 hcc
                  have hD : D' = D := beq_iff_eq.mp h4
                  subst hD
                  obtain ⟨cdD, hcl⟩ := Option.isSome_iff_exists.mp h5
                  have hxs : xs = #[itD] := by
                    obtain ⟨l⟩ := xs
                    simp only at hx
                    rw [hx]
                  subst hxs
                  exact ⟨cc, cda, TD, _, itD, n, oc, od, kV, doc, pm, an, ct, osl, p1, p2, p3, q1, q2, q3, q4, q5, q6, r1, r2, r3, r4, ccl, cdd, ccs, vs, file, tf, _, _, _, cdD, rfl, hT, rfl, h2, hcd, hv, h3, hl, hcc, hcl⟩
                · cases h4
              · cases h3
            · cases h3
          · cases h1
        · cases h1
      · cases hb
    | _ => rw [e] at hb; cases hb
def dueClsB (D C fI : Addr) (K : Frag) : Bool := (match K.lookup C with
  | some ⟨.type "type", _, .cls cd, sl⟩ => (match cd.mro, sl.toList with
    | .ref C' :: bm, [_, _, _, _, some (.builtin n), _] => C' == C && (n == "ValueError.__new__" && (!cd.hasDel && (cd.hasDict && refsVE bm)))
    | _, _ => false)
  | _ => false) && (decide (ks_superIn K C D "__init__" = some (some (.builtin "ValueError.__init__"))) && (decide (mroIn K C (.ref D) = some true) && (decide (subIn K (.ref C) (.type "ValueError") = some true) &&
  (He.eqO (findIn K (.ref C) "__setattr__") (some (some (.builtin "object.__setattr__"))) && (He.eqO (findIn K (.ref C) "given") (some none) && (He.eqO (findIn K (.ref C) "__init__") (some (some (.ref fI))) &&
  (decide (typeIn K (.ref fI) = some (.type "function")) && (keepIn K (.ref C) && (decide (subIn K (.ref C) (.type "BaseException") = some true) && decide (typeIn K (.ref C) = some (.type "type")))))))))))
theorem cls_ok {K : Frag} {D C fI : Addr} (h : dueClsB D C fI K = true) : ClsTxt K D C fI := by
  unfold dueClsB at h
  obtain ⟨h0, h⟩ := Bool.and_eq_true_iff.mp h
  obtain ⟨h1, h⟩ := Bool.and_eq_true_iff.mp h
  obtain ⟨h2, h⟩ := Bool.and_eq_true_iff.mp h
  obtain ⟨h3, h⟩ := Bool.and_eq_true_iff.mp h
  obtain ⟨h4, h⟩ := Bool.and_eq_true_iff.mp h
  obtain ⟨h5, h⟩ := Bool.and_eq_true_iff.mp h
  obtain ⟨h6, h⟩ := Bool.and_eq_true_iff.mp h
  obtain ⟨h7, h⟩ := Bool.and_eq_true_iff.mp h
  obtain ⟨h8, h⟩ := Bool.and_eq_true_iff.mp h
  obtain ⟨h9, h⟩ := Bool.and_eq_true_iff.mp h
  refine ⟨?_, of_decide_eq_true h1, of_decide_eq_true h2, of_decide_eq_true h3, He.eqO_ok h4, He.eqO_ok h5, He.eqO_ok h6, of_decide_eq_true h7, h8, of_decide_eq_true h9, of_decide_eq_true h⟩
  split at h0
  · rename_i dd cd sl ho
    split at h0
    · rename_i C' bm k0 k1 k2 k3 n k5 hm hs
      obtain ⟨g1, g⟩ := Bool.and_eq_true_iff.mp h0
      obtain ⟨g2, g⟩ := Bool.and_eq_true_iff.mp g
      obtain ⟨g3, g⟩ := Bool.and_eq_true_iff.mp g
      obtain ⟨g4, g5⟩ := Bool.and_eq_true_iff.mp g
      have g1 := beq_iff_eq.mp g1
      have g2 := beq_iff_eq.mp g2
      rw [Bool.not_eq_true'] at g3
      subst g1 g2
      obtain ⟨nm, bs, mro, ns, qn, hd, sn, sub, ab, col, del⟩ := cd
      dsimp only at hm g3 g4
      subst hm g3 g4
      have hsl : sl = #[k0, k1, k2, k3, some (.builtin "ValueError.__new__"), k5] := by
        obtain ⟨l⟩ := sl
        simp only at hs
        rw [hs]
      subst hsl
      exact ⟨nm, qn, ns, bs, bm, sn, sub, ab, col, dd, k0, k1, k2, k3, k5, ho, g5⟩
    · cases h0
  · cases h0
end DueE
end PySem
namespace Kx
open PySem PySem.Spec PyProof.Rows L2
def excXB (D : Addr) (K : PySem.W.Frag) : Bool := (PySem.W.clsIn K D).isSome && (He.eqO (PySem.W.findIn K (.ref D) "__getattribute__") (some (some (.builtin "BaseException.__getattribute__"))) && (He.eqO (PySem.W.findIn K (.ref D) "__getattr__") (some none) &&
  (decide (PySem.W.subIn K (.ref D) (.type "BaseException") = some true) && (He.eqO (PySem.W.findIn K (.ref D) "__class__") (some (some (.builtin "object.__class__"))) && (He.eqO (PySem.W.specialIn K (.builtin "object.__class__") "__get__") (some (some (.builtin "getset_descriptor.__get__"))) &&
  (decide (PySem.W.takesIn K (.builtin "object.__class__") = some true) && decide (PySem.W.mroIn K D (.type "object") = some true)))))))
theorem excX_ok {K : PySem.W.Frag} {D : Addr} (h : excXB D K = true) : ExcX K D := by
  unfold excXB at h
  obtain ⟨h0, h⟩ := Bool.and_eq_true_iff.mp h
  obtain ⟨h1, h⟩ := Bool.and_eq_true_iff.mp h
  obtain ⟨h2, h⟩ := Bool.and_eq_true_iff.mp h
  obtain ⟨h3, h⟩ := Bool.and_eq_true_iff.mp h
  obtain ⟨h4, h⟩ := Bool.and_eq_true_iff.mp h
  obtain ⟨h5, h⟩ := Bool.and_eq_true_iff.mp h
  obtain ⟨h6, h⟩ := Bool.and_eq_true_iff.mp h
  exact ⟨h0, He.eqO_ok h1, He.eqO_ok h2, of_decide_eq_true h3, He.eqO_ok h4, He.eqO_ok h5, of_decide_eq_true h6, of_decide_eq_true h⟩
/-- the package's errors of these names -/
def extB (ns : List Str) (base : Str) (K : PySem.W.Frag) : Bool := ns.all fun c => (ns.all fun c' => decide (PySem.W.exmOne K (.ref (He.ga K c)) (.ref (He.ga K c')) = some (c == c'))) && (xfB K (He.ga K c) && (He.eqO (PySem.W.findIn K (.ref (He.ga K c)) "given") (some none) &&
  (excXB (He.ga K c) K && decide (PySem.W.kitOne K (.ref (He.ga K c)) (.ref (He.ga K base)) = some true))))
theorem ext_ok {K : PySem.W.Frag} {ns : List Str} {base : Str} (h : extB ns base K = true) : ExT K ns base := by
  have h := List.all_eq_true.mp h
  refine ⟨fun c hc c' hc' => ?_, fun c hc => ?_, fun c hc => ?_, fun c hc => ?_, fun c hc => ?_⟩
  all_goals
    obtain ⟨h0, h1⟩ := Bool.and_eq_true_iff.mp (h c hc)
    obtain ⟨h1, h2⟩ := Bool.and_eq_true_iff.mp h1
    obtain ⟨h2, h3⟩ := Bool.and_eq_true_iff.mp h2
    obtain ⟨h3, h4⟩ := Bool.and_eq_true_iff.mp h3
  · exact of_decide_eq_true (List.all_eq_true.mp h0 c' hc')
  · exact xfB_ok h1
  · exact He.eqO_ok h2
  · exact excX_ok h3
  · exact of_decide_eq_true h4
/-! the Hook: tests, defs, function objects with a cell -/
abbrev Fx : Type := PySem.W.Frag → Bool
abbrev Pn : Type := Str × Option Str
def obsM (fs : List Fx) (fn : List He.DefD) (fc : List (Pn × He.FnW)) (K : PySem.W.Frag) : He.AlD := ((fs.all fun f => f K) && fn.all fun d => d.ok K, (fn.map fun d => He.fnW K d.at_) ++ fc.map fun p => PySem.DueE.fnC K p.1)
def valM (fn : List He.DefD) (fc : List (Pn × He.FnW)) : He.AlD := (true, fn.map He.DefD.val ++ fc.map (·.2))
def SaysM (fs : List Fx) (fn : List He.DefD) (fc : List (Pn × He.FnW)) (K : PySem.W.Frag) : Prop := obsM fs fn fc K = valM fn fc
def frM (g : Addr → Option Obj) (n : Nat) : PySem.W.Frag := He.frG g (cStatics :: He.asD g n)
def obsMG (n : Nat) (fs : List Fx) (fn : List He.DefD) (fc : List (Pn × He.FnW)) (g : Addr → Option Obj) : He.AlD := obsM fs fn fc (frM g n)
def hookM (n : Nat) (fs : List Fx) (fn : List He.DefD) (fc : List (Pn × He.FnW)) : PySem.W.Hook where
  α := He.AlD
  obs := fun s => obsMG n fs fn fc s.heap.get?
  val := fun _ => valM fn fc
  says := fun _ h => ∃ K : PySem.W.Frag, K.In h ∧ SaysM fs fn fc K
  of := fun _ _ e => ⟨_, He.frG_in, e⟩
  keeps := fun _ _ _ ⟨K, hK, c⟩ k => ⟨K, PySem.W.Frag.In.keeps hK k, c⟩
theorem obsMG_eq {n : Nat} {fs : List Fx} {fn : List He.DefD} {fc : List (Pn × He.FnW)} {g : Addr → Option Obj} {s : Shared} (h : ∀ a, g a = s.heap.get? a) : obsMG n fs fn fc g = (hookM n fs fn fc).obs s := by
  have e : g = s.heap.get? := funext h
  rw [e] <;> rfl
section
variable {fs : List Fx} {fn : List He.DefD} {fc : List (Pn × He.FnW)} {K : PySem.W.Frag}
theorem SaysM.fact (c : SaysM fs fn fc K) (i : Nat) {f : Fx} (h : fs[i]? = some f := by rfl) : f K = true := by
  have c1 := (Bool.and_eq_true_iff.mp (show ((fs.all fun f => f K) && fn.all fun d => d.ok K) = true from congrArg (fun z : He.AlD => z.1) c)).1
  exact List.all_eq_true.mp c1 f (List.mem_of_getElem? h)
theorem SaysM.lists (c : SaysM fs fn fc K) : (fn.map fun d => He.fnW K d.at_) = fn.map He.DefD.val ∧ (fc.map fun p => PySem.DueE.fnC K p.1) = fc.map (·.2) :=
  List.append_inj (congrArg (fun z : He.AlD => z.2) c) (by simp)
theorem map_at {α β : Type} {f g : α → β} : ∀ {l : List α}, l.map f = l.map g → ∀ {i : Nat} {x : α}, l[i]? = some x → f x = g x
  | _ :: _, e, 0, x, h => by
    cases h
    exact (List.cons.inj e).1
  | _ :: _, e, i + 1, x, h => map_at (List.cons.inj e).2 h
theorem SaysM.def_ (c : SaysM fs fn fc K) (i : Nat) {d : He.DefD} (h : fn[i]? = some d := by rfl) : ∃ fd, FunD K d.name d.qual d.params d.body d.scope (d.dvs K) (d.kws K) (He.fAd K d.at_) fd := by
  have c2 := (Bool.and_eq_true_iff.mp (show ((fs.all fun f => f K) && fn.all fun d => d.ok K) = true from congrArg (fun z : He.AlD => z.1) c)).2
  exact He.DefD.funD (map_at c.lists.1 h) (List.all_eq_true.mp c2 d (List.mem_of_getElem? h))
theorem SaysM.cell (c : SaysM fs fn fc K) (i : Nat) {p : Pn × He.FnW} (h : fc[i]? = some p := by rfl) : PySem.DueE.fnC K p.1 = p.2 := map_at c.lists.2 h
end
/-! a def behind its name -/
section
variable {P : Program} {w : World} {K : PySem.W.Frag} {mg : Str → Option Value} {base : Heap} {x qual : Str} {params : Arguments} {body : List Stmt} {scope : Scope} {kws : List (Str × V)} {f : Addr} {fd : FuncData} {k : Nat} {ps ks : List Str} {sp : Sp} {g : {α : Type} → List α → List α}
theorem FunD.bindsW (F : FunD K x qual params body scope [] kws f fd)
    (h : ∀ (kV doc pm : Value) (an : Option Addr) (cdv ct : Value) (ws : List Value), (g ws).length = ps.length → bindArgs (PySem.W.fnOf x qual params body scope .none kV doc pm an cdv ct) ⟨[], ks.zip ws⟩ = pure (ps.zip (g ws))) (s : Shared) (ws : List Value) (hl : (g ws).length = ps.length) : BindsTo s fd ⟨[], ks.zip ws⟩ (ps.zip (g ws)) := by
  obtain ⟨oc, od, dV, kV, doc, pm, an, cdv, ct, osl, rfl, lk, hcd, hD, hK⟩ := F.ex
  rcases hD with ⟨_, rfl⟩ | ⟨e, _⟩
  · exact .of_eq (h kV doc pm an cdv ct ws hl)
  · exact absurd rfl e
theorem Kn.of {y : Str} (F : FunD K x qual params body scope [] kws f fd) (ok : FnOk P w K mg base (L2.CX P w) k f fd ps sp) (hm : mg y = some (.ref f)) (b : Binds K fd ps []) : Kn P w K mg base k y ps sp := ⟨f, fd, ok, hm, F.kp, b⟩
theorem Kk.of {y : Str} (F : FunD K x qual params body scope [] kws f fd) (ok : FnOk P w K mg base (L2.CX P w) k f fd ps sp) (hm : mg y = some (.ref f))
    (h : ∀ (kV doc pm : Value) (an : Option Addr) (cdv ct : Value) (ws : List Value), (g ws).length = ps.length → bindArgs (PySem.W.fnOf x qual params body scope .none kV doc pm an cdv ct) ⟨[], ks.zip ws⟩ = pure (ps.zip (g ws)))
    (hg : ∀ {zs : List V} {ws : List Value}, Vals zs ws → Vals (g zs) (g ws)) : Kk P w K mg base k y ps ks g sp := ⟨f, fd, ok, hm, F.kp, fun s ws _ hl => FunD.bindsW F h s ws hl, hg⟩
end
/-- the law's end, where calls may let errors out -/
theorem walk_ofX {l : PySem.W.OpenLaw} {n k : Nat} {q : Program} {loose : List Str} {XP : (Str → Option Value) → Heap → Prop} {YP : World → Heap → Prop} {d : DefRec} {x : Str}
    (hn : l.most = some n) (hn2 : n ≤ sizeLine) (hdf : d.params.defaults = []) (hr : Room k callerA)
    (F : ∀ (w : World) (mg : Str → Option Value) (fa : Addr) (h : Heap), YP w h → h.Ns mainGlobals mg → mg d.name = some (.ref fa) →
      ∃ (K : PySem.W.Frag) (fd : FuncData) (sp : Sp), K.In h ∧ (∀ (s : Shared) (u : Value), BindsTo s fd ⟨[u], []⟩ [(x, u)]) ∧
        (∀ (H : Hp) (a : Addr) (ns : List Int), ns.length ≤ n → Only H → SqL K H a (ns.map V.int) → sp [.ref a] H (fun v _ => v = .bl true) fun _ _ _ => False) ∧
        ∀ base : Heap, K.In base → base.Ns mainGlobals mg → FnOk l.prog w K mg base (L2.CX l.prog w) k fa fd [x] sp) :
    PySem.W.WalkO q loose XP YP l.row.toRowW d [] (fun f vs => PySem.call f vs) := by
  refine Att.attach_call hn hdf fun w s₀ s₁ mg mb fa o pm cd doc a vs ns G Y ho hd hcd hmg hobj hints hlen hg => ?_
  obtain ⟨K, fd, sp, KX, hb, hsp, hF⟩ := F w mg fa _ Y G.T.g hmg
  exact law_call KX G.T.g G.T.b G.T.builtins G.T.nolimit hg hobj hints (Nat.le_trans hlen hn2) hr hF hb (fun H hO hS => hsp H a ns hlen hO hS) fun H e s' c => by
    obtain ⟨_, _, _, _, _, _, _, _, _, _, _, _, z⟩ := c
    exact z
end Kx
set_option Elab.async false
set_option linter.all false
set_option maxRecDepth 100000
set_option maxHeartbeats 0
namespace My
open PySem PySem.Spec PyProof.Rows L2 Kx
def top (i : Nat) : Stmt := PySem.Challenge.pw_dueagain_k17_whole_due_moments_of_local.main.body.getD i (.Pass ⟨0, 0, 0, 0⟩)
def clsBody (s : Stmt) : List Stmt := match s with
  | .ClassDef _ _ _ b _ _ _ _ _ _ _ => b
  | _ => []
def mth (i j : Nat) : Stmt := (clsBody (top i)).getD j (.Pass ⟨0, 0, 0, 0⟩)
abbrev PR : Program := (PySem.Challenge.rw_dueagain_k17_whole_due_moments_of_local).prog
abbrev RR : PySem.W.OpenRow := PySem.W.OpenLaw.row PySem.Challenge.rw_dueagain_k17_whole_due_moments_of_local
theorem Kn_mono {P : Program} {w : World} {K : PySem.W.Frag} {mg : Str → Option Value} {base : Heap} {j k : Nat} {x : Str} {ps : List Str} {sp : Sp} (c : Kn P w K mg base j x ps sp) (h : j ≤ k) : Kn P w K mg base k x ps sp := by
  obtain ⟨f, fd, ok, r⟩ := c.ex
  exact ⟨f, fd, ok.mono h, r⟩
abbrev dd (x : Str) (i : Nat) : He.DefD := ⟨(x, none), x, x, defArgs (top i), defBody (top i), defScope (top i), [], []⟩
abbrev ddm (c m q : Str) (s : Stmt) : He.DefD := ⟨(c, some m), m, q, defArgs s, defBody s, defScope s, [], []⟩
def iniS : Stmt := (clsBody (top 2)).getD 0 (.Pass ⟨0, 0, 0, 0⟩)
abbrev iniP : Pn × He.FnW := ((PySem.Str.ofString "DueError", some (PySem.Str.ofString "__init__")), some (PySem.Str.ofString "__init__", PySem.Str.ofString "DueError.__init__", defArgs iniS, FuncBody.stmts (defBody iniS), defScope iniS, mainGlobals, [(PySem.Str.ofString "__class__", 0)], builtinsNs))
theorem ini_eq : ∃ p1 p2 p3 q1 q2 q3 q4 q5 q6 r1 r2 r3 r4 : Pos, iniP.2 = PySem.DueE.iFn p1 p2 p3 q1 q2 q3 q4 q5 q6 r1 r2 r3 r4 ∧ (q3.endLine == q5.line) = true := ⟨_, _, _, _, _, _, _, _, _, _, _, _, _, rfl, by decide +kernel⟩
abbrev fc : List (Pn × He.FnW) := [iniP]
abbrev fn : List He.DefD := [dd "is_whole" 11, dd "is_between" 12, dd "is_list" 13, dd "is_list_of" 14, dd "is_tuple_of" 15, dd "is_ascending" 16, dd "is_time" 19, dd "check_time" 20, dd "is_offset" 27, dd "is_change" 29, dd "are_changes" 30, dd "ranges_of" 31, dd "locals_of" 33, dd "moments_of" 34, dd "jump_over" 35, dd "check_clock" 36, dd "check_ways" 37, dd "due_moments" 38, dd "_law_cell" 40, dd "_law_box" 41, dd "_law_take" 42, dd "_law_same" 43, dd "_law_clock" 44, dd "_law_offset" 45, dd "_law_ranges" 46, dd "_law_moments" 47, dd "_law_due_moments" 48, dd "_law_asked" 49, dd "_law_rows_right" 50, dd "_law_far_right" 51, dd "_law_refusals_right" 52, dd "law" 53, ddm "Clock" "__init__" "Clock.__init__" (mth 32 0)]
def fs : List Fx := [fun K => (He.Fa.free "abs").ok K,
  fun K => (He.Fa.free "all").ok K,
  fun K => (He.Fa.free "bool").ok K,
  fun K => (He.Fa.free "int").ok K,
  fun K => (He.Fa.free "isinstance").ok K,
  fun K => (He.Fa.free "len").ok K,
  fun K => (He.Fa.free "list").ok K,
  fun K => (He.Fa.free "max").ok K,
  fun K => (He.Fa.free "min").ok K,
  fun K => (He.Fa.free "range").ok K,
  fun K => (He.Fa.free "set").ok K,
  fun K => (He.Fa.free "str").ok K,
  fun K => (He.Fa.free "sum").ok K,
  fun K => (He.Fa.free "super").ok K,
  fun K => (He.Fa.free "tuple").ok K,
  fun K => (He.Fa.free "zip").ok K,
  fun K => (He.Fa.glo "FOLDS").ok K,
  fun K => (He.Fa.glo "GAPS").ok K,
  fun K => (He.Fa.int "MOST_CHANGES" 400).ok K,
  fun K => (He.Fa.int "MOST_MOMENT" 1000000000000000).ok K,
  fun K => (He.Fa.int "MOST_OFFSET" 1440).ok K,
  fun K => (He.Fa.int "MOST_TIME" 1000000000000000).ok K,
  fun K => (He.Fa.glo "Clock").ok K,
  fun K => cfB (He.ga K "Clock") ["offset", "ranges", "changes"] K,
  fun K => (He.Fa.glo "DueError").ok K,
  fun K => PySem.DueE.dueClsB (He.ga K "DueError") (He.ga K "DueError") (He.ma K (He.ga K "DueError") "__init__") K,
  fun K => (He.Fa.glo "InvalidChanges").ok K,
  fun K => PySem.DueE.dueClsB (He.ga K "DueError") (He.ga K "InvalidChanges") (He.ma K (He.ga K "DueError") "__init__") K,
  fun K => (He.Fa.glo "InvalidClock").ok K,
  fun K => PySem.DueE.dueClsB (He.ga K "DueError") (He.ga K "InvalidClock") (He.ma K (He.ga K "DueError") "__init__") K,
  fun K => (He.Fa.glo "InvalidFold").ok K,
  fun K => PySem.DueE.dueClsB (He.ga K "DueError") (He.ga K "InvalidFold") (He.ma K (He.ga K "DueError") "__init__") K,
  fun K => (He.Fa.glo "InvalidGap").ok K,
  fun K => PySem.DueE.dueClsB (He.ga K "DueError") (He.ga K "InvalidGap") (He.ma K (He.ga K "DueError") "__init__") K,
  fun K => (He.Fa.glo "InvalidOffset").ok K,
  fun K => PySem.DueE.dueClsB (He.ga K "DueError") (He.ga K "InvalidOffset") (He.ma K (He.ga K "DueError") "__init__") K,
  fun K => (He.Fa.glo "InvalidTime").ok K,
  fun K => PySem.DueE.dueClsB (He.ga K "DueError") (He.ga K "InvalidTime") (He.ma K (He.ga K "DueError") "__init__") K,
  fun K => PySem.DueE.dueInitB PR.main.file (He.ga K "DueError") (He.ma K (He.ga K "DueError") "__init__") K,
  fun K => He.eqO (PySem.W.nsIn K mainGlobals "super") (some none),
  fun K => He.eqO (PySem.W.nsIn K cStatics "thirdparty.any") (some none),
  fun K => He.tupB K "GAPS" ([.str "skip", .str "after"]),
  fun K => He.tupB K "FOLDS" ([.str "first", .str "last", .str "both"]),
  fun K => extB ["InvalidClock", "InvalidTime", "InvalidGap", "InvalidFold"] "DueError" K,
  fun K => kitB ["InvalidClock", "InvalidTime", "InvalidGap", "InvalidFold"] K,
  fun K => (He.Fa.glo "is_whole").ok K,
  fun K => (He.Fa.glo "is_between").ok K,
  fun K => (He.Fa.glo "is_list").ok K,
  fun K => (He.Fa.glo "is_list_of").ok K,
  fun K => (He.Fa.glo "is_tuple_of").ok K,
  fun K => (He.Fa.glo "is_ascending").ok K,
  fun K => (He.Fa.glo "is_time").ok K,
  fun K => (He.Fa.glo "check_time").ok K,
  fun K => (He.Fa.glo "is_offset").ok K,
  fun K => (He.Fa.glo "is_change").ok K,
  fun K => (He.Fa.glo "are_changes").ok K,
  fun K => (He.Fa.glo "ranges_of").ok K,
  fun K => (He.Fa.glo "locals_of").ok K,
  fun K => (He.Fa.glo "moments_of").ok K,
  fun K => (He.Fa.glo "jump_over").ok K,
  fun K => (He.Fa.glo "check_clock").ok K,
  fun K => (He.Fa.glo "check_ways").ok K,
  fun K => (He.Fa.glo "due_moments").ok K,
  fun K => (He.Fa.glo "_law_cell").ok K,
  fun K => (He.Fa.glo "_law_box").ok K,
  fun K => (He.Fa.glo "_law_take").ok K,
  fun K => (He.Fa.glo "_law_same").ok K,
  fun K => (He.Fa.glo "_law_clock").ok K,
  fun K => (He.Fa.glo "_law_offset").ok K,
  fun K => (He.Fa.glo "_law_ranges").ok K,
  fun K => (He.Fa.glo "_law_moments").ok K,
  fun K => (He.Fa.glo "_law_due_moments").ok K,
  fun K => (He.Fa.glo "_law_asked").ok K,
  fun K => (He.Fa.glo "_law_rows_right").ok K,
  fun K => (He.Fa.glo "_law_far_right").ok K,
  fun K => (He.Fa.glo "_law_refusals_right").ok K,
  fun K => (He.Fa.glo "law").ok K,
  fun K => (He.Fa.mkr "Clock").ok K]
abbrev hk : PySem.W.Hook := hookM 5 fs fn fc
def ob (s : PySem.W.SharedT) : He.AlD := obsMG 5 fs fn fc (HandSHeadRun.getT s)
theorem ob_eq (s : PySem.W.SharedT) : ob s = hk.obs s.abs := obsMG_eq (HandSHeadRun.getT_eq s)
def names0 : List Str := ["_wall", "DueError", "InvalidChanges", "InvalidClock", "InvalidFold", "InvalidGap", "InvalidMoment", "InvalidOffset", "InvalidTime", "is_whole", "is_between", "is_list", "is_list_of", "is_tuple_of", "is_ascending", "MOST_TIME", "is_time", "check_time", "MOST_OFFSET", "MOST_MOMENT"]
def names1 : List Str := ["MOST_CHANGES", "GAPS", "FOLDS", "is_offset", "check_moment", "is_change", "are_changes", "ranges_of", "Clock", "locals_of", "moments_of", "jump_over", "check_clock", "check_ways", "due_moments", "_law_cell", "_law_box", "_law_take", "_law_same", "_law_clock"]
def names2 : List Str := ["_law_offset", "_law_ranges", "_law_moments", "_law_due_moments", "_law_asked", "_law_rows_right", "_law_far_right", "_law_refusals_right"]
def names : List Str := names0 ++ names1 ++ names2
theorem run (w : World) : HandSHeadRun.RunEq RR (PySem.W.view RR.prog [53]) hk ob 4000 names w := by
  intro os
  kernel_rfl
end My
set_option Elab.async false
set_option linter.all false
set_option maxRecDepth 100000
set_option maxHeartbeats 4000000
/-! zip of two lists as a value of a name, walked once -/
namespace Kx
open PySem PySem.Spec PyProof.Rows L2 ItX
/-- an object that stands just so -/
def Px (a : Addr) (o : Obj) : HO := .ext fun h => h.get? a = some o
theorem px_ok {P : Program} {w : World} {H : Hp} {h : Heap} {a : Addr} {o : Obj} (e : h.get? a = some o) : ObjOk P w H h a (Px a o) := ⟨e, ⟨_, e⟩, fun _ _ q k => k _ q⟩
theorem px_get {X : Cx} {pins : List (Addr × Obj)} {σ : L2.St} {H : Hp} {s : Shared} {a : Addr} {o : Obj} (I : Inv X pins σ H s) (h : H a = some (Px a o)) : s.heap.get? a = some o := (show _ ∧ _ from I.hok a _ h).1
def oZip (TI TO : Addr) : Obj := { cls := .type "zip", dict := none, data := .fields #[.none, .bool false, .bool false, .ref TI, .ref TO], slots := #[] }
def oPair (a b : Value) : Obj := { cls := .type "tuple", data := .seq #[a, b] }
/-- a zip that has not been walked: its five objects -/
structure ZipV (H : Hp) (n : Nat) (z l1 l2 : Addr) (o1 o2 : Obj) (TI TO i1 i2 : Addr) : Prop where
  hz : H z = some (Px z (oZip TI TO))
  hTI : H TI = some (Px TI (oPair (.ref i1) (.ref i2)))
  hTO : H TO = some (Px TO (oPair .none .none))
  h1 : H i1 = some (Px i1 o1)
  h2 : H i2 = some (Px i2 o2)
  k1 : ∀ h : Heap, h.get? i1 = some o1 → h.IsListIter i1 l1 0
  k2 : ∀ h : Heap, h.get? i2 = some o2 → h.IsListIter i2 l2 0
  ap : ZipApart z TI TO i1 i2 l1 l2
  nz : n ≤ z
  nTI : n ≤ TI
  nTO : n ≤ TO
  n1 : n ≤ i1
  n2 : n ≤ i2
theorem ZipV.same {H H' : Hp} {n : Nat} {z l1 l2 : Addr} {o1 o2 : Obj} {TI TO i1 i2 : Addr} (e : Same H H') (h : ZipV H n z l1 l2 o1 o2 TI TO i1 i2) : ZipV H' n z l1 l2 o1 o2 TI TO i1 i2 :=
  ⟨e _ _ h.hz, e _ _ h.hTI, e _ _ h.hTO, e _ _ h.h1, e _ _ h.h2, h.k1, h.k2, h.ap, h.nz, h.nTI, h.nTO, h.n1, h.n2⟩
theorem Inv_laidN {X : Cx} {pins : List (Addr × Obj)} {σ : L2.St} {H H' : Hp} {s : Shared} {h' : Heap} {t' : Nat} (I : Inv X pins σ H s) (k : ∀ b u, s.heap.get? b = some u → h'.get? b = some u) (e : Same H H')
    (hf : ∀ b, H b = none → b < s.heap.objs.size → H' b = none) (new : ∀ b o, H b = none → H' b = some o → ObjOk X.prog X.w H' h' b o) : Inv X pins σ H' { s with heap := h', toks := t' } := by
  refine I.un ⟨fun b u q _ _ _ => k b u q, fun b u q _ _ _ => ⟨u.slots, k b u q⟩, fun b u q n _ => hf b n (Heap.lt_size q), fun b u q _ => ⟨u, k b u q⟩, fun b xs q => e _ _ q, fun b u xs q => e _ _ q, fun b ps q => ⟨#[], by rw [e _ _ q]; simp⟩⟩ ?_
  intro b o hb
  cases hz : H b with
  | none => exact new b o hz hb
  | some u =>
    have := e _ _ hz
    rw [hb] at this
    cases this
    exact (I.hok b o hz).stay (fun c v _ q => k c v q) (fun c q => e _ _ q) fun c xs q => e _ _ q
def drop5 (H : Hp) (z TI TO i1 i2 : Addr) : Hp := dropH (dropH (dropH (dropH (dropH H z) TI) TO) i1) i2
def tZipV (K : PySem.W.Frag) (n : Nat) (t : TA) : TE := fun σ H Q => t σ H fun vs H1 => ∃ a b xs ys, vs = [.ref a, .ref b] ∧ SqL K H1 a xs ∧ SqL K H1 b ys ∧ ∀ z o1 o2 TI TO i1 i2 H2, Same H1 H2 → (∀ c, c = z ∨ c = TI ∨ c = TO ∨ c = i1 ∨ c = i2 → H1 c = none) → ZipV H2 n z a b o1 o2 TI TO i1 i2 → Q (.ref z) H2
theorem pe_zipV {X : Cx} {e e2 : Expr} {ta : TA} {p pos : Pos} (hg : Gl X "zip") (hm : X.mg "zip" = none) (ha : PA X [e, e2] ta)
    (hs : starEach [e, e2] X.env = (false, eval e X.env) :: starEach [e2] X.env := by rfl) (hpl : (backTo pos (starEach [e2] X.env)).any (·.1) = false := by rfl) :
    PE X (.Call (.Name "zip" p) [e, e2] [] pos) (tZipV X.K X.s_0.heap.objs.size ta) := by
  refine ⟨fun pins s σ H Q I h => ?_⟩
  refine Call_ (ld_blt I hg hm PyProof.Rows.boot_zip (PyProof.Rows.callWith_type1 (thn (ha.run pos pins s σ H _ I h) fun us s1 ⟨vs, H1, I1, r1, q1⟩ => ?_) hs hpl))
  obtain ⟨a, b, xs, ys, ex, hqx, hqy, q⟩ := q1
  subst ex
  cases r1 with
  | cons r rr =>
    cases rr with
    | cons r' rr =>
      cases rr
      cases r
      cases r'
      obtain ⟨its, rv, p1, _⟩ := I1.list hqx
      obtain ⟨its2, rv2, p2, _⟩ := I1.list hqy
      have la : a < s1.heap.objs.size := p1.lt
      have lb : b < s1.heap.objs.size := p2.lt
      refine call_zip_2 p1.isList p2.isList fun h' hz hTI hTO h1 h2 hsz hk => ?_
      have sz := I1.sz
      obtain ⟨o1, g1, c1, d1⟩ := id h1
      obtain ⟨o2, g2, c2, d2⟩ := id h2
      have ap := PySem.W.ktu_apart s1.heap.objs.size a b la lb
      have fr : ∀ c, s1.heap.objs.size ≤ c → H1 c = none := fun c hc => I1.hok.fresh hc
      generalize hn : s1.heap.objs.size = n at *
      let H2 : Hp := fun c => if c = n + 4 then some (Px c (oZip (n + 2) (n + 3))) else if c = n + 2 then some (Px c (oPair (.ref n) (.ref (n + 1)))) else if c = n + 3 then some (Px c (oPair .none .none)) else if c = n then some (Px c o1) else if c = n + 1 then some (Px c o2) else H1 c
      have old : ∀ c, c < n → H2 c = H1 c := fun c hc => by
        show (if c = n + 4 then _ else if c = n + 2 then _ else if c = n + 3 then _ else if c = n then _ else if c = n + 1 then _ else H1 c) = H1 c
        rw [if_neg (Nat.ne_of_lt (Nat.lt_of_lt_of_le hc (Nat.le_add_right _ _))), if_neg (Nat.ne_of_lt (Nat.lt_of_lt_of_le hc (Nat.le_add_right _ _))), if_neg (Nat.ne_of_lt (Nat.lt_of_lt_of_le hc (Nat.le_add_right _ _))), if_neg (Nat.ne_of_lt hc), if_neg (Nat.ne_of_lt (Nat.lt_of_lt_of_le hc (Nat.le_add_right _ _)))]
      have e : Same H1 H2 := fun c o hc => by
        have : c < n := by
          by_cases z : c < n
          · exact z
          · rw [fr c (Nat.le_of_not_lt z)] at hc; cases hc
        rw [old c this]; exact hc
      have J : Inv X pins σ H2 { s1 with heap := h' } := Inv_laidN (t' := s1.toks) I1 hk e (fun c hc hl => by rw [old c (by rw [hn] at hl; exact hl)]; exact hc) (fun c o hc ho => by
        have ho : (if c = n + 4 then some (Px c (oZip (n + 2) (n + 3))) else if c = n + 2 then some (Px c (oPair (.ref n) (.ref (n + 1)))) else if c = n + 3 then some (Px c (oPair .none .none)) else if c = n then some (Px c o1) else if c = n + 1 then some (Px c o2) else H1 c) = some o := ho
        split at ho
        · rename_i z; cases ho; exact px_ok (by rw [z]; exact hz)
        · split at ho
          · rename_i z; cases ho; exact px_ok (by rw [z]; exact hTI)
          · split at ho
            · rename_i z; cases ho; exact px_ok (by rw [z]; exact hTO)
            · split at ho
              · rename_i z; cases ho; exact px_ok (by rw [z]; exact g1)
              · split at ho
                · rename_i z; cases ho; exact px_ok (by rw [z]; exact g2)
                · rw [hc] at ho; cases ho)
      refine ⟨.ref (n + 4), H2, J, rfl, q (n + 4) o1 o2 (n + 2) (n + 3) n (n + 1) H2 e (fun c hc => ?_) ?_⟩
      · rcases hc with h | h | h | h | h <;> subst h <;> first | exact fr _ (Nat.le_add_right _ _) | exact fr _ (Nat.le_refl _)
      have sz : X.s_0.heap.objs.size ≤ n := by omega
      have at_ : ∀ c v, H2 c = v ↔ (if c = n + 4 then some (Px c (oZip (n + 2) (n + 3))) else if c = n + 2 then some (Px c (oPair (.ref n) (.ref (n + 1)))) else if c = n + 3 then some (Px c (oPair .none .none)) else if c = n then some (Px c o1) else if c = n + 1 then some (Px c o2) else H1 c) = v := fun c v => Iff.rfl
      refine ⟨?_, ?_, ?_, ?_, ?_, fun h e => ⟨o1, e, c1, d1⟩, fun h e => ⟨o2, e, c2, d2⟩, ap, Nat.le_trans sz (Nat.le_add_right _ _), Nat.le_trans sz (Nat.le_add_right _ _), Nat.le_trans sz (Nat.le_add_right _ _), sz, Nat.le_trans sz (Nat.le_add_right _ _)⟩
      · rw [at_, if_pos rfl]
      · rw [at_, if_neg ap.TIz, if_pos rfl]
      · rw [at_, if_neg ap.TOz, if_neg (Ne.symm ap.TITO), if_pos rfl]
      · rw [at_, if_neg ap.i1z, if_neg (Ne.symm ap.TIi1), if_neg (Ne.symm ap.TOi1), if_pos rfl]
      · rw [at_, if_neg ap.i2z, if_neg (Ne.symm ap.TIi2), if_neg (Ne.symm ap.TOi2), if_neg (Ne.symm ap.i12), if_pos rfl]
/-- for a, b in z, z a name that holds such a zip -/
def iZipV (K : PySem.W.Frag) (n : Nat) (k : Nat) : TI := fun σ H R => ∃ z a b o1 o2 TI TO i1 i2 xs ys, σ[k]? = some (some (.ref z)) ∧ ZipV H n z a b o1 o2 TI TO i1 i2 ∧ SqL K H a xs ∧ SqL K H b ys ∧ R (Itz K a b) (drop5 H z TI TO i1 i2)
theorem fp_of {X : Cx} {pins : List (Addr × Obj)} {H H' : Hp} {b : Addr} (h : FpOk X pins H b) (n : H' b = none) : FpOk X pins H' b := by
  obtain ⟨_, r⟩ := h
  exact ⟨n, r⟩
theorem pi_zipV {X : Cx} {elts : List Expr} {kk : Nat} {tpos p : Pos} {k : Nat} {x : Str} (hN : X.N[k]? = some x) (hv : Vis X.env.scope x) (hd : (x == ("__debug__" : Str)) = false := by decide) (hcd : (x == ("__classdict__" : Str)) = false := by decide) :
    PI X (.Tuple elts kk tpos) (.Name x p) (iZipV X.K X.s_0.heap.objs.size k) := by
  refine ⟨fun pins s σ H R I h => ?_⟩
  obtain ⟨z, a, b, o1, o2, TI, TO, i1, i2, xs, ys, hs, Z, hx, hy, q⟩ := h
  refine thn ((pe_var (pos := p) (i := k) hN hv hd hcd).run pins s σ H (fun v H1 => v = .ref z ∧ H1 = H) I ⟨.ref z, hs, rfl, rfl⟩) fun u s1 ⟨v, H1, I1, r1, ev, eH⟩ => ?_
  subst ev
  rw [eH] at I1
  cases r1
  have ez := px_get I1 Z.hz
  have eTI := px_get I1 Z.hTI
  have eTO := px_get I1 Z.hTO
  have e1 := px_get I1 Z.h1
  have e2 := px_get I1 Z.h2
  refine wpAny_pyIter_zip ez ?_
  have ap := Z.ap
  have f1 := inv_fp I1 Z.hz Z.nz
  have f2 := inv_fp I1 Z.hTI Z.nTI
  have f3 := inv_fp I1 Z.hTO Z.nTO
  have f4 := inv_fp I1 Z.h1 Z.n1
  have f5 := inv_fp I1 Z.h2 Z.n2
  have J1 := inv_drop I1 Z.hz
  have J2 := inv_drop J1 (a := TI) (by rw [dropH_ne ap.TIz]; exact Z.hTI)
  have J3 := inv_drop J2 (a := TO) (by rw [dropH_ne (Ne.symm ap.TITO), dropH_ne ap.TOz]; exact Z.hTO)
  have J4 := inv_drop J3 (a := i1) (by rw [dropH_ne (Ne.symm ap.TOi1), dropH_ne (Ne.symm ap.TIi1), dropH_ne ap.i1z]; exact Z.h1)
  have J5 := inv_drop J4 (a := i2) (by rw [dropH_ne (Ne.symm ap.i12), dropH_ne (Ne.symm ap.TOi2), dropH_ne (Ne.symm ap.TIi2), dropH_ne ap.i2z]; exact Z.h2)
  have D : ∀ c, (c = z ∨ c = TI ∨ c = TO ∨ c = i1 ∨ c = i2) → drop5 H z TI TO i1 i2 c = none := by
    intro c hc
    unfold drop5
    by_cases q5 : c = i2
    · rw [q5, dropH_same]
    rw [dropH_ne q5]
    by_cases q4 : c = i1
    · rw [q4, dropH_same]
    rw [dropH_ne q4]
    by_cases q3 : c = TO
    · rw [q3, dropH_same]
    rw [dropH_ne q3]
    by_cases q2 : c = TI
    · rw [q2, dropH_same]
    rw [dropH_ne q2]
    rcases hc with h | h | h | h | h
    · rw [h, dropH_same]
    · exact absurd h q2
    · exact absurd h q3
    · exact absurd h q4
    · exact absurd h q5
  refine ⟨z, [z, TI, TO, i1, i2], _, _, drop5 H z TI TO i1 i2, rfl, J5, turn_zip ap, ⟨ez, eTI, ⟨_, _, eTO⟩, Z.k1 _ e1, Z.k2 _ e2⟩, fun c hcm => ?_, q⟩
  have e' : c = z ∨ c = TI ∨ c = TO ∨ c = i1 ∨ c = i2 := by simpa using hcm
  have dn := D c e'
  rcases e' with h | h | h | h | h
  · rw [h] at dn ⊢; exact fp_of f1 dn
  · rw [h] at dn ⊢; exact fp_of f2 dn
  · rw [h] at dn ⊢; exact fp_of f3 dn
  · rw [h] at dn ⊢; exact fp_of f4 dn
  · rw [h] at dn ⊢; exact fp_of f5 dn
theorem drop5_same {H1 H2 : Hp} {z TI TO i1 i2 : Addr} (e : Same H1 H2) (n : ∀ c, c = z ∨ c = TI ∨ c = TO ∨ c = i1 ∨ c = i2 → H1 c = none) : Same H1 (drop5 H2 z TI TO i1 i2) := by
  intro b o hb
  have ne : ∀ c, (c = z ∨ c = TI ∨ c = TO ∨ c = i1 ∨ c = i2) → b ≠ c := fun c hc z => by rw [z, n c hc] at hb; cases hb
  unfold drop5
  rw [dropH_ne (ne _ (.inr (.inr (.inr (.inr rfl))))), dropH_ne (ne _ (.inr (.inr (.inr (.inl rfl))))), dropH_ne (ne _ (.inr (.inr (.inl rfl)))), dropH_ne (ne _ (.inr (.inl rfl))), dropH_ne (ne _ (.inl rfl))]
  exact e _ _ hb
theorem w_zipV {K : PySem.W.Frag} {n : Nat} {t : TA} {σ : L2.St} {H : Hp} {Q : VK} (q : t σ H fun vs H1 => ∃ a b xs ys, vs = [.ref a, .ref b] ∧ SqL K H1 a xs ∧ SqL K H1 b ys ∧ ∀ z o1 o2 TI TO i1 i2 H2, Same H1 H2 → (∀ c, c = z ∨ c = TI ∨ c = TO ∨ c = i1 ∨ c = i2 → H1 c = none) → ZipV H2 n z a b o1 o2 TI TO i1 i2 → Q (.ref z) H2) : tZipV K n t σ H Q := q
theorem w_izipV {K : PySem.W.Frag} {n k : Nat} {σ : L2.St} {H : Hp} {R : It → Hp → Prop} {z a b : Addr} {o1 o2 : Obj} {TI TO i1 i2 : Addr} {xs ys : List V} (h : σ[k]? = some (some (.ref z))) (Z : ZipV H n z a b o1 o2 TI TO i1 i2) (hx : SqL K H a xs) (hy : SqL K H b ys) (q : R (Itz K a b) (drop5 H z TI TO i1 i2)) : iZipV K n k σ H R := ⟨z, a, b, o1, o2, TI, TO, i1, i2, xs, ys, h, Z, hx, hy, q⟩
theorem pss_all {X : Cx} {b : List Stmt} {t : Nat → TS} {n : Nat} (h : PSs X b (t n)) : PSs X b (fun D σ H => ∀ n, t n D σ H) := ⟨fun pins s σ H D I q => h.run pins s σ H D I (q n)⟩
end Kx
set_option linter.all false
set_option maxRecDepth 100000
set_option maxHeartbeats 2000000
namespace My
/-! ## days and dates, in plain Lean -/
def leap (y : Int) : Bool := decide (y % 4 = 0) && (!decide (y % 100 = 0) || decide (y % 400 = 0))
def lp (y : Int) : Int := if leap y = true then 1 else 0
/-- the day on which a year begins -/
def yb (y : Int) : Int := 365 * (y - 2000) + (y - 2000 + 3) / 4 - (y - 2000 + 99) / 100 + (y - 2000 + 399) / 400
def mtab (m : Int) : Int := if m = 2 then 28 else if m = 4 ∨ m = 6 ∨ m = 9 ∨ m = 11 then 30 else 31
def mlen (y m : Int) : Int := mtab m + (if m = 2 then lp y else 0)
/-- the days of the year ahead of a month -/
def ahead (y : Int) : Nat → Int
  | 0 => 0
  | n + 1 => ahead y n + mlen y (n + 1)
def mb (y m : Int) : Int := yb y + ahead y (m - 1).toNat
theorem lp_eq (y : Int) : lp y = if (y % 4 = 0 ∧ (¬ y % 100 = 0 ∨ y % 400 = 0)) then 1 else 0 := by
  unfold lp leap
  simp
theorem lp_01 (y : Int) : lp y = 0 ∨ lp y = 1 := by
  unfold lp
  split <;> simp
theorem yb_succ (y : Int) : yb (y + 1) = yb y + 365 + lp y := by
  rw [lp_eq]
  unfold yb
  split <;> omega
theorem yb_lt {y z : Int} (h : y < z) : yb y + 365 ≤ yb z := by
  unfold yb
  omega
theorem yb_400 (y : Int) : yb (y + 400) = yb y + 146097 := by
  unfold yb
  omega
theorem lp_400 (y : Int) : lp (y + 400) = lp y := by
  rw [lp_eq, lp_eq]
  have : (y + 400) % 4 = y % 4 := by omega
  have : (y + 400) % 100 = y % 100 := by omega
  have : (y + 400) % 400 = y % 400 := by omega
  simp [*]
theorem mlen_le (y m : Int) : 28 ≤ mlen y m ∧ mlen y m ≤ 31 := by
  have := lp_01 y
  unfold mlen mtab
  split <;> (try split) <;> omega
theorem ahead_12 (y : Int) : ahead y 12 = 365 + lp y := by
  unfold ahead ahead ahead ahead ahead ahead ahead ahead ahead ahead ahead ahead ahead
  unfold mlen mtab
  simp
  omega
theorem ahead_mono (y : Int) : ∀ {a b : Nat}, a ≤ b → ahead y a ≤ ahead y b
  | a, 0, h => by have : a = 0 := by omega
                  rw [this]; exact Int.le_refl _
  | a, b + 1, h => by
    by_cases e : a = b + 1
    · rw [e]; exact Int.le_refl _
    · have := ahead_mono y (a := a) (b := b) (by omega)
      have := (mlen_le y (b + 1)).1
      show ahead y a ≤ ahead y b + mlen y ((b : Int) + 1)
      omega
/-- y, m, d is the date of the day n -/
structure IsD (n y m d : Int) : Prop where
  m1 : 1 ≤ m
  m2 : m ≤ 12
  d1 : 1 ≤ d
  d2 : d ≤ mlen y m
  eq : mb y m + d - 1 = n
theorem mb_next (y m : Int) (h : 1 ≤ m) : mb y (m + 1) = mb y m + mlen y m := by
  unfold mb
  have e : (m + 1 - 1).toNat = (m - 1).toNat + 1 := by omega
  rw [e]
  show yb y + (ahead y (m - 1).toNat + mlen y (((m - 1).toNat : Int) + 1)) = _
  have : (((m - 1).toNat : Int) + 1) = m := by omega
  rw [this]
  omega
theorem mb_one (y : Int) : mb y 1 = yb y := by
  unfold mb
  show yb y + ahead y 0 = yb y
  unfold ahead
  omega
theorem mb_13 (y : Int) : mb y 13 = yb (y + 1) := by
  rw [yb_succ]
  unfold mb
  show yb y + ahead y 12 = _
  rw [ahead_12]
  omega
theorem mb_mono {y a b : Int} (h1 : 1 ≤ a) (h : a ≤ b) : mb y a ≤ mb y b := by
  unfold mb
  have := ahead_mono y (a := (a - 1).toNat) (b := (b - 1).toNat) (by omega)
  omega
theorem IsD.year {n y m d : Int} (h : IsD n y m d) : yb y ≤ n ∧ n < yb (y + 1) := by
  have h1 := mb_mono (y := y) (a := 1) (b := m) (by omega) h.m1
  have h2 := mb_mono (y := y) (a := m + 1) (b := 13) (by have := h.m1; omega) (by have := h.m2; omega)
  rw [mb_one] at h1
  rw [mb_13, mb_next y m h.m1] at h2
  have := h.eq
  have := h.d1
  have := h.d2
  omega
theorem IsD.uniq {n y m d y' m' d' : Int} (h : IsD n y m d) (h' : IsD n y' m' d') : y = y' ∧ m = m' ∧ d = d' := by
  have a := h.year
  have a' := h'.year
  have ey : y = y' := by
    rcases Int.lt_trichotomy y y' with z | z | z
    · have := yb_lt (y := y + 1) (z := y' + 1) (by omega)
      by_cases e : y + 1 = y'
      · rw [e] at a; omega
      · have := yb_lt (y := y + 1) (z := y') (by omega)
        omega
    · exact z
    · by_cases e : y' + 1 = y
      · rw [e] at a'; omega
      · have := yb_lt (y := y' + 1) (z := y) (by omega)
        omega
  subst ey
  have em : m = m' := by
    have e1 := h.eq
    have e2 := h'.eq
    have b1 := h.d1
    have b2 := h.d2
    have b3 := h'.d1
    have b4 := h'.d2
    have c1 := h.m1
    have c3 := h'.m1
    rcases Int.lt_trichotomy m m' with z | z | z
    · have := mb_mono (y := y) (a := m + 1) (b := m') (by omega) (by omega)
      rw [mb_next y m c1] at this
      omega
    · exact z
    · have := mb_mono (y := y) (a := m' + 1) (b := m) (by omega) (by omega)
      rw [mb_next y m' c3] at this
      omega
  subst em
  have e1 := h.eq
  have e2 := h'.eq
  exact ⟨rfl, rfl, by omega⟩
/-- the next day's date -/
def nextD (y m d : Int) : Int × Int × Int := if d < mlen y m then (y, m, d + 1) else if m < 12 then (y, m + 1, 1) else (y + 1, 1, 1)
theorem IsD.next {n y m d : Int} (h : IsD n y m d) : IsD (n + 1) (nextD y m d).1 (nextD y m d).2.1 (nextD y m d).2.2 := by
  have e := h.eq
  have b1 := h.d1
  have b2 := h.d2
  have c1 := h.m1
  have c2 := h.m2
  unfold nextD
  by_cases q : d < mlen y m
  · rw [if_pos q]
    exact ⟨c1, c2, by show 1 ≤ d + 1; omega, by show d + 1 ≤ mlen y m; omega, by show mb y m + (d + 1) - 1 = n + 1; omega⟩
  · rw [if_neg q]
    by_cases r : m < 12
    · rw [if_pos r]
      have := mlen_le y (m + 1)
      refine ⟨by show 1 ≤ m + 1; omega, by show m + 1 ≤ 12; omega, by show (1 : Int) ≤ 1; omega, by show 1 ≤ mlen y (m + 1); omega, ?_⟩
      show mb y (m + 1) + 1 - 1 = n + 1
      rw [mb_next y m c1]
      omega
    · rw [if_neg r]
      have := mlen_le (y + 1) 1
      refine ⟨by show (1 : Int) ≤ 1; omega, by show (1 : Int) ≤ 12; omega, by show (1 : Int) ≤ 1; omega, by show 1 ≤ mlen (y + 1) 1; omega, ?_⟩
      show mb (y + 1) 1 + 1 - 1 = n + 1
      have e12 : m = 12 := by omega
      subst e12
      have := mb_next y 12 (by omega)
      rw [show (12 : Int) + 1 = 13 from rfl, mb_13] at this
      rw [mb_one]
      omega
theorem mlen_400 (y m : Int) : mlen (y + 400) m = mlen y m := by
  unfold mlen
  rw [lp_400]
theorem ahead_400 (y : Int) : ∀ n, ahead (y + 400) n = ahead y n
  | 0 => rfl
  | n + 1 => by
    unfold ahead
    rw [ahead_400 y n, mlen_400]
theorem mb_400 (y m : Int) : mb (y + 400) m = mb y m + 146097 := by
  unfold mb
  rw [yb_400, ahead_400]
  omega
theorem IsD.add400 {n y m d : Int} (h : IsD n y m d) : IsD (n + 146097) (y + 400) m d :=
  ⟨h.m1, h.m2, h.d1, by rw [mlen_400]; exact h.d2, by rw [mb_400]; have := h.eq; omega⟩
end My
set_option linter.all false
set_option maxRecDepth 100000
namespace My
open PySem PySem.Spec PyProof.Rows L2 Kx
def whole (x : V) : Bool := match x with
  | .int _ => true
  | _ => false
def betw (x : V) (lo hi : Int) : Bool := match x with
  | .int i => decide (lo ≤ i) && decide (i ≤ hi)
  | _ => false
/-- the box of draws: never mind what it holds, but how many draws it counts at most -/
def BoxAt (H : Hp) (b : Addr) (c : Int) : Prop := ∃ (n m c0 : Int) (bo : Bool), H b = some (.lst [.int n, .bl bo, .int m, .int c0]) ∧ 0 ≤ n ∧ 0 ≤ m ∧ m < 2147483629 ∧ 0 ≤ c0 ∧ c0 ≤ c
def notBox : HO → Bool
  | .lst [.int _, .bl _, .int _, .int _] => false
  | _ => true
/-- all but boxes of draws stands as it stood -/
def Ks (H H' : Hp) : Prop := ∀ a o, H a = some o → ∃ o', H' a = some o' ∧ (notBox o = true → o' = o)
/-- all but b stands as it stood -/
def Kb (b : Addr) (H H' : Hp) : Prop := ∀ a o, a ≠ b → H a = some o → H' a = some o
/-- the error of the package's class x, with its value -/
def Er (K : PySem.W.Frag) (E : XK) (H : Hp) (c : Str) (x : V) : Prop := ∀ d, H d = none → E (.ref (He.ga K c)) (some d) (upd H d (.xd [(("given" : Str), x)]))
def MOST : Int := 1000000000000
def dateOk : List V → Bool
  | [a, b, c] => betw a 2000 MOST && (betw b 1 12 && (match a, b, c with
    | .int y, .int m, .int d => decide (1 ≤ d) && (decide (d ≤ mlen y m) && decide (mb y m + d - 1 ≤ MOST))
    | _, _, _ => false))
  | _ => false
def sca : V → Bool
  | .non => true
  | .bl _ => true
  | .int _ => true
  | .str _ => true
  | _ => false
/-- a value that a test may be asked of: a tuple of plain ones, or no tuple -/
inductive Va (K : PySem.W.Frag) (H : Hp) : V → Prop
  | tup {a : Addr} {xs : List V} (h : SqT K H a xs) (hs : xs.all sca = true) : Va K H (.ref a)
  | other {x : V} {T : String} (h : Kd K H x T) (hT : T ≠ "tuple") : Va K H x
def sp_is_whole (K : PySem.W.Frag) : Sp := fun vs H Q _ => ∃ x T, vs = [x] ∧ Kd K H x T ∧ Q (.bl (whole x)) H
def sp_is_between (K : PySem.W.Frag) : Sp := fun vs H Q _ => ∃ x T lo hi, vs = [x, .int lo, .int hi] ∧ Kd K H x T ∧ Q (.bl (betw x lo hi)) H
def sp_is_day (K : PySem.W.Frag) : Sp := fun vs H Q _ => ∃ x T, vs = [x] ∧ Kd K H x T ∧ Q (.bl (betw x 0 MOST)) H
def sp_is_tuple_of (K : PySem.W.Frag) : Sp := fun vs H Q _ => ∃ x n, vs = [x, .int n] ∧ ((∃ a xs, x = .ref a ∧ SqT K H a xs ∧ Q (.bl (decide ((xs.length : Int) = n))) H) ∨ ∃ T, Kd K H x T ∧ T ≠ "tuple" ∧ Q (.bl false) H)
def sp_is_leap_year (K : PySem.W.Frag) : Sp := fun vs H Q _ => ∃ y, vs = [.int y] ∧ Q (.bl (leap y)) H
def sp_length_of (K : PySem.W.Frag) : Sp := fun vs H Q _ => ∃ y m, vs = [.int y, .int m] ∧ 1 ≤ m ∧ m ≤ 12 ∧ Q (.int (mlen y m)) H
def sp_check_year (K : PySem.W.Frag) : Sp := fun vs H Q E => ∃ x T, vs = [x] ∧ Kd K H x T ∧ (betw x 2000 2700000000 = true → Q .non H) ∧ (betw x 2000 2700000000 = false → Er K E H "InvalidYear" x)
def sp_check_month (K : PySem.W.Frag) : Sp := fun vs H Q E => ∃ x T, vs = [x] ∧ Kd K H x T ∧ (betw x 1 12 = true → Q .non H) ∧ (betw x 1 12 = false → Er K E H "InvalidMonth" x)
def sp_check_day (K : PySem.W.Frag) : Sp := fun vs H Q E => ∃ x T, vs = [x] ∧ Kd K H x T ∧ (betw x 0 MOST = true → Q .non H) ∧ (betw x 0 MOST = false → Er K E H "InvalidDay" x)
def sp_is_leap (K : PySem.W.Frag) : Sp := fun vs H Q E => ∃ x T, vs = [x] ∧ Kd K H x T ∧ (∀ y, x = .int y → betw x 2000 2700000000 = true → Q (.bl (leap y)) H) ∧ (betw x 2000 2700000000 = false → Er K E H "InvalidYear" x)
def sp_month_length (K : PySem.W.Frag) : Sp := fun vs H Q E => ∃ x T z U, vs = [x, z] ∧ Kd K H x T ∧ Kd K H z U ∧ (∀ y m, x = .int y → z = .int m → betw x 2000 2700000000 = true → betw z 1 12 = true → Q (.int (mlen y m)) H) ∧
  (betw x 2000 2700000000 = false → Er K E H "InvalidYear" x) ∧ (betw x 2000 2700000000 = true → betw z 1 12 = false → Er K E H "InvalidMonth" z)
def sp_year_begin (K : PySem.W.Frag) : Sp := fun vs H Q _ => ∃ y, vs = [.int y] ∧ -1000000000000000 < y ∧ y < 1000000000000000 ∧ Q (.int (yb y)) H
def sp_month_begin (K : PySem.W.Frag) : Sp := fun vs H Q _ => ∃ y m, vs = [.int y, .int m] ∧ 1 ≤ m ∧ m ≤ 12 ∧ -1000000000000000 < y ∧ y < 1000000000000000 ∧ ∀ H', Same H H' → Q (.int (mb y m)) H'
def sp_year_of (K : PySem.W.Frag) : Sp := fun vs H Q _ => ∃ n, vs = [.int n] ∧ 0 ≤ n ∧ n < 100000000000000 ∧ ∀ y, yb y ≤ n → n < yb (y + 1) → Q (.int y) H
/-- a new date -/
def NewDate (H : Hp) (Q : VK) (n : Int) : Prop := ∀ y m d p H', IsD n y m d → Same H H' → H' p = some (.tup [.int y, .int m, .int d]) → Q (.ref p) H'
def sp_date_at (K : PySem.W.Frag) : Sp := fun vs H Q _ => ∃ n, vs = [.int n] ∧ 0 ≤ n ∧ n < 100000000000000 ∧ NewDate H Q n
def sp_date_of (K : PySem.W.Frag) : Sp := fun vs H Q E => ∃ x T, vs = [x] ∧ Kd K H x T ∧ (∀ n, x = .int n → betw x 0 MOST = true → NewDate H Q n) ∧ (betw x 0 MOST = false → Er K E H "InvalidDay" x)
def sp_is_date (K : PySem.W.Frag) : Sp := fun vs H Q _ => ∃ x, vs = [x] ∧ ((∃ a xs, x = .ref a ∧ SqT K H a xs ∧ xs.all sca = true ∧ ∀ H', Same H H' → Q (.bl (dateOk xs)) H') ∨ ∃ T, Kd K H x T ∧ T ≠ "tuple" ∧ Q (.bl false) H)
def sp_day_of (K : PySem.W.Frag) : Sp := fun vs H Q E => ∃ x, vs = [x] ∧ ((∃ a xs, x = .ref a ∧ SqT K H a xs ∧ xs.all sca = true ∧
    (dateOk xs = false → ∀ H', Same H H' → Er K E H' "InvalidDate" x) ∧ (∀ y m d, xs = [.int y, .int m, .int d] → dateOk xs = true → ∀ H', Same H H' → Q (.int (mb y m + d - 1)) H')) ∨
  ∃ T, Kd K H x T ∧ T ≠ "tuple" ∧ Er K E H "InvalidDate" x)
/-! the law's own -/
def sp__law_cell (K : PySem.W.Frag) : Sp := fun vs H Q _ => ∃ (a : Addr) (ns : List Int) (k : Int), vs = [.ref a, .int k] ∧ SqL K H a (ns.map V.int) ∧ ns.length ≤ 63 ∧ 0 ≤ k ∧ k ≤ 1000 ∧ ∀ i H', Same H H' → Q (.int i) H'
def sp__law_box (K : PySem.W.Frag) : Sp := fun vs H Q _ => ∃ g, vs = [.int g] ∧ ∀ b H', Same H H' → BoxAt H' b 0 → Q (.ref b) H'
def sp__law_take (K : PySem.W.Frag) : Sp := fun vs H Q _ => ∃ b c many, vs = [.ref b, .int many] ∧ BoxAt H b c ∧ c < 1000000000 ∧ 0 < many ∧ many < 1000000000000000000000000000000 ∧ ∀ r H', 0 ≤ r → r < many → Ks H H' → Kb b H H' → BoxAt H' b (c + 1) → Q (.int r) H'
def sp__law_leap (K : PySem.W.Frag) : Sp := fun vs H Q _ => ∃ y, vs = [.int y] ∧ Q (.bl (leap y)) H
def sp__law_length (K : PySem.W.Frag) : Sp := fun vs H Q _ => ∃ y m, vs = [.int y, .int m] ∧ 1 ≤ m ∧ m ≤ 12 ∧ ∀ H', Same H H' → Q (.int (mlen y m)) H'
def sp__law_date (K : PySem.W.Frag) : Sp := fun vs H Q _ => ∃ n, vs = [.int n] ∧ 0 ≤ n ∧ n < 100000000000000 ∧ NewDate H Q n
def sp__law_next (K : PySem.W.Frag) : Sp := fun vs H Q _ => ∃ a y m d, vs = [.ref a] ∧ SqT K H a [.int y, .int m, .int d] ∧ 1 ≤ m ∧ m ≤ 12 ∧
  ∀ p H', Same H H' → H p = none → H' p = some (.tup [.int (nextD y m d).1, .int (nextD y m d).2.1, .int (nextD y m d).2.2]) → Q (.ref p) H'
/-! data of bounded depth and width -/
mutual
def okD : Nat → PyData → Prop
  | n, .list ds => ∃ m, n = m + 1 ∧ ds.length ≤ 100000 ∧ okAll m ds
  | n, .tuple ds => ∃ m, n = m + 1 ∧ ds.length ≤ 100000 ∧ okAll m ds
  | _, .none => True
  | _, .bool _ => True
  | _, .int _ => True
  | _, .str _ => True
  | _, .dict _ => False
def okAll : Nat → List PyData → Prop
  | _, [] => True
  | n, d :: ds => okD n d ∧ okAll n ds
end
def sp_same (K : PySem.W.Frag) (n : Nat) : Sp := fun vs H Q _ => ∃ x y d, vs = [x, y] ∧ Dp K H x d ∧ Dp K H y d ∧ okD n d ∧ ∀ H', Same H H' → Q (.bl true) H'
def sp__law_same (K : PySem.W.Frag) : Sp := sp_same K 8
/-- all but a stands as it stood -/
def But (a : Addr) (H H' : Hp) : Prop := ∀ b o, b ≠ a → H b = some o → H' b = some o
/-- a value that the law lets grow: its own list, its own dict; or plain data -/
inductive Gv (K : PySem.W.Frag) (H : Hp) : V → Prop
  | lst {a : Addr} {xs : List V} (h : H a = some (.lst xs)) (hn : xs.length ≤ 1000) : Gv K H (.ref a)
  | dic {a : Addr} {kvs : List (Key × V)} (h : H a = some (.dK kvs)) (hn : kvs.length ≤ 1000) (hg : valV kvs (.inr "grown") = none) : Gv K H (.ref a)
  | tup {a : Addr} {xs : List V} (h : SqT K H a xs) (hs : xs.all sca = true) (hn : xs.length ≤ 1000) : Gv K H (.ref a)
  | sc {x : V} (h : sca x = true) : Gv K H x
/-- what may have grown: nothing, or the value itself -/
def Grw (x : V) (H H' : Hp) : Prop := Same H H' ∨ ∃ a, x = .ref a ∧ But a H H' ∧ ((∃ xs, H a = some (.lst xs) ∧ H' a = some (.lst (xs ++ [.str "grown"]))) ∨ ∃ kvs, H a = some (.dK kvs) ∧ H' a = some (.dK (putK kvs (.inr "grown") (.int 1))))
def sp__law_very (K : PySem.W.Frag) : Sp := fun vs H Q _ => ∃ x, vs = [x, x] ∧ Gv K H x ∧ ∀ H', Grw x H H' → Q (.bl true) H'
/-- a new list is handed back -/
def Ans (H : Hp) (Q : VK) (xs : List V) : Prop := ∀ l H', Same H H' → H' l = some (.lst xs) → Q (.ref l) H'
/-- a value that is asked in vain -/
inductive Ob (H : Hp) : V → Prop
  | sc {x : V} (h : sca x = true) : Ob H x
  | lst {a : Addr} {xs : List V} (h : H a = some (.lst xs)) (hn : xs.length ≤ 10) (hb : notBox (.lst xs) = true) : Ob H (.ref a)
  | tup {a : Addr} {xs : List V} (h : H a = some (.tup xs)) (hs : xs.all sca = true) (hn : xs.length ≤ 10) : Ob H (.ref a)
  | dic {a : Addr} (h : H a = some (.dK [(.inr "a", .int 1)])) : Ob H (.ref a)
/-- made since H -/
def Fresh (H : Hp) (v : V) : Prop := ∀ a, v = .ref a → H a = none
def sp__law_no_number (K : PySem.W.Frag) : Sp := fun vs H Q _ => ∃ b c lo hi, vs = [.ref b, .int lo, .int hi] ∧ BoxAt H b c ∧ c < 900000000 ∧ -(10 ^ 20) < lo ∧ hi < 10 ^ 20 ∧ ∀ v H', Ks H H' → Kb b H H' → BoxAt H' b (c + 2) → Ob H' v → betw v lo hi = false → Fresh H v → Q v H'
end My
set_option linter.all false
set_option maxRecDepth 100000
set_option maxHeartbeats 2000000
namespace My
open PySem PySem.Spec PyProof.Rows L2 Kx
variable {K : PySem.W.Frag}
abbrev D0 (Q : VK) : Ends := { nx := fun _ H' => Q .non H', rt := Q }
theorem betw_int {x : V} {lo hi : Int} (c : betw x lo hi = true) : ∃ i, x = .int i ∧ lo ≤ i ∧ i ≤ hi := by
  cases x with
  | int i => exact ⟨i, rfl, by simpa [betw] using c⟩
  | _ => cases c
theorem ahead_sum (y : Int) : ∀ n, ((List.range n).map fun (i : Nat) => mlen y (1 + (i : Int))).sum = ahead y n
  | 0 => rfl
  | n + 1 => by
    rw [List.range_succ, List.map_append, List.sum_append, ahead_sum y n]
    show ahead y n + (mlen y (1 + (n : Int)) + 0) = ahead y n + mlen y ((n : Int) + 1)
    have : (1 + (n : Int)) = (n : Int) + 1 := by omega
    rw [this]
    omega
theorem yb_start {n : Int} (h : 0 ≤ n) : yb (2000 + n / 146097 * 400 + n % 146097 / 366) ≤ n := by
  unfold yb
  omega
theorem NewDate.fin {H H1 : Hp} {Q : VK} {n y m d : Int} {p : Addr} (q : NewDate H Q n) (h : IsD n y m d) (e : Same H H1) (hp : H1 p = none) : Q (.ref p) (upd H1 p (.tup [.int y, .int m, .int d])) := q y m d p _ h (Same.trans e (sm_new hp)) upd_same
theorem yb_bd {y n : Int} (h : yb y ≤ n) (h0 : 0 ≤ n) (h2 : n < 100000000000000) : y < 1000000000000 := by
  unfold yb at h
  omega
theorem yb_bd0 {y n : Int} (h : n < yb (y + 1)) (h0 : 0 ≤ n) : 2000 ≤ y := by
  unfold yb at h
  omega
theorem Kd.sca {H : Hp} {x : V} (h : sca x = true) : ∃ T, Kd K H x T ∧ T ≠ "tuple" := by
  cases x with
  | non => exact ⟨_, .non, by decide⟩
  | bl b => exact ⟨_, .bl b, by decide⟩
  | int i => exact ⟨_, .int i, by decide⟩
  | str s => exact ⟨_, .str s, by decide⟩
  | _ => cases h
/-! heaps but for boxes -/
theorem ks_get {H H' : Hp} {a : Addr} {o : HO} (e : Ks H H') (h : H a = some o) (n : notBox o = true) : H' a = some o := by
  obtain ⟨o', h', k⟩ := e a o h
  rw [h', k n]
theorem ks_tup {K : PySem.W.Frag} {H H' : Hp} {a : Addr} {xs : List V} (e : Ks H H') (h : SqT K H a xs) : SqT K H' a xs := by
  rcases h with (h | ⟨o, h⟩) | h
  · exact .inl (.inl (ks_get e h rfl))
  · exact .inl (.inr ⟨o, ks_get e h rfl⟩)
  · exact .inr h
theorem Ks.refl (H : Hp) : Ks H H := fun _ o h => ⟨o, h, fun _ => rfl⟩
theorem Ks.of {H H' : Hp} (e : Same H H') : Ks H H' := fun a o h => ⟨o, e a o h, fun _ => rfl⟩
theorem Ks.trans {H1 H2 H3 : Hp} (e : Ks H1 H2) (f : Ks H2 H3) : Ks H1 H3 := fun a o h => by
  obtain ⟨o', h', k⟩ := e a o h
  obtain ⟨o2, h2, k2⟩ := f a o' h'
  refine ⟨o2, h2, fun n => ?_⟩
  have := k n
  subst this
  exact k2 n
theorem Kb.refl (b : Addr) (H : Hp) : Kb b H H := fun _ _ _ h => h
theorem Kb.of {b : Addr} {H H' : Hp} (e : Same H H') : Kb b H H' := fun a o _ h => e a o h
theorem Kb.trans {b : Addr} {H1 H2 H3 : Hp} (e : Kb b H1 H2) (f : Kb b H2 H3) : Kb b H1 H3 := fun a o n h => f a o n (e a o n h)
theorem Ks.fresh {H H' : Hp} {p : Addr} (e : Ks H H') (hp : H' p = none) : H p = none := by
  cases h : H p with
  | none => rfl
  | some o =>
    obtain ⟨o', h', _⟩ := e p o h
    rw [hp] at h'
    cases h'
theorem Ks.box {H : Hp} {b : Addr} {n m c : Int} {bo : Bool} {o : HO} (h : H b = some (.lst [.int n, .bl bo, .int m, .int c])) : Ks H (upd H b o) := fun a u hu => by
  by_cases e : a = b
  · subst e
    rw [h] at hu
    cases hu
    exact ⟨o, upd_same, fun z => by cases z⟩
  · exact ⟨u, by rw [upd_ne e]; exact hu, fun _ => rfl⟩
theorem notBox_int : ∀ ns : List Int, notBox (.lst (ns.map V.int)) = true
  | [] => rfl
  | [_] => rfl
  | _ :: _ :: _ => rfl
theorem ks_ints {K : PySem.W.Frag} {H H' : Hp} {a : Addr} {ns : List Int} (e : Ks H H') (h : SqL K H a (ns.map V.int)) : SqL K H' a (ns.map V.int) := by
  rcases h with (h | ⟨o, h⟩) | h
  · exact .inl (.inl (ks_get e h (notBox_int ns)))
  · exact .inl (.inr ⟨o, ks_get e h rfl⟩)
  · exact .inr h
theorem BoxAt.same {H H' : Hp} {b : Addr} {c : Int} (e : Same H H') (h : BoxAt H b c) : BoxAt H' b c := by
  obtain ⟨n, m, c0, bo, h, r⟩ := h
  exact ⟨n, m, c0, bo, e _ _ h, r⟩
theorem BoxAt.new {H : Hp} {b p : Addr} {c : Int} {o : HO} (hp : H p = none) (h : BoxAt H b c) : BoxAt (upd H p o) b c := h.same (sm_new hp)
theorem sm_fresh {H H' : Hp} {p : Addr} (e : Same H H') (hp : H' p = none) : H p = none := by
  cases h : H p with
  | none => rfl
  | some o => rw [e p o h] at hp; cases hp
/-! data that stands -/
mutual
theorem Dp.same {H H' : Hp} (e : Same H H') : ∀ {x : V} {d : PyData}, Dp K H x d → Dp K H' x d
  | _, _, .non => .non
  | _, _, .bl b => .bl b
  | _, _, .int i => .int i
  | _, _, .str s => .str s
  | _, _, .lst h r => .lst (e.seq h) (DpAll.same e r)
  | _, _, .tup h r => .tup (Kx.Same.tup e h) (DpAll.same e r)
theorem DpAll.same {H H' : Hp} (e : Same H H') : ∀ {xs : List V} {ds : List PyData}, DpAll K H xs ds → DpAll K H' xs ds
  | _, _, .nil => .nil
  | _, _, .cons h r => .cons (Dp.same e h) (DpAll.same e r)
end
theorem DpAll.len {H : Hp} : ∀ {xs : List V} {ds : List PyData}, DpAll K H xs ds → xs.length = ds.length
  | _, _, .nil => rfl
  | _, _, .cons h r => congrArg (· + 1) (DpAll.len r)
theorem DpAll.get {H : Hp} : ∀ {xs : List V} {ds : List PyData}, DpAll K H xs ds → ∀ i, i < ds.length → ∃ x d, xs[i]? = some x ∧ ds[i]? = some d ∧ Dp K H x d
  | _, _, .cons h r, 0, _ => ⟨_, _, rfl, rfl, h⟩
  | _, _, .cons h r, i + 1, hi => by
    obtain ⟨x, d, e1, e2, k⟩ := DpAll.get r i (Nat.lt_of_succ_lt_succ hi)
    exact ⟨x, d, e1, e2, k⟩
theorem okAll.get : ∀ {n : Nat} {ds : List PyData}, okAll n ds → ∀ {i : Nat} {d : PyData}, ds[i]? = some d → okD n d
  | _, _ :: _, h, 0, _, e => by cases e; exact h.1
  | _, _ :: _, h, i + 1, _, e => okAll.get h.2 e
theorem sca_dp {H : Hp} (n : Nat) : ∀ {x : V}, sca x = true → ∃ d, Dp K H x d ∧ okD n d
  | .non, _ => ⟨.none, .non, by simp [okD]⟩
  | .bl b, _ => ⟨.bool b, .bl b, by simp [okD]⟩
  | .int i, _ => ⟨.int i, .int i, by simp [okD]⟩
  | .str s, _ => ⟨.str s, .str s, by simp [okD]⟩
theorem scas_dp {H : Hp} (n : Nat) : ∀ {xs : List V}, xs.all sca = true → ∃ ds, DpAll K H xs ds ∧ okAll n ds
  | [], _ => ⟨[], .nil, by simp [okAll]⟩
  | x :: xs, h => by
    rw [List.all_cons, Bool.and_eq_true] at h
    obtain ⟨d, k, o⟩ := sca_dp (K := K) (H := H) n h.1
    obtain ⟨ds, ks, os⟩ := scas_dp (H := H) n h.2
    exact ⟨d :: ds, .cons k ks, by simp only [okAll]; exact ⟨o, os⟩⟩
theorem But.upd {H : Hp} {a : Addr} {o : HO} : But a H (upd H a o) := fun b u n h => by rw [upd_ne n]; exact h
theorem put_new {κ : Type} [DecidableEq κ] {kvs : List (κ × V)} {k : κ} {v : V} (h : valV kvs k = none) : putK kvs k v = kvs ++ [(k, v)] := by
  unfold putK
  rw [if_neg]
  rw [valV_any, h]
  simp
theorem BoxAt.mono {H : Hp} {b : Addr} {c c' : Int} (h : BoxAt H b c) (l : c ≤ c') : BoxAt H b c' := by
  obtain ⟨n, m, c0, bo, h, r1, r2, r3, r4, r5⟩ := h
  exact ⟨n, m, c0, bo, h, r1, r2, r3, r4, by omega⟩
theorem betw_t {i lo hi : Int} (h0 : lo ≤ i) (h1 : i ≤ hi) : betw (.int i) lo hi = true := by
  show (decide (lo ≤ i) && decide (i ≤ hi)) = true
  rw [decide_eq_true h0, decide_eq_true h1]; rfl
theorem dateOk_of {n y m d : Int} (h : IsD n y m d) (h0 : 0 ≤ n) (h1 : n ≤ 1000000000000) : dateOk [.int y, .int m, .int d] = true := by
  have a := h.year
  have y1 := yb_bd a.1 h0 (by omega)
  have y0 := yb_bd0 a.2 h0
  have e := h.eq
  have c1 := h.m1
  have c2 := h.m2
  have c3 := h.d1
  have c4 := h.d2
  have hM : MOST = 1000000000000 := rfl
  have b1 : betw (.int y) 2000 MOST = true := betw_t (by omega) (by omega)
  have b2 : betw (.int m) 1 12 = true := betw_t (by omega) (by omega)
  have e3 : mb y m + d - 1 ≤ MOST := by omega
  simp only [dateOk]
  rw [b1, b2, decide_eq_true c3, decide_eq_true c4, decide_eq_true e3]
  rfl
theorem fresh_of {H H' : Hp} {p : Addr} (hp : H' p = none) (e : Ks H H') : Fresh H (.ref p) := fun a h => by
  cases h
  exact e.fresh hp
theorem fresh_sc {H : Hp} {v : V} (h : sca v = true) : Fresh H v := fun a e => by
  subst e
  cases h
theorem betw_f {i lo hi : Int} (h : i < lo ∨ hi < i) : betw (.int i) lo hi = false := by
  cases e : betw (.int i) lo hi with
  | false => rfl
  | true =>
    obtain ⟨j, e2, h1, h2⟩ := betw_int e
    cases e2
    omega
theorem dateOk_f {y m d : Int} (h : y < 2000 ∨ 1000000000000 < y ∨ m < 1 ∨ 12 < m ∨ d < 1 ∨ mlen y m < d ∨ 1000000000000 < mb y m + d - 1) : dateOk [.int y, .int m, .int d] = false := by
  cases e : dateOk [.int y, .int m, .int d] with
  | false => rfl
  | true =>
    simp only [dateOk, Bool.and_eq_true] at e
    obtain ⟨e1, e2, e3, e4, e5⟩ := e
    obtain ⟨_, h1, e1, f1⟩ := betw_int e1
    cases h1
    obtain ⟨_, h1, e2, f2⟩ := betw_int e2
    cases h1
    have e3 := of_decide_eq_true e3
    have e4 := of_decide_eq_true e4
    have e5 := of_decide_eq_true e5
    have hM : MOST = 1000000000000 := rfl
    omega
/-- asked as a date, it is refused -/
structure NoD (H H' : Hp) (v : V) : Prop where
  ob : Ob H' v
  no : ∀ a xs, v = .ref a → H' a = some (.tup xs) → dateOk xs = false
  fr : Fresh H v
theorem NoD.sca {H H' : Hp} {v : V} (h : My.sca v = true) : NoD H H' v := ⟨.sc h, fun a xs e => (by subst e; cases h), fresh_sc h⟩
theorem NoD.tup {H H1 H' : Hp} {p : Addr} {xs : List V} (hp : H1 p = none) (e : Ks H H1) (h : H' p = some (.tup xs)) (hs : xs.all My.sca = true) (hn : xs.length ≤ 10) (hd : dateOk xs = false) : NoD H H' (.ref p) :=
  ⟨.tup h hs hn, fun a ys e h' => (by cases e; rw [h] at h'; cases h'; exact hd), fresh_of hp e⟩
theorem NoD.lst {H H1 H' : Hp} {p : Addr} {xs : List V} (hp : H1 p = none) (e : Ks H H1) (h : H' p = some (.lst xs)) (hn : xs.length ≤ 10) (hb : notBox (.lst xs) = true) : NoD H H' (.ref p) :=
  ⟨.lst h hn hb, fun a ys e h' => (by cases e; rw [h] at h'; cases h'), fresh_of hp e⟩
theorem NoD.dic {H H1 H' : Hp} {p : Addr} (hp : H1 p = none) (e : Ks H H1) (h : H' p = some (.dK [(.inr "a", .int 1)])) : NoD H H' (.ref p) :=
  ⟨.dic h, fun a ys e h' => (by cases e; rw [h] at h'; cases h'), fresh_of hp e⟩

theorem dateOk_b2 {y d : Int} {b : Bool} : dateOk [.int y, .bl b, .int d] = false := by simp [dateOk, betw]
theorem dateOk_s2 {y d : Int} {b : Str} : dateOk [.int y, .str b, .int d] = false := by simp [dateOk, betw]
theorem dateOk_b3 {y d : Int} {b : Bool} : dateOk [.int y, .int d, .bl b] = false := by simp [dateOk, betw]
theorem dateOk_n3 {y d : Int} : dateOk [.int y, .int d, .non] = false := by simp [dateOk, betw]
theorem mlen_29 (k : Int) (k0 : 0 ≤ k) : mlen (2001 + 4 * k) 2 = 28 := by
  have e : mlen (2001 + 4 * k) 2 = 28 + lp (2001 + 4 * k) := rfl
  rw [e, lp_eq, if_neg (by omega)]
  rfl
theorem dateOk_29 {k : Int} (h : 0 ≤ k) : dateOk [.int (2001 + 4 * k), .int 2, .int 29] = false := dateOk_f (by have := mlen_29 k h; omega)
theorem notBox_len {xs : List V} (h : Nat.beq xs.length 4 = false) : notBox (.lst xs) = true := by
  match xs, h with
  | [], _ => rfl
  | [_], _ => unfold notBox; split <;> simp_all
  | [_, _], _ => unfold notBox; split <;> simp_all
  | [_, _, _], _ => unfold notBox; split <;> simp_all
  | _ :: _ :: _ :: _ :: _ :: _, _ => unfold notBox; split <;> simp_all
theorem Ob.kd {H : Hp} {v : V} (h : Ob H v) : ∃ T, Kd K H v T := by
  cases h with
  | sc h => obtain ⟨T, k, _⟩ := Kd.sca (K := K) (H := H) h; exact ⟨T, k⟩
  | lst h _ _ => exact ⟨_, .lst (l_of h)⟩
  | tup h _ _ => exact ⟨_, .tup (t_of h)⟩
  | dic h => exact ⟨_, .dic h⟩
theorem Ob.gv {H : Hp} {v : V} (h : Ob H v) : Gv K H v := by
  cases h with
  | sc h => exact .sc h
  | lst h hn _ => exact .lst h (Nat.le_trans hn (by decide))
  | tup h hs hn => exact .tup (t_of h) hs (Nat.le_trans hn (by decide))
  | dic h => exact .dic h (by decide) (by decide)
/-- what v names stands -/
def Std (H0 H : Hp) (v : V) : Prop := ∀ a o, v = .ref a → H0 a = some o → H a = some o
theorem Ob.std {H0 H : Hp} {v : V} (h : Ob H0 v) (e : Std H0 H v) : Ob H v := by
  cases h with
  | sc h => exact .sc h
  | lst h hn hb => exact .lst (e _ _ rfl h) hn hb
  | tup h hs hn => exact .tup (e _ _ rfl h) hs hn
  | dic h => exact .dic (e _ _ rfl h)
theorem Ob.same {H H' : Hp} {v : V} (e : Same H H') (h : Ob H v) : Ob H' v := h.std fun a o _ ha => e a o ha
theorem Ob.ks {H H' : Hp} {v : V} (e : Ks H H') (h : Ob H v) : Ob H' v := by
  cases h with
  | sc h => exact .sc h
  | lst h hn hb => exact .lst (ks_get e h hb) hn hb
  | tup h hs hn => exact .tup (ks_get e h rfl) hs hn
  | dic h => exact .dic (ks_get e h rfl)
/-- one row of what is asked in vain; t: the value that the error carries -/
structure Rw where
  r : Addr
  w : Str
  one : V
  more : V
  e : Str
  n : Int
  t : V
/-- .. and no date -/
structure Nd (H : Hp) (v : V) : Prop where
  ob : Ob H v
  no : ∀ a xs, v = .ref a → H a = some (.tup xs) → dateOk xs = false
theorem Nd.std {H0 H : Hp} {v : V} (g : Nd H0 v) (e : Std H0 H v) : Nd H v := ⟨g.ob.std e, fun a xs ev h' => by
  obtain ⟨ob, no⟩ := g
  cases ob with
  | sc h => subst ev; cases h
  | lst h _ _ => cases ev; rw [e _ _ rfl h] at h'; cases h'
  | tup h _ _ => cases ev; rw [e _ _ rfl h] at h'; cases h'; exact no _ _ rfl h
  | dic h => cases ev; rw [e _ _ rfl h] at h'; cases h'⟩
theorem Nd.same {H H' : Hp} {v : V} (e : Same H H') (h : Nd H v) : Nd H' v := h.std fun a o _ ha => e a o ha
theorem Nd.ks {H H' : Hp} {v : V} (e : Ks H H') (g : Nd H v) : Nd H' v := g.std fun a o ev ha => by
  obtain ⟨ob, no⟩ := g
  cases ob with
  | sc h => subst ev; cases h
  | lst h hn hb => cases ev; rw [ha] at h; cases h; exact ks_get e ha hb
  | tup h hs hn => cases ev; rw [ha] at h; cases h; exact ks_get e ha rfl
  | dic h => cases ev; rw [ha] at h; cases h; exact ks_get e ha rfl
/-- two names are not of one object -/
def Df (u v : V) : Prop := ∀ a, u = .ref a → v ≠ .ref a
theorem Df.symm {u v : V} (h : Df u v) : Df v u := fun a e e2 => h a e2 e
theorem df_sc {u v : V} (h : sca v = true) : Df u v := fun a _ e => by subst e; cases h
theorem df_vv {H : Hp} {u v : V} (fr : Fresh H u) (ob : Ob H v) : Df u v := fun a e e2 => by
  have := fr a e
  subst e2
  cases ob with
  | sc h => cases h
  | lst h _ _ => rw [h] at this; cases this
  | tup h _ _ => rw [h] at this; cases this
  | dic h => rw [h] at this; cases this
theorem df_vr {H : Hp} {u : V} {r : Addr} {o : HO} (fr : Fresh H u) (h : H r = some o) : Df u (.ref r) := fun a e e2 => by
  have := fr a e
  cases e2
  rw [h] at this
  cases this
theorem df_rv {H : Hp} {v : V} {r : Addr} (hp : H r = none) (ob : Ob H v) : Df v (.ref r) := fun a e e2 => by
  cases e2
  subst e
  cases ob with
  | sc h => cases h
  | lst h _ _ => rw [h] at hp; cases hp
  | tup h _ _ => rw [h] at hp; cases hp
  | dic h => rw [h] at hp; cases hp
/-- but for the list at L, all stands -/
def Off (L : Addr) (H H0 : Hp) : Prop := ∀ a o, a ≠ L → H a = some o → H0 a = some o
theorem Df.ne {v : V} {L a : Addr} (d : Df v (.ref L)) (e : v = .ref a) : a ≠ L := fun z => d a e (by rw [z])
theorem Ob.off {H H0 : Hp} {L : Addr} {v : V} (h : Ob H v) (d : Df v (.ref L)) (e : Off L H H0) : Ob H0 v := h.std fun a o ev ha => e a o (d.ne ev) ha
theorem Nd.off {H H0 : Hp} {L : Addr} {v : V} (h : Nd H v) (d : Df v (.ref L)) (e : Off L H H0) : Nd H0 v := h.std fun a o ev ha => e a o (d.ne ev) ha
theorem Fresh.back {H H' : Hp} {v : V} (f : Fresh H' v) (e : Ks H H') : Fresh H v := fun a ev => e.fresh (f a ev)
theorem pw_get {α : Type} {R : α → α → Prop} : ∀ {l : List α}, l.Pairwise R → ∀ {i j : Nat} {x y : α}, j < i → l[j]? = some x → l[i]? = some y → R x y
  | _ :: _, .cons h _, i + 1, 0, x, y, _, hx, hy => by
    cases hx
    exact h y (List.mem_of_getElem? hy)
  | _ :: _, .cons _ r, i + 1, j + 1, x, y, hj, hx, hy => pw_get r (Nat.lt_of_succ_lt_succ hj) hx hy
/-- what stands behind i rows -/
def Bt (rows : List Rw) (i : Nat) (H0 H : Hp) : Prop := ∀ a o, (∀ j x, j < i → rows[j]? = some x → x.t ≠ .ref a) → H0 a = some o → H a = some o
theorem Bt.std {rows : List Rw} {i : Nat} {H0 H : Hp} {v : V} (e : Bt rows i H0 H) (d : ∀ j x, j < i → rows[j]? = some x → Df x.t v) : Std H0 H v := fun a o ev h => e a o (fun j x hj hx z => d j x hj hx a z ev) h
theorem Bt.one {rows : List Rw} {i : Nat} {H0 H H1 H2 : Hp} {x : Rw} (e : Bt rows i H0 H) (s : Same H H1) (hx : rows[i]? = some x) (g : Grw x.t H1 H2) : Bt rows (i + 1) H0 H2 := fun a o ha h => by
  have h1 := s a o (e a o (fun j y hj hy => ha j y (Nat.lt_succ_of_lt hj) hy) h)
  rcases g with g | ⟨a', et, b, _⟩
  · exact g a o h1
  · exact b a o (fun z => ha i x (Nat.lt_succ_self i) hx (by rw [et, z])) h1
theorem Ks.off {H H1 H0 : Hp} {L : Addr} (e : Ks H H1) (hL : H L = none) (st : Off L H1 H0) : Ks H H0 := fun a o h => by
  obtain ⟨o', h', k⟩ := e a o h
  exact ⟨o', st a o' (ne_of_none h hL) h', k⟩
theorem Ks.bt {rows : List Rw} {i : Nat} {H H0 H1 : Hp} (e : Ks H H0) (bt : Bt rows i H0 H1) (fr : ∀ x ∈ rows, Fresh H x.t) : Ks H H1 := fun a o h => by
  obtain ⟨o', h', k⟩ := e a o h
  exact ⟨o', bt a o' (fun j x _ hx z => by have := fr x (List.mem_of_getElem? hx) a z; rw [h] at this; cases this) h', k⟩
end My
set_option linter.all false
set_option maxRecDepth 100000
set_option maxHeartbeats 2000000
namespace My
/-! ## clocks: an offset, and changes in ascending order -/
def Asc : Int → List (Int × Int) → Prop
  | _, [] => True
  | f, (g, _) :: r => f < g ∧ Asc g r
def Offs : List (Int × Int) → Prop := fun cs => ∀ p ∈ cs, -1440 ≤ p.2 ∧ p.2 ≤ 1440
/-- the offset at a moment, x the one ahead of the changes -/
def offAt : Int → List (Int × Int) → Int → Int
  | x, [], _ => x
  | x, (g, y) :: r, m => offAt (if g ≤ m then y else x) r m
/-- the moments from f on with the local time t, x the offset from f on -/
def momL : Int → Int → List (Int × Int) → Int → List Int
  | f, x, [], t => if f ≤ t - x then [t - x] else []
  | f, x, (g, y) :: r, t => (if f ≤ t - x ∧ t - x ≤ g - 1 then [t - x] else []) ++ momL g y r t
/-- the changes that change -/
def red : Int → List (Int × Int) → List (Int × Int)
  | _, [] => []
  | x, (g, y) :: r => if y = x then red x r else (g, y) :: red y r
/-- the ranges of one offset -/
def rgs : Int → Int → List (Int × Int) → List (Int × Option Int × Int)
  | f, x, [] => [(f, none, x)]
  | f, x, (g, y) :: r => (f, some (g - 1), x) :: rgs g y r
def inR (t : Int) (p : Int × Option Int × Int) : Bool := decide (p.1 + p.2.2 ≤ t) && (match p.2.1 with
  | none => true
  | some l => decide (t ≤ l + p.2.2))
def momP (rs : List (Int × Option Int × Int)) (t : Int) : List Int := (rs.filter (inR t)).map fun p => t - p.2.2
/-- the law's own ranges, up to L -/
def lrs : Int → Int → List (Int × Int) → Int → List (Int × Int × Int)
  | f, x, [], L => if f < L + 1 ∧ f ≤ L then [(f, min L (L + 1 - 1), x)] else []
  | f, x, (g, y) :: r, L => (if f < g ∧ f ≤ L then [(f, min L (g - 1), x)] else []) ++ lrs g y r L
def inL (t : Int) (p : Int × Int × Int) : Bool := decide (p.1 ≤ t - p.2.2) && decide (t - p.2.2 ≤ p.2.1)
def momQ (rs : List (Int × Int × Int)) (t : Int) : List Int := (rs.filter (inL t)).map fun p => t - p.2.2
def lastS : Int → List (Int × Int) → Int
  | f, [] => f
  | _, (g, _) :: r => lastS g r
theorem rgs_cons {f x g y : Int} {r : List (Int × Int)} : rgs f x ((g, y) :: r) = (f, some (g - 1), x) :: rgs g y r := rfl
theorem lrs_cons {f x g y L : Int} {r : List (Int × Int)} : lrs f x ((g, y) :: r) L = (if f < g ∧ f ≤ L then [(f, min L (g - 1), x)] else []) ++ lrs g y r L := rfl
theorem lrs_nil {f x L : Int} : lrs f x [] L = if f < L + 1 ∧ f ≤ L then [(f, min L (L + 1 - 1), x)] else [] := rfl
theorem Asc.le : ∀ {f : Int} {cs : List (Int × Int)}, Asc f cs → f ≤ lastS f cs
  | _, [], _ => Int.le_refl _
  | f, (g, y) :: r, h => by
    have := Asc.le h.2
    have := h.1
    show f ≤ lastS g r
    omega
theorem Asc.lower : ∀ {f g : Int} {cs : List (Int × Int)}, g ≤ f → Asc f cs → Asc g cs
  | _, _, [], _, _ => True.intro
  | f, g, (h, y) :: r, l, a => ⟨by have := a.1; omega, a.2⟩
theorem momP_rgs (t : Int) : ∀ (cs : List (Int × Int)) (f x : Int), momP (rgs f x cs) t = momL f x cs t
  | [], f, x => by
    unfold momP momL rgs inR
    by_cases h : f ≤ t - x
    · rw [if_pos h]
      have : f + x ≤ t := by omega
      simp [this]
    · rw [if_neg h]
      have : ¬ f + x ≤ t := by omega
      simp [this]
  | (g, y) :: r, f, x => by
    have ih := momP_rgs t r g y
    unfold momL
    rw [← ih]
    unfold momP
    rw [rgs_cons]
    by_cases h : f ≤ t - x ∧ t - x ≤ g - 1
    · rw [if_pos h]
      have : inR t (f, some (g - 1), x) = true := by unfold inR; simp; omega
      rw [List.filter_cons, if_pos this]
      rfl
    · rw [if_neg h]
      have : ¬ inR t (f, some (g - 1), x) = true := by unfold inR; simp; omega
      rw [List.filter_cons, if_neg this]
      rfl
/-- a range cut in two -/
theorem momL_cut (t : Int) (x : Int) : ∀ (r : List (Int × Int)) (f g : Int), f < g → Asc g r → momL f x r t = (if f ≤ t - x ∧ t - x ≤ g - 1 then [t - x] else []) ++ momL g x r t
  | [], f, g, h, _ => by
    unfold momL
    by_cases a : f ≤ t - x
    · by_cases b : g ≤ t - x
      · rw [if_pos a, if_pos b, if_neg (by omega)]; rfl
      · rw [if_pos a, if_neg b, if_pos (by omega)]; rfl
    · rw [if_neg a, if_neg (by omega), if_neg (by omega)]; rfl
  | (k, z) :: r, f, g, h, a => by
    have := a.1
    unfold momL
    rw [← List.append_assoc]
    congr 1
    by_cases b : f ≤ t - x ∧ t - x ≤ g - 1
    · rw [if_pos b, if_pos (by omega), if_neg (by omega)]; rfl
    · rw [if_neg b]
      by_cases c : g ≤ t - x ∧ t - x ≤ k - 1
      · rw [if_pos c, if_pos (by omega)]; rfl
      · rw [if_neg c, if_neg (by omega)]; rfl
theorem momL_red (t : Int) : ∀ (cs : List (Int × Int)) (f x : Int), Asc f cs → momL f x (red x cs) t = momL f x cs t
  | [], _, _, _ => rfl
  | (g, y) :: r, f, x, a => by
    unfold red
    by_cases h : y = x
    · subst h
      rw [if_pos rfl, momL_red t r f y (Asc.lower (by have := a.1; omega) a.2), momL_cut t y r f g a.1 a.2]
      rfl
    · rw [if_neg h]
      unfold momL
      rw [momL_red t r g y a.2]
theorem momP_eq (t : Int) {cs : List (Int × Int)} {f x : Int} (a : Asc f cs) : momP (rgs f x (red x cs)) t = momL f x cs t := by rw [momP_rgs, momL_red t cs f x a]
theorem momQ_eq (t L : Int) (ht : t + 1440 ≤ L) : ∀ (cs : List (Int × Int)) (f x : Int), Asc f cs → -1440 ≤ x → x ≤ 1440 → Offs cs → lastS f cs ≤ L → momQ (lrs f x cs L) t = momL f x cs t
  | [], f, x, _, x0, x1, _, hL => by
    have hL : f ≤ L := hL
    unfold momQ momL
    rw [lrs_nil, if_pos (by omega)]
    by_cases h : f ≤ t - x
    · rw [if_pos h]
      have h2 : inL t (f, min L (L + 1 - 1), x) = true := by
        unfold inL
        rw [decide_eq_true h, decide_eq_true (show t - x ≤ min L (L + 1 - 1) by omega)]
        rfl
      rw [List.filter_cons, if_pos h2]
      rfl
    · rw [if_neg h]
      have h2 : ¬ inL t (f, min L (L + 1 - 1), x) = true := by
        unfold inL
        rw [decide_eq_false h]
        exact Bool.false_ne_true
      rw [List.filter_cons, if_neg h2]
      rfl
  | (g, y) :: r, f, x, a, x0, x1, o, hL => by
    have hy := o (g, y) List.mem_cons_self
    have hL2 : lastS g r ≤ L := hL
    have ih := momQ_eq t L ht r g y a.2 hy.1 hy.2 (fun p hp => o p (List.mem_cons_of_mem _ hp)) hL2
    have ag := Asc.le a.2
    have a1 := a.1
    unfold momL
    rw [← ih]
    unfold momQ
    rw [lrs_cons, if_pos (by omega)]
    have e : min L (g - 1) = g - 1 := by omega
    rw [e, List.filter_append, List.map_append]
    congr 1
    by_cases h : f ≤ t - x ∧ t - x ≤ g - 1
    · rw [if_pos h]
      have : inL t (f, g - 1, x) = true := by unfold inL; simp; omega
      rw [List.filter_cons, if_pos this]
      rfl
    · rw [if_neg h]
      have : ¬ inL t (f, g - 1, x) = true := by unfold inL; simp; omega
      rw [List.filter_cons, if_neg this]
      rfl
/-- before the first change -/
theorem offAt_before : ∀ {cs : List (Int × Int)} {f x m : Int}, Asc f cs → m ≤ f → offAt x cs m = x
  | [], _, _, _, _, _ => rfl
  | (g, y) :: r, f, x, m, a, h => by
    have := a.1
    unfold offAt
    rw [if_neg (by omega)]
    exact offAt_before a.2 (by omega)
theorem mem_momL (t : Int) : ∀ {cs : List (Int × Int)} {f x m : Int}, Asc f cs → (m ∈ momL f x cs t ↔ f ≤ m ∧ m + offAt x cs m = t)
  | [], f, x, m, _ => by
    unfold momL offAt
    by_cases h : f ≤ t - x
    · rw [if_pos h]
      simp only [List.mem_singleton]
      omega
    · rw [if_neg h]
      simp only [List.not_mem_nil, false_iff]
      omega
  | (g, y) :: r, f, x, m, a => by
    have a1 := a.1
    have ih := mem_momL t (cs := r) (f := g) (x := y) (m := m) a.2
    unfold momL offAt
    rw [List.mem_append, ih]
    by_cases h : g ≤ m
    · rw [if_pos h]
      constructor
      · rintro (q | q)
        · by_cases c : f ≤ t - x ∧ t - x ≤ g - 1
          · rw [if_pos c] at q
            simp only [List.mem_singleton] at q
            omega
          · rw [if_neg c] at q
            cases q
        · exact ⟨by omega, q.2⟩
      · exact fun q => .inr ⟨h, q.2⟩
    · rw [if_neg h]
      have e : offAt x r m = x := offAt_before a.2 (by omega)
      rw [e]
      constructor
      · rintro (q | q)
        · by_cases c : f ≤ t - x ∧ t - x ≤ g - 1
          · rw [if_pos c] at q
            simp only [List.mem_singleton] at q
            omega
          · rw [if_neg c] at q
            cases q
        · omega
      · intro q
        refine .inl ?_
        rw [if_pos (by omega)]
        simp only [List.mem_singleton]
        omega
theorem momL_asc (t : Int) : ∀ {cs : List (Int × Int)} {f x : Int}, Asc f cs → (momL f x cs t).Pairwise (· < ·)
  | [], f, x, _ => by
    unfold momL
    split
    · exact List.pairwise_singleton _ _
    · exact .nil
  | (g, y) :: r, f, x, a => by
    unfold momL
    refine List.pairwise_append.mpr ⟨?_, momL_asc t a.2, fun m hm k hk => ?_⟩
    · split
      · exact List.pairwise_singleton _ _
      · exact .nil
    · have := (mem_momL t a.2).mp hk
      by_cases c : f ≤ t - x ∧ t - x ≤ g - 1
      · rw [if_pos c] at hm
        simp only [List.mem_singleton] at hm
        omega
      · rw [if_neg c] at hm
        cases hm
/-! ### the first moment behind a gap -/
def jumpU : Int → Int → List (Int × Int) → Int → Int
  | f, _, [], _ => f
  | f, x, (g, y) :: r, t => if t < g - 1 + x then f else jumpU g y r t
def behind (t : Int) (p : Int × Option Int × Int) : Bool := match p.2.1 with
  | none => true
  | some l => decide (t < l + p.2.2)
def jumpP (rs : List (Int × Option Int × Int)) (t : Int) : List Int := (rs.filter (behind t)).map fun p => p.1
theorem jumpP_rgs (t : Int) : ∀ (cs : List (Int × Int)) (f x : Int), ∃ r, jumpP (rgs f x cs) t = jumpU f x cs t :: r
  | [], f, x => ⟨[], rfl⟩
  | (g, y) :: r, f, x => by
    obtain ⟨q, e⟩ := jumpP_rgs t r g y
    unfold jumpU
    by_cases h : t < g - 1 + x
    · rw [if_pos h]
      have : behind t (f, some (g - 1), x) = true := decide_eq_true h
      unfold jumpP
      rw [rgs_cons, List.filter_cons, if_pos this, List.map_cons]
      exact ⟨_, rfl⟩
    · rw [if_neg h]
      have : ¬ behind t (f, some (g - 1), x) = true := by
        show ¬ decide (t < g - 1 + x) = true
        rw [decide_eq_true_eq]; exact h
      refine ⟨q, ?_⟩
      rw [← e]
      unfold jumpP
      rw [rgs_cons, List.filter_cons, if_neg this]
theorem jumpU_cut (t x : Int) : ∀ (r : List (Int × Int)) (f g : Int), f < g → Asc g r → momL f x ((g, x) :: r) t = [] → jumpU f x r t = jumpU f x ((g, x) :: r) t
  | [], f, g, h, _, e => by
    unfold momL at e
    obtain ⟨e1, e2⟩ := List.append_eq_nil_iff.mp e
    unfold momL at e2
    have n1 : ¬ (f ≤ t - x ∧ t - x ≤ g - 1) := fun c => by rw [if_pos c] at e1; cases e1
    have n2 : ¬ g ≤ t - x := fun c => by rw [if_pos c] at e2; cases e2
    show f = if t < g - 1 + x then f else g
    rw [if_pos (by omega)]
  | (k, z) :: r, f, g, h, a, e => by
    unfold momL at e
    obtain ⟨e1, e2⟩ := List.append_eq_nil_iff.mp e
    unfold momL at e2
    obtain ⟨e2, e3⟩ := List.append_eq_nil_iff.mp e2
    have n1 : ¬ (f ≤ t - x ∧ t - x ≤ g - 1) := fun c => by rw [if_pos c] at e1; cases e1
    have n2 : ¬ (g ≤ t - x ∧ t - x ≤ k - 1) := fun c => by rw [if_pos c] at e2; cases e2
    have := a.1
    show (if t < k - 1 + x then f else jumpU k z r t) = if t < g - 1 + x then f else (if t < k - 1 + x then g else jumpU k z r t)
    by_cases b : t < g - 1 + x
    · rw [if_pos b, if_pos (by omega)]
    · rw [if_neg b, if_neg (by omega), if_neg (by omega)]
theorem jumpU_red (t : Int) : ∀ (cs : List (Int × Int)) (f x : Int), Asc f cs → momL f x cs t = [] → jumpU f x (red x cs) t = jumpU f x cs t
  | [], _, _, _, _ => rfl
  | (g, y) :: r, f, x, a, e => by
    unfold red
    by_cases h : y = x
    · subst h
      have e2 : momL f y r t = [] := by rw [momL_cut t y r f g a.1 a.2]; exact e
      rw [if_pos rfl, jumpU_red t r f y (Asc.lower (by have := a.1; omega) a.2) e2]
      exact jumpU_cut t y r f g a.1 a.2 e
    · rw [if_neg h]
      unfold momL at e
      obtain ⟨_, e2⟩ := List.append_eq_nil_iff.mp e
      unfold jumpU
      rw [jumpU_red t r g y a.2 e2]
def laterQ (rs : List (Int × Int × Int)) (t : Int) : List Int := (rs.filter fun p => decide (t < p.2.1 + p.2.2)).map fun p => max p.1 (t + 1 - p.2.2)
/-- the law's least one -/
theorem laterQ_min (t L : Int) (ht : t + 1440 < L) : ∀ (cs : List (Int × Int)) (f x : Int), Asc f cs → -1440 ≤ x → x ≤ 1440 → Offs cs → lastS f cs ≤ L → momL f x cs t = [] →
    jumpU f x cs t ∈ laterQ (lrs f x cs L) t ∧ ∀ m ∈ laterQ (lrs f x cs L) t, jumpU f x cs t ≤ m
  | [], f, x, _, x0, x1, _, hL, e => by
    have hL : f ≤ L := hL
    unfold momL at e
    have n1 : ¬ f ≤ t - x := fun c => by rw [if_pos c] at e; cases e
    unfold laterQ jumpU
    rw [lrs_nil, if_pos (by omega)]
    have b : decide (t < min L (L + 1 - 1) + x) = true := decide_eq_true (by omega)
    have m : max f (t + 1 - x) = f := by omega
    rw [List.filter_cons, if_pos b]
    show f ∈ [max f (t + 1 - x)] ∧ ∀ m ∈ [max f (t + 1 - x)], f ≤ m
    rw [m]
    exact ⟨List.mem_singleton.mpr rfl, fun k hk => by rw [List.mem_singleton.mp hk]; exact Int.le_refl _⟩
  | (g, y) :: r, f, x, a, x0, x1, o, hL, e => by
    have hy := o (g, y) List.mem_cons_self
    have hL2 : lastS g r ≤ L := hL
    have ag := Asc.le a.2
    have a1 := a.1
    unfold momL at e
    obtain ⟨e1, e2⟩ := List.append_eq_nil_iff.mp e
    have n1 : ¬ (f ≤ t - x ∧ t - x ≤ g - 1) := fun c => by rw [if_pos c] at e1; cases e1
    obtain ⟨i1, i2⟩ := laterQ_min t L ht r g y a.2 hy.1 hy.2 (fun p hp => o p (List.mem_cons_of_mem _ hp)) hL2 e2
    have low : ∀ (cs : List (Int × Int)) (f' x' : Int), Asc f' cs → ∀ m ∈ laterQ (lrs f' x' cs L) t, f' ≤ m := by
      intro cs
      induction cs with
      | nil =>
        intro f' x' _ m hm
        unfold laterQ at hm
        rw [lrs_nil] at hm
        split at hm
        · rw [List.filter_cons] at hm
          split at hm
          · have : m = max f' (t + 1 - x') := List.mem_singleton.mp hm
            omega
          · cases hm
        · cases hm
      | cons p cs ih =>
        obtain ⟨g', y'⟩ := p
        intro f' x' a' m hm
        unfold laterQ at hm
        rw [lrs_cons, List.filter_append, List.map_append, List.mem_append] at hm
        rcases hm with hm | hm
        · split at hm
          · rw [List.filter_cons] at hm
            split at hm
            · have : m = max f' (t + 1 - x') := List.mem_singleton.mp hm
              omega
            · cases hm
          · cases hm
        · have := ih g' y' a'.2 m hm
          have := a'.1
          omega
    unfold laterQ jumpU
    rw [lrs_cons, if_pos (by omega)]
    have em : min L (g - 1) = g - 1 := by omega
    rw [em, List.filter_append, List.map_append]
    by_cases h : t < g - 1 + x
    · rw [if_pos h, List.filter_cons, if_pos (decide_eq_true h)]
      have m : max f (t + 1 - x) = f := by omega
      show f ∈ [max f (t + 1 - x)] ++ _ ∧ ∀ m ∈ [max f (t + 1 - x)] ++ _, f ≤ m
      rw [m]
      refine ⟨List.mem_append.mpr (.inl (List.mem_singleton.mpr rfl)), fun k hk => ?_⟩
      rcases List.mem_append.mp hk with hk | hk
      · rw [List.mem_singleton.mp hk]; exact Int.le_refl _
      · have := low r g y a.2 k hk
        omega
    · rw [if_neg h, List.filter_cons, if_neg (by rw [decide_eq_true_eq]; exact h)]
      exact ⟨i1, i2⟩
end My
set_option linter.all false
set_option maxRecDepth 100000
namespace My
open PySem PySem.Spec PyProof.Rows L2 Kx
/-! clocks in the heap -/
def TOP : Int := 1000000000000000
abbrev CLK (K : PySem.W.Frag) : Prop := CF K (He.ga K "Clock") ["offset", "ranges", "changes"]
def encC (p : Int × Int) : List V := [.int p.1, .int p.2]
def oI : Option Int → V
  | none => .non
  | some i => .int i
def encR (p : Int × Option Int × Int) : List V := [.int p.1, oI p.2.1, .int p.2.2]
/-- local times of a range -/
def encL (p : Int × Option Int × Int) : List V := [.int (p.1 + p.2.2), oI (p.2.1.map (· + p.2.2)), .int p.2.2]
/-- changes as the law draws them -/
structure ClkOk (o : Int) (cs : List (Int × Int)) : Prop where
  o0 : -1440 ≤ o
  o1 : o ≤ 1440
  asc : Asc 0 cs
  offs : Offs cs
  len : cs.length ≤ 8
  last : lastS 0 cs ≤ 1000000
/-- the changes' list -/
def ChL (K : PySem.W.Frag) (H : Hp) (a : Addr) (cs : List (Int × Int)) : Prop := ∃ xs, H a = some (.lst xs) ∧ RnT H xs (cs.map encC)
/-- a clock of the package -/
def ClockAt (K : PySem.W.Frag) (H : Hp) (c : Addr) (o : Int) (cs : List (Int × Int)) : Prop := CLK K ∧ ∃ dx ra ca xs, H c = some (.ins (He.ga K "Clock") dx [("offset", .int o), ("ranges", .ref ra), ("changes", .ref ca)]) ∧ H ra = some (.lst xs) ∧ RnT H xs ((rgs 0 o (red o cs)).map encR)
/-- the law's own clock -/
def OwnAt (K : PySem.W.Frag) (H : Hp) (a : Addr) (o : Int) (cs : List (Int × Int)) : Prop := ∃ ca, H a = some (.lst [.int o, .ref ca]) ∧ ChL K H ca cs
/-- a new list of ints -/
def NewI (H : Hp) (Q : VK) (ns : List Int) : Prop := ∀ p H', Same H H' → H' p = some (.lst (ns.map V.int)) → H p = none → Q (.ref p) H'
/-- a new list of new tuples -/
def NewR (H : Hp) (Q : VK) (ls : List (List V)) : Prop := ∀ p xs H', Same H H' → H' p = some (.lst xs) → RnT H' xs ls → Q (.ref p) H'
def sp_is_list (K : PySem.W.Frag) : Sp := fun vs H Q _ => ∃ a xs, vs = [.ref a] ∧ SqL K H a xs ∧ ∀ H', Same H H' → Q (.bl true) H'
def sp_is_list_of (K : PySem.W.Frag) : Sp := fun vs H Q _ => ∃ a xs lo hi, vs = [.ref a, .int lo, .int hi] ∧ SqL K H a xs ∧ lo ≤ xs.length ∧ (xs.length : Int) ≤ hi ∧ ∀ H', Same H H' → Q (.bl true) H'
def sp_is_ascending (K : PySem.W.Frag) : Sp := fun vs H Q _ => ∃ (a : Addr) (ns : List Int), vs = [.ref a] ∧ SqL K H a (ns.map V.int) ∧ ns.length ≤ 1000 ∧ ns.Pairwise (· < ·) ∧ ∀ H', Same H H' → Q (.bl true) H'
def sp_is_time (K : PySem.W.Frag) : Sp := fun vs H Q _ => ∃ x T, vs = [x] ∧ Kd K H x T ∧ Q (.bl (betw x 0 TOP)) H
def sp_check_time (K : PySem.W.Frag) : Sp := fun vs H Q E => ∃ x T, vs = [x] ∧ Kd K H x T ∧ (betw x 0 TOP = true → Q .non H) ∧ (betw x 0 TOP = false → Er K E H "InvalidTime" x)
def sp_is_offset (K : PySem.W.Frag) : Sp := fun vs H Q _ => ∃ x T, vs = [x] ∧ Kd K H x T ∧ Q (.bl (betw x (-1440) 1440)) H
def sp_is_change (K : PySem.W.Frag) : Sp := fun vs H Q _ => ∃ v m x, vs = [v] ∧ IsT K H v [.int m, .int x] ∧ 1 ≤ m ∧ m ≤ TOP ∧ -1440 ≤ x ∧ x ≤ 1440 ∧ Q (.bl true) H
def sp_are_changes (K : PySem.W.Frag) : Sp := fun vs H Q _ => ∃ a o cs, vs = [.ref a] ∧ ChL K H a cs ∧ ClkOk o cs ∧ ∀ H', Same H H' → Q (.bl true) H'
def sp_ranges_of (K : PySem.W.Frag) : Sp := fun vs H Q _ => ∃ o a cs, vs = [.int o, .ref a] ∧ ChL K H a cs ∧ ClkOk o cs ∧ NewR H Q ((rgs 0 o (red o cs)).map encR)
def sp_Clock___init__ (K : PySem.W.Frag) : Sp := fun vs H Q _ => ∃ c dx o a cs, vs = [.ref c, .int o, .ref a] ∧ CLK K ∧ H c = some (.ins (He.ga K "Clock") dx []) ∧ ChL K H a cs ∧ ClkOk o cs ∧
  ∀ H', (∀ b u, b ≠ c → H b = some u → H' b = some u) → ClockAt K H' c o cs → Q .non H'
def sp_locals_of (K : PySem.W.Frag) : Sp := fun vs H Q _ => ∃ c o cs, vs = [.ref c] ∧ ClockAt K H c o cs ∧ ClkOk o cs ∧ NewR H Q ((rgs 0 o (red o cs)).map encL)
def sp_moments_of (K : PySem.W.Frag) : Sp := fun vs H Q _ => ∃ c o cs t, vs = [.ref c, .int t] ∧ ClockAt K H c o cs ∧ ClkOk o cs ∧ NewI H Q (momL 0 o cs t)
def sp_jump_over (K : PySem.W.Frag) : Sp := fun vs H Q _ => ∃ c o cs t, vs = [.ref c, .int t] ∧ ClockAt K H c o cs ∧ ClkOk o cs ∧ momL 0 o cs t = [] ∧ ∀ H', Same H H' → Q (.int (jumpU 0 o cs t)) H'
def sp_check_clock (K : PySem.W.Frag) : Sp := fun vs H Q E => ∃ x, vs = [x] ∧ ((∃ c o cs, x = .ref c ∧ ClockAt K H c o cs ∧ Q .non H) ∨ ∃ T, Kd K H x T ∧ Er K E H "InvalidClock" x)
def gapOk : V → Bool
  | .str s => s == "skip" || s == "after"
  | _ => false
def foldOk : V → Bool
  | .str s => s == "first" || s == "last" || s == "both"
  | _ => false
def sp_check_ways (K : PySem.W.Frag) : Sp := fun vs H Q E => ∃ g T f U, vs = [g, f] ∧ Kd K H g T ∧ Kd K H f U ∧ (gapOk g = true → foldOk f = true → Q .non H) ∧ (gapOk g = false → Er K E H "InvalidGap" g) ∧ (gapOk g = true → foldOk f = false → Er K E H "InvalidFold" f)
/-- the due moments: g whether a gap is jumped over, f 0: first, 1: last, 2: both -/
def dueM (o : Int) (cs : List (Int × Int)) (t : Int) (g f : Str) : List Int :=
  if momL 0 o cs t = [] then (if g = "after" ∧ o < t then [jumpU 0 o cs t] else [])
  else if f = "first" then (momL 0 o cs t).take 1 else if f = "last" then (momL 0 o cs t).drop ((momL 0 o cs t).length - 1) else momL 0 o cs t
def sp_due_moments (K : PySem.W.Frag) : Sp := fun vs H Q E => ∃ x t T g U f W, vs = [x, t, g, f] ∧ Kd K H t T ∧ Kd K H g U ∧ Kd K H f W ∧
  ((∃ c o cs, x = .ref c ∧ ClockAt K H c o cs ∧ ClkOk o cs ∧
    (∀ i s z, t = .int i → g = .str s → f = .str z → betw t 0 TOP = true → gapOk g = true → foldOk f = true → NewI H Q (dueM o cs i s z)) ∧
    (betw t 0 TOP = false → Er K E H "InvalidTime" t) ∧ (betw t 0 TOP = true → gapOk g = false → Er K E H "InvalidGap" g) ∧ (betw t 0 TOP = true → gapOk g = true → foldOk f = false → Er K E H "InvalidFold" f)) ∨
   ∃ Z, Kd K H x Z ∧ Er K E H "InvalidClock" x)
/-! the law's own -/
def sp__law_clock (K : PySem.W.Frag) : Sp := fun vs H Q _ => ∃ b c, vs = [.ref b] ∧ BoxAt H b c ∧ c < 800000000 ∧ ∀ a o cs H', Ks H H' → BoxAt H' b (c + 40) → OwnAt K H' a o cs → ClkOk o cs → Q (.ref a) H'
def sp__law_offset (K : PySem.W.Frag) : Sp := fun vs H Q _ => ∃ a o cs m, vs = [.ref a, .int m] ∧ OwnAt K H a o cs ∧ ClkOk o cs ∧ Q (.int (offAt o cs m)) H
def encQ (p : Int × Int × Int) : List V := [.int p.1, .int p.2.1, .int p.2.2]
def sp__law_ranges (K : PySem.W.Frag) : Sp := fun vs H Q _ => ∃ a o cs L, vs = [.ref a, .int L] ∧ OwnAt K H a o cs ∧ ClkOk o cs ∧ NewR H Q ((lrs 0 o cs L).map encQ)
def sp__law_moments (K : PySem.W.Frag) : Sp := fun vs H Q _ => ∃ a o cs t, vs = [.ref a, .int t] ∧ OwnAt K H a o cs ∧ ClkOk o cs ∧ NewI H Q (momL 0 o cs t)
def sp__law_due_moments (K : PySem.W.Frag) : Sp := fun vs H Q _ => ∃ a o cs t g f, vs = [.ref a, .int t, .str g, .str f] ∧ OwnAt K H a o cs ∧ ClkOk o cs ∧ gapOk (.str g) = true ∧ foldOk (.str f) = true ∧ NewI H Q (dueM o cs t g f)
def sp__law_asked (K : PySem.W.Frag) : Sp := fun vs H Q _ => ∃ nm x t T g U f W, vs = [.bl nm, x, t, g, f] ∧ Kd K H t T ∧ Kd K H g U ∧ Kd K H f W ∧
  ((∃ c o cs, x = .ref c ∧ ClockAt K H c o cs ∧ ClkOk o cs ∧
    (∀ i s z, t = .int i → g = .str s → f = .str z → betw t 0 TOP = true → gapOk g = true → foldOk f = true → ∀ p l H', Same H H' → H p = none → H' p = some (.lst ((dueM o cs i s z).map V.int)) → H' l = some (.lst [.str "told", .ref p]) → Q (.ref l) H') ∧
    (betw t 0 TOP = false → Ans H Q [.str "time", t]) ∧ (betw t 0 TOP = true → gapOk g = false → Ans H Q [.str "gap", g]) ∧ (betw t 0 TOP = true → gapOk g = true → foldOk f = false → Ans H Q [.str "fold", f])) ∨
   ∃ Z, Kd K H x Z ∧ Ans H Q [.str "clock", x])
def sp__law_rows_right (K : PySem.W.Frag) : Sp := fun vs H Q _ => ∃ b k a c o cs, vs = [.ref b, .ref a, .ref c] ∧ BoxAt H b k ∧ k < 800000000 ∧ OwnAt K H a o cs ∧ ClockAt K H c o cs ∧ ClkOk o cs ∧ ∀ H', Ks H H' → BoxAt H' b (k + 200) → Q (.bl true) H'
def sp__law_far_right (K : PySem.W.Frag) : Sp := fun vs H Q _ => ∃ b k a c o cs, vs = [.ref b, .ref a, .ref c] ∧ BoxAt H b k ∧ k < 800000000 ∧ OwnAt K H a o cs ∧ ClockAt K H c o cs ∧ ClkOk o cs ∧ ∀ H', Ks H H' → BoxAt H' b (k + 10) → Q (.bl true) H'
def sp__law_refusals_right (K : PySem.W.Frag) : Sp := fun vs H Q _ => ∃ b k a c o cs, vs = [.ref b, .ref a, .ref c] ∧ BoxAt H b k ∧ k < 800000000 ∧ OwnAt K H a o cs ∧ ClockAt K H c o cs ∧ ClkOk o cs ∧ ∀ H', Ks H H' → Q (.bl true) H'
/-! data of bounded depth, width and text -/
mutual
def okE : Nat → PyData → Prop
  | n, .list ds => ∃ m, n = m + 1 ∧ ds.length ≤ 100000 ∧ okAllE m ds
  | n, .tuple ds => ∃ m, n = m + 1 ∧ ds.length ≤ 100000 ∧ okAllE m ds
  | _, .none => True
  | _, .bool _ => True
  | _, .int _ => True
  | _, .str s => s.length ≤ 100000
  | _, .dict _ => False
def okAllE : Nat → List PyData → Prop
  | _, [] => True
  | n, d :: ds => okE n d ∧ okAllE n ds
end
def sp_eqS (K : PySem.W.Frag) (n : Nat) : Sp := fun vs H Q _ => ∃ x y d, vs = [x, y] ∧ Dp K H x d ∧ Dp K H y d ∧ okE n d ∧ ∀ H', Same H H' → Q (.bl true) H'
def sp_sameS (K : PySem.W.Frag) : Sp := sp_eqS K 8
def sp_law (K : PySem.W.Frag) : Sp := fun vs H Q _ => ∃ (a : Addr) (ns : List Int), vs = [.ref a] ∧ SqL K H a (ns.map V.int) ∧ ns.length ≤ 63 ∧ ∀ H', Q (.bl true) H'
end My
set_option Elab.async false
set_option linter.all false
set_option maxRecDepth 100000
set_option maxHeartbeats 4000000
namespace My
open PySem PySem.Spec PyProof.Rows L2 Kx
structure Tx (P : Program) (K : PySem.W.Frag) (mg : Str → Option Value) : Prop where
  n_abs : mg "abs" = none
  n_all : mg "all" = none
  n_bool : mg "bool" = none
  n_int : mg "int" = none
  n_isinstance : mg "isinstance" = none
  n_len : mg "len" = none
  n_list : mg "list" = none
  n_max : mg "max" = none
  n_min : mg "min" = none
  n_range : mg "range" = none
  n_set : mg "set" = none
  n_str : mg "str" = none
  n_sum : mg "sum" = none
  n_super : mg "super" = none
  n_tuple : mg "tuple" = none
  n_zip : mg "zip" = none
  r_FOLDS : ∃ u, mg "FOLDS" = some u ∧ RelV (.ref (He.ga K "FOLDS")) u
  r_GAPS : ∃ u, mg "GAPS" = some u ∧ RelV (.ref (He.ga K "GAPS")) u
  c_MOST_CHANGES : ∃ u, mg "MOST_CHANGES" = some u ∧ RelV (.int 400) u
  c_MOST_MOMENT : ∃ u, mg "MOST_MOMENT" = some u ∧ RelV (.int 1000000000000000) u
  c_MOST_OFFSET : ∃ u, mg "MOST_OFFSET" = some u ∧ RelV (.int 1440) u
  c_MOST_TIME : ∃ u, mg "MOST_TIME" = some u ∧ RelV (.int 1000000000000000) u
  r_Clock : ∃ u, mg "Clock" = some u ∧ RelV (.ref (He.ga K "Clock")) u
  k_Clock : CF K (He.ga K "Clock") ["offset", "ranges", "changes"]
  r_DueError : ∃ u, mg "DueError" = some u ∧ RelV (.ref (He.ga K "DueError")) u
  g_DueError : mg "DueError" = some (.ref (He.ga K "DueError"))
  x_DueError : PySem.DueE.ClsTxt K (He.ga K "DueError") (He.ga K "DueError") (He.ma K (He.ga K "DueError") "__init__")
  r_InvalidChanges : ∃ u, mg "InvalidChanges" = some u ∧ RelV (.ref (He.ga K "InvalidChanges")) u
  g_InvalidChanges : mg "InvalidChanges" = some (.ref (He.ga K "InvalidChanges"))
  x_InvalidChanges : PySem.DueE.ClsTxt K (He.ga K "DueError") (He.ga K "InvalidChanges") (He.ma K (He.ga K "DueError") "__init__")
  r_InvalidClock : ∃ u, mg "InvalidClock" = some u ∧ RelV (.ref (He.ga K "InvalidClock")) u
  g_InvalidClock : mg "InvalidClock" = some (.ref (He.ga K "InvalidClock"))
  x_InvalidClock : PySem.DueE.ClsTxt K (He.ga K "DueError") (He.ga K "InvalidClock") (He.ma K (He.ga K "DueError") "__init__")
  r_InvalidFold : ∃ u, mg "InvalidFold" = some u ∧ RelV (.ref (He.ga K "InvalidFold")) u
  g_InvalidFold : mg "InvalidFold" = some (.ref (He.ga K "InvalidFold"))
  x_InvalidFold : PySem.DueE.ClsTxt K (He.ga K "DueError") (He.ga K "InvalidFold") (He.ma K (He.ga K "DueError") "__init__")
  r_InvalidGap : ∃ u, mg "InvalidGap" = some u ∧ RelV (.ref (He.ga K "InvalidGap")) u
  g_InvalidGap : mg "InvalidGap" = some (.ref (He.ga K "InvalidGap"))
  x_InvalidGap : PySem.DueE.ClsTxt K (He.ga K "DueError") (He.ga K "InvalidGap") (He.ma K (He.ga K "DueError") "__init__")
  r_InvalidOffset : ∃ u, mg "InvalidOffset" = some u ∧ RelV (.ref (He.ga K "InvalidOffset")) u
  g_InvalidOffset : mg "InvalidOffset" = some (.ref (He.ga K "InvalidOffset"))
  x_InvalidOffset : PySem.DueE.ClsTxt K (He.ga K "DueError") (He.ga K "InvalidOffset") (He.ma K (He.ga K "DueError") "__init__")
  r_InvalidTime : ∃ u, mg "InvalidTime" = some u ∧ RelV (.ref (He.ga K "InvalidTime")) u
  g_InvalidTime : mg "InvalidTime" = some (.ref (He.ga K "InvalidTime"))
  x_InvalidTime : PySem.DueE.ClsTxt K (He.ga K "DueError") (He.ga K "InvalidTime") (He.ma K (He.ga K "DueError") "__init__")
  due : PySem.DueE.InitTxt P K (He.ga K "DueError") (He.ma K (He.ga K "DueError") "__init__")
theorem Tx.nm_DueError {X : Cx} (T : Tx X.prog X.K X.mg) (hg : Gl X "DueError" := by rfl) : Names X "DueError" (.ref (He.ga X.K "DueError")) := ⟨hg, by decide, .inl T.g_DueError⟩
theorem Tx.nm_InvalidChanges {X : Cx} (T : Tx X.prog X.K X.mg) (hg : Gl X "InvalidChanges" := by rfl) : Names X "InvalidChanges" (.ref (He.ga X.K "InvalidChanges")) := ⟨hg, by decide, .inl T.g_InvalidChanges⟩
theorem Tx.nm_InvalidClock {X : Cx} (T : Tx X.prog X.K X.mg) (hg : Gl X "InvalidClock" := by rfl) : Names X "InvalidClock" (.ref (He.ga X.K "InvalidClock")) := ⟨hg, by decide, .inl T.g_InvalidClock⟩
theorem Tx.nm_InvalidFold {X : Cx} (T : Tx X.prog X.K X.mg) (hg : Gl X "InvalidFold" := by rfl) : Names X "InvalidFold" (.ref (He.ga X.K "InvalidFold")) := ⟨hg, by decide, .inl T.g_InvalidFold⟩
theorem Tx.nm_InvalidGap {X : Cx} (T : Tx X.prog X.K X.mg) (hg : Gl X "InvalidGap" := by rfl) : Names X "InvalidGap" (.ref (He.ga X.K "InvalidGap")) := ⟨hg, by decide, .inl T.g_InvalidGap⟩
theorem Tx.nm_InvalidOffset {X : Cx} (T : Tx X.prog X.K X.mg) (hg : Gl X "InvalidOffset" := by rfl) : Names X "InvalidOffset" (.ref (He.ga X.K "InvalidOffset")) := ⟨hg, by decide, .inl T.g_InvalidOffset⟩
theorem Tx.nm_InvalidTime {X : Cx} (T : Tx X.prog X.K X.mg) (hg : Gl X "InvalidTime" := by rfl) : Names X "InvalidTime" (.ref (He.ga X.K "InvalidTime")) := ⟨hg, by decide, .inl T.g_InvalidTime⟩
def g_due_moments_fold_gap_time_clock : {α : Type} → List α → List α := fun l => match l with
  | [x0, x1, x2, x3] => [x3, x2, x1, x0]
  | _ => []
/-! is_whole: 0 value -/
abbrev s_is_whole : Stmt := top 11
abbrev N_is_whole : List Str := ["value"]
theorem sc_is_whole : FnScope ["value"] ["value"] (defScope s_is_whole) := ⟨rfl, rfl, rfl, by decide +kernel, rfl, by decide +kernel, by decide +kernel⟩
abbrev t_is_whole (K : PySem.W.Frag) (E : XK) : TS :=
  tRet (tAndV (tCB (uIsi K) (tCons (tVar 0) (tCons (tC (.ty "int")) tNil))) (tNotV (tCB (uIsi K) (tCons (tVar 0) (tCons (tC (.ty "bool")) tNil)))))
theorem d_is_whole {P : Program} {w : World} {K : PySem.W.Frag} {mg : Str → Option Value} {base : Heap} (T : Tx P K mg) 
    {f : Addr} {cdv : Value} {A : Around} {outer : List Env} {s : Shared} {H : Hp} {E : XK} (hr : Room 2 (A.deeper (envOfC "is_whole" (defScope s_is_whole) s.heap.objs.size f cdv))) :
    PSs (cxOf (L2.CX P w) P w K mg base ["value"] "is_whole" (defScope s_is_whole) f cdv A outer s H E) (defBody s_is_whole) (t_is_whole K E) := by
  have nd := sc_is_whole.nd
  have hu0 := hu0_of hr
  have hu1 := hu_of hr
  have hu64 := hu64_of hr
  have hu65 := hu65_of hr
  exact pss_one (ps_ret (pe_and (pe_callB c_isi (by rfl) T.n_isinstance (by decide +kernel) (pa_cons (pv 0) (pa_cons (pe_ty (by rfl) T.n_int (by decide +kernel)) pa_nil))) (pe_one (pe_not (pe_callB c_isi (by rfl) T.n_isinstance (by decide +kernel) (pa_cons (pv 0) (pa_cons (pe_ty (by rfl) T.n_bool (by decide +kernel)) pa_nil)))))))
/-! is_between: 0 value, 1 least, 2 most -/
abbrev s_is_between : Stmt := top 12
abbrev N_is_between : List Str := ["value", "least", "most"]
theorem sc_is_between : FnScope ["value", "least", "most"] ["value", "least", "most"] (defScope s_is_between) := ⟨rfl, rfl, rfl, by decide +kernel, rfl, by decide +kernel, by decide +kernel⟩
abbrev t_is_between (K : PySem.W.Frag) (E : XK) : TS :=
  tRet (tAndV (tKn (sp_is_whole K) (tCons (tVar 0) tNil)) (tChain uLe uLe (tVar 1) (tVar 0) (tVar 2)))
theorem d_is_between {P : Program} {w : World} {K : PySem.W.Frag} {mg : Str → Option Value} {base : Heap} (T : Tx P K mg) (c_is_whole : Kn P w K mg base 3 "is_whole" ["value"] (sp_is_whole K))
    {f : Addr} {cdv : Value} {A : Around} {outer : List Env} {s : Shared} {H : Hp} {E : XK} (hr : Room 3 (A.deeper (envOfC "is_between" (defScope s_is_between) s.heap.objs.size f cdv))) :
    PSs (cxOf (L2.CX P w) P w K mg base ["value", "least", "most"] "is_between" (defScope s_is_between) f cdv A outer s H E) (defBody s_is_between) (t_is_between K E) := by
  have nd := sc_is_between.nd
  have hu0 := hu0_of hr
  have hu1 := hu_of hr
  have hu64 := hu64_of hr
  have hu65 := hu65_of hr
  exact pss_one (ps_ret (pe_and (pe_kn c_is_whole hr (by decide) (by rfl) (pa_cons (pv 0) pa_nil)) (pe_one (pe_chain u_le u_le (pv 1) (pv 0) (pv 2)))))
/-! is_list: 0 value -/
abbrev s_is_list : Stmt := top 13
abbrev N_is_list : List Str := ["value"]
theorem sc_is_list : FnScope ["value"] ["value"] (defScope s_is_list) := ⟨rfl, rfl, rfl, by decide +kernel, rfl, by decide +kernel, by decide +kernel⟩
abbrev t_is_list (K : PySem.W.Frag) (E : XK) : TS :=
  tRet (tCB (uIsi K) (tCons (tVar 0) (tCons (tTup (tCons (tC (.ty "list")) (tCons (tC (.ty "tuple")) tNil))) tNil)))
theorem d_is_list {P : Program} {w : World} {K : PySem.W.Frag} {mg : Str → Option Value} {base : Heap} (T : Tx P K mg) 
    {f : Addr} {cdv : Value} {A : Around} {outer : List Env} {s : Shared} {H : Hp} {E : XK} (hr : Room 2 (A.deeper (envOfC "is_list" (defScope s_is_list) s.heap.objs.size f cdv))) :
    PSs (cxOf (L2.CX P w) P w K mg base ["value"] "is_list" (defScope s_is_list) f cdv A outer s H E) (defBody s_is_list) (t_is_list K E) := by
  have nd := sc_is_list.nd
  have hu0 := hu0_of hr
  have hu1 := hu_of hr
  have hu64 := hu64_of hr
  have hu65 := hu65_of hr
  exact pss_one (ps_ret (pe_callB c_isi (by rfl) T.n_isinstance (by decide +kernel) (pa_cons (pv 0) (pa_cons (pe_tup (pa_cons (pe_ty (by rfl) T.n_list (by decide +kernel)) (pa_cons (pe_ty (by rfl) T.n_tuple (by decide +kernel)) pa_nil))) pa_nil))))
/-! is_list_of: 0 value, 1 least, 2 most -/
abbrev s_is_list_of : Stmt := top 14
abbrev N_is_list_of : List Str := ["value", "least", "most"]
theorem sc_is_list_of : FnScope ["value", "least", "most"] ["value", "least", "most"] (defScope s_is_list_of) := ⟨rfl, rfl, rfl, by decide +kernel, rfl, by decide +kernel, by decide +kernel⟩
abbrev t_is_list_of (K : PySem.W.Frag) (E : XK) : TS :=
  tRet (tAndV (tKn (sp_is_list K) (tCons (tVar 0) tNil)) (tChain uLe uLe (tVar 1) (tCB (uLen K) (tCons (tVar 0) tNil)) (tVar 2)))
theorem d_is_list_of {P : Program} {w : World} {K : PySem.W.Frag} {mg : Str → Option Value} {base : Heap} (T : Tx P K mg) (c_is_list : Kn P w K mg base 3 "is_list" ["value"] (sp_is_list K))
    {f : Addr} {cdv : Value} {A : Around} {outer : List Env} {s : Shared} {H : Hp} {E : XK} (hr : Room 3 (A.deeper (envOfC "is_list_of" (defScope s_is_list_of) s.heap.objs.size f cdv))) :
    PSs (cxOf (L2.CX P w) P w K mg base ["value", "least", "most"] "is_list_of" (defScope s_is_list_of) f cdv A outer s H E) (defBody s_is_list_of) (t_is_list_of K E) := by
  have nd := sc_is_list_of.nd
  have hu0 := hu0_of hr
  have hu1 := hu_of hr
  have hu64 := hu64_of hr
  have hu65 := hu65_of hr
  exact pss_one (ps_ret (pe_and (pe_kn c_is_list hr (by decide) (by rfl) (pa_cons (pv 0) pa_nil)) (pe_one (pe_chain u_le u_le (pv 1) (pe_callB c_len (by rfl) T.n_len (by decide +kernel) (pa_cons (pv 0) pa_nil)) (pv 2)))))
/-! is_tuple_of: 0 value, 1 many -/
abbrev s_is_tuple_of : Stmt := top 15
abbrev N_is_tuple_of : List Str := ["value", "many"]
theorem sc_is_tuple_of : FnScope ["value", "many"] ["value", "many"] (defScope s_is_tuple_of) := ⟨rfl, rfl, rfl, by decide +kernel, rfl, by decide +kernel, by decide +kernel⟩
abbrev t_is_tuple_of (K : PySem.W.Frag) (E : XK) : TS :=
  tRet (tAndV (tCB (uIsi K) (tCons (tVar 0) (tCons (tC (.ty "tuple")) tNil))) (tOp (uEq K) (tCB (uLen K) (tCons (tVar 0) tNil)) (tVar 1)))
theorem d_is_tuple_of {P : Program} {w : World} {K : PySem.W.Frag} {mg : Str → Option Value} {base : Heap} (T : Tx P K mg) 
    {f : Addr} {cdv : Value} {A : Around} {outer : List Env} {s : Shared} {H : Hp} {E : XK} (hr : Room 2 (A.deeper (envOfC "is_tuple_of" (defScope s_is_tuple_of) s.heap.objs.size f cdv))) :
    PSs (cxOf (L2.CX P w) P w K mg base ["value", "many"] "is_tuple_of" (defScope s_is_tuple_of) f cdv A outer s H E) (defBody s_is_tuple_of) (t_is_tuple_of K E) := by
  have nd := sc_is_tuple_of.nd
  have hu0 := hu0_of hr
  have hu1 := hu_of hr
  have hu64 := hu64_of hr
  have hu65 := hu65_of hr
  exact pss_one (ps_ret (pe_and (pe_callB c_isi (by rfl) T.n_isinstance (by decide +kernel) (pa_cons (pv 0) (pa_cons (pe_ty (by rfl) T.n_tuple (by decide +kernel)) pa_nil))) (pe_one (pe_cmpR (u_eq hu64) (pe_callB c_len (by rfl) T.n_len (by decide +kernel) (pa_cons (pv 0) pa_nil)) (pv 1) (nomark _)))))
/-! is_ascending: 0 items, 1 at -/
abbrev s_is_ascending : Stmt := top 16
abbrev N_is_ascending : List Str := ["items", "at"]
theorem sc_is_ascending : FnScope ["items", "at"] ["items"] (defScope s_is_ascending) := ⟨rfl, rfl, rfl, by decide +kernel, rfl, by decide +kernel, by decide +kernel⟩
abbrev t_is_ascending (K : PySem.W.Frag) (E : XK) : TS :=
  tRet (tCB (uAll K) (tCons (tLc (iRng1 (tCons (tOp uSub (tCB (uLen K) (tCons (tVar 0) tNil)) (tC (.int 1))) tNil)) (gName 1) tYes (tOp (uLt K) (tOp (uIx K) (tVar 0) (tVar 1)) (tOp (uIx K) (tVar 0) (tOp (uAdd K) (tVar 1) (tC (.int 1))))) [1]) tNil))
theorem d_is_ascending {P : Program} {w : World} {K : PySem.W.Frag} {mg : Str → Option Value} {base : Heap} (T : Tx P K mg) 
    {f : Addr} {cdv : Value} {A : Around} {outer : List Env} {s : Shared} {H : Hp} {E : XK} (hr : Room 2 (A.deeper (envOfC "is_ascending" (defScope s_is_ascending) s.heap.objs.size f cdv))) :
    PSs (cxOf (L2.CX P w) P w K mg base ["items", "at"] "is_ascending" (defScope s_is_ascending) f cdv A outer s H E) (defBody s_is_ascending) (t_is_ascending K E) := by
  have nd := sc_is_ascending.nd
  have hu0 := hu0_of hr
  have hu1 := hu_of hr
  have hu64 := hu64_of hr
  have hu65 := hu65_of hr
  exact pss_one (ps_ret (pe_callB (c_all rfl) (by rfl) T.n_all (by decide +kernel) (pa_cons (pe_lc (own := [("at", 1)]) rfl nd (pi_range1 (by rfl) T.n_range (pa_cons (pe_op u_sub (pe_callB c_len (by rfl) T.n_len (by decide +kernel) (pa_cons (pv 0) pa_nil)) pe_int) pa_nil)) (blkOk_by (N := ["items", "at"]) (sc := defScope s_is_ascending) (own := [("at", 1)]) (by decide +kernel)) (fun _ _ _ _ _ => pg_name (i := 1) nd rfl (Or.inl rfl)) (fun _ _ _ _ _ => pts_nil) (fun _ _ _ _ _ => pe_cmpR (u_lt hu0) (pe_ix (u_ix hu1) (pv 0) (pv 1) (fun _ _ => rfl)) (pe_ix (u_ix hu1) (pv 0) (pe_op u_add (pv 1) pe_int) (fun _ _ => rfl)) (nomark _))) pa_nil)))
/-! is_time: 0 value -/
abbrev s_is_time : Stmt := top 19
abbrev N_is_time : List Str := ["value"]
theorem sc_is_time : FnScope ["value"] ["value"] (defScope s_is_time) := ⟨rfl, rfl, rfl, by decide +kernel, rfl, by decide +kernel, by decide +kernel⟩
abbrev t_is_time (K : PySem.W.Frag) (E : XK) : TS :=
  tRet (tKn (sp_is_between K) (tCons (tVar 0) (tCons (tC (.int 0)) (tCons (tC (.int 1000000000000000)) tNil))))
theorem d_is_time {P : Program} {w : World} {K : PySem.W.Frag} {mg : Str → Option Value} {base : Heap} (T : Tx P K mg) (c_is_between : Kn P w K mg base 4 "is_between" ["value", "least", "most"] (sp_is_between K))
    {f : Addr} {cdv : Value} {A : Around} {outer : List Env} {s : Shared} {H : Hp} {E : XK} (hr : Room 4 (A.deeper (envOfC "is_time" (defScope s_is_time) s.heap.objs.size f cdv))) :
    PSs (cxOf (L2.CX P w) P w K mg base ["value"] "is_time" (defScope s_is_time) f cdv A outer s H E) (defBody s_is_time) (t_is_time K E) := by
  have nd := sc_is_time.nd
  have hu0 := hu0_of hr
  have hu1 := hu_of hr
  have hu64 := hu64_of hr
  have hu65 := hu65_of hr
  exact pss_one (ps_ret (pe_kn c_is_between hr (by decide) (by rfl) (pa_cons (pv 0) (pa_cons pe_int (pa_cons (pe_cst (by rfl) T.c_MOST_TIME) pa_nil)))))
/-! check_time: 0 time -/
abbrev s_check_time : Stmt := top 20
abbrev N_check_time : List Str := ["time"]
theorem sc_check_time : FnScope ["time"] ["time"] (defScope s_check_time) := ⟨rfl, rfl, rfl, by decide +kernel, rfl, by decide +kernel, by decide +kernel⟩
abbrev t_check_time (K : PySem.W.Frag) (E : XK) : TS :=
  tIfS (tNot (tTr K (tKn (sp_is_time K) (tCons (tVar 0) tNil)))) (tRaiseDue (He.ga K "InvalidTime") (W0 E) (tCons (tVar 0) tNil)) tNext
theorem d_check_time {P : Program} {w : World} {K : PySem.W.Frag} {mg : Str → Option Value} {base : Heap} (T : Tx P K mg) (c_is_time : Kn P w K mg base 5 "is_time" ["value"] (sp_is_time K))
    {f : Addr} {cdv : Value} {A : Around} {outer : List Env} {s : Shared} {H : Hp} {E : XK} (hr : Room 5 (A.deeper (envOfC "check_time" (defScope s_check_time) s.heap.objs.size f cdv))) :
    PSs (cxOf (L2.CX P w) P w K mg base ["time"] "check_time" (defScope s_check_time) f cdv A outer s H E) (defBody s_check_time) (t_check_time K E) := by
  have nd := sc_check_time.nd
  have hu0 := hu0_of hr
  have hu1 := hu_of hr
  have hu64 := hu64_of hr
  have hu65 := hu65_of hr
  exact pss_one (ps_if (pt_not (pt_tr (pe_kn c_is_time hr (by decide) (by rfl) (pa_cons (pv 0) pa_nil)) (by intro _; rfl))) (pss_one (ps_raiseDue rfl T.due T.x_InvalidTime hr T.g_InvalidTime T.n_super (takes_of rfl rfl rfl rfl) (pa_cons (pv 0) pa_nil))) pss_nil)
/-! is_offset: 0 value -/
abbrev s_is_offset : Stmt := top 27
abbrev N_is_offset : List Str := ["value"]
theorem sc_is_offset : FnScope ["value"] ["value"] (defScope s_is_offset) := ⟨rfl, rfl, rfl, by decide +kernel, rfl, by decide +kernel, by decide +kernel⟩
abbrev t_is_offset (K : PySem.W.Frag) (E : XK) : TS :=
  tRet (tKn (sp_is_between K) (tCons (tVar 0) (tCons (tUn uNeg (tC (.int 1440))) (tCons (tC (.int 1440)) tNil))))
theorem d_is_offset {P : Program} {w : World} {K : PySem.W.Frag} {mg : Str → Option Value} {base : Heap} (T : Tx P K mg) (c_is_between : Kn P w K mg base 4 "is_between" ["value", "least", "most"] (sp_is_between K))
    {f : Addr} {cdv : Value} {A : Around} {outer : List Env} {s : Shared} {H : Hp} {E : XK} (hr : Room 4 (A.deeper (envOfC "is_offset" (defScope s_is_offset) s.heap.objs.size f cdv))) :
    PSs (cxOf (L2.CX P w) P w K mg base ["value"] "is_offset" (defScope s_is_offset) f cdv A outer s H E) (defBody s_is_offset) (t_is_offset K E) := by
  have nd := sc_is_offset.nd
  have hu0 := hu0_of hr
  have hu1 := hu_of hr
  have hu64 := hu64_of hr
  have hu65 := hu65_of hr
  exact pss_one (ps_ret (pe_kn c_is_between hr (by decide) (by rfl) (pa_cons (pv 0) (pa_cons (pe_un u_neg (pe_cst (by rfl) T.c_MOST_OFFSET)) (pa_cons (pe_cst (by rfl) T.c_MOST_OFFSET) pa_nil)))))
/-! is_change: 0 value -/
abbrev s_is_change : Stmt := top 29
abbrev N_is_change : List Str := ["value"]
theorem sc_is_change : FnScope ["value"] ["value"] (defScope s_is_change) := ⟨rfl, rfl, rfl, by decide +kernel, rfl, by decide +kernel, by decide +kernel⟩
abbrev t_is_change (K : PySem.W.Frag) (E : XK) : TS :=
  tRet (tAndV (tKn (sp_is_tuple_of K) (tCons (tVar 0) (tCons (tC (.int 2)) tNil))) (tAndV (tKn (sp_is_between K) (tCons (tOp (uIx K) (tVar 0) (tC (.int 0))) (tCons (tC (.int 1)) (tCons (tC (.int 1000000000000000)) tNil)))) (tKn (sp_is_offset K) (tCons (tOp (uIx K) (tVar 0) (tC (.int 1))) tNil))))
theorem d_is_change {P : Program} {w : World} {K : PySem.W.Frag} {mg : Str → Option Value} {base : Heap} (T : Tx P K mg) (c_is_between : Kn P w K mg base 4 "is_between" ["value", "least", "most"] (sp_is_between K))
    (c_is_offset : Kn P w K mg base 5 "is_offset" ["value"] (sp_is_offset K))
    (c_is_tuple_of : Kn P w K mg base 3 "is_tuple_of" ["value", "many"] (sp_is_tuple_of K))
    {f : Addr} {cdv : Value} {A : Around} {outer : List Env} {s : Shared} {H : Hp} {E : XK} (hr : Room 5 (A.deeper (envOfC "is_change" (defScope s_is_change) s.heap.objs.size f cdv))) :
    PSs (cxOf (L2.CX P w) P w K mg base ["value"] "is_change" (defScope s_is_change) f cdv A outer s H E) (defBody s_is_change) (t_is_change K E) := by
  have nd := sc_is_change.nd
  have hu0 := hu0_of hr
  have hu1 := hu_of hr
  have hu64 := hu64_of hr
  have hu65 := hu65_of hr
  exact pss_one (ps_ret (pe_and (pe_kn c_is_tuple_of hr (by decide) (by rfl) (pa_cons (pv 0) (pa_cons pe_int pa_nil))) (pe_and (pe_kn c_is_between hr (by decide) (by rfl) (pa_cons (pe_ix (u_ix hu1) (pv 0) pe_int (fun _ _ => rfl)) (pa_cons pe_int (pa_cons (pe_cst (by rfl) T.c_MOST_MOMENT) pa_nil)))) (pe_one (pe_kn c_is_offset hr (by decide) (by rfl) (pa_cons (pe_ix (u_ix hu1) (pv 0) pe_int (fun _ _ => rfl)) pa_nil))))))
/-! are_changes: 0 value, 1 item, 2 moment, 3 _ -/
abbrev s_are_changes : Stmt := top 30
abbrev N_are_changes : List Str := ["value", "item", "moment", "_"]
theorem sc_are_changes : FnScope ["value", "item", "moment", "_"] ["value"] (defScope s_are_changes) := ⟨rfl, rfl, rfl, by decide +kernel, rfl, by decide +kernel, by decide +kernel⟩
abbrev t_are_changes (K : PySem.W.Frag) (E : XK) : TS :=
  tSeq (tIfS (tOr (tNot (tTr K (tKn (sp_is_list_of K) (tCons (tVar 0) (tCons (tC (.int 0)) (tCons (tC (.int 400)) tNil)))))) (tNot (tTr K (tCB (uAll K) (tCons (tLc (iSeq K (tVar 0)) (gName 1) tYes (tKn (sp_is_change K) (tCons (tVar 1) tNil)) [1]) tNil))))) (tRet (tC (.bl false))) tNext)
    (tRet (tKn (sp_is_ascending K) (tCons (tLc (iSeq K (tVar 0)) (gSq K 2 (gCons (gName 2) (gCons (gName 3) gNil))) tYes (tVar 2) [2, 3]) tNil)))
theorem d_are_changes {P : Program} {w : World} {K : PySem.W.Frag} {mg : Str → Option Value} {base : Heap} (T : Tx P K mg) (c_is_ascending : Kn P w K mg base 3 "is_ascending" ["items"] (sp_is_ascending K))
    (c_is_change : Kn P w K mg base 6 "is_change" ["value"] (sp_is_change K))
    (c_is_list_of : Kn P w K mg base 4 "is_list_of" ["value", "least", "most"] (sp_is_list_of K))
    {f : Addr} {cdv : Value} {A : Around} {outer : List Env} {s : Shared} {H : Hp} {E : XK} (hr : Room 6 (A.deeper (envOfC "are_changes" (defScope s_are_changes) s.heap.objs.size f cdv))) :
    PSs (cxOf (L2.CX P w) P w K mg base ["value", "item", "moment", "_"] "are_changes" (defScope s_are_changes) f cdv A outer s H E) (defBody s_are_changes) (t_are_changes K E) := by
  have nd := sc_are_changes.nd
  have hu0 := hu0_of hr
  have hu1 := hu_of hr
  have hu64 := hu64_of hr
  have hu65 := hu65_of hr
  exact pss_cons (ps_if (PW.pt (pw_or (pt_not (pt_tr (pe_kn c_is_list_of hr (by decide) (by rfl) (pa_cons (pv 0) (pa_cons pe_int (pa_cons (pe_cst (by rfl) T.c_MOST_CHANGES) pa_nil)))) (by intro _; rfl))) (pw_or1 (pt_not (pt_tr (pe_callB (c_all rfl) (by rfl) T.n_all (by decide +kernel) (pa_cons (pe_lc (own := [("item", 1)]) rfl nd (pi_seq (pv 0)) (blkOk_by (N := ["value", "item", "moment", "_"]) (sc := defScope s_are_changes) (own := [("item", 1)]) (by decide +kernel)) (fun _ _ _ _ _ => pg_name (i := 1) nd rfl (Or.inl rfl)) (fun _ _ _ _ _ => pts_nil) (fun _ _ _ _ _ => pe_kn c_is_change hr (by decide) (by rfl) (pa_cons (pv 1) pa_nil))) pa_nil)) (by intro _; rfl)))))) (pss_one (ps_ret pe_bl)) pss_nil)
      (pss_one (ps_ret (pe_kn c_is_ascending hr (by decide) (by rfl) (pa_cons (pe_lc (own := [("moment", 2), ("_", 3)]) rfl nd (pi_seq (pv 0)) (blkOk_by (N := ["value", "item", "moment", "_"]) (sc := defScope s_are_changes) (own := [("moment", 2), ("_", 3)]) (by decide +kernel)) (fun _ _ _ _ _ => pg_sq rfl (pgs_cons (pg_name (i := 2) nd rfl (Or.inl rfl)) (pgs_cons (pg_name (i := 3) nd rfl (Or.inl rfl)) pgs_nil))) (fun _ _ _ _ _ => pts_nil) (fun _ _ _ _ _ => pv 2)) pa_nil))))
/-! ranges_of: 0 offset, 1 changes, 2 found, 3 moment, 4 more, 5 ends, 6 _, 7 last, 8 first, 9 here -/
abbrev s_ranges_of : Stmt := top 31
abbrev N_ranges_of : List Str := ["offset", "changes", "found", "moment", "more", "ends", "_", "last", "first", "here"]
theorem sc_ranges_of : FnScope ["offset", "changes", "found", "moment", "more", "ends", "_", "last", "first", "here"] ["offset", "changes"] (defScope s_ranges_of) := ⟨rfl, rfl, rfl, by decide +kernel, rfl, by decide +kernel, by decide +kernel⟩
abbrev t_ranges_of (K : PySem.W.Frag) (E : XK) : TS :=
  tSeq (tAsg (tLst (tCons (tTup (tCons (tC (.int 0)) (tCons (tVar 0) tNil))) tNil)) (gName 2))
    (tSeq (tFor (iSeq K (tVar 1)) (gSq K 2 (gCons (gName 3) (gCons (gName 4) gNil))) (tIfS (tTest (tOp (uNe K) (tVar 4) (tOp (uIx K) (tOp (uIx K) (tVar 2) (tUn uNeg (tC (.int 1)))) (tC (.int 1))))) (tDrop (tBM K "list" rAppend (tVar 2) (tCons (tTup (tCons (tVar 3) (tCons (tVar 4) tNil))) tNil))) tNext))
    (tSeq (tAsg (tOp (uAdd K) (tLc (iSeq K (tSl (uSl K) (tVar 2) (tPart (tC (.int 1))) tNoPart)) (gSq K 2 (gCons (gName 3) (gCons (gName 6) gNil))) tYes (tOp uSub (tVar 3) (tC (.int 1))) [3, 6]) (tLst (tCons (tC .non) tNil))) (gName 5))
    (tRet (tLc (iZip K (tCons (tVar 2) (tCons (tVar 5) tNil))) (gSq K 2 (gCons (gSq K 2 (gCons (gName 8) (gCons (gName 9) gNil))) (gCons (gName 7) gNil))) tYes (tTup (tCons (tVar 8) (tCons (tVar 7) (tCons (tVar 9) tNil)))) [7, 8, 9]))))
theorem d_ranges_of {P : Program} {w : World} {K : PySem.W.Frag} {mg : Str → Option Value} {base : Heap} (T : Tx P K mg) 
    {f : Addr} {cdv : Value} {A : Around} {outer : List Env} {s : Shared} {H : Hp} {E : XK} (hr : Room 2 (A.deeper (envOfC "ranges_of" (defScope s_ranges_of) s.heap.objs.size f cdv))) :
    PSs (cxOf (L2.CX P w) P w K mg base ["offset", "changes", "found", "moment", "more", "ends", "_", "last", "first", "here"] "ranges_of" (defScope s_ranges_of) f cdv A outer s H E) (defBody s_ranges_of) (t_ranges_of K E) := by
  have nd := sc_ranges_of.nd
  have hu0 := hu0_of hr
  have hu1 := hu_of hr
  have hu64 := hu64_of hr
  have hu65 := hu65_of hr
  exact pss_cons (ps_asg (pe_lst (pa_cons (pe_tup (pa_cons pe_int (pa_cons (pv 0) pa_nil))) pa_nil)) (pg_name (i := 2) nd rfl (Or.inl rfl)))
      (pss_cons (ps_for (passes_of rfl) rfl (pi_seq (pv 1)) (pg_sq rfl (pgs_cons (pg_name (i := 3) nd rfl (Or.inl rfl)) (pgs_cons (pg_name (i := 4) nd rfl (Or.inl rfl)) pgs_nil))) (pss_one (ps_if (pt_cmpR (u_ne hu64) (pv 4) (pe_ix (u_ix hu1) (pe_ix (u_ix hu1) (pv 2) (pe_un u_neg pe_int) (fun _ _ => rfl)) pe_int (fun _ _ => rfl)) (nomark _)) (pss_one (ps_expr (pe_bm PySem.F.plainAttrs_list PySem.F.slot_list_append PySem.F.type_list_append mt_append (pv 2) (pa_cons (pe_tup (pa_cons (pv 3) (pa_cons (pv 4) pa_nil))) pa_nil)))) pss_nil)))
      (pss_cons (ps_asg (pe_op u_add (pe_lc (own := [("moment", 3), ("_", 6)]) rfl nd (pi_seq (pe_slice u_sl (pv 2) (po_some pe_int) po_none)) (blkOk_by (N := ["offset", "changes", "found", "moment", "more", "ends", "_", "last", "first", "here"]) (sc := defScope s_ranges_of) (own := [("moment", 3), ("_", 6)]) (by decide +kernel)) (fun _ _ _ _ _ => pg_sq rfl (pgs_cons (pg_name (i := 3) nd rfl (Or.inl rfl)) (pgs_cons (pg_name (i := 6) nd rfl (Or.inl rfl)) pgs_nil))) (fun _ _ _ _ _ => pts_nil) (fun _ _ _ _ _ => pe_op u_sub (pv 3) pe_int)) (pe_lst (pa_cons pe_non pa_nil))) (pg_name (i := 5) nd rfl (Or.inl rfl)))
      (pss_one (ps_ret (pe_lc (own := [("last", 7), ("first", 8), ("here", 9)]) rfl nd (pi_zip (by rfl) T.n_zip (pa_cons (pv 2) (pa_cons (pv 5) pa_nil))) (blkOk_by (N := ["offset", "changes", "found", "moment", "more", "ends", "_", "last", "first", "here"]) (sc := defScope s_ranges_of) (own := [("last", 7), ("first", 8), ("here", 9)]) (by decide +kernel)) (fun _ _ _ _ _ => pg_sq rfl (pgs_cons (pg_sq rfl (pgs_cons (pg_name (i := 8) nd rfl (Or.inl rfl)) (pgs_cons (pg_name (i := 9) nd rfl (Or.inl rfl)) pgs_nil))) (pgs_cons (pg_name (i := 7) nd rfl (Or.inl rfl)) pgs_nil))) (fun _ _ _ _ _ => pts_nil) (fun _ _ _ _ _ => pe_tup (pa_cons (pv 8) (pa_cons (pv 7) (pa_cons (pv 9) pa_nil)))))))))
/-! locals_of: 0 clock, 1 rows, 2 first, 3 last, 4 here -/
abbrev s_locals_of : Stmt := top 33
abbrev N_locals_of : List Str := ["clock", "rows", "first", "last", "here"]
theorem sc_locals_of : FnScope ["clock", "rows", "first", "last", "here"] ["clock"] (defScope s_locals_of) := ⟨rfl, rfl, rfl, by decide +kernel, rfl, by decide +kernel, by decide +kernel⟩
abbrev t_locals_of (K : PySem.W.Frag) (E : XK) : TS :=
  tSeq (tAsg (tFld K (tVar 0) "ranges") (gName 1))
    (tRet (tLc (iSeq K (tVar 1)) (gSq K 3 (gCons (gName 2) (gCons (gName 3) (gCons (gName 4) gNil)))) tYes (tTup (tCons (tOp (uAdd K) (tVar 2) (tVar 4)) (tCons (tIf (tTest (tOp uIs (tVar 3) (tC .non))) (tC .non) (tOp (uAdd K) (tVar 3) (tVar 4))) (tCons (tVar 4) tNil)))) [2, 3, 4]))
theorem d_locals_of {P : Program} {w : World} {K : PySem.W.Frag} {mg : Str → Option Value} {base : Heap} (T : Tx P K mg) 
    {f : Addr} {cdv : Value} {A : Around} {outer : List Env} {s : Shared} {H : Hp} {E : XK} (hr : Room 2 (A.deeper (envOfC "locals_of" (defScope s_locals_of) s.heap.objs.size f cdv))) :
    PSs (cxOf (L2.CX P w) P w K mg base ["clock", "rows", "first", "last", "here"] "locals_of" (defScope s_locals_of) f cdv A outer s H E) (defBody s_locals_of) (t_locals_of K E) := by
  have nd := sc_locals_of.nd
  have hu0 := hu0_of hr
  have hu1 := hu_of hr
  have hu64 := hu64_of hr
  have hu65 := hu65_of hr
  exact pss_cons (ps_asg (pe_fld (pv 0) rfl) (pg_name (i := 1) nd rfl (Or.inl rfl)))
      (pss_one (ps_ret (pe_lc (own := [("first", 2), ("last", 3), ("here", 4)]) rfl nd (pi_seq (pv 1)) (blkOk_by (N := ["clock", "rows", "first", "last", "here"]) (sc := defScope s_locals_of) (own := [("first", 2), ("last", 3), ("here", 4)]) (by decide +kernel)) (fun _ _ _ _ _ => pg_sq rfl (pgs_cons (pg_name (i := 2) nd rfl (Or.inl rfl)) (pgs_cons (pg_name (i := 3) nd rfl (Or.inl rfl)) (pgs_cons (pg_name (i := 4) nd rfl (Or.inl rfl)) pgs_nil)))) (fun _ _ _ _ _ => pts_nil) (fun _ _ _ _ _ => pe_tup (pa_cons (pe_op u_add (pv 2) (pv 4)) (pa_cons (pe_ifExp (pt_cmpR u_is (pv 3) pe_non (nomark _)) pe_non (pe_op u_add (pv 3) (pv 4))) (pa_cons (pv 4) pa_nil)))))))
/-! moments_of: 0 clock, 1 time, 2 rows, 3 low, 4 high, 5 here -/
abbrev s_moments_of : Stmt := top 34
abbrev N_moments_of : List Str := ["clock", "time", "rows", "low", "high", "here"]
theorem sc_moments_of : FnScope ["clock", "time", "rows", "low", "high", "here"] ["clock", "time"] (defScope s_moments_of) := ⟨rfl, rfl, rfl, by decide +kernel, rfl, by decide +kernel, by decide +kernel⟩
abbrev t_moments_of (K : PySem.W.Frag) (E : XK) : TS :=
  tSeq (tAsg (tKn (sp_locals_of K) (tCons (tVar 0) tNil)) (gName 2))
    (tRet (tLc (iSeq K (tVar 2)) (gSq K 3 (gCons (gName 3) (gCons (gName 4) (gCons (gName 5) gNil)))) (tAnd (tTest (tOp uLe (tVar 3) (tVar 1))) (tOr (tTest (tOp uIs (tVar 4) (tC .non))) (tTest (tOp uLe (tVar 1) (tVar 4))))) (tOp uSub (tVar 1) (tVar 5)) [3, 4, 5]))
theorem d_moments_of {P : Program} {w : World} {K : PySem.W.Frag} {mg : Str → Option Value} {base : Heap} (T : Tx P K mg) (c_locals_of : Kn P w K mg base 3 "locals_of" ["clock"] (sp_locals_of K))
    {f : Addr} {cdv : Value} {A : Around} {outer : List Env} {s : Shared} {H : Hp} {E : XK} (hr : Room 3 (A.deeper (envOfC "moments_of" (defScope s_moments_of) s.heap.objs.size f cdv))) :
    PSs (cxOf (L2.CX P w) P w K mg base ["clock", "time", "rows", "low", "high", "here"] "moments_of" (defScope s_moments_of) f cdv A outer s H E) (defBody s_moments_of) (t_moments_of K E) := by
  have nd := sc_moments_of.nd
  have hu0 := hu0_of hr
  have hu1 := hu_of hr
  have hu64 := hu64_of hr
  have hu65 := hu65_of hr
  exact pss_cons (ps_asg (pe_kn c_locals_of hr (by decide) (by rfl) (pa_cons (pv 0) pa_nil)) (pg_name (i := 2) nd rfl (Or.inl rfl)))
      (pss_one (ps_ret (pe_lc (own := [("low", 3), ("high", 4), ("here", 5)]) rfl nd (pi_seq (pv 2)) (blkOk_by (N := ["clock", "time", "rows", "low", "high", "here"]) (sc := defScope s_moments_of) (own := [("low", 3), ("high", 4), ("here", 5)]) (by decide +kernel)) (fun _ _ _ _ _ => pg_sq rfl (pgs_cons (pg_name (i := 3) nd rfl (Or.inl rfl)) (pgs_cons (pg_name (i := 4) nd rfl (Or.inl rfl)) (pgs_cons (pg_name (i := 5) nd rfl (Or.inl rfl)) pgs_nil)))) (fun _ _ _ _ _ => pts_one (PW.pt (pw_and (pt_cmpR u_le (pv 3) (pv 1) (nomark _)) (pw_and1 (PW.pt (pw_or (pt_cmpR u_is (pv 4) pe_non (nomark _)) (pw_or1 (pt_cmpR u_le (pv 1) (pv 4) (nomark _))))))))) (fun _ _ _ _ _ => pe_op u_sub (pv 1) (pv 5)))))
/-! jump_over: 0 clock, 1 time, 2 rows, 3 moments, 4 times -/
abbrev s_jump_over : Stmt := top 35
abbrev N_jump_over : List Str := ["clock", "time", "rows", "moments", "times"]
theorem sc_jump_over : FnScope ["clock", "time", "rows", "moments", "times"] ["clock", "time"] (defScope s_jump_over) := ⟨rfl, rfl, rfl, by decide +kernel, rfl, by decide +kernel, by decide +kernel⟩
abbrev t_jump_over (K : PySem.W.Frag) (E : XK) : TS :=
  fun D σ H => ∀ nz : Nat, (tSeq (tAsg (tZipV K nz (tCons (tFld K (tVar 0) "ranges") (tCons (tKn (sp_locals_of K) (tCons (tVar 0) tNil)) tNil))) (gName 2))
    (tRet (tOp (uIx K) (tLc (iZipV K nz 2) (gSq K 2 (gCons (gName 3) (gCons (gName 4) gNil))) (tOr (tTest (tOp uIs (tOp (uIx K) (tVar 4) (tC (.int 1))) (tC .non))) (tTest (tOp uGt (tOp (uIx K) (tVar 4) (tC (.int 1))) (tVar 1)))) (tOp (uIx K) (tVar 3) (tC (.int 0))) [3, 4]) (tC (.int 0))))) D σ H
theorem d_jump_over {P : Program} {w : World} {K : PySem.W.Frag} {mg : Str → Option Value} {base : Heap} (T : Tx P K mg) (c_locals_of : Kn P w K mg base 3 "locals_of" ["clock"] (sp_locals_of K))
    {f : Addr} {cdv : Value} {A : Around} {outer : List Env} {s : Shared} {H : Hp} {E : XK} (hr : Room 3 (A.deeper (envOfC "jump_over" (defScope s_jump_over) s.heap.objs.size f cdv))) :
    PSs (cxOf (L2.CX P w) P w K mg base ["clock", "time", "rows", "moments", "times"] "jump_over" (defScope s_jump_over) f cdv A outer s H E) (defBody s_jump_over) (t_jump_over K E) := by
  have nd := sc_jump_over.nd
  have hu0 := hu0_of hr
  have hu1 := hu_of hr
  have hu64 := hu64_of hr
  have hu65 := hu65_of hr
  exact pss_all (t := fun nz => tSeq (tAsg (tZipV K nz (tCons (tFld K (tVar 0) "ranges") (tCons (tKn (sp_locals_of K) (tCons (tVar 0) tNil)) tNil))) (gName 2))
    (tRet (tOp (uIx K) (tLc (iZipV K nz 2) (gSq K 2 (gCons (gName 3) (gCons (gName 4) gNil))) (tOr (tTest (tOp uIs (tOp (uIx K) (tVar 4) (tC (.int 1))) (tC .non))) (tTest (tOp uGt (tOp (uIx K) (tVar 4) (tC (.int 1))) (tVar 1)))) (tOp (uIx K) (tVar 3) (tC (.int 0))) [3, 4]) (tC (.int 0)))))
    (pss_cons (ps_asg (pe_zipV (by rfl) T.n_zip (pa_cons (pe_fld (pv 0) rfl) (pa_cons (pe_kn c_locals_of hr (by decide) (by rfl) (pa_cons (pv 0) pa_nil)) pa_nil))) (pg_name (i := 2) nd rfl (Or.inl rfl)))
      (pss_one (ps_ret (pe_ix (u_ix hu1) (pe_lc (own := [("moments", 3), ("times", 4)]) rfl nd (pi_zipV (k := 2) rfl (Or.inl rfl)) (blkOk_by (N := ["clock", "time", "rows", "moments", "times"]) (sc := defScope s_jump_over) (own := [("moments", 3), ("times", 4)]) (by decide +kernel)) (fun _ _ _ _ _ => pg_sq rfl (pgs_cons (pg_name (i := 3) nd rfl (Or.inl rfl)) (pgs_cons (pg_name (i := 4) nd rfl (Or.inl rfl)) pgs_nil))) (fun _ _ _ _ _ => pts_one (PW.pt (pw_or (pt_cmpR u_is (pe_ix (u_ix hu1) (pv 4) pe_int (fun _ _ => rfl)) pe_non (nomark _)) (pw_or1 (pt_cmpR u_gt (pe_ix (u_ix hu1) (pv 4) pe_int (fun _ _ => rfl)) (pv 1) (nomark _)))))) (fun _ _ _ _ _ => pe_ix (u_ix hu1) (pv 3) pe_int (fun _ _ => rfl))) pe_int (fun _ _ => rfl)))))
/-! check_clock: 0 clock -/
abbrev s_check_clock : Stmt := top 36
abbrev N_check_clock : List Str := ["clock"]
theorem sc_check_clock : FnScope ["clock"] ["clock"] (defScope s_check_clock) := ⟨rfl, rfl, rfl, by decide +kernel, rfl, by decide +kernel, by decide +kernel⟩
abbrev t_check_clock (K : PySem.W.Frag) (E : XK) : TS :=
  tIfS (tNot (tTr K (tCB (uIsi K) (tCons (tVar 0) (tCons (tC (.ref (He.ga K "Clock"))) tNil))))) (tRaiseDue (He.ga K "InvalidClock") (W0 E) (tCons (tVar 0) tNil)) tNext
theorem d_check_clock {P : Program} {w : World} {K : PySem.W.Frag} {mg : Str → Option Value} {base : Heap} (T : Tx P K mg) 
    {f : Addr} {cdv : Value} {A : Around} {outer : List Env} {s : Shared} {H : Hp} {E : XK} (hr : Room 2 (A.deeper (envOfC "check_clock" (defScope s_check_clock) s.heap.objs.size f cdv))) :
    PSs (cxOf (L2.CX P w) P w K mg base ["clock"] "check_clock" (defScope s_check_clock) f cdv A outer s H E) (defBody s_check_clock) (t_check_clock K E) := by
  have nd := sc_check_clock.nd
  have hu0 := hu0_of hr
  have hu1 := hu_of hr
  have hu64 := hu64_of hr
  have hu65 := hu65_of hr
  exact pss_one (ps_if (pt_not (pt_tr (pe_callB c_isi (by rfl) T.n_isinstance (by decide +kernel) (pa_cons (pv 0) (pa_cons (pe_cst (by rfl) T.r_Clock) pa_nil))) (by intro _; rfl))) (pss_one (ps_raiseDue rfl T.due T.x_InvalidClock hr T.g_InvalidClock T.n_super (takes_of rfl rfl rfl rfl) (pa_cons (pv 0) pa_nil))) pss_nil)
/-! check_ways: 0 gap, 1 fold -/
abbrev s_check_ways : Stmt := top 37
abbrev N_check_ways : List Str := ["gap", "fold"]
theorem sc_check_ways : FnScope ["gap", "fold"] ["gap", "fold"] (defScope s_check_ways) := ⟨rfl, rfl, rfl, by decide +kernel, rfl, by decide +kernel, by decide +kernel⟩
abbrev t_check_ways (K : PySem.W.Frag) (E : XK) : TS :=
  tSeq (tIfS (tOr (tNot (tTr K (tCB (uIsi K) (tCons (tVar 0) (tCons (tC (.ty "str")) tNil))))) (tTest (tOp (uNinX K) (tVar 0) (tC (.ref (He.ga K "GAPS")))))) (tRaiseDue (He.ga K "InvalidGap") (W0 E) (tCons (tVar 0) tNil)) tNext)
    (tIfS (tOr (tNot (tTr K (tCB (uIsi K) (tCons (tVar 1) (tCons (tC (.ty "str")) tNil))))) (tTest (tOp (uNinX K) (tVar 1) (tC (.ref (He.ga K "FOLDS")))))) (tRaiseDue (He.ga K "InvalidFold") (W0 E) (tCons (tVar 1) tNil)) tNext)
theorem d_check_ways {P : Program} {w : World} {K : PySem.W.Frag} {mg : Str → Option Value} {base : Heap} (T : Tx P K mg) 
    {f : Addr} {cdv : Value} {A : Around} {outer : List Env} {s : Shared} {H : Hp} {E : XK} (hr : Room 2 (A.deeper (envOfC "check_ways" (defScope s_check_ways) s.heap.objs.size f cdv))) :
    PSs (cxOf (L2.CX P w) P w K mg base ["gap", "fold"] "check_ways" (defScope s_check_ways) f cdv A outer s H E) (defBody s_check_ways) (t_check_ways K E) := by
  have nd := sc_check_ways.nd
  have hu0 := hu0_of hr
  have hu1 := hu_of hr
  have hu64 := hu64_of hr
  have hu65 := hu65_of hr
  exact pss_cons (ps_if (PW.pt (pw_or (pt_not (pt_tr (pe_callB c_isi (by rfl) T.n_isinstance (by decide +kernel) (pa_cons (pv 0) (pa_cons (pe_ty (by rfl) T.n_str (by decide +kernel)) pa_nil))) (by intro _; rfl))) (pw_or1 (pt_cmpR (u_ninX hu65) (pv 0) (pe_cst (by rfl) T.r_GAPS) (by with_unfolding_all rfl))))) (pss_one (ps_raiseDue rfl T.due T.x_InvalidGap hr T.g_InvalidGap T.n_super (takes_of rfl rfl rfl rfl) (pa_cons (pv 0) pa_nil))) pss_nil)
      (pss_one (ps_if (PW.pt (pw_or (pt_not (pt_tr (pe_callB c_isi (by rfl) T.n_isinstance (by decide +kernel) (pa_cons (pv 1) (pa_cons (pe_ty (by rfl) T.n_str (by decide +kernel)) pa_nil))) (by intro _; rfl))) (pw_or1 (pt_cmpR (u_ninX hu65) (pv 1) (pe_cst (by rfl) T.r_FOLDS) (by with_unfolding_all rfl))))) (pss_one (ps_raiseDue rfl T.due T.x_InvalidFold hr T.g_InvalidFold T.n_super (takes_of rfl rfl rfl rfl) (pa_cons (pv 1) pa_nil))) pss_nil))
/-! due_moments: 0 clock, 1 time, 2 gap, 3 fold, 4 found -/
abbrev s_due_moments : Stmt := top 38
abbrev N_due_moments : List Str := ["clock", "time", "gap", "fold", "found"]
theorem sc_due_moments : FnScope ["clock", "time", "gap", "fold", "found"] ["clock", "time", "gap", "fold"] (defScope s_due_moments) := ⟨rfl, rfl, rfl, by decide +kernel, rfl, by decide +kernel, by decide +kernel⟩
abbrev t_due_moments (K : PySem.W.Frag) (E : XK) : TS :=
  tSeq (tDrop (tKx (sp_check_clock K) (W0 E) (tCons (tVar 0) tNil)))
    (tSeq (tDrop (tKx (sp_check_time K) (W0 E) (tCons (tVar 1) tNil)))
    (tSeq (tDrop (tKx (sp_check_ways K) (W0 E) (tCons (tVar 2) (tCons (tVar 3) tNil))))
    (tSeq (tAsg (tKn (sp_moments_of K) (tCons (tVar 0) (tCons (tVar 1) tNil))) (gName 4))
    (tSeq (tIfS (tTest (tOp (uEq K) (tVar 4) (tLst tNil))) (tRet (tIf (tAnd (tTest (tOp (uEq K) (tVar 2) (tC (.str "after")))) (tTest (tOp uGt (tVar 1) (tFld K (tVar 0) "offset")))) (tLst (tCons (tKn (sp_jump_over K) (tCons (tVar 0) (tCons (tVar 1) tNil))) tNil)) (tLst tNil))) tNext)
    (tRet (tIf (tTest (tOp (uEq K) (tVar 3) (tC (.str "first")))) (tSl (uSl K) (tVar 4) tNoPart (tPart (tC (.int 1)))) (tIf (tTest (tOp (uEq K) (tVar 3) (tC (.str "last")))) (tSl (uSl K) (tVar 4) (tPart (tUn uNeg (tC (.int 1)))) tNoPart) (tVar 4))))))))
theorem d_due_moments {P : Program} {w : World} {K : PySem.W.Frag} {mg : Str → Option Value} {base : Heap} (T : Tx P K mg) (c_check_clock : Kn P w K mg base 3 "check_clock" ["clock"] (sp_check_clock K))
    (c_check_time : Kn P w K mg base 6 "check_time" ["time"] (sp_check_time K))
    (c_check_ways : Kn P w K mg base 3 "check_ways" ["gap", "fold"] (sp_check_ways K))
    (c_jump_over : Kn P w K mg base 4 "jump_over" ["clock", "time"] (sp_jump_over K))
    (c_moments_of : Kn P w K mg base 4 "moments_of" ["clock", "time"] (sp_moments_of K))
    {f : Addr} {cdv : Value} {A : Around} {outer : List Env} {s : Shared} {H : Hp} {E : XK} (hr : Room 6 (A.deeper (envOfC "due_moments" (defScope s_due_moments) s.heap.objs.size f cdv))) :
    PSs (cxOf (L2.CX P w) P w K mg base ["clock", "time", "gap", "fold", "found"] "due_moments" (defScope s_due_moments) f cdv A outer s H E) (defBody s_due_moments) (t_due_moments K E) := by
  have nd := sc_due_moments.nd
  have hu0 := hu0_of hr
  have hu1 := hu_of hr
  have hu64 := hu64_of hr
  have hu65 := hu65_of hr
  exact pss_cons (ps_expr (pe_kx c_check_clock hr (by decide) (takes_of rfl rfl rfl rfl) (by rfl) (pa_cons (pv 0) pa_nil)))
      (pss_cons (ps_expr (pe_kx c_check_time hr (by decide) (takes_of rfl rfl rfl rfl) (by rfl) (pa_cons (pv 1) pa_nil)))
      (pss_cons (ps_expr (pe_kx c_check_ways hr (by decide) (takes_of rfl rfl rfl rfl) (by rfl) (pa_cons (pv 2) (pa_cons (pv 3) pa_nil))))
      (pss_cons (ps_asg (pe_kn c_moments_of hr (by decide) (by rfl) (pa_cons (pv 0) (pa_cons (pv 1) pa_nil))) (pg_name (i := 4) nd rfl (Or.inl rfl)))
      (pss_cons (ps_if (pt_cmpR (u_eq hu64) (pv 4) (pe_lst pa_nil) (nomark _)) (pss_one (ps_ret (pe_ifExp (PW.pt (pw_and (pt_cmpR (u_eq hu64) (pv 2) pe_str (nomark _)) (pw_and1 (pt_cmpR u_gt (pv 1) (pe_fld (pv 0) rfl) (nomark _))))) (pe_lst (pa_cons (pe_kn c_jump_over hr (by decide) (by rfl) (pa_cons (pv 0) (pa_cons (pv 1) pa_nil))) pa_nil)) (pe_lst pa_nil)))) pss_nil)
      (pss_one (ps_ret (pe_ifExp (pt_cmpR (u_eq hu64) (pv 3) pe_str (nomark _)) (pe_slice u_sl (pv 4) po_none (po_some pe_int)) (pe_ifExp (pt_cmpR (u_eq hu64) (pv 3) pe_str (nomark _)) (pe_slice u_sl (pv 4) (po_some (pe_un u_neg pe_int)) po_none) (pv 4)))))))))
/-! _law_cell: 0 script, 1 k -/
abbrev s__law_cell : Stmt := top 40
abbrev N__law_cell : List Str := ["script", "k"]
theorem sc__law_cell : FnScope ["script", "k"] ["script", "k"] (defScope s__law_cell) := ⟨rfl, rfl, rfl, by decide +kernel, rfl, by decide +kernel, by decide +kernel⟩
abbrev t__law_cell (K : PySem.W.Frag) (E : XK) : TS :=
  tRet (tIf (tTest (tOp (uLt K) (tVar 1) (tCB (uLen K) (tCons (tVar 0) tNil)))) (tOp (uIx K) (tVar 0) (tVar 1)) (tOp (uAdd K) (tOp uMul (tC (.int 7222)) (tVar 1)) (tOp uMod (tCB uInt (tCons (tCB (uSum K) (tCons (tSl (uSl K) (tVar 0) tNoPart (tPart (tC (.int 1)))) tNil)) tNil)) (tC (.int 1000003)))))
theorem d__law_cell {P : Program} {w : World} {K : PySem.W.Frag} {mg : Str → Option Value} {base : Heap} (T : Tx P K mg) 
    {f : Addr} {cdv : Value} {A : Around} {outer : List Env} {s : Shared} {H : Hp} {E : XK} (hr : Room 2 (A.deeper (envOfC "_law_cell" (defScope s__law_cell) s.heap.objs.size f cdv))) :
    PSs (cxOf (L2.CX P w) P w K mg base ["script", "k"] "_law_cell" (defScope s__law_cell) f cdv A outer s H E) (defBody s__law_cell) (t__law_cell K E) := by
  have nd := sc__law_cell.nd
  have hu0 := hu0_of hr
  have hu1 := hu_of hr
  have hu64 := hu64_of hr
  have hu65 := hu65_of hr
  exact pss_one (ps_ret (pe_ifExp (pt_cmpR (u_lt hu0) (pv 1) (pe_callB c_len (by rfl) T.n_len (by decide +kernel) (pa_cons (pv 0) pa_nil)) (nomark _)) (pe_ix (u_ix hu1) (pv 0) (pv 1) (fun _ _ => rfl)) (pe_op u_add (pe_op u_mul pe_int (pv 1)) (pe_op u_mod (pe_callTy c_int (by rfl) T.n_int (by decide +kernel) (pa_cons (pe_callB (c_sum rfl) (by rfl) T.n_sum (by decide +kernel) (pa_cons (pe_slice u_sl (pv 0) po_none (po_some pe_int)) pa_nil)) pa_nil)) pe_int))))
/-! _law_box: 0 great -/
abbrev s__law_box : Stmt := top 41
abbrev N__law_box : List Str := ["great"]
theorem sc__law_box : FnScope ["great"] ["great"] (defScope s__law_box) := ⟨rfl, rfl, rfl, by decide +kernel, rfl, by decide +kernel, by decide +kernel⟩
abbrev t__law_box (K : PySem.W.Frag) (E : XK) : TS :=
  tRet (tLst (tCons (tCB uAbs (tCons (tVar 0) tNil)) (tCons (tOp uGe (tCB uAbs (tCons (tVar 0) tNil)) (tOp uPow (tC (.int 10)) (tC (.int 18)))) (tCons (tOp uMod (tCB uInt (tCons (tCB uAbs (tCons (tVar 0) tNil)) tNil)) (tC (.int 2147483629))) (tCons (tC (.int 0)) tNil)))))
theorem d__law_box {P : Program} {w : World} {K : PySem.W.Frag} {mg : Str → Option Value} {base : Heap} (T : Tx P K mg) 
    {f : Addr} {cdv : Value} {A : Around} {outer : List Env} {s : Shared} {H : Hp} {E : XK} (hr : Room 2 (A.deeper (envOfC "_law_box" (defScope s__law_box) s.heap.objs.size f cdv))) :
    PSs (cxOf (L2.CX P w) P w K mg base ["great"] "_law_box" (defScope s__law_box) f cdv A outer s H E) (defBody s__law_box) (t__law_box K E) := by
  have nd := sc__law_box.nd
  have hu0 := hu0_of hr
  have hu1 := hu_of hr
  have hu64 := hu64_of hr
  have hu65 := hu65_of hr
  exact pss_one (ps_ret (pe_lst (pa_cons (pe_callB c_abs (by rfl) T.n_abs (by decide +kernel) (pa_cons (pv 0) pa_nil)) (pa_cons (pe_cmpR u_ge (pe_callB c_abs (by rfl) T.n_abs (by decide +kernel) (pa_cons (pv 0) pa_nil)) (pe_op u_pow pe_int pe_int) (nomark _)) (pa_cons (pe_op u_mod (pe_callTy c_int (by rfl) T.n_int (by decide +kernel) (pa_cons (pe_callB c_abs (by rfl) T.n_abs (by decide +kernel) (pa_cons (pv 0) pa_nil)) pa_nil)) pe_int) (pa_cons pe_int pa_nil))))))
/-! _law_take: 0 box, 1 many, 2 digit, 3 mixed -/
abbrev s__law_take : Stmt := top 42
abbrev N__law_take : List Str := ["box", "many", "digit", "mixed"]
theorem sc__law_take : FnScope ["box", "many", "digit", "mixed"] ["box", "many"] (defScope s__law_take) := ⟨rfl, rfl, rfl, by decide +kernel, rfl, by decide +kernel, by decide +kernel⟩
abbrev t__law_take (K : PySem.W.Frag) (E : XK) : TS :=
  tSeq (tIfS (tAnd (tTr K (tOp (uIx K) (tVar 0) (tC (.int 1)))) (tTest (tOp uGt (tOp (uIx K) (tVar 0) (tC (.int 0))) (tC (.int 0))))) (tSeq (tAsg (tOp uMod (tCB uInt (tCons (tOp (uIx K) (tVar 0) (tC (.int 0))) tNil)) (tVar 1)) (gName 2))
    (tSeq (tAsg (tOp uFdv (tOp (uIx K) (tVar 0) (tC (.int 0))) (tVar 1)) (gSub (tVar 0) (tC (.int 0)) rSetX))
    (tRet (tVar 2)))) tNext)
    (tSeq (tAsg (tOp (uAdd K) (tOp (uIx K) (tVar 0) (tC (.int 3))) (tC (.int 1))) (gSub (tVar 0) (tC (.int 3)) rSetX))
    (tSeq (tAsg (tOp uMod (tCB uInt (tCons (tOp uPow (tOp (uAdd K) (tOp (uAdd K) (tOp (uIx K) (tVar 0) (tC (.int 2))) (tOp uMul (tC (.int 15485867)) (tOp (uIx K) (tVar 0) (tC (.int 3))))) (tC (.int 179424691))) (tC (.int 5))) tNil)) (tC (.int 2147483647))) (gName 3))
    (tRet (tOp uMod (tCB uInt (tCons (tOp uFdv (tOp uMod (tCB uInt (tCons (tOp uPow (tOp (uAdd K) (tOp uMul (tVar 3) (tC (.int 48271))) (tOp uMul (tC (.int 104743)) (tOp (uIx K) (tVar 0) (tC (.int 3))))) (tC (.int 3))) tNil)) (tC (.int 2147483587))) (tC (.int 64))) tNil)) (tVar 1)))))
theorem d__law_take {P : Program} {w : World} {K : PySem.W.Frag} {mg : Str → Option Value} {base : Heap} (T : Tx P K mg) 
    {f : Addr} {cdv : Value} {A : Around} {outer : List Env} {s : Shared} {H : Hp} {E : XK} (hr : Room 2 (A.deeper (envOfC "_law_take" (defScope s__law_take) s.heap.objs.size f cdv))) :
    PSs (cxOf (L2.CX P w) P w K mg base ["box", "many", "digit", "mixed"] "_law_take" (defScope s__law_take) f cdv A outer s H E) (defBody s__law_take) (t__law_take K E) := by
  have nd := sc__law_take.nd
  have hu0 := hu0_of hr
  have hu1 := hu_of hr
  have hu64 := hu64_of hr
  have hu65 := hu65_of hr
  exact pss_cons (ps_if (PW.pt (pw_and (pt_tr (pe_ix (u_ix hu1) (pv 0) pe_int (fun _ _ => rfl)) (by intro _; rfl)) (pw_and1 (pt_cmpR u_gt (pe_ix (u_ix hu1) (pv 0) pe_int (fun _ _ => rfl)) pe_int (nomark _))))) (pss_cons (ps_asg (pe_op u_mod (pe_callTy c_int (by rfl) T.n_int (by decide +kernel) (pa_cons (pe_ix (u_ix hu1) (pv 0) pe_int (fun _ _ => rfl)) pa_nil)) (pv 1)) (pg_name (i := 2) nd rfl (Or.inl rfl)))
      (pss_cons (ps_asg (pe_op u_fdv (pe_ix (u_ix hu1) (pv 0) pe_int (fun _ _ => rfl)) (pv 1)) (pg_sub (pv 0) pe_int (set_X hu1)))
      (pss_one (ps_ret (pv 2))))) pss_nil)
      (pss_cons (ps_asg (pe_op u_add (pe_ix (u_ix hu1) (pv 0) pe_int (fun _ _ => rfl)) pe_int) (pg_sub (pv 0) pe_int (set_X hu1)))
      (pss_cons (ps_asg (pe_op u_mod (pe_callTy c_int (by rfl) T.n_int (by decide +kernel) (pa_cons (pe_op u_pow (pe_op u_add (pe_op u_add (pe_ix (u_ix hu1) (pv 0) pe_int (fun _ _ => rfl)) (pe_op u_mul pe_int (pe_ix (u_ix hu1) (pv 0) pe_int (fun _ _ => rfl)))) pe_int) pe_int) pa_nil)) pe_int) (pg_name (i := 3) nd rfl (Or.inl rfl)))
      (pss_one (ps_ret (pe_op u_mod (pe_callTy c_int (by rfl) T.n_int (by decide +kernel) (pa_cons (pe_op u_fdv (pe_op u_mod (pe_callTy c_int (by rfl) T.n_int (by decide +kernel) (pa_cons (pe_op u_pow (pe_op u_add (pe_op u_mul (pv 3) pe_int) (pe_op u_mul pe_int (pe_ix (u_ix hu1) (pv 0) pe_int (fun _ _ => rfl)))) pe_int) pa_nil)) pe_int) pe_int) pa_nil)) (pv 1))))))
/-! _law_same: 0 told, 1 due, 2 k -/
abbrev s__law_same : Stmt := top 43
abbrev N__law_same : List Str := ["told", "due", "k"]
theorem sc__law_same : FnScope ["told", "due", "k"] ["told", "due"] (defScope s__law_same) := ⟨rfl, rfl, rfl, by decide +kernel, rfl, by decide +kernel, by decide +kernel⟩
abbrev t__law_same (K : PySem.W.Frag) (spr : Sp) (E : XK) : TS :=
  tSeq (tIfS (tOr (tTest (tOp uIs (tVar 1) (tC .non))) (tTr K (tCB (uIsi K) (tCons (tVar 1) (tCons (tC (.ty "bool")) tNil))))) (tRet (tIf (tTest (tOp uIs (tVar 1) (tC .non))) (tOp uIs (tVar 0) (tC .non)) (tAndV (tCB (uIsi K) (tCons (tVar 0) (tCons (tC (.ty "bool")) tNil))) (tOp (uEq K) (tOp uIs (tVar 0) (tC (.bl true))) (tOp uIs (tVar 1) (tC (.bl true))))))) tNext)
    (tSeq (tIfS (tTr K (tCB (uIsi K) (tCons (tVar 1) (tCons (tC (.ty "int")) tNil)))) (tRet (tAndV (tCB (uIsi K) (tCons (tVar 0) (tCons (tC (.ty "int")) tNil))) (tAndV (tNotV (tCB (uIsi K) (tCons (tVar 0) (tCons (tC (.ty "bool")) tNil)))) (tOp (uEq K) (tOp uSub (tCB uInt (tCons (tVar 0) tNil)) (tVar 1)) (tC (.int 0)))))) tNext)
    (tSeq (tIfS (tTr K (tCB (uIsi K) (tCons (tVar 1) (tCons (tC (.ty "str")) tNil)))) (tRet (tAndV (tCB (uIsi K) (tCons (tVar 0) (tCons (tC (.ty "str")) tNil))) (tAndV (tOp (uEq K) (tCB (uLen K) (tCons (tVar 0) tNil)) (tCB (uLen K) (tCons (tVar 1) tNil))) (tOp (uEq K) (tLc (iRng1 (tCons (tCB (uLen K) (tCons (tVar 1) tNil)) tNil)) (gName 2) (tTest (tOp (uNe K) (tSl (uSl K) (tVar 0) (tPart (tVar 2)) (tPart (tOp (uAdd K) (tVar 2) (tC (.int 1))))) (tOp (uIx K) (tVar 1) (tVar 2)))) (tVar 2) [2]) (tLst tNil))))) tNext)
    (tSeq (tIfS (tOr (tTest (tOp (uNe K) (tCB (uIsi K) (tCons (tVar 0) (tCons (tC (.ty "list")) tNil))) (tCB (uIsi K) (tCons (tVar 1) (tCons (tC (.ty "list")) tNil))))) (tTest (tOp (uNe K) (tCB (uIsi K) (tCons (tVar 0) (tCons (tC (.ty "tuple")) tNil))) (tCB (uIsi K) (tCons (tVar 1) (tCons (tC (.ty "tuple")) tNil)))))) (tRet (tC (.bl false))) tNext)
    (tRet (tAndV (tOp (uEq K) (tCB (uLen K) (tCons (tVar 0) tNil)) (tCB (uLen K) (tCons (tVar 1) tNil))) (tOp (uEq K) (tLc (iRng1 (tCons (tCB (uLen K) (tCons (tVar 1) tNil)) tNil)) (gName 2) (tNot (tTr K (tKn spr (tCons (tOp (uIx K) (tVar 0) (tVar 2)) (tCons (tOp (uIx K) (tVar 1) (tVar 2)) tNil))))) (tVar 2) [2]) (tLst tNil)))))))
theorem d__law_same {P : Program} {w : World} {K : PySem.W.Frag} {mg : Str → Option Value} {base : Heap} (T : Tx P K mg) {kr : Nat} {spr : Sp} (c__law_same : Kn P w K mg base kr "_law_same" ["told", "due"] spr)
    {k : Nat} (hkr : kr ≤ k) (h4 : 4 ≤ k)
    {f : Addr} {cdv : Value} {A : Around} {outer : List Env} {s : Shared} {H : Hp} {E : XK} (hr : Room k (A.deeper (envOfC "_law_same" (defScope s__law_same) s.heap.objs.size f cdv))) :
    PSs (cxOf (L2.CX P w) P w K mg base ["told", "due", "k"] "_law_same" (defScope s__law_same) f cdv A outer s H E) (defBody s__law_same) (t__law_same K spr E) := by
  have nd := sc__law_same.nd
  have hu0 := hu0_of hr
  have hu1 := hu_of hr
  have hu64 := hu64_of hr
  have hu65 := hu65_of hr
  exact pss_cons (ps_if (PW.pt (pw_or (pt_cmpR u_is (pv 1) pe_non (nomark _)) (pw_or1 (pt_tr (pe_callB c_isi (by rfl) T.n_isinstance (by decide +kernel) (pa_cons (pv 1) (pa_cons (pe_ty (by rfl) T.n_bool (by decide +kernel)) pa_nil))) (by intro _; rfl))))) (pss_one (ps_ret (pe_ifExp (pt_cmpR u_is (pv 1) pe_non (nomark _)) (pe_cmpR u_is (pv 0) pe_non (nomark _)) (pe_and (pe_callB c_isi (by rfl) T.n_isinstance (by decide +kernel) (pa_cons (pv 0) (pa_cons (pe_ty (by rfl) T.n_bool (by decide +kernel)) pa_nil))) (pe_one (pe_cmpR (u_eq hu64) (pe_cmpR u_is (pv 0) pe_bl (nomark _)) (pe_cmpR u_is (pv 1) pe_bl (nomark _)) (nomark _))))))) pss_nil)
      (pss_cons (ps_if (pt_tr (pe_callB c_isi (by rfl) T.n_isinstance (by decide +kernel) (pa_cons (pv 1) (pa_cons (pe_ty (by rfl) T.n_int (by decide +kernel)) pa_nil))) (by intro _; rfl)) (pss_one (ps_ret (pe_and (pe_callB c_isi (by rfl) T.n_isinstance (by decide +kernel) (pa_cons (pv 0) (pa_cons (pe_ty (by rfl) T.n_int (by decide +kernel)) pa_nil))) (pe_and (pe_not (pe_callB c_isi (by rfl) T.n_isinstance (by decide +kernel) (pa_cons (pv 0) (pa_cons (pe_ty (by rfl) T.n_bool (by decide +kernel)) pa_nil)))) (pe_one (pe_cmpR (u_eq hu64) (pe_op u_sub (pe_callTy c_int (by rfl) T.n_int (by decide +kernel) (pa_cons (pv 0) pa_nil)) (pv 1)) pe_int (nomark _))))))) pss_nil)
      (pss_cons (ps_if (pt_tr (pe_callB c_isi (by rfl) T.n_isinstance (by decide +kernel) (pa_cons (pv 1) (pa_cons (pe_ty (by rfl) T.n_str (by decide +kernel)) pa_nil))) (by intro _; rfl)) (pss_one (ps_ret (pe_and (pe_callB c_isi (by rfl) T.n_isinstance (by decide +kernel) (pa_cons (pv 0) (pa_cons (pe_ty (by rfl) T.n_str (by decide +kernel)) pa_nil))) (pe_and (pe_cmpR (u_eq hu64) (pe_callB c_len (by rfl) T.n_len (by decide +kernel) (pa_cons (pv 0) pa_nil)) (pe_callB c_len (by rfl) T.n_len (by decide +kernel) (pa_cons (pv 1) pa_nil)) (nomark _)) (pe_one (pe_cmpR (u_eq hu64) (pe_lc (own := [("k", 2)]) rfl nd (pi_range1 (by rfl) T.n_range (pa_cons (pe_callB c_len (by rfl) T.n_len (by decide +kernel) (pa_cons (pv 1) pa_nil)) pa_nil)) (blkOk_by (N := ["told", "due", "k"]) (sc := defScope s__law_same) (own := [("k", 2)]) (by decide +kernel)) (fun _ _ _ _ _ => pg_name (i := 2) nd rfl (Or.inl rfl)) (fun _ _ _ _ _ => pts_one (pt_cmpR (u_ne hu64) (pe_slice u_sl (pv 0) (po_some (pv 2)) (po_some (pe_op u_add (pv 2) pe_int))) (pe_ix (u_ix hu1) (pv 1) (pv 2) (fun _ _ => rfl)) (nomark _))) (fun _ _ _ _ _ => pv 2)) (pe_lst pa_nil) (nomark _))))))) pss_nil)
      (pss_cons (ps_if (PW.pt (pw_or (pt_cmpR (u_ne hu64) (pe_callB c_isi (by rfl) T.n_isinstance (by decide +kernel) (pa_cons (pv 0) (pa_cons (pe_ty (by rfl) T.n_list (by decide +kernel)) pa_nil))) (pe_callB c_isi (by rfl) T.n_isinstance (by decide +kernel) (pa_cons (pv 1) (pa_cons (pe_ty (by rfl) T.n_list (by decide +kernel)) pa_nil))) (nomark _)) (pw_or1 (pt_cmpR (u_ne hu64) (pe_callB c_isi (by rfl) T.n_isinstance (by decide +kernel) (pa_cons (pv 0) (pa_cons (pe_ty (by rfl) T.n_tuple (by decide +kernel)) pa_nil))) (pe_callB c_isi (by rfl) T.n_isinstance (by decide +kernel) (pa_cons (pv 1) (pa_cons (pe_ty (by rfl) T.n_tuple (by decide +kernel)) pa_nil))) (nomark _))))) (pss_one (ps_ret pe_bl)) pss_nil)
      (pss_one (ps_ret (pe_and (pe_cmpR (u_eq hu64) (pe_callB c_len (by rfl) T.n_len (by decide +kernel) (pa_cons (pv 0) pa_nil)) (pe_callB c_len (by rfl) T.n_len (by decide +kernel) (pa_cons (pv 1) pa_nil)) (nomark _)) (pe_one (pe_cmpR (u_eq hu64) (pe_lc (own := [("k", 2)]) rfl nd (pi_range1 (by rfl) T.n_range (pa_cons (pe_callB c_len (by rfl) T.n_len (by decide +kernel) (pa_cons (pv 1) pa_nil)) pa_nil)) (blkOk_by (N := ["told", "due", "k"]) (sc := defScope s__law_same) (own := [("k", 2)]) (by decide +kernel)) (fun _ _ _ _ _ => pg_name (i := 2) nd rfl (Or.inl rfl)) (fun _ _ _ _ _ => pts_one (pt_not (pt_tr (pe_kn c__law_same hr hkr (by rfl) (pa_cons (pe_ix (u_ix hu1) (pv 0) (pv 2) (fun _ _ => rfl)) (pa_cons (pe_ix (u_ix hu1) (pv 1) (pv 2) (fun _ _ => rfl)) pa_nil))) (by intro _; rfl)))) (fun _ _ _ _ _ => pv 2)) (pe_lst pa_nil) (nomark _)))))))))
/-! _law_clock: 0 box, 1 offsets, 2 moment, 3 changes, 4 last, 5 turn, 6 move -/
abbrev s__law_clock : Stmt := top 44
abbrev N__law_clock : List Str := ["box", "offsets", "moment", "changes", "last", "turn", "move"]
theorem sc__law_clock : FnScope ["box", "offsets", "moment", "changes", "last", "turn", "move"] ["box"] (defScope s__law_clock) := ⟨rfl, rfl, rfl, by decide +kernel, rfl, by decide +kernel, by decide +kernel⟩
abbrev t__law_clock (K : PySem.W.Frag) (E : XK) : TS :=
  tSeq (tAsg (tOp (uIx K) (tLst (tCons (tC (.int 0)) (tCons (tC (.int 60)) (tCons (tC (.int 120)) (tCons (tOp uSub (tC (.int 0)) (tC (.int 300))) (tCons (tC (.int 330)) (tCons (tC (.int 1440)) (tCons (tOp uSub (tC (.int 0)) (tC (.int 1440))) (tCons (tC (.int 1)) tNil))))))))) (tKn (sp__law_take K) (tCons (tVar 0) (tCons (tC (.int 8)) tNil)))) (gName 1))
    (tSeq (tPar3 2 3 4 (tCons (tC (.int 0)) (tCons (tLst tNil) (tCons (tVar 1) tNil))))
    (tSeq (tFor (iRng1 (tCons (tOp (uIx K) (tLst (tCons (tC (.int 0)) (tCons (tC (.int 1)) (tCons (tC (.int 2)) (tCons (tC (.int 3)) (tCons (tC (.int 5)) (tCons (tC (.int 8)) tNil))))))) (tKn (sp__law_take K) (tCons (tVar 0) (tCons (tC (.int 6)) tNil)))) tNil)) (gName 5) (tSeq (tAsg (tOp (uAdd K) (tOp (uAdd K) (tVar 2) (tC (.int 1))) (tKn (sp__law_take K) (tCons (tVar 0) (tCons (tOp (uIx K) (tLst (tCons (tC (.int 3000)) (tCons (tC (.int 300)) (tCons (tC (.int 90)) (tCons (tC (.int 20000)) tNil))))) (tKn (sp__law_take K) (tCons (tVar 0) (tCons (tC (.int 4)) tNil)))) tNil)))) (gName 2))
    (tSeq (tAsg (tOp (uIx K) (tLst (tCons (tC (.int 60)) (tCons (tOp uSub (tC (.int 0)) (tC (.int 60))) (tCons (tC (.int 30)) (tCons (tOp uSub (tC (.int 0)) (tC (.int 1))) (tCons (tC (.int 1440)) (tCons (tC (.int 0)) (tCons (tOp uSub (tC (.int 0)) (tC (.int 120))) (tCons (tC (.int 7)) tNil))))))))) (tKn (sp__law_take K) (tCons (tVar 0) (tCons (tC (.int 8)) tNil)))) (gName 6))
    (tSeq (tAsg (tCB uMax (tCons (tOp uSub (tC (.int 0)) (tC (.int 1440))) (tCons (tCB uMin (tCons (tC (.int 1440)) (tCons (tOp (uAdd K) (tVar 4) (tVar 6)) tNil))) tNil))) (gName 4))
    (tDrop (tBM K "list" rAppend (tVar 3) (tCons (tTup (tCons (tVar 2) (tCons (tVar 4) tNil))) tNil)))))))
    (tRet (tLst (tCons (tVar 1) (tCons (tVar 3) tNil))))))
theorem d__law_clock {P : Program} {w : World} {K : PySem.W.Frag} {mg : Str → Option Value} {base : Heap} (T : Tx P K mg) (c__law_take : Kn P w K mg base 3 "_law_take" ["box", "many"] (sp__law_take K))
    {f : Addr} {cdv : Value} {A : Around} {outer : List Env} {s : Shared} {H : Hp} {E : XK} (hr : Room 3 (A.deeper (envOfC "_law_clock" (defScope s__law_clock) s.heap.objs.size f cdv))) :
    PSs (cxOf (L2.CX P w) P w K mg base ["box", "offsets", "moment", "changes", "last", "turn", "move"] "_law_clock" (defScope s__law_clock) f cdv A outer s H E) (defBody s__law_clock) (t__law_clock K E) := by
  have nd := sc__law_clock.nd
  have hu0 := hu0_of hr
  have hu1 := hu_of hr
  have hu64 := hu64_of hr
  have hu65 := hu65_of hr
  exact pss_cons (ps_asg (pe_ix (u_ix hu1) (pe_lst (pa_cons pe_int (pa_cons pe_int (pa_cons pe_int (pa_cons (pe_op u_sub pe_int pe_int) (pa_cons pe_int (pa_cons pe_int (pa_cons (pe_op u_sub pe_int pe_int) (pa_cons pe_int pa_nil))))))))) (pe_kn c__law_take hr (by decide) (by rfl) (pa_cons (pv 0) (pa_cons pe_int pa_nil))) (fun _ _ => rfl)) (pg_name (i := 1) nd rfl (Or.inl rfl)))
      (pss_cons (ps_par3 rfl nd rfl rfl rfl (by decide) (by decide) (by decide) rfl rfl rfl (pa_cons pe_int (pa_cons (pe_lst pa_nil) (pa_cons (pv 1) pa_nil))) (by rfl))
      (pss_cons (ps_for (passes_of rfl) rfl (pi_range1 (by rfl) T.n_range (pa_cons (pe_ix (u_ix hu1) (pe_lst (pa_cons pe_int (pa_cons pe_int (pa_cons pe_int (pa_cons pe_int (pa_cons pe_int (pa_cons pe_int pa_nil))))))) (pe_kn c__law_take hr (by decide) (by rfl) (pa_cons (pv 0) (pa_cons pe_int pa_nil))) (fun _ _ => rfl)) pa_nil)) (pg_name (i := 5) nd rfl (Or.inl rfl)) (pss_cons (ps_asg (pe_op u_add (pe_op u_add (pv 2) pe_int) (pe_kn c__law_take hr (by decide) (by rfl) (pa_cons (pv 0) (pa_cons (pe_ix (u_ix hu1) (pe_lst (pa_cons pe_int (pa_cons pe_int (pa_cons pe_int (pa_cons pe_int pa_nil))))) (pe_kn c__law_take hr (by decide) (by rfl) (pa_cons (pv 0) (pa_cons pe_int pa_nil))) (fun _ _ => rfl)) pa_nil)))) (pg_name (i := 2) nd rfl (Or.inl rfl)))
      (pss_cons (ps_asg (pe_ix (u_ix hu1) (pe_lst (pa_cons pe_int (pa_cons (pe_op u_sub pe_int pe_int) (pa_cons pe_int (pa_cons (pe_op u_sub pe_int pe_int) (pa_cons pe_int (pa_cons pe_int (pa_cons (pe_op u_sub pe_int pe_int) (pa_cons pe_int pa_nil))))))))) (pe_kn c__law_take hr (by decide) (by rfl) (pa_cons (pv 0) (pa_cons pe_int pa_nil))) (fun _ _ => rfl)) (pg_name (i := 6) nd rfl (Or.inl rfl)))
      (pss_cons (ps_asg (pe_callB (c_max rfl) (by rfl) T.n_max (by decide +kernel) (pa_cons (pe_op u_sub pe_int pe_int) (pa_cons (pe_callB (c_min rfl) (by rfl) T.n_min (by decide +kernel) (pa_cons pe_int (pa_cons (pe_op u_add (pv 4) (pv 6)) pa_nil))) pa_nil))) (pg_name (i := 4) nd rfl (Or.inl rfl)))
      (pss_one (ps_expr (pe_bm PySem.F.plainAttrs_list PySem.F.slot_list_append PySem.F.type_list_append mt_append (pv 3) (pa_cons (pe_tup (pa_cons (pv 2) (pa_cons (pv 4) pa_nil))) pa_nil))))))))
      (pss_one (ps_ret (pe_lst (pa_cons (pv 1) (pa_cons (pv 3) pa_nil)))))))
/-! _law_offset: 0 clock, 1 moment, 2 found, 3 start, 4 offset -/
abbrev s__law_offset : Stmt := top 45
abbrev N__law_offset : List Str := ["clock", "moment", "found", "start", "offset"]
theorem sc__law_offset : FnScope ["clock", "moment", "found", "start", "offset"] ["clock", "moment"] (defScope s__law_offset) := ⟨rfl, rfl, rfl, by decide +kernel, rfl, by decide +kernel, by decide +kernel⟩
abbrev t__law_offset (K : PySem.W.Frag) (E : XK) : TS :=
  tSeq (tAsg (tOp (uIx K) (tVar 0) (tC (.int 0))) (gName 2))
    (tSeq (tFor (iSeq K (tOp (uIx K) (tVar 0) (tC (.int 1)))) (gSq K 2 (gCons (gName 3) (gCons (gName 4) gNil))) (tIfS (tTest (tOp uLe (tVar 3) (tVar 1))) (tAsg (tVar 4) (gName 2)) tNext))
    (tRet (tVar 2)))
theorem d__law_offset {P : Program} {w : World} {K : PySem.W.Frag} {mg : Str → Option Value} {base : Heap} (T : Tx P K mg) 
    {f : Addr} {cdv : Value} {A : Around} {outer : List Env} {s : Shared} {H : Hp} {E : XK} (hr : Room 2 (A.deeper (envOfC "_law_offset" (defScope s__law_offset) s.heap.objs.size f cdv))) :
    PSs (cxOf (L2.CX P w) P w K mg base ["clock", "moment", "found", "start", "offset"] "_law_offset" (defScope s__law_offset) f cdv A outer s H E) (defBody s__law_offset) (t__law_offset K E) := by
  have nd := sc__law_offset.nd
  have hu0 := hu0_of hr
  have hu1 := hu_of hr
  have hu64 := hu64_of hr
  have hu65 := hu65_of hr
  exact pss_cons (ps_asg (pe_ix (u_ix hu1) (pv 0) pe_int (fun _ _ => rfl)) (pg_name (i := 2) nd rfl (Or.inl rfl)))
      (pss_cons (ps_for (passes_of rfl) rfl (pi_seq (pe_ix (u_ix hu1) (pv 0) pe_int (fun _ _ => rfl))) (pg_sq rfl (pgs_cons (pg_name (i := 3) nd rfl (Or.inl rfl)) (pgs_cons (pg_name (i := 4) nd rfl (Or.inl rfl)) pgs_nil))) (pss_one (ps_if (pt_cmpR u_le (pv 3) (pv 1) (nomark _)) (pss_one (ps_asg (pv 4) (pg_name (i := 2) nd rfl (Or.inl rfl)))) pss_nil)))
      (pss_one (ps_ret (pv 2))))
/-! _law_ranges: 0 clock, 1 last, 2 starts, 3 found, 4 offsets, 5 k, 6 start, 7 offset -/
abbrev s__law_ranges : Stmt := top 46
abbrev N__law_ranges : List Str := ["clock", "last", "starts", "found", "offsets", "k", "start", "offset"]
theorem sc__law_ranges : FnScope ["clock", "last", "starts", "found", "offsets", "k", "start", "offset"] ["clock", "last"] (defScope s__law_ranges) := ⟨rfl, rfl, rfl, by decide +kernel, rfl, by decide +kernel, by decide +kernel⟩
abbrev t__law_ranges (K : PySem.W.Frag) (E : XK) : TS :=
  tSeq (tPar 2 3 (tCons (tOp (uAdd K) (tOp (uAdd K) (tLst (tCons (tC (.int 0)) tNil)) (tLc (iSeq K (tOp (uIx K) (tVar 0) (tC (.int 1)))) (gSq K 2 (gCons (gName 6) (gCons (gName 7) gNil))) tYes (tVar 6) [6, 7])) (tLst (tCons (tOp (uAdd K) (tVar 1) (tC (.int 1))) tNil))) (tCons (tLst tNil) tNil)))
    (tSeq (tAsg (tOp (uAdd K) (tLst (tCons (tOp (uIx K) (tVar 0) (tC (.int 0))) tNil)) (tLc (iSeq K (tOp (uIx K) (tVar 0) (tC (.int 1)))) (gSq K 2 (gCons (gName 6) (gCons (gName 7) gNil))) tYes (tVar 7) [6, 7])) (gName 4))
    (tSeq (tFor (iRng1 (tCons (tCB (uLen K) (tCons (tVar 4) tNil)) tNil)) (gName 5) (tIfS (tAnd (tTest (tOp (uLt K) (tOp (uIx K) (tVar 2) (tVar 5)) (tOp (uIx K) (tVar 2) (tOp (uAdd K) (tVar 5) (tC (.int 1)))))) (tTest (tOp uLe (tOp (uIx K) (tVar 2) (tVar 5)) (tVar 1)))) (tDrop (tBM K "list" rAppend (tVar 3) (tCons (tTup (tCons (tOp (uIx K) (tVar 2) (tVar 5)) (tCons (tCB uMin (tCons (tVar 1) (tCons (tOp uSub (tOp (uIx K) (tVar 2) (tOp (uAdd K) (tVar 5) (tC (.int 1)))) (tC (.int 1))) tNil))) (tCons (tOp (uIx K) (tVar 4) (tVar 5)) tNil)))) tNil))) tNext))
    (tRet (tVar 3))))
theorem d__law_ranges {P : Program} {w : World} {K : PySem.W.Frag} {mg : Str → Option Value} {base : Heap} (T : Tx P K mg) 
    {f : Addr} {cdv : Value} {A : Around} {outer : List Env} {s : Shared} {H : Hp} {E : XK} (hr : Room 2 (A.deeper (envOfC "_law_ranges" (defScope s__law_ranges) s.heap.objs.size f cdv))) :
    PSs (cxOf (L2.CX P w) P w K mg base ["clock", "last", "starts", "found", "offsets", "k", "start", "offset"] "_law_ranges" (defScope s__law_ranges) f cdv A outer s H E) (defBody s__law_ranges) (t__law_ranges K E) := by
  have nd := sc__law_ranges.nd
  have hu0 := hu0_of hr
  have hu1 := hu_of hr
  have hu64 := hu64_of hr
  have hu65 := hu65_of hr
  exact pss_cons (ps_par rfl nd rfl rfl (by decide) rfl rfl (pa_cons (pe_op u_add (pe_op u_add (pe_lst (pa_cons pe_int pa_nil)) (pe_lc (own := [("start", 6), ("offset", 7)]) rfl nd (pi_seq (pe_ix (u_ix hu1) (pv 0) pe_int (fun _ _ => rfl))) (blkOk_by (N := ["clock", "last", "starts", "found", "offsets", "k", "start", "offset"]) (sc := defScope s__law_ranges) (own := [("start", 6), ("offset", 7)]) (by decide +kernel)) (fun _ _ _ _ _ => pg_sq rfl (pgs_cons (pg_name (i := 6) nd rfl (Or.inl rfl)) (pgs_cons (pg_name (i := 7) nd rfl (Or.inl rfl)) pgs_nil))) (fun _ _ _ _ _ => pts_nil) (fun _ _ _ _ _ => pv 6))) (pe_lst (pa_cons (pe_op u_add (pv 1) pe_int) pa_nil))) (pa_cons (pe_lst pa_nil) pa_nil)) (by rfl))
      (pss_cons (ps_asg (pe_op u_add (pe_lst (pa_cons (pe_ix (u_ix hu1) (pv 0) pe_int (fun _ _ => rfl)) pa_nil)) (pe_lc (own := [("start", 6), ("offset", 7)]) rfl nd (pi_seq (pe_ix (u_ix hu1) (pv 0) pe_int (fun _ _ => rfl))) (blkOk_by (N := ["clock", "last", "starts", "found", "offsets", "k", "start", "offset"]) (sc := defScope s__law_ranges) (own := [("start", 6), ("offset", 7)]) (by decide +kernel)) (fun _ _ _ _ _ => pg_sq rfl (pgs_cons (pg_name (i := 6) nd rfl (Or.inl rfl)) (pgs_cons (pg_name (i := 7) nd rfl (Or.inl rfl)) pgs_nil))) (fun _ _ _ _ _ => pts_nil) (fun _ _ _ _ _ => pv 7))) (pg_name (i := 4) nd rfl (Or.inl rfl)))
      (pss_cons (ps_for (passes_of rfl) rfl (pi_range1 (by rfl) T.n_range (pa_cons (pe_callB c_len (by rfl) T.n_len (by decide +kernel) (pa_cons (pv 4) pa_nil)) pa_nil)) (pg_name (i := 5) nd rfl (Or.inl rfl)) (pss_one (ps_if (PW.pt (pw_and (pt_cmpR (u_lt hu0) (pe_ix (u_ix hu1) (pv 2) (pv 5) (fun _ _ => rfl)) (pe_ix (u_ix hu1) (pv 2) (pe_op u_add (pv 5) pe_int) (fun _ _ => rfl)) (nomark _)) (pw_and1 (pt_cmpR u_le (pe_ix (u_ix hu1) (pv 2) (pv 5) (fun _ _ => rfl)) (pv 1) (nomark _))))) (pss_one (ps_expr (pe_bm PySem.F.plainAttrs_list PySem.F.slot_list_append PySem.F.type_list_append mt_append (pv 3) (pa_cons (pe_tup (pa_cons (pe_ix (u_ix hu1) (pv 2) (pv 5) (fun _ _ => rfl)) (pa_cons (pe_callB (c_min rfl) (by rfl) T.n_min (by decide +kernel) (pa_cons (pv 1) (pa_cons (pe_op u_sub (pe_ix (u_ix hu1) (pv 2) (pe_op u_add (pv 5) pe_int) (fun _ _ => rfl)) pe_int) pa_nil))) (pa_cons (pe_ix (u_ix hu1) (pv 4) (pv 5) (fun _ _ => rfl)) pa_nil)))) pa_nil)))) pss_nil)))
      (pss_one (ps_ret (pv 3)))))
/-! _law_moments: 0 clock, 1 time, 2 ranges, 3 first, 4 last, 5 offset -/
abbrev s__law_moments : Stmt := top 47
abbrev N__law_moments : List Str := ["clock", "time", "ranges", "first", "last", "offset"]
theorem sc__law_moments : FnScope ["clock", "time", "ranges", "first", "last", "offset"] ["clock", "time"] (defScope s__law_moments) := ⟨rfl, rfl, rfl, by decide +kernel, rfl, by decide +kernel, by decide +kernel⟩
abbrev t__law_moments (K : PySem.W.Frag) (E : XK) : TS :=
  tSeq (tAsg (tKn (sp__law_ranges K) (tCons (tVar 0) (tCons (tOp (uAdd K) (tOp (uAdd K) (tCB uMax (tCons (tVar 1) (tCons (tC (.int 0)) tNil))) (tC (.int 2000))) (tIf (tTest (tOp (uNe K) (tOp (uIx K) (tVar 0) (tC (.int 1))) (tLst tNil))) (tOp (uIx K) (tOp (uIx K) (tOp (uIx K) (tVar 0) (tC (.int 1))) (tUn uNeg (tC (.int 1)))) (tC (.int 0))) (tC (.int 0)))) tNil))) (gName 2))
    (tRet (tLc (iSeq K (tVar 2)) (gSq K 3 (gCons (gName 3) (gCons (gName 4) (gCons (gName 5) gNil)))) (tTest (tChain uLe uLe (tVar 3) (tOp uSub (tVar 1) (tVar 5)) (tVar 4))) (tOp uSub (tVar 1) (tVar 5)) [3, 4, 5]))
theorem d__law_moments {P : Program} {w : World} {K : PySem.W.Frag} {mg : Str → Option Value} {base : Heap} (T : Tx P K mg) (c__law_ranges : Kn P w K mg base 3 "_law_ranges" ["clock", "last"] (sp__law_ranges K))
    {f : Addr} {cdv : Value} {A : Around} {outer : List Env} {s : Shared} {H : Hp} {E : XK} (hr : Room 3 (A.deeper (envOfC "_law_moments" (defScope s__law_moments) s.heap.objs.size f cdv))) :
    PSs (cxOf (L2.CX P w) P w K mg base ["clock", "time", "ranges", "first", "last", "offset"] "_law_moments" (defScope s__law_moments) f cdv A outer s H E) (defBody s__law_moments) (t__law_moments K E) := by
  have nd := sc__law_moments.nd
  have hu0 := hu0_of hr
  have hu1 := hu_of hr
  have hu64 := hu64_of hr
  have hu65 := hu65_of hr
  exact pss_cons (ps_asg (pe_kn c__law_ranges hr (by decide) (by rfl) (pa_cons (pv 0) (pa_cons (pe_op u_add (pe_op u_add (pe_callB (c_max rfl) (by rfl) T.n_max (by decide +kernel) (pa_cons (pv 1) (pa_cons pe_int pa_nil))) pe_int) (pe_ifExp (pt_cmpR (u_ne hu64) (pe_ix (u_ix hu1) (pv 0) pe_int (fun _ _ => rfl)) (pe_lst pa_nil) (nomark _)) (pe_ix (u_ix hu1) (pe_ix (u_ix hu1) (pe_ix (u_ix hu1) (pv 0) pe_int (fun _ _ => rfl)) (pe_un u_neg pe_int) (fun _ _ => rfl)) pe_int (fun _ _ => rfl)) pe_int)) pa_nil))) (pg_name (i := 2) nd rfl (Or.inl rfl)))
      (pss_one (ps_ret (pe_lc (own := [("first", 3), ("last", 4), ("offset", 5)]) rfl nd (pi_seq (pv 2)) (blkOk_by (N := ["clock", "time", "ranges", "first", "last", "offset"]) (sc := defScope s__law_moments) (own := [("first", 3), ("last", 4), ("offset", 5)]) (by decide +kernel)) (fun _ _ _ _ _ => pg_sq rfl (pgs_cons (pg_name (i := 3) nd rfl (Or.inl rfl)) (pgs_cons (pg_name (i := 4) nd rfl (Or.inl rfl)) (pgs_cons (pg_name (i := 5) nd rfl (Or.inl rfl)) pgs_nil)))) (fun _ _ _ _ _ => pts_one (pt_chain u_le u_le (pv 3) (pe_op u_sub (pv 1) (pv 5)) (pv 4))) (fun _ _ _ _ _ => pe_op u_sub (pv 1) (pv 5)))))
/-! _law_due_moments: 0 clock, 1 time, 2 gap, 3 fold, 4 some, 5 ranges, 6 later, 7 first, 8 last, 9 offset -/
abbrev s__law_due_moments : Stmt := top 48
abbrev N__law_due_moments : List Str := ["clock", "time", "gap", "fold", "some", "ranges", "later", "first", "last", "offset"]
theorem sc__law_due_moments : FnScope ["clock", "time", "gap", "fold", "some", "ranges", "later", "first", "last", "offset"] ["clock", "time", "gap", "fold"] (defScope s__law_due_moments) := ⟨rfl, rfl, rfl, by decide +kernel, rfl, by decide +kernel, by decide +kernel⟩
abbrev t__law_due_moments (K : PySem.W.Frag) (E : XK) : TS :=
  tSeq (tAsg (tKn (sp__law_moments K) (tCons (tVar 0) (tCons (tVar 1) tNil))) (gName 4))
    (tSeq (tIfS (tTest (tOp (uNe K) (tVar 4) (tLst tNil))) (tRet (tIf (tTest (tOp (uEq K) (tVar 3) (tC (.str "both")))) (tVar 4) (tIf (tTest (tOp (uEq K) (tVar 3) (tC (.str "first")))) (tLst (tCons (tOp (uIx K) (tVar 4) (tC (.int 0))) tNil)) (tLst (tCons (tOp (uIx K) (tVar 4) (tUn uNeg (tC (.int 1)))) tNil))))) tNext)
    (tSeq (tIfS (tOr (tTest (tOp (uEq K) (tVar 2) (tC (.str "skip")))) (tTest (tOp (uLt K) (tVar 1) (tOp (uIx K) (tVar 0) (tC (.int 0)))))) (tRet (tLst tNil)) tNext)
    (tSeq (tAsg (tKn (sp__law_ranges K) (tCons (tVar 0) (tCons (tOp (uAdd K) (tOp (uAdd K) (tCB uMax (tCons (tVar 1) (tCons (tC (.int 0)) tNil))) (tC (.int 2000))) (tIf (tTest (tOp (uNe K) (tOp (uIx K) (tVar 0) (tC (.int 1))) (tLst tNil))) (tOp (uIx K) (tOp (uIx K) (tOp (uIx K) (tVar 0) (tC (.int 1))) (tUn uNeg (tC (.int 1)))) (tC (.int 0))) (tC (.int 0)))) tNil))) (gName 5))
    (tSeq (tAsg (tLc (iSeq K (tVar 5)) (gSq K 3 (gCons (gName 7) (gCons (gName 8) (gCons (gName 9) gNil)))) (tTest (tOp uGt (tOp (uAdd K) (tVar 8) (tVar 9)) (tVar 1))) (tCB uMax (tCons (tVar 7) (tCons (tOp uSub (tOp (uAdd K) (tVar 1) (tC (.int 1))) (tVar 9)) tNil))) [7, 8, 9]) (gName 6))
    (tRet (tLst (tCons (tCB (uMin1 K) (tCons (tVar 6) tNil)) tNil)))))))
theorem d__law_due_moments {P : Program} {w : World} {K : PySem.W.Frag} {mg : Str → Option Value} {base : Heap} (T : Tx P K mg) (c__law_moments : Kn P w K mg base 4 "_law_moments" ["clock", "time"] (sp__law_moments K))
    (c__law_ranges : Kn P w K mg base 3 "_law_ranges" ["clock", "last"] (sp__law_ranges K))
    {f : Addr} {cdv : Value} {A : Around} {outer : List Env} {s : Shared} {H : Hp} {E : XK} (hr : Room 4 (A.deeper (envOfC "_law_due_moments" (defScope s__law_due_moments) s.heap.objs.size f cdv))) :
    PSs (cxOf (L2.CX P w) P w K mg base ["clock", "time", "gap", "fold", "some", "ranges", "later", "first", "last", "offset"] "_law_due_moments" (defScope s__law_due_moments) f cdv A outer s H E) (defBody s__law_due_moments) (t__law_due_moments K E) := by
  have nd := sc__law_due_moments.nd
  have hu0 := hu0_of hr
  have hu1 := hu_of hr
  have hu64 := hu64_of hr
  have hu65 := hu65_of hr
  exact pss_cons (ps_asg (pe_kn c__law_moments hr (by decide) (by rfl) (pa_cons (pv 0) (pa_cons (pv 1) pa_nil))) (pg_name (i := 4) nd rfl (Or.inl rfl)))
      (pss_cons (ps_if (pt_cmpR (u_ne hu64) (pv 4) (pe_lst pa_nil) (nomark _)) (pss_one (ps_ret (pe_ifExp (pt_cmpR (u_eq hu64) (pv 3) pe_str (nomark _)) (pv 4) (pe_ifExp (pt_cmpR (u_eq hu64) (pv 3) pe_str (nomark _)) (pe_lst (pa_cons (pe_ix (u_ix hu1) (pv 4) pe_int (fun _ _ => rfl)) pa_nil)) (pe_lst (pa_cons (pe_ix (u_ix hu1) (pv 4) (pe_un u_neg pe_int) (fun _ _ => rfl)) pa_nil)))))) pss_nil)
      (pss_cons (ps_if (PW.pt (pw_or (pt_cmpR (u_eq hu64) (pv 2) pe_str (nomark _)) (pw_or1 (pt_cmpR (u_lt hu0) (pv 1) (pe_ix (u_ix hu1) (pv 0) pe_int (fun _ _ => rfl)) (nomark _))))) (pss_one (ps_ret (pe_lst pa_nil))) pss_nil)
      (pss_cons (ps_asg (pe_kn c__law_ranges hr (by decide) (by rfl) (pa_cons (pv 0) (pa_cons (pe_op u_add (pe_op u_add (pe_callB (c_max rfl) (by rfl) T.n_max (by decide +kernel) (pa_cons (pv 1) (pa_cons pe_int pa_nil))) pe_int) (pe_ifExp (pt_cmpR (u_ne hu64) (pe_ix (u_ix hu1) (pv 0) pe_int (fun _ _ => rfl)) (pe_lst pa_nil) (nomark _)) (pe_ix (u_ix hu1) (pe_ix (u_ix hu1) (pe_ix (u_ix hu1) (pv 0) pe_int (fun _ _ => rfl)) (pe_un u_neg pe_int) (fun _ _ => rfl)) pe_int (fun _ _ => rfl)) pe_int)) pa_nil))) (pg_name (i := 5) nd rfl (Or.inl rfl)))
      (pss_cons (ps_setLc (i := 6) (own := [("first", 7), ("last", 8), ("offset", 9)]) rfl nd rfl rfl (sw_true rfl rfl rfl (by decide +kernel)) (pi_seq (pv 5)) (blkOk_by (N := ["clock", "time", "gap", "fold", "some", "ranges", "later", "first", "last", "offset"]) (sc := defScope s__law_due_moments) (own := [("first", 7), ("last", 8), ("offset", 9)]) (by decide +kernel)) (fun _ _ _ _ _ => pg_sq rfl (pgs_cons (pg_name (i := 7) nd rfl (Or.inl rfl)) (pgs_cons (pg_name (i := 8) nd rfl (Or.inl rfl)) (pgs_cons (pg_name (i := 9) nd rfl (Or.inl rfl)) pgs_nil)))) (fun _ _ _ _ _ => pts_one (pt_cmpR u_gt (pe_op u_add (pv 8) (pv 9)) (pv 1) (nomark _))) (fun _ _ _ _ _ => pe_callB (c_max rfl) (by rfl) T.n_max (by decide +kernel) (pa_cons (pv 7) (pa_cons (pe_op u_sub (pe_op u_add (pv 1) pe_int) (pv 9)) pa_nil))))
      (pss_one (ps_ret (pe_lst (pa_cons (pe_callB (c_min1 rfl) (by rfl) T.n_min (by decide +kernel) (pa_cons (pv 6) pa_nil)) pa_nil))))))))
/-! _law_asked: 0 named, 1 clock, 2 time, 3 gap, 4 fold, 5 e, 6 word -/
abbrev s__law_asked : Stmt := top 49
abbrev N__law_asked : List Str := ["named", "clock", "time", "gap", "fold", "e", "word"]
theorem sc__law_asked : FnScope ["named", "clock", "time", "gap", "fold", "e", "word"] ["named", "clock", "time", "gap", "fold"] (defScope s__law_asked) := ⟨rfl, rfl, rfl, by decide +kernel, rfl, by decide +kernel, by decide +kernel⟩
abbrev t__law_asked (K : PySem.W.Frag) (E : XK) : TS :=
  tTryB K (W0 E) (fun W => tSeq (tIfS (tTr K (tVar 0)) (tRet (tLst (tCons (tC (.str "told")) (tCons (tKk (sp_due_moments K) g_due_moments_fold_gap_time_clock W (tCons (tVar 4) (tCons (tVar 3) (tCons (tVar 2) (tCons (tVar 1) tNil))))) tNil)))) tNext)
    (tRet (tLst (tCons (tC (.str "told")) (tCons (tKx (sp_due_moments K) W (tCons (tVar 1) (tCons (tVar 2) (tCons (tVar 3) (tCons (tVar 4) tNil))))) tNil))))) [(clsL K ["InvalidClock", "InvalidTime", "InvalidGap", "InvalidFold"], some 5, (fun a cls d => tSeq (tAsg (tIf (tTr K (tCB (rIsX K cls d a) (tCons (tVar 5) (tCons (tC (.ref (He.ga K "InvalidClock"))) tNil)))) (tC (.str "clock")) (tIf (tTr K (tCB (rIsX K cls d a) (tCons (tVar 5) (tCons (tC (.ref (He.ga K "InvalidTime"))) tNil)))) (tC (.str "time")) (tC (.str "gap")))) (gName 6))
    (tRet (tLst (tCons (tIf (tTr K (tCB (rIsX K cls d a) (tCons (tVar 5) (tCons (tC (.ref (He.ga K "InvalidFold"))) tNil)))) (tC (.str "fold")) (tVar 6)) (tCons (tXg K a cls d "given" (tVar 5)) tNil)))))),
   (clsL K ["DueError"], none, (fun a cls d => tRet (tLst (tCons (tC (.str "another")) (tCons (tC .non) tNil)))))]
theorem d__law_asked {P : Program} {w : World} {K : PySem.W.Frag} {mg : Str → Option Value} {base : Heap} (T : Tx P K mg) (c_due_moments : Kn P w K mg base 7 "due_moments" ["clock", "time", "gap", "fold"] (sp_due_moments K))
    (k_due_moments_fold_gap_time_clock : Kk P w K mg base 7 "due_moments" ["clock", "time", "gap", "fold"] ["fold", "gap", "time", "clock"] g_due_moments_fold_gap_time_clock (sp_due_moments K))
    {f : Addr} {cdv : Value} {A : Around} {outer : List Env} {s : Shared} {H : Hp} {E : XK} (hr : Room 7 (A.deeper (envOfC "_law_asked" (defScope s__law_asked) s.heap.objs.size f cdv))) :
    PSs (cxOf (L2.CX P w) P w K mg base ["named", "clock", "time", "gap", "fold", "e", "word"] "_law_asked" (defScope s__law_asked) f cdv A outer s H E) (defBody s__law_asked) (t__law_asked K E) := by
  have nd := sc__law_asked.nd
  have hu0 := hu0_of hr
  have hu1 := hu_of hr
  have hu64 := hu64_of hr
  have hu65 := hu65_of hr
  exact pss_one (ps_try_manyB (Wout := (W0 E)) (tb := fun W => tSeq (tIfS (tTr K (tVar 0)) (tRet (tLst (tCons (tC (.str "told")) (tCons (tKk (sp_due_moments K) g_due_moments_fold_gap_time_clock W (tCons (tVar 4) (tCons (tVar 3) (tCons (tVar 2) (tCons (tVar 1) tNil))))) tNil)))) tNext)
    (tRet (tLst (tCons (tC (.str "told")) (tCons (tKx (sp_due_moments K) W (tCons (tVar 1) (tCons (tVar 2) (tCons (tVar 3) (tCons (tVar 4) tNil))))) tNil))))) rfl rfl (takes_of rfl rfl rfl rfl) (fun W pn xe tk po => pss_cons (ps_if (pt_tr (pv 0) (by intro _; rfl)) (pss_one (ps_ret (pe_lst (pa_cons pe_str (pa_cons (pe_kk k_due_moments_fold_gap_time_clock hr (by decide) tk (by rfl) (pk_cons (pv 4) (pk_cons (pv 3) (pk_cons (pv 2) (pk_cons (pv 1) pk_nil))))) pa_nil))))) pss_nil)
      (pss_one (ps_ret (pe_lst (pa_cons pe_str (pa_cons (pe_kx c_due_moments hr (by decide) tk (by rfl) (pa_cons (pv 1) (pa_cons (pv 2) (pa_cons (pv 3) (pa_cons (pv 4) pa_nil))))) pa_nil))))))
   (HdsB.named (cs := clsL K ["InvalidClock", "InvalidTime", "InvalidGap", "InvalidFold"]) nd rfl rfl (tst4 T.nm_InvalidClock T.nm_InvalidTime T.nm_InvalidGap T.nm_InvalidFold) (ts := (fun a cls d => tSeq (tAsg (tIf (tTr K (tCB (rIsX K cls d a) (tCons (tVar 5) (tCons (tC (.ref (He.ga K "InvalidClock"))) tNil)))) (tC (.str "clock")) (tIf (tTr K (tCB (rIsX K cls d a) (tCons (tVar 5) (tCons (tC (.ref (He.ga K "InvalidTime"))) tNil)))) (tC (.str "time")) (tC (.str "gap")))) (gName 6))
    (tRet (tLst (tCons (tIf (tTr K (tCB (rIsX K cls d a) (tCons (tVar 5) (tCons (tC (.ref (He.ga K "InvalidFold"))) tNil)))) (tC (.str "fold")) (tVar 6)) (tCons (tXg K a cls d "given" (tVar 5)) tNil)))))) (fun a oe cls d pn hz hf => pss_cons (ps_asg (pe_ifExp (pt_tr (pe_callB (call_isX hz hf) (by rfl) T.n_isinstance (by decide +kernel) (pa_cons (pv 5) (pa_cons (pe_cst (by rfl) T.r_InvalidClock) pa_nil))) (by intro _; rfl)) pe_str (pe_ifExp (pt_tr (pe_callB (call_isX hz hf) (by rfl) T.n_isinstance (by decide +kernel) (pa_cons (pv 5) (pa_cons (pe_cst (by rfl) T.r_InvalidTime) pa_nil))) (by intro _; rfl)) pe_str pe_str)) (pg_name (i := 6) nd rfl (Or.inl rfl)))
      (pss_one (ps_ret (pe_lst (pa_cons (pe_ifExp (pt_tr (pe_callB (call_isX hz hf) (by rfl) T.n_isinstance (by decide +kernel) (pa_cons (pv 5) (pa_cons (pe_cst (by rfl) T.r_InvalidFold) pa_nil))) (by intro _; rfl)) pe_str (pv 6)) (pa_cons (pe_xg hz hf (pv 5)) pa_nil))))))
   (HdsB.bare (cs := clsL K ["DueError"]) (tst1 T.nm_DueError) (ts := (fun a cls d => tRet (tLst (tCons (tC (.str "another")) (tCons (tC .non) tNil))))) (fun a oe cls d pn hz hf => pss_one (ps_ret (pe_lst (pa_cons pe_str (pa_cons pe_non pa_nil)))))
   (HdsB.nil))))
/-! _law_rows_right: 0 box, 1 own, 2 clock, 3 starts, 4 at, 5 offset, 6 step, 7 begin, 8 times, 9 named, 10 seen, 11 time, 12 rows, 13 gap, 14 fold, 15 some, 16 told, 17 both, 18 start, 19 turn, 20 moment -/
abbrev s__law_rows_right : Stmt := top 50
abbrev N__law_rows_right : List Str := ["box", "own", "clock", "starts", "at", "offset", "step", "begin", "times", "named", "seen", "time", "rows", "gap", "fold", "some", "told", "both", "start", "turn", "moment"]
theorem sc__law_rows_right : FnScope ["box", "own", "clock", "starts", "at", "offset", "step", "begin", "times", "named", "seen", "time", "rows", "gap", "fold", "some", "told", "both", "start", "turn", "moment"] ["box", "own", "clock"] (defScope s__law_rows_right) := ⟨rfl, rfl, rfl, by decide +kernel, rfl, by decide +kernel, by decide +kernel⟩
abbrev t__law_rows_right (K : PySem.W.Frag) (E : XK) : TS :=
  tSeq (tAsg (tOp (uAdd K) (tLst (tCons (tC (.int 0)) tNil)) (tLc (iSeq K (tOp (uIx K) (tVar 1) (tC (.int 1)))) (gSq K 2 (gCons (gName 18) (gCons (gName 5) gNil))) tYes (tVar 18) [18, 5])) (gName 3))
    (tSeq (tAsg (tOp (uIx K) (tVar 3) (tKn (sp__law_take K) (tCons (tVar 0) (tCons (tCB (uLen K) (tCons (tVar 3) tNil)) tNil)))) (gName 4))
    (tSeq (tAsg (tTup (tCons (tKn (sp__law_offset K) (tCons (tVar 1) (tCons (tVar 4) tNil))) (tCons (tOp (uIx K) (tLst (tCons (tC (.int 1)) (tCons (tC (.int 7)) (tCons (tC (.int 15)) (tCons (tC (.int 40)) tNil))))) (tKn (sp__law_take K) (tCons (tVar 0) (tCons (tC (.int 4)) tNil)))) tNil))) (gSq K 2 (gCons (gName 5) (gCons (gName 6) gNil))))
    (tSeq (tAsg (tCB uMax (tCons (tC (.int 0)) (tCons (tOp uSub (tOp (uAdd K) (tVar 4) (tVar 5)) (tOp uMul (tC (.int 30)) (tVar 6))) tNil))) (gName 7))
    (tSeq (tAsg (tLc (iRng1 (tCons (tC (.int 60)) tNil)) (gName 19) tYes (tOp (uAdd K) (tVar 7) (tOp uMul (tVar 6) (tVar 19))) [19]) (gName 8))
    (tSeq (tPar 9 10 (tCons (tOp (uEq K) (tKn (sp__law_take K) (tCons (tVar 0) (tCons (tC (.int 2)) tNil))) (tC (.int 0))) (tCons (tLst tNil) tNil)))
    (tSeq (tFor (iSeq K (tVar 8)) (gName 11) (tSeq (tAsg tDNewT (gName 12))
    (tSeq (tFor (iSeq K (tLst (tCons (tC (.str "skip")) (tCons (tC (.str "after")) tNil)))) (gName 13) (tFor (iSeq K (tLst (tCons (tC (.str "first")) (tCons (tC (.str "last")) (tCons (tC (.str "both")) tNil))))) (gName 14) (tAsg (tKn (sp__law_due_moments K) (tCons (tVar 1) (tCons (tVar 11) (tCons (tVar 13) (tCons (tVar 14) tNil))))) (gSub (tVar 12) (tTup (tCons (tVar 13) (tCons (tVar 14) tNil))) rSetX))))
    (tSeq (tPar 13 14 (tCons (tOp (uIx K) (tLst (tCons (tC (.str "skip")) (tCons (tC (.str "after")) tNil))) (tKn (sp__law_take K) (tCons (tVar 0) (tCons (tC (.int 2)) tNil)))) (tCons (tOp (uIx K) (tLst (tCons (tC (.str "first")) (tCons (tC (.str "last")) (tCons (tC (.str "both")) tNil)))) (tKn (sp__law_take K) (tCons (tVar 0) (tCons (tC (.int 3)) tNil)))) tNil)))
    (tSeq (tFor (iSeq K (tLst (tCons (tTup (tCons (tVar 13) (tCons (tVar 14) tNil))) (tCons (tTup (tCons (tC (.str "skip")) (tCons (tC (.str "both")) tNil))) (tCons (tTup (tCons (tC (.str "after")) (tCons (tC (.str "first")) tNil))) tNil))))) (gName 15) (tSeq (tAsg (tKn (sp__law_asked K) (tCons (tVar 9) (tCons (tVar 2) (tCons (tVar 11) (tCons (tOp (uIx K) (tVar 15) (tC (.int 0))) (tCons (tOp (uIx K) (tVar 15) (tC (.int 1))) tNil)))))) (gName 16))
    (tSeq (tIfS (tNot (tTr K (tKn (sp_sameS K) (tCons (tVar 16) (tCons (tLst (tCons (tC (.str "told")) (tCons (tOp (uIx K) (tVar 12) (tVar 15)) tNil))) tNil))))) (tRet (tC (.bl false))) tNext)
    (tDrop (tBM K "list" rAppend (tOp (uIx K) (tVar 16) (tC (.int 1))) (tCons (tC .non) tNil))))))
    (tSeq (tAsg (tNotV (tVar 9)) (gName 9))
    (tSeq (tDrop (tBM K "list" rExtend (tVar 10) (tCons (tKx (sp_due_moments K) (W0 E) (tCons (tVar 2) (tCons (tVar 11) (tCons (tC (.str "skip")) (tCons (tC (.str "both")) tNil))))) tNil)))
    (tSeq (tAsg (tKx (sp_due_moments K) (W0 E) (tCons (tVar 2) (tCons (tVar 11) (tCons (tC (.str "after")) (tCons (tC (.str "both")) tNil))))) (gName 17))
    (tSeq (tIfS (tOr (tTest (tOp (uNe K) (tKx (sp_due_moments K) (W0 E) (tCons (tVar 2) (tCons (tVar 11) (tCons (tC (.str "after")) (tCons (tC (.str "last")) tNil))))) (tSl (uSl K) (tVar 17) (tPart (tUn uNeg (tC (.int 1)))) tNoPart))) (tTest (tOp (uNe K) (tKx (sp_due_moments K) (W0 E) (tCons (tVar 2) (tCons (tVar 11) (tCons (tC (.str "after")) (tCons (tC (.str "first")) tNil))))) (tSl (uSl K) (tVar 17) tNoPart (tPart (tC (.int 1))))))) (tRet (tC (.bl false))) tNext)
    (tIfS (tAnd (tTest (tOp uGe (tVar 11) (tOp (uIx K) (tVar 1) (tC (.int 0))))) (tTest (tOp (uNe K) (tCB (uLen K) (tCons (tKx (sp_due_moments K) (W0 E) (tCons (tVar 2) (tCons (tVar 11) (tCons (tC (.str "after")) (tCons (tC (.str "first")) tNil))))) tNil)) (tC (.int 1))))) (tRet (tC (.bl false))) tNext))))))))))
    (tRet (tAndV (tOp (uEq K) (RZ.tLenSetI K (tVar 10)) (tCB (uLen K) (tCons (tVar 10) tNil))) (tOp (uEq K) (tLc (iSeq K (tVar 10)) (gName 20) (tTest (tOp (uNinX K) (tOp (uAdd K) (tVar 20) (tKn (sp__law_offset K) (tCons (tVar 1) (tCons (tVar 20) tNil)))) (tVar 8))) (tVar 20) [20]) (tLst tNil))))))))))
theorem d__law_rows_right {P : Program} {w : World} {K : PySem.W.Frag} {mg : Str → Option Value} {base : Heap} (T : Tx P K mg) (c__law_asked : Kn P w K mg base 8 "_law_asked" ["named", "clock", "time", "gap", "fold"] (sp__law_asked K))
    (c__law_due_moments : Kn P w K mg base 5 "_law_due_moments" ["clock", "time", "gap", "fold"] (sp__law_due_moments K))
    (c__law_offset : Kn P w K mg base 3 "_law_offset" ["clock", "moment"] (sp__law_offset K))
    (c__law_same : Kn P w K mg base 40 "_law_same" ["told", "due"] (sp_sameS K))
    (c__law_take : Kn P w K mg base 3 "_law_take" ["box", "many"] (sp__law_take K))
    (c_due_moments : Kn P w K mg base 7 "due_moments" ["clock", "time", "gap", "fold"] (sp_due_moments K))
    {f : Addr} {cdv : Value} {A : Around} {outer : List Env} {s : Shared} {H : Hp} {E : XK} (hr : Room 40 (A.deeper (envOfC "_law_rows_right" (defScope s__law_rows_right) s.heap.objs.size f cdv))) :
    PSs (cxOf (L2.CX P w) P w K mg base ["box", "own", "clock", "starts", "at", "offset", "step", "begin", "times", "named", "seen", "time", "rows", "gap", "fold", "some", "told", "both", "start", "turn", "moment"] "_law_rows_right" (defScope s__law_rows_right) f cdv A outer s H E) (defBody s__law_rows_right) (t__law_rows_right K E) := by
  have nd := sc__law_rows_right.nd
  have hu0 := hu0_of hr
  have hu1 := hu_of hr
  have hu64 := hu64_of hr
  have hu65 := hu65_of hr
  exact pss_cons (ps_asg (pe_op u_add (pe_lst (pa_cons pe_int pa_nil)) (pe_lc (own := [("start", 18), ("offset", 5)]) rfl nd (pi_seq (pe_ix (u_ix hu1) (pv 1) pe_int (fun _ _ => rfl))) (blkOk_by (N := ["box", "own", "clock", "starts", "at", "offset", "step", "begin", "times", "named", "seen", "time", "rows", "gap", "fold", "some", "told", "both", "start", "turn", "moment"]) (sc := defScope s__law_rows_right) (own := [("start", 18), ("offset", 5)]) (by decide +kernel)) (fun _ _ _ _ _ => pg_sq rfl (pgs_cons (pg_name (i := 18) nd rfl (Or.inl rfl)) (pgs_cons (pg_name (i := 5) nd rfl (Or.inl rfl)) pgs_nil))) (fun _ _ _ _ _ => pts_nil) (fun _ _ _ _ _ => pv 18))) (pg_name (i := 3) nd rfl (Or.inl rfl)))
      (pss_cons (ps_asg (pe_ix (u_ix hu1) (pv 3) (pe_kn c__law_take hr (by decide) (by rfl) (pa_cons (pv 0) (pa_cons (pe_callB c_len (by rfl) T.n_len (by decide +kernel) (pa_cons (pv 3) pa_nil)) pa_nil))) (fun _ _ => rfl)) (pg_name (i := 4) nd rfl (Or.inl rfl)))
      (pss_cons (ps_asg (pe_tup (pa_cons (pe_kn c__law_offset hr (by decide) (by rfl) (pa_cons (pv 1) (pa_cons (pv 4) pa_nil))) (pa_cons (pe_ix (u_ix hu1) (pe_lst (pa_cons pe_int (pa_cons pe_int (pa_cons pe_int (pa_cons pe_int pa_nil))))) (pe_kn c__law_take hr (by decide) (by rfl) (pa_cons (pv 0) (pa_cons pe_int pa_nil))) (fun _ _ => rfl)) pa_nil))) (pg_sq rfl (pgs_cons (pg_name (i := 5) nd rfl (Or.inl rfl)) (pgs_cons (pg_name (i := 6) nd rfl (Or.inr rfl)) pgs_nil))))
      (pss_cons (ps_asg (pe_callB (c_max rfl) (by rfl) T.n_max (by decide +kernel) (pa_cons pe_int (pa_cons (pe_op u_sub (pe_op u_add (pv 4) (pv 5)) (pe_op u_mul pe_int (pv 6))) pa_nil))) (pg_name (i := 7) nd rfl (Or.inr rfl)))
      (pss_cons (ps_asg (pe_lc (own := [("turn", 19)]) rfl nd (pi_range1 (by rfl) T.n_range (pa_cons pe_int pa_nil)) (blkOk_by (N := ["box", "own", "clock", "starts", "at", "offset", "step", "begin", "times", "named", "seen", "time", "rows", "gap", "fold", "some", "told", "both", "start", "turn", "moment"]) (sc := defScope s__law_rows_right) (own := [("turn", 19)]) (by decide +kernel)) (fun _ _ _ _ _ => pg_name (i := 19) nd rfl (Or.inl rfl)) (fun _ _ _ _ _ => pts_nil) (fun _ _ _ _ _ => pe_op u_add (pv 7) (pe_op u_mul (pv 6) (pv 19)))) (pg_name (i := 8) nd rfl (Or.inr rfl)))
      (pss_cons (ps_par rfl nd rfl rfl (by decide) rfl rfl (pa_cons (pe_cmpR (u_eq hu64) (pe_kn c__law_take hr (by decide) (by rfl) (pa_cons (pv 0) (pa_cons pe_int pa_nil))) pe_int (nomark _)) (pa_cons (pe_lst pa_nil) pa_nil)) (by rfl))
      (pss_cons (ps_for (passes_of rfl) rfl (pi_seq (pv 8)) (pg_name (i := 11) nd rfl (Or.inl rfl)) (pss_cons (ps_asg pe_dnewT (pg_name (i := 12) nd rfl (Or.inl rfl)))
      (pss_cons (ps_for (passes_of rfl) rfl (pi_seq (pe_lst (pa_cons pe_str (pa_cons pe_str pa_nil)))) (pg_name (i := 13) nd rfl (Or.inl rfl)) (pss_one (ps_for (passes_of rfl) rfl (pi_seq (pe_lst (pa_cons pe_str (pa_cons pe_str (pa_cons pe_str pa_nil))))) (pg_name (i := 14) nd rfl (Or.inl rfl)) (pss_one (ps_asg (pe_kn c__law_due_moments hr (by decide) (by rfl) (pa_cons (pv 1) (pa_cons (pv 11) (pa_cons (pv 13) (pa_cons (pv 14) pa_nil))))) (pg_sub (pv 12) (pe_tup (pa_cons (pv 13) (pa_cons (pv 14) pa_nil))) (set_X hu1)))))))
      (pss_cons (ps_par rfl nd rfl rfl (by decide) rfl rfl (pa_cons (pe_ix (u_ix hu1) (pe_lst (pa_cons pe_str (pa_cons pe_str pa_nil))) (pe_kn c__law_take hr (by decide) (by rfl) (pa_cons (pv 0) (pa_cons pe_int pa_nil))) (fun _ _ => rfl)) (pa_cons (pe_ix (u_ix hu1) (pe_lst (pa_cons pe_str (pa_cons pe_str (pa_cons pe_str pa_nil)))) (pe_kn c__law_take hr (by decide) (by rfl) (pa_cons (pv 0) (pa_cons pe_int pa_nil))) (fun _ _ => rfl)) pa_nil)) (by rfl))
      (pss_cons (ps_for (passes_of rfl) rfl (pi_seq (pe_lst (pa_cons (pe_tup (pa_cons (pv 13) (pa_cons (pv 14) pa_nil))) (pa_cons (pe_tup (pa_cons pe_str (pa_cons pe_str pa_nil))) (pa_cons (pe_tup (pa_cons pe_str (pa_cons pe_str pa_nil))) pa_nil))))) (pg_name (i := 15) nd rfl (Or.inl rfl)) (pss_cons (ps_asg (pe_kn c__law_asked hr (by decide) (by rfl) (pa_cons (pv 9) (pa_cons (pv 2) (pa_cons (pv 11) (pa_cons (pe_ix (u_ix hu1) (pv 15) pe_int (fun _ _ => rfl)) (pa_cons (pe_ix (u_ix hu1) (pv 15) pe_int (fun _ _ => rfl)) pa_nil)))))) (pg_name (i := 16) nd rfl (Or.inl rfl)))
      (pss_cons (ps_if (pt_not (pt_tr (pe_kn c__law_same hr (by decide) (by rfl) (pa_cons (pv 16) (pa_cons (pe_lst (pa_cons pe_str (pa_cons (pe_ix (u_ix hu1) (pv 12) (pv 15) (fun _ _ => rfl)) pa_nil))) pa_nil))) (by intro _; rfl))) (pss_one (ps_ret pe_bl)) pss_nil)
      (pss_one (ps_expr (pe_bm PySem.F.plainAttrs_list PySem.F.slot_list_append PySem.F.type_list_append mt_append (pe_ix (u_ix hu1) (pv 16) pe_int (fun _ _ => rfl)) (pa_cons pe_non pa_nil)))))))
      (pss_cons (ps_asg (pe_not (pv 9)) (pg_name (i := 9) nd rfl (Or.inl rfl)))
      (pss_cons (ps_expr (pe_bm PySem.F.plainAttrs_list PySem.F.slot_list_extend PySem.F.type_list_extend mt_extend (pv 10) (pa_cons (pe_kx c_due_moments hr (by decide) (takes_of rfl rfl rfl rfl) (by rfl) (pa_cons (pv 2) (pa_cons (pv 11) (pa_cons pe_str (pa_cons pe_str pa_nil))))) pa_nil)))
      (pss_cons (ps_asg (pe_kx c_due_moments hr (by decide) (takes_of rfl rfl rfl rfl) (by rfl) (pa_cons (pv 2) (pa_cons (pv 11) (pa_cons pe_str (pa_cons pe_str pa_nil))))) (pg_name (i := 17) nd rfl (Or.inl rfl)))
      (pss_cons (ps_if (PW.pt (pw_or (pt_cmpR (u_ne hu64) (pe_kx c_due_moments hr (by decide) (takes_of rfl rfl rfl rfl) (by rfl) (pa_cons (pv 2) (pa_cons (pv 11) (pa_cons pe_str (pa_cons pe_str pa_nil))))) (pe_slice u_sl (pv 17) (po_some (pe_un u_neg pe_int)) po_none) (nomark _)) (pw_or1 (pt_cmpR (u_ne hu64) (pe_kx c_due_moments hr (by decide) (takes_of rfl rfl rfl rfl) (by rfl) (pa_cons (pv 2) (pa_cons (pv 11) (pa_cons pe_str (pa_cons pe_str pa_nil))))) (pe_slice u_sl (pv 17) po_none (po_some pe_int)) (nomark _))))) (pss_one (ps_ret pe_bl)) pss_nil)
      (pss_one (ps_if (PW.pt (pw_and (pt_cmpR u_ge (pv 11) (pe_ix (u_ix hu1) (pv 1) pe_int (fun _ _ => rfl)) (nomark _)) (pw_and1 (pt_cmpR (u_ne hu64) (pe_callB c_len (by rfl) T.n_len (by decide +kernel) (pa_cons (pe_kx c_due_moments hr (by decide) (takes_of rfl rfl rfl rfl) (by rfl) (pa_cons (pv 2) (pa_cons (pv 11) (pa_cons pe_str (pa_cons pe_str pa_nil))))) pa_nil)) pe_int (nomark _))))) (pss_one (ps_ret pe_bl)) pss_nil)))))))))))
      (pss_one (ps_ret (pe_and (pe_cmpR (u_eq hu64) (RZ.pe_lenSetI (by rfl) T.n_len (by rfl) T.n_set (pv 10)) (pe_callB c_len (by rfl) T.n_len (by decide +kernel) (pa_cons (pv 10) pa_nil)) (nomark _)) (pe_one (pe_cmpR (u_eq hu64) (pe_lc (own := [("moment", 20)]) rfl nd (pi_seq (pv 10)) (blkOk_by (N := ["box", "own", "clock", "starts", "at", "offset", "step", "begin", "times", "named", "seen", "time", "rows", "gap", "fold", "some", "told", "both", "start", "turn", "moment"]) (sc := defScope s__law_rows_right) (own := [("moment", 20)]) (by decide +kernel)) (fun _ _ _ _ _ => pg_name (i := 20) nd rfl (Or.inl rfl)) (fun _ _ _ _ _ => pts_one (pt_cmpR (u_ninX hu65) (pe_op u_add (pv 20) (pe_kn c__law_offset hr (by decide) (by rfl) (pa_cons (pv 1) (pa_cons (pv 20) pa_nil)))) (pv 8) (by with_unfolding_all rfl))) (fun _ _ _ _ _ => pv 20)) (pe_lst pa_nil) (nomark _))))))))))))
/-! _law_far_right: 0 box, 1 own, 2 clock, 3 last, 4 time, 5 low -/
abbrev s__law_far_right : Stmt := top 51
abbrev N__law_far_right : List Str := ["box", "own", "clock", "last", "time", "low"]
theorem sc__law_far_right : FnScope ["box", "own", "clock", "last", "time", "low"] ["box", "own", "clock"] (defScope s__law_far_right) := ⟨rfl, rfl, rfl, by decide +kernel, rfl, by decide +kernel, by decide +kernel⟩
abbrev t__law_far_right (K : PySem.W.Frag) (E : XK) : TS :=
  tSeq (tAsg (tIf (tTest (tOp (uNe K) (tOp (uIx K) (tVar 1) (tC (.int 1))) (tLst tNil))) (tOp (uIx K) (tOp (uIx K) (tOp (uIx K) (tVar 1) (tC (.int 1))) (tUn uNeg (tC (.int 1)))) (tC (.int 1))) (tOp (uIx K) (tVar 1) (tC (.int 0)))) (gName 3))
    (tSeq (tAsg (tOp uSub (tOp uPow (tC (.int 10)) (tC (.int 15))) (tKn (sp__law_take K) (tCons (tVar 0) (tCons (tC (.int 10)) tNil)))) (gName 4))
    (tSeq (tIfS (tNot (tTr K (tKn (sp_sameS K) (tCons (tKx (sp_due_moments K) (W0 E) (tCons (tVar 2) (tCons (tVar 4) (tCons (tC (.str "after")) (tCons (tC (.str "both")) tNil))))) (tCons (tLst (tCons (tOp uSub (tVar 4) (tVar 3)) tNil)) tNil))))) (tRet (tC (.bl false))) tNext)
    (tSeq (tAsg (tLc (iSeq K (tLst (tCons (tC (.int 0)) (tCons (tC (.int 1)) (tCons (tOp uSub (tOp (uIx K) (tVar 1) (tC (.int 0))) (tC (.int 1))) (tCons (tOp (uIx K) (tVar 1) (tC (.int 0))) (tCons (tOp (uAdd K) (tOp (uIx K) (tVar 1) (tC (.int 0))) (tC (.int 1))) tNil))))))) (gName 4) (tTest (tOp uGe (tVar 4) (tC (.int 0)))) (tVar 4) [4]) (gName 5))
    (tRet (tOp (uEq K) (tLc (iSeq K (tVar 5)) (gName 4) (tNot (tTr K (tKn (sp_sameS K) (tCons (tKn (sp_due_moments K) (tCons (tVar 2) (tCons (tVar 4) (tCons (tC (.str "after")) (tCons (tC (.str "last")) tNil))))) (tCons (tKn (sp__law_due_moments K) (tCons (tVar 1) (tCons (tVar 4) (tCons (tC (.str "after")) (tCons (tC (.str "last")) tNil))))) tNil))))) (tVar 4) [4]) (tLst tNil))))))
theorem d__law_far_right {P : Program} {w : World} {K : PySem.W.Frag} {mg : Str → Option Value} {base : Heap} (T : Tx P K mg) (c__law_due_moments : Kn P w K mg base 5 "_law_due_moments" ["clock", "time", "gap", "fold"] (sp__law_due_moments K))
    (c__law_same : Kn P w K mg base 40 "_law_same" ["told", "due"] (sp_sameS K))
    (c__law_take : Kn P w K mg base 3 "_law_take" ["box", "many"] (sp__law_take K))
    (c_due_moments : Kn P w K mg base 7 "due_moments" ["clock", "time", "gap", "fold"] (sp_due_moments K))
    {f : Addr} {cdv : Value} {A : Around} {outer : List Env} {s : Shared} {H : Hp} {E : XK} (hr : Room 40 (A.deeper (envOfC "_law_far_right" (defScope s__law_far_right) s.heap.objs.size f cdv))) :
    PSs (cxOf (L2.CX P w) P w K mg base ["box", "own", "clock", "last", "time", "low"] "_law_far_right" (defScope s__law_far_right) f cdv A outer s H E) (defBody s__law_far_right) (t__law_far_right K E) := by
  have nd := sc__law_far_right.nd
  have hu0 := hu0_of hr
  have hu1 := hu_of hr
  have hu64 := hu64_of hr
  have hu65 := hu65_of hr
  exact pss_cons (ps_asg (pe_ifExp (pt_cmpR (u_ne hu64) (pe_ix (u_ix hu1) (pv 1) pe_int (fun _ _ => rfl)) (pe_lst pa_nil) (nomark _)) (pe_ix (u_ix hu1) (pe_ix (u_ix hu1) (pe_ix (u_ix hu1) (pv 1) pe_int (fun _ _ => rfl)) (pe_un u_neg pe_int) (fun _ _ => rfl)) pe_int (fun _ _ => rfl)) (pe_ix (u_ix hu1) (pv 1) pe_int (fun _ _ => rfl))) (pg_name (i := 3) nd rfl (Or.inl rfl)))
      (pss_cons (ps_asg (pe_op u_sub (pe_op u_pow pe_int pe_int) (pe_kn c__law_take hr (by decide) (by rfl) (pa_cons (pv 0) (pa_cons pe_int pa_nil)))) (pg_name (i := 4) nd rfl (Or.inl rfl)))
      (pss_cons (ps_if (pt_not (pt_tr (pe_kn c__law_same hr (by decide) (by rfl) (pa_cons (pe_kx c_due_moments hr (by decide) (takes_of rfl rfl rfl rfl) (by rfl) (pa_cons (pv 2) (pa_cons (pv 4) (pa_cons pe_str (pa_cons pe_str pa_nil))))) (pa_cons (pe_lst (pa_cons (pe_op u_sub (pv 4) (pv 3)) pa_nil)) pa_nil))) (by intro _; rfl))) (pss_one (ps_ret pe_bl)) pss_nil)
      (pss_cons (ps_setLc (i := 5) (own := [("time", 4)]) rfl nd rfl rfl (sw_true rfl rfl rfl (by decide +kernel)) (pi_seq (pe_lst (pa_cons pe_int (pa_cons pe_int (pa_cons (pe_op u_sub (pe_ix (u_ix hu1) (pv 1) pe_int (fun _ _ => rfl)) pe_int) (pa_cons (pe_ix (u_ix hu1) (pv 1) pe_int (fun _ _ => rfl)) (pa_cons (pe_op u_add (pe_ix (u_ix hu1) (pv 1) pe_int (fun _ _ => rfl)) pe_int) pa_nil))))))) (blkOk_by (N := ["box", "own", "clock", "last", "time", "low"]) (sc := defScope s__law_far_right) (own := [("time", 4)]) (by decide +kernel)) (fun _ _ _ _ _ => pg_name (i := 4) nd rfl (Or.inl rfl)) (fun _ _ _ _ _ => pts_one (pt_cmpR u_ge (pv 4) pe_int (nomark _))) (fun _ _ _ _ _ => pv 4))
      (pss_one (ps_ret (pe_cmpR (u_eq hu64) (pe_lc (own := [("time", 4)]) rfl nd (pi_seq (pv 5)) (blkOk_by (N := ["box", "own", "clock", "last", "time", "low"]) (sc := defScope s__law_far_right) (own := [("time", 4)]) (by decide +kernel)) (fun _ _ _ _ _ => pg_name (i := 4) nd rfl (Or.inl rfl)) (fun _ _ _ _ _ => pts_one (pt_not (pt_tr (pe_kn c__law_same hr (by decide) (by rfl) (pa_cons (pe_kn c_due_moments hr (by decide) (by rfl) (pa_cons (pv 2) (pa_cons (pv 4) (pa_cons pe_str (pa_cons pe_str pa_nil))))) (pa_cons (pe_kn c__law_due_moments hr (by decide) (by rfl) (pa_cons (pv 1) (pa_cons (pv 4) (pa_cons pe_str (pa_cons pe_str pa_nil))))) pa_nil))) (by intro _; rfl)))) (fun _ _ _ _ _ => pv 4)) (pe_lst pa_nil) (nomark _)))))))
/-! _law_refusals_right: 0 box, 1 own, 2 clock, 3 none, 4 bad, 5 gap, 6 fold, 7 named, 8 told -/
abbrev s__law_refusals_right : Stmt := top 52
abbrev N__law_refusals_right : List Str := ["box", "own", "clock", "none", "bad", "gap", "fold", "named", "told"]
theorem sc__law_refusals_right : FnScope ["box", "own", "clock", "none", "bad", "gap", "fold", "named", "told"] ["box", "own", "clock"] (defScope s__law_refusals_right) := ⟨rfl, rfl, rfl, by decide +kernel, rfl, by decide +kernel, by decide +kernel⟩
abbrev t__law_refusals_right (K : PySem.W.Frag) (E : XK) : TS :=
  tSeq (tAsg (tOp (uIx K) (tLst (tCons (tC .non) (tCons (tOp (uIx K) (tVar 1) (tC (.int 0))) (tCons (tTup (tCons (tOp (uIx K) (tVar 1) (tC (.int 0))) (tCons (tTup tNil) tNil))) (tCons (tC (.str "clock")) (tCons (tC (.bl true)) tNil)))))) (tKn (sp__law_take K) (tCons (tVar 0) (tCons (tC (.int 5)) tNil)))) (gName 3))
    (tSeq (tPar3 4 5 6 (tCons (tOp (uIx K) (tLst (tCons (tUn uNeg (tC (.int 1))) (tCons (tOp (uAdd K) (tOp uPow (tC (.int 10)) (tC (.int 15))) (tC (.int 1))) (tCons (tC .non) (tCons (tC (.bl true)) tNil))))) (tKn (sp__law_take K) (tCons (tVar 0) (tCons (tC (.int 4)) tNil)))) (tCons (tOp (uIx K) (tLst (tCons (tC (.str "")) (tCons (tC (.str "AFTER")) (tCons (tC .non) (tCons (tC (.str "first")) (tCons (tC (.int 1)) tNil)))))) (tKn (sp__law_take K) (tCons (tVar 0) (tCons (tC (.int 5)) tNil)))) (tCons (tOp (uIx K) (tLst (tCons (tC (.str "none")) (tCons (tC (.str "skip")) (tCons (tC .non) (tCons (tC (.int 0)) (tCons (tTup (tCons (tC (.str "first")) tNil)) tNil)))))) (tKn (sp__law_take K) (tCons (tVar 0) (tCons (tC (.int 5)) tNil)))) tNil))))
    (tSeq (tAsg (tOp (uEq K) (tKn (sp__law_take K) (tCons (tVar 0) (tCons (tC (.int 2)) tNil))) (tC (.int 0))) (gName 7))
    (tSeq (tAsg (tLst (tCons (tKn (sp__law_asked K) (tCons (tVar 7) (tCons (tVar 3) (tCons (tVar 4) (tCons (tVar 5) (tCons (tVar 6) tNil)))))) (tCons (tKn (sp__law_asked K) (tCons (tNotV (tVar 7)) (tCons (tVar 2) (tCons (tVar 4) (tCons (tVar 5) (tCons (tVar 6) tNil)))))) (tCons (tKn (sp__law_asked K) (tCons (tVar 7) (tCons (tVar 2) (tCons (tC (.int 5)) (tCons (tVar 5) (tCons (tVar 6) tNil)))))) (tCons (tKn (sp__law_asked K) (tCons (tNotV (tVar 7)) (tCons (tVar 2) (tCons (tC (.int 5)) (tCons (tC (.str "skip")) (tCons (tVar 6) tNil)))))) tNil))))) (gName 8))
    (tRet (tKn (sp_sameS K) (tCons (tVar 8) (tCons (tLst (tCons (tLst (tCons (tC (.str "clock")) (tCons (tVar 3) tNil))) (tCons (tLst (tCons (tC (.str "time")) (tCons (tVar 4) tNil))) (tCons (tLst (tCons (tC (.str "gap")) (tCons (tVar 5) tNil))) (tCons (tLst (tCons (tC (.str "fold")) (tCons (tVar 6) tNil))) tNil))))) tNil)))))))
theorem d__law_refusals_right {P : Program} {w : World} {K : PySem.W.Frag} {mg : Str → Option Value} {base : Heap} (T : Tx P K mg) (c__law_asked : Kn P w K mg base 8 "_law_asked" ["named", "clock", "time", "gap", "fold"] (sp__law_asked K))
    (c__law_same : Kn P w K mg base 40 "_law_same" ["told", "due"] (sp_sameS K))
    (c__law_take : Kn P w K mg base 3 "_law_take" ["box", "many"] (sp__law_take K))
    {f : Addr} {cdv : Value} {A : Around} {outer : List Env} {s : Shared} {H : Hp} {E : XK} (hr : Room 40 (A.deeper (envOfC "_law_refusals_right" (defScope s__law_refusals_right) s.heap.objs.size f cdv))) :
    PSs (cxOf (L2.CX P w) P w K mg base ["box", "own", "clock", "none", "bad", "gap", "fold", "named", "told"] "_law_refusals_right" (defScope s__law_refusals_right) f cdv A outer s H E) (defBody s__law_refusals_right) (t__law_refusals_right K E) := by
  have nd := sc__law_refusals_right.nd
  have hu0 := hu0_of hr
  have hu1 := hu_of hr
  have hu64 := hu64_of hr
  have hu65 := hu65_of hr
  exact pss_cons (ps_asg (pe_ix (u_ix hu1) (pe_lst (pa_cons pe_non (pa_cons (pe_ix (u_ix hu1) (pv 1) pe_int (fun _ _ => rfl)) (pa_cons (pe_tup (pa_cons (pe_ix (u_ix hu1) (pv 1) pe_int (fun _ _ => rfl)) (pa_cons (pe_tup pa_nil) pa_nil))) (pa_cons pe_str (pa_cons pe_bl pa_nil)))))) (pe_kn c__law_take hr (by decide) (by rfl) (pa_cons (pv 0) (pa_cons pe_int pa_nil))) (fun _ _ => rfl)) (pg_name (i := 3) nd rfl (Or.inl rfl)))
      (pss_cons (ps_par3 rfl nd rfl rfl rfl (by decide) (by decide) (by decide) rfl rfl rfl (pa_cons (pe_ix (u_ix hu1) (pe_lst (pa_cons (pe_un u_neg pe_int) (pa_cons (pe_op u_add (pe_op u_pow pe_int pe_int) pe_int) (pa_cons pe_non (pa_cons pe_bl pa_nil))))) (pe_kn c__law_take hr (by decide) (by rfl) (pa_cons (pv 0) (pa_cons pe_int pa_nil))) (fun _ _ => rfl)) (pa_cons (pe_ix (u_ix hu1) (pe_lst (pa_cons pe_str (pa_cons pe_str (pa_cons pe_non (pa_cons pe_str (pa_cons pe_int pa_nil)))))) (pe_kn c__law_take hr (by decide) (by rfl) (pa_cons (pv 0) (pa_cons pe_int pa_nil))) (fun _ _ => rfl)) (pa_cons (pe_ix (u_ix hu1) (pe_lst (pa_cons pe_str (pa_cons pe_str (pa_cons pe_non (pa_cons pe_int (pa_cons (pe_tup (pa_cons pe_str pa_nil)) pa_nil)))))) (pe_kn c__law_take hr (by decide) (by rfl) (pa_cons (pv 0) (pa_cons pe_int pa_nil))) (fun _ _ => rfl)) pa_nil))) (by rfl))
      (pss_cons (ps_asg (pe_cmpR (u_eq hu64) (pe_kn c__law_take hr (by decide) (by rfl) (pa_cons (pv 0) (pa_cons pe_int pa_nil))) pe_int (nomark _)) (pg_name (i := 7) nd rfl (Or.inl rfl)))
      (pss_cons (ps_asg (pe_lst (pa_cons (pe_kn c__law_asked hr (by decide) (by rfl) (pa_cons (pv 7) (pa_cons (pv 3) (pa_cons (pv 4) (pa_cons (pv 5) (pa_cons (pv 6) pa_nil)))))) (pa_cons (pe_kn c__law_asked hr (by decide) (by rfl) (pa_cons (pe_not (pv 7)) (pa_cons (pv 2) (pa_cons (pv 4) (pa_cons (pv 5) (pa_cons (pv 6) pa_nil)))))) (pa_cons (pe_kn c__law_asked hr (by decide) (by rfl) (pa_cons (pv 7) (pa_cons (pv 2) (pa_cons pe_int (pa_cons (pv 5) (pa_cons (pv 6) pa_nil)))))) (pa_cons (pe_kn c__law_asked hr (by decide) (by rfl) (pa_cons (pe_not (pv 7)) (pa_cons (pv 2) (pa_cons pe_int (pa_cons pe_str (pa_cons (pv 6) pa_nil)))))) pa_nil))))) (pg_name (i := 8) nd rfl (Or.inl rfl)))
      (pss_one (ps_ret (pe_kn c__law_same hr (by decide) (by rfl) (pa_cons (pv 8) (pa_cons (pe_lst (pa_cons (pe_lst (pa_cons pe_str (pa_cons (pv 3) pa_nil))) (pa_cons (pe_lst (pa_cons pe_str (pa_cons (pv 4) pa_nil))) (pa_cons (pe_lst (pa_cons pe_str (pa_cons (pv 5) pa_nil))) (pa_cons (pe_lst (pa_cons pe_str (pa_cons (pv 6) pa_nil))) pa_nil))))) pa_nil))))))))
/-! law: 0 script, 1 k, 2 box, 3 own, 4 clock, 5 turn -/
abbrev s_law : Stmt := top 53
abbrev N_law : List Str := ["script", "k", "box", "own", "clock", "turn"]
theorem sc_law : FnScope ["script", "k", "box", "own", "clock", "turn"] ["script"] (defScope s_law) := ⟨rfl, rfl, rfl, by decide +kernel, rfl, by decide +kernel, by decide +kernel⟩
abbrev t_law (K : PySem.W.Frag) (E : XK) : TS :=
  tSeq (tFor (iRng1 (tCons (tCB uMax (tCons (tC (.int 2)) (tCons (tCB uMin (tCons (tC (.int 3)) (tCons (tCB (uLen K) (tCons (tVar 0) tNil)) tNil))) tNil))) tNil)) (gName 1) (tSeq (tAsg (tKn (sp__law_box K) (tCons (tKn (sp__law_cell K) (tCons (tVar 0) (tCons (tVar 1) tNil))) tNil)) (gName 2))
    (tSeq (tAsg (tKn (sp__law_clock K) (tCons (tVar 2) tNil)) (gName 3))
    (tSeq (tAsg (tKc (He.ga K "Clock") (sp_Clock___init__ K) (W0 E) (tCons (tOp (uIx K) (tVar 3) (tC (.int 0))) (tCons (tCB (uList K) (tCons (tOp (uIx K) (tVar 3) (tC (.int 1))) tNil)) tNil))) (gName 4))
    (tSeq (tFor (iRng1 (tCons (tC (.int 2)) tNil)) (gName 5) (tIfS (tNot (tTr K (tKx (sp__law_rows_right K) (W0 E) (tCons (tVar 2) (tCons (tVar 3) (tCons (tVar 4) tNil)))))) (tRet (tC (.bl false))) tNext))
    (tIfS (tOr (tNot (tTr K (tKx (sp__law_far_right K) (W0 E) (tCons (tVar 2) (tCons (tVar 3) (tCons (tVar 4) tNil)))))) (tNot (tTr K (tKn (sp__law_refusals_right K) (tCons (tVar 2) (tCons (tVar 3) (tCons (tVar 4) tNil))))))) (tRet (tC (.bl false))) tNext))))))
    (tRet (tC (.bl true)))
theorem d_law {P : Program} {w : World} {K : PySem.W.Frag} {mg : Str → Option Value} {base : Heap} (T : Tx P K mg) (i_Clock : Kc P w K mg base 8 "Clock" (He.ga K "Clock") ["self", "offset", "changes"] (sp_Clock___init__ K))
    (c__law_box : Kn P w K mg base 3 "_law_box" ["great"] (sp__law_box K))
    (c__law_cell : Kn P w K mg base 3 "_law_cell" ["script", "k"] (sp__law_cell K))
    (c__law_clock : Kn P w K mg base 4 "_law_clock" ["box"] (sp__law_clock K))
    (c__law_far_right : Kn P w K mg base 41 "_law_far_right" ["box", "own", "clock"] (sp__law_far_right K))
    (c__law_refusals_right : Kn P w K mg base 41 "_law_refusals_right" ["box", "own", "clock"] (sp__law_refusals_right K))
    (c__law_rows_right : Kn P w K mg base 41 "_law_rows_right" ["box", "own", "clock"] (sp__law_rows_right K))
    {f : Addr} {cdv : Value} {A : Around} {outer : List Env} {s : Shared} {H : Hp} {E : XK} (hr : Room 41 (A.deeper (envOfC "law" (defScope s_law) s.heap.objs.size f cdv))) :
    PSs (cxOf (L2.CX P w) P w K mg base ["script", "k", "box", "own", "clock", "turn"] "law" (defScope s_law) f cdv A outer s H E) (defBody s_law) (t_law K E) := by
  have nd := sc_law.nd
  have hu0 := hu0_of hr
  have hu1 := hu_of hr
  have hu64 := hu64_of hr
  have hu65 := hu65_of hr
  exact pss_cons (ps_for (passes_of rfl) rfl (pi_range1 (by rfl) T.n_range (pa_cons (pe_callB (c_max rfl) (by rfl) T.n_max (by decide +kernel) (pa_cons pe_int (pa_cons (pe_callB (c_min rfl) (by rfl) T.n_min (by decide +kernel) (pa_cons pe_int (pa_cons (pe_callB c_len (by rfl) T.n_len (by decide +kernel) (pa_cons (pv 0) pa_nil)) pa_nil))) pa_nil))) pa_nil)) (pg_name (i := 1) nd rfl (Or.inl rfl)) (pss_cons (ps_asg (pe_kn c__law_box hr (by decide) (by rfl) (pa_cons (pe_kn c__law_cell hr (by decide) (by rfl) (pa_cons (pv 0) (pa_cons (pv 1) pa_nil))) pa_nil)) (pg_name (i := 2) nd rfl (Or.inl rfl)))
      (pss_cons (ps_asg (pe_kn c__law_clock hr (by decide) (by rfl) (pa_cons (pv 2) pa_nil)) (pg_name (i := 3) nd rfl (Or.inl rfl)))
      (pss_cons (ps_asg (pe_kc i_Clock hr (by decide) (takes_of rfl rfl rfl rfl) (by rfl) (pa_cons (pe_ix (u_ix hu1) (pv 3) pe_int (fun _ _ => rfl)) (pa_cons (pe_callTy (c_list rfl) (by rfl) T.n_list (by decide +kernel) (pa_cons (pe_ix (u_ix hu1) (pv 3) pe_int (fun _ _ => rfl)) pa_nil)) pa_nil))) (pg_name (i := 4) nd rfl (Or.inl rfl)))
      (pss_cons (ps_for (passes_of rfl) rfl (pi_range1 (by rfl) T.n_range (pa_cons pe_int pa_nil)) (pg_name (i := 5) nd rfl (Or.inl rfl)) (pss_one (ps_if (pt_not (pt_tr (pe_kx c__law_rows_right hr (by decide) (takes_of rfl rfl rfl rfl) (by rfl) (pa_cons (pv 2) (pa_cons (pv 3) (pa_cons (pv 4) pa_nil)))) (by intro _; rfl))) (pss_one (ps_ret pe_bl)) pss_nil)))
      (pss_one (ps_if (PW.pt (pw_or (pt_not (pt_tr (pe_kx c__law_far_right hr (by decide) (takes_of rfl rfl rfl rfl) (by rfl) (pa_cons (pv 2) (pa_cons (pv 3) (pa_cons (pv 4) pa_nil)))) (by intro _; rfl))) (pw_or1 (pt_not (pt_tr (pe_kn c__law_refusals_right hr (by decide) (by rfl) (pa_cons (pv 2) (pa_cons (pv 3) (pa_cons (pv 4) pa_nil)))) (by intro _; rfl)))))) (pss_one (ps_ret pe_bl)) pss_nil)))))))
      (pss_one (ps_ret pe_bl))
/-! Clock___init__: 0 self, 1 offset, 2 changes, 3 first, 4 _, 5 here -/
abbrev s_Clock___init__ : Stmt := mth 32 0
abbrev N_Clock___init__ : List Str := ["self", "offset", "changes", "first", "_", "here"]
theorem sc_Clock___init__ : FnScope ["self", "offset", "changes", "first", "_", "here"] ["self", "offset", "changes"] (defScope s_Clock___init__) := ⟨rfl, rfl, rfl, by decide +kernel, rfl, by decide +kernel, by decide +kernel⟩
abbrev t_Clock___init__ (K : PySem.W.Frag) (E : XK) : TS :=
  tSeq (tIfS (tNot (tTr K (tKn (sp_is_offset K) (tCons (tVar 1) tNil)))) (tRaiseDue (He.ga K "InvalidOffset") (W0 E) (tCons (tVar 1) tNil)) tNext)
    (tSeq (tIfS (tNot (tTr K (tKn (sp_are_changes K) (tCons (tVar 2) tNil)))) (tRaiseDue (He.ga K "InvalidChanges") (W0 E) (tCons (tVar 2) tNil)) tNext)
    (tSeq (sFld K (tVar 0) (tVar 1) "offset")
    (tSeq (sFld K (tVar 0) (tKn (sp_ranges_of K) (tCons (tVar 1) (tCons (tVar 2) tNil))) "ranges")
    (sFld K (tVar 0) (tCB (uTuple K) (tCons (tLc (iSeq K (tSl (uSl K) (tFld K (tVar 0) "ranges") (tPart (tC (.int 1))) tNoPart)) (gSq K 3 (gCons (gName 3) (gCons (gName 4) (gCons (gName 5) gNil)))) tYes (tTup (tCons (tVar 3) (tCons (tVar 5) tNil))) [3, 4, 5]) tNil)) "changes"))))
theorem d_Clock___init__ {P : Program} {w : World} {K : PySem.W.Frag} {mg : Str → Option Value} {base : Heap} (T : Tx P K mg) (c_are_changes : Kn P w K mg base 7 "are_changes" ["value"] (sp_are_changes K))
    (c_is_offset : Kn P w K mg base 5 "is_offset" ["value"] (sp_is_offset K))
    (c_ranges_of : Kn P w K mg base 3 "ranges_of" ["offset", "changes"] (sp_ranges_of K))
    {f : Addr} {cdv : Value} {A : Around} {outer : List Env} {s : Shared} {H : Hp} {E : XK} (hr : Room 7 (A.deeper (envOfC "Clock.__init__" (defScope s_Clock___init__) s.heap.objs.size f cdv))) :
    PSs (cxOf (L2.CX P w) P w K mg base ["self", "offset", "changes", "first", "_", "here"] "Clock.__init__" (defScope s_Clock___init__) f cdv A outer s H E) (defBody s_Clock___init__) (t_Clock___init__ K E) := by
  have nd := sc_Clock___init__.nd
  have hu0 := hu0_of hr
  have hu1 := hu_of hr
  have hu64 := hu64_of hr
  have hu65 := hu65_of hr
  exact pss_cons (ps_if (pt_not (pt_tr (pe_kn c_is_offset hr (by decide) (by rfl) (pa_cons (pv 1) pa_nil)) (by intro _; rfl))) (pss_one (ps_raiseDue rfl T.due T.x_InvalidOffset hr T.g_InvalidOffset T.n_super (takes_of rfl rfl rfl rfl) (pa_cons (pv 1) pa_nil))) pss_nil)
      (pss_cons (ps_if (pt_not (pt_tr (pe_kn c_are_changes hr (by decide) (by rfl) (pa_cons (pv 2) pa_nil)) (by intro _; rfl))) (pss_one (ps_raiseDue rfl T.due T.x_InvalidChanges hr T.g_InvalidChanges T.n_super (takes_of rfl rfl rfl rfl) (pa_cons (pv 2) pa_nil))) pss_nil)
      (pss_cons (ps_fld (pv 0) (pv 1) rfl)
      (pss_cons (ps_fld (pv 0) (pe_kn c_ranges_of hr (by decide) (by rfl) (pa_cons (pv 1) (pa_cons (pv 2) pa_nil))) rfl)
      (pss_one (ps_fld (pv 0) (pe_callTy c_tuple (by rfl) T.n_tuple (by decide +kernel) (pa_cons (pe_lc (own := [("first", 3), ("_", 4), ("here", 5)]) rfl nd (pi_seq (pe_slice u_sl (pe_fld (pv 0) rfl) (po_some pe_int) po_none)) (blkOk_by (N := ["self", "offset", "changes", "first", "_", "here"]) (sc := defScope s_Clock___init__) (own := [("first", 3), ("_", 4), ("here", 5)]) (by decide +kernel)) (fun _ _ _ _ _ => pg_sq rfl (pgs_cons (pg_name (i := 3) nd rfl (Or.inl rfl)) (pgs_cons (pg_name (i := 4) nd rfl (Or.inl rfl)) (pgs_cons (pg_name (i := 5) nd rfl (Or.inl rfl)) pgs_nil)))) (fun _ _ _ _ _ => pts_nil) (fun _ _ _ _ _ => pe_tup (pa_cons (pv 3) (pa_cons (pv 5) pa_nil)))) pa_nil)) rfl)))))
end My
set_option linter.all false
set_option maxRecDepth 100000
set_option maxHeartbeats 4000000
namespace My
open PySem PySem.Spec PyProof.Rows L2 Kx
local macro_rules | `(tactic| walk_at "lk") => `(tactic| first | assumption | ((with_reducible show upd _ _ _ _ = _); (first | exact upd_same | (exact up_new (by assumption) (by walk_at "lk")) | (exact up_other (by assumption) (by walk_at "lk")))) | (exact (by assumption : Same _ _) _ _ (by walk_at "lk")) | (exact ks_get (by assumption) (by walk_at "lk") (by first | rfl | assumption | exact notBox_len rfl)))
local macro_rules | `(tactic| walk_at "sl") => `(tactic| first | assumption | (exact l_of (by walk_at "lk")) | (exact Same.seq (by assumption) (by walk_at "sl")) | ((with_reducible show SqL _ (upd _ _ _) _ _); (exact Same.seq (sm_new (by assumption)) (by walk_at "sl"))))
local macro_rules | `(tactic| walk_at "st") => `(tactic| first | assumption | (exact t_of (by walk_at "lk")) | (exact Kx.Same.tup (by assumption) (by walk_at "st")) | ((with_reducible show SqT _ (upd _ _ _) _ _); (exact Kx.Same.tup (sm_new (by assumption)) (by walk_at "st"))) | (exact ks_tup (by assumption) (by walk_at "st")))
local macro_rules | `(tactic| walk_at "kd") => `(tactic| first | assumption | exact .non | exact .bl _ | exact .int _ | exact .str _ | (exact .lst (by walk_at "sl")) | (exact .tup (by walk_at "st")) | (exact .dic (by walk_at "lk")) | (exact Kd.same (by assumption) (by walk_at "kd")) | ((with_reducible show Kd _ (upd _ _ _) _ _); (exact Kd.same (sm_new (by assumption)) (by walk_at "kd"))))
local macro_rules | `(tactic| walk_at "tt") => `(tactic| first | rfl | assumption | decide +kernel | (simp only [decide_eq_true_eq, Bool.not_eq_true', decide_eq_false_iff_not, Bool.and_eq_true, Bool.or_eq_true]; omega))
local macro_rules | `(tactic| walk_at "ff") => `(tactic| first | rfl | assumption | decide +kernel | (simp only [decide_eq_true_eq, Bool.not_eq_false', decide_eq_false_iff_not, Bool.and_eq_false_imp, Bool.or_eq_false_iff]; omega))
local macro_rules | `(tactic| walk_at "hc") => `(tactic| fail)
local macro_rules | `(tactic| walk_at "hif") => `(tactic| ((with_reducible refine w_b2 ?_ ?_) <;> intro))
local macro_rules | `(tactic| walk_at "hs1") => `(tactic| first
  | (with_reducible refine w_seq ?_)
  | (with_reducible refine w_asg ?_)
  | ((with_reducible refine' w_var ?k1 ?_); (case k1 => exact rfl))
  | (with_reducible refine w_c ?_)
  | (with_reducible refine w_op ?_)
  | (with_reducible refine w_cons ?_)
  | (with_reducible refine w_nil ?_)
  | (with_reducible refine w_name ?_)
  | (with_reducible refine w_kn ?_)
  | (with_reducible refine w_kx ?_)
  | (with_reducible refine w_kk ?_)
  | (with_reducible refine w_cb ?_)
  | (with_reducible refine w_if ?_)
  | (with_reducible refine w_test ?_)
  | (with_reducible refine w_exb ?_)
  | (with_reducible refine iteT ?_)
  | (with_reducible refine iteF ?_)
  | ((with_reducible refine w_bt ?_ ?_); (first | rfl | decide +kernel))
  | ((with_reducible refine w_bf ?_ ?_); (first | rfl | decide +kernel))
  | ((with_reducible refine w_bt ?_ ?_); (walk_at "tt"))
  | ((with_reducible refine w_bf ?_ ?_); (walk_at "ff"))
  | (with_reducible refine w_ret ?_)
  | (with_reducible refine w_retN ?_)
  | (with_reducible refine w_drop ?_)
  | (with_reducible refine w_next ?_)
  | (with_reducible refine w_brk ?_)
  | (with_reducible refine w_cont ?_)
  | (with_reducible refine w_and ?_)
  | (with_reducible refine w_or ?_)
  | (with_reducible refine w_not ?_)
  | (with_reducible refine w_tr ?_)
  | (with_reducible refine w_yes ?_)
  | (with_reducible refine w_tru_bl ?_)
  | (with_reducible refine w_tru_int ?_)
  | (with_reducible refine w_tru_non ?_)
  | (with_reducible refine w_andV ?_)
  | (with_reducible refine w_orV ?_)
  | (with_reducible refine w_notV ?_)
  | (with_reducible refine w_ifx ?_)
  | (with_reducible refine w_chain ?_)
  | (with_reducible refine w_un ?_)
  | (with_reducible refine n_tup ?_)
  | (with_reducible refine n_lst ?_)
  | ((with_reducible show kTup _ _ _); (refine n_ktup rfl ?_); intro _ _ _ _ _)
  | ((with_reducible show kLst _ _ _); (refine n_klst rfl ?_); intro _ _ _ _ _)
  | (with_reducible refine w_par ?_)
  | (with_reducible refine w_par2 ?_)
  | (with_reducible refine w_par3 ?_)
  | (with_reducible refine w_par33 ?_)
  | ((with_reducible refine' w_aug ?k1 ?_); (case k1 => exact rfl))
  | (with_reducible refine w_raise ?_)
  | (with_reducible refine w_mkdue ?_)
  | (with_reducible refine w_one ?_)
  | ((with_reducible show gSq _ _ _ (V.ref _) _ _ _); (first | (refine n_gsq (by walk_at "lk") (by exact rfl) (by exact rfl) ?_) | (refine w_gtup (by walk_at "st") (by exact rfl) ?_) | (refine w_glst (by walk_at "sl") (by exact rfl) ?_)))
  | (with_reducible refine w_gcons ?_)
  | (with_reducible refine w_gnil ?_)
  | (with_reducible refine w_bm ?_)
  | ((with_reducible show tyV _ "list" (V.ref _) _ ∧ _); (refine w_tyl (by walk_at "sl") ?_))
  | (with_reducible refine w_for ?_)
  | (with_reducible refine w_rng1 ?_)
  | (with_reducible refine w_rng2 ?_)
  | (with_reducible refine w_add_ii ?_)
  | (with_reducible refine w_sub_ii ?_)
  | ((with_reducible refine w_fdv_ii ?_ ?_ ?_); (first | decide | omega); (first | decide | omega))
  | ((with_reducible refine w_mul_b ?_ ?_ ?_); (refine ⟨?_, ?_⟩ <;> omega); (refine ⟨?_, ?_⟩ <;> omega))
  | ((with_reducible refine w_mod_ii ?_ ?_); (first | decide | omega))
  | (with_reducible refine w_neg_i ?_)
  | (with_reducible refine w_lt_ii ?_)
  | (with_reducible refine w_le_ii ?_)
  | (with_reducible refine w_gt_ii ?_)
  | (with_reducible refine w_ge_ii ?_)
  | (with_reducible refine w_eq_ii ?_)
  | (with_reducible refine w_ne_ii ?_)
  | (with_reducible refine n_eq_same ?_)
  | (with_reducible refine n_ne_same ?_)
  | (with_reducible refine w_eq_ss ?_)
  | (with_reducible refine w_ne_ss ?_)
  | (with_reducible refine w_eq_bb ?_)
  | (with_reducible refine w_ne_bb ?_)
  | (with_reducible refine w_is_n ?_)
  | (with_reducible refine w_isn_n ?_)
  | (with_reducible refine w_is_bb ?_)
  | (with_reducible refine w_isn_bb ?_)
  | ((with_reducible show rIx _ (V.ref _) (V.int _) _ _); (first | (refine n_ix (by decide) (by walk_at "lk") (by exact rfl) ?_) | (refine n_ixl (by decide) (by walk_at "sl") (by exact rfl) ?_) | (refine n_ixt (by decide) (by walk_at "st") (by exact rfl) ?_)))
  | (with_reducible refine w_ipadd ?_)
  | (with_reducible refine w_ipsub ?_)
  | (with_reducible refine w_int_i ?_)
  | (with_reducible refine w_int_b ?_)
  | (with_reducible refine w_abs ?_)
  | ((with_reducible refine w_max2r ?_); intro _ _ _ _)
  | ((with_reducible refine w_min2r ?_); intro _ _ _ _)
  | ((with_reducible show uLen _ [V.ref _] _ _); (first | (refine n_len (by walk_at "lk") (by exact rfl) ?_) | (refine w_len_l (by walk_at "sl") ?_) | (refine w_len_t (by walk_at "st") ?_) | (refine w_len_d (by walk_at "lk") ?_)))
  | ((with_reducible show uIsi _ [_, V.ty _] _ _); (refine w_isk (by walk_at "kd") (by decide) ?_))
  | ((with_reducible show uIsi _ [_, V.ref (He.ga _ _)] _ _); (first | (refine w_isC_t (by assumption) (by walk_at "lk") ?_) | (refine w_isC_f (by assumption) (by walk_at "kd") ?_)))
  | ((with_reducible show uIsi _ [_, V.ref _] _ _); (refine w_isk2 (by walk_at "lk") (by walk_at "kd") (by decide) (by decide) ?_))
  | (with_reducible refine w_wN ?_)
  | (with_reducible refine w_lc ?_)
  | ((with_reducible refine' w_rng2e ?k1 ?_); (case k1 => (refine ⟨?_, ?_, ?_, ?_⟩ <;> omega)))
  | ((with_reducible refine' w_rng1e ?k1 ?k2 ?_); (case k1 => omega); (case k2 => omega))
  | ((with_reducible show ∃ a', V.ref _ = .ref a' ∧ (∃ xs, SqL _ _ a' xs) ∧ _); (refine w_sqLe (by walk_at "sl") ?_))
  | ((with_reducible show ∃ a', V.ref _ = .ref a' ∧ (∃ xs, SqT _ _ a' xs) ∧ _); (refine w_sqTe (by walk_at "st") ?_))
  | (with_reducible refine w_slc ?_)
  | (with_reducible refine w_nop ?_)
  | (with_reducible refine w_part ?_)
  | (with_reducible refine w_exi ?_)
  | ((with_reducible show uSl _ (V.ref _) _ _ _ _); (refine n_slL (by walk_at "sl") ?_); intro _ _ _ _ _)
  | (with_reducible refine w_gsub ?_)
  | ((with_reducible show rSetL (V.ref _) (V.int _) _ _ _); (refine w_setl (by walk_at "lk") (by exact rfl) ?_))
  | (with_reducible refine w_pow_9 ?_)
  | (with_reducible refine w_pow_12 ?_)
  | (with_reducible refine w_pow_13 ?_)
  | (with_reducible refine w_pow_18 ?_)
  | (with_reducible refine w_pow_29 ?_)
  | ((with_reducible refine n_disp1 ?_); intro _ _ _ _ _)
  | (with_reducible refine w_dput ?_)
  | ((with_reducible show rAppend (V.ref _) [_] _ _); (refine w_append (by walk_at "lk") (by first | omega | (exact Nat.lt_of_le_of_lt (wN_le rfl) (by decide))) ?_))
  | ((with_reducible show ∃ a' H4, V.ref _ = .ref a' ∧ DPut _ a' (V.str _) _ H4 ∧ _); (refine w_dputS (by walk_at "lk") (by first | omega | exact wN_le rfl) ?_))
  | (with_reducible refine w_try ?_)
  | ((with_reducible show wManyA _ _ _ _ (.ref (He.ga _ _)) _ _ _); (first | ((refine w_hit (ExT.ex (by assumption) _ (by decide) _ (by decide)) ?_); intro _ _) | (refine w_miss (ExT.ex (by assumption) _ (by decide) _ (by decide)) ?_)))
  | (with_reducible refine w_xg ?_)
  | ((with_reducible show V.ref _ = .ref _ ∧ ∃ _ _ _ _, Value.ref (He.ga _ _) = _ ∧ _); (refine w_xge (ExT.xf (by assumption) _ (by decide)) (ExT.fg (by assumption) _ (by decide)) (by walk_at "lk") ?_))
  | ((with_reducible show rIsX _ (.ref (He.ga _ _)) _ _ _ _ _); (refine w_isx (ExT.xx (by assumption) _ (by decide)) (ExT.kd (by assumption) _ (by decide)) (by walk_at "lk") ?_))
  | ((with_reducible show uAdd _ (V.ref _) (V.ref _) _ _); (refine n_add_ll (by walk_at "lk") (by walk_at "lk") rfl ?_); intro _ _ _ _ _)
  | ((with_reducible show iSeq _ (tLst _) _ _ _); (refine w_sqL ?_))
  | ((with_reducible show iSeq _ (tTup _) _ _ _); (refine w_sqT ?_))
  | (refine ⟨(rfl : wipe _ _ = wipe _ _), ?_⟩)
  | (with_reducible refine w_tryB ?_)
  | ((with_reducible show L2.wManyB _ _ _ _ (.ref (He.ga _ _)) _ _ _); (first | ((refine w_hitB (by assumption) (by decide) (by decide) (by decide) ?_); intro _ _) | (refine w_missB (by assumption) (by decide) (by decide) (by decide) ?_)))
  | ((with_reducible show uIx _ (V.ref _) (V.int _) _ _); (refine w_ixX ?_))
  | ((with_reducible show uIx _ (V.ref _) (V.ref _) _ _); (refine w_ixT (by walk_at "lk") (by walk_at "lk") (by exact rfl) ?_))
  | ((with_reducible show uIx _ (V.ref _) (V.str _) _ _); (refine w_ixK (by walk_at "lk") (.inr _) (by exact rfl) ?_))
  | ((with_reducible show uInX _ _ (V.ref _) _ _); (refine w_inX (w_in_f (by first | exact .inl (by walk_at "sl") | exact .inr (by walk_at "st")) rfl rfl ?_)))
  | ((with_reducible show uNinX _ _ (V.ref _) _ _); (refine w_ninX (w_nin_f (by first | exact .inl (by walk_at "sl") | exact .inr (by walk_at "st")) rfl rfl ?_)))
  | ((with_reducible show rSetX (V.ref _) (V.int _) _ _ _); (refine w_setX ?_))
  | (with_reducible refine w_km ?_)
  | (with_reducible refine w_kmk ?_)
  | ((with_reducible show ∃ _ _ _, V.ref _ = V.ref _ ∧ _ = some (HO.ins _ _ _) ∧ List.lookup _ _ = none ∧ _); (refine w_kme (by walk_at "lk") (by exact rfl) ?_))
  | (with_reducible refine w_kc ?_)
  | (with_reducible refine w_kck ?_)
  | ((with_reducible show kMade _ _ _ _ _ _); (refine w_kmade ?_); intro _ _ _ _ _ _ _ _ _)
  | (with_reducible refine w_fld ?_)
  | ((with_reducible show ∃ _ _ _ _ _, V.ref _ = V.ref _ ∧ _ = some (HO.ins _ _ _) ∧ Cls _ _ ∧ NoAttr _ _ _ ∧ _ ∧ _); (refine' w_flde ?k1 ?k2 ?k3 ?k4 ?_; (case k3 => walk_at "lk"); (case k1 => exact CF.cls (by assumption)); (case k2 => exact CF.na (by assumption) _ (by decide)); (case k4 => exact rfl)))
  | (with_reducible refine w_sfld ?_)
  | ((with_reducible show ∃ _ _ _ _, V.ref _ = V.ref _ ∧ _ = some (HO.ins _ _ _) ∧ Cls _ _ ∧ NoAttr _ _ _ ∧ _ ∧ _); (refine' w_sflde ?k1 ?k2 ?k3 ?k4 ?_; (case k3 => walk_at "lk"); (case k1 => exact CF.cls (by assumption)); (case k2 => exact CF.na (by assumption) _ (by decide)); (case k4 => exact rfl); intro _ _ _))
  | ((with_reducible show uIsi _ [_, V.ref (He.ga _ _)] _ _); (first | (refine w_isC_t (by assumption) (by walk_at "lk") ?_) | (refine w_isC_f (by assumption) (by walk_at "kd") ?_)))
  | (walk_at "hc"))
local macro_rules | `(tactic| walk_at "hs") => `(tactic| repeat' (walk_at "hs1"))

local macro_rules | `(tactic| walk_at "rg") => `(tactic| repeat' (first | exact rg_nil | (refine rg_cons (by omega) (by omega) ?_)))
local macro_rules | `(tactic| walk_at "sm") => `(tactic| first | exact Same.refl _ | assumption | ((with_reducible show Same _ (upd _ _ _)); (refine Same.trans ?_ (sm_new (by assumption))); walk_at "sm") | ((refine Same.trans ?_ (by assumption)); walk_at "sm"))
local macro_rules | `(tactic| walk_at "bx") => `(tactic| first | assumption | ((with_reducible show BoxAt (upd _ _ _) _ _); (exact BoxAt.new (by assumption) (by walk_at "bx"))) | (exact BoxAt.same (by assumption) (by walk_at "bx")))
local macro_rules | `(tactic| walk_at "ks") => `(tactic| first | exact Ks.refl _ | assumption | ((with_reducible show Ks _ (upd _ _ _)); (refine Ks.trans ?_ (Ks.of (sm_new (by assumption))); walk_at "ks")) | (refine Ks.trans ?_ (by assumption); walk_at "ks") | (refine Ks.trans ?_ (Ks.of (by assumption)); walk_at "ks"))
local macro_rules | `(tactic| walk_at "ob") => `(tactic| first | assumption | exact .sc rfl | (exact Ob.same (by assumption) (by walk_at "ob")) | (exact Ob.ks (by assumption) (by walk_at "ob")))
local macro_rules | `(tactic| walk_at "nd") => `(tactic| first | assumption | (exact Nd.same (by assumption) (by walk_at "nd")) | (exact Nd.ks (by assumption) (by walk_at "nd")))
local macro_rules | `(tactic| walk_at "df") => `(tactic| first | assumption | exact df_sc rfl | (exact df_vr (by assumption) (by walk_at "lk")) | (exact df_rv (by assumption) (by walk_at "ob")) | (exact df_vv (by assumption) (by walk_at "ob")) | (exact Df.symm (df_vv (by assumption) (by walk_at "ob"))))
variable {K : PySem.W.Frag}
theorem p_is_whole (vs : List V) (H : Hp) (Q : VK) (E : XK) (h : sp_is_whole K vs H Q E) : t_is_whole K E (D0 Q) (start N_is_whole vs) H := by
  obtain ⟨x, T, rfl, hk, q⟩ := h
  cases hk <;> walk_at "hs" <;> exact q
/-! the calls' uses -/
theorem u_is_whole {H : Hp} {Q : VK} {E : XK} {x : V} {T : String} (h : Kd K H x T) (q : Q (.bl (whole x)) H) : sp_is_whole K [x] H Q E := ⟨x, T, rfl, h, q⟩
local macro_rules | `(tactic| walk_at "hc") => `(tactic| (with_reducible show sp_is_whole _ _ _ _ _); (refine u_is_whole (by walk_at "kd") ?_))
theorem p_is_between (vs : List V) (H : Hp) (Q : VK) (E : XK) (h : sp_is_between K vs H Q E) : t_is_between K E (D0 Q) (start N_is_between vs) H := by
  obtain ⟨x, T, lo, hi, rfl, hk, q⟩ := h
  cases hk <;> walk_at "hs" 
  case int i =>
    refine w_b2 (fun c1 => ?_) (fun c1 => ?_) <;> walk_at "hs"
    · simpa [betw, c1] using q
    · simpa [betw, c1] using q
  all_goals exact q
theorem u_is_between {H : Hp} {Q : VK} {E : XK} {x : V} {T : String} {lo hi : Int} (h : Kd K H x T) (q : Q (.bl (betw x lo hi)) H) : sp_is_between K [x, .int lo, .int hi] H Q E := ⟨x, T, lo, hi, rfl, h, q⟩
local macro_rules | `(tactic| walk_at "hc") => `(tactic| (with_reducible show sp_is_between _ _ _ _ _); (refine u_is_between (by walk_at "kd") ?_))
theorem p_is_tuple_of (vs : List V) (H : Hp) (Q : VK) (E : XK) (h : sp_is_tuple_of K vs H Q E) : t_is_tuple_of K E (D0 Q) (start N_is_tuple_of vs) H := by
  obtain ⟨x, n, rfl, ⟨a, xs, rfl, hs, q⟩ | ⟨T, hk, hT, q⟩⟩ := h
  · walk_at "hs"
    exact q
  · cases hk <;> walk_at "hs" <;> first | exact q | exact absurd hT (by decide)
theorem u_is_tuple_of1 {H : Hp} {Q : VK} {E : XK} {a : Addr} {xs : List V} {n : Int} (h : SqT K H a xs) (q : Q (.bl (decide ((xs.length : Int) = n))) H) : sp_is_tuple_of K [.ref a, .int n] H Q E := ⟨_, n, rfl, .inl ⟨a, xs, rfl, h, q⟩⟩
theorem u_is_tuple_of0 {H : Hp} {Q : VK} {E : XK} {x : V} {T : String} {n : Int} (h : Kd K H x T) (hT : T ≠ "tuple") (q : Q (.bl false) H) : sp_is_tuple_of K [x, .int n] H Q E := ⟨_, n, rfl, .inr ⟨T, h, hT, q⟩⟩
theorem p_is_list (vs : List V) (H : Hp) (Q : VK) (E : XK) (h : sp_is_list K vs H Q E) : t_is_list K E (D0 Q) (start N_is_list vs) H := by
  obtain ⟨a, xs, rfl, hs, q⟩ := h
  walk_at "hs"
  exact q _ (by walk_at "sm")
theorem u_is_list {H : Hp} {Q : VK} {E : XK} {a : Addr} {xs : List V} (hs : SqL K H a xs) (q : ∀ H', Same H H' → Q (.bl true) H') : sp_is_list K [.ref a] H Q E := ⟨a, xs, rfl, hs, q⟩
local macro_rules | `(tactic| walk_at "hc") => `(tactic| (with_reducible show sp_is_list _ _ _ _ _); (refine u_is_list (by walk_at "sl") ?_); intro _ _)
theorem p_is_list_of (vs : List V) (H : Hp) (Q : VK) (E : XK) (h : sp_is_list_of K vs H Q E) : t_is_list_of K E (D0 Q) (start N_is_list_of vs) H := by
  obtain ⟨a, xs, lo, hi, rfl, hs, h1, h2, q⟩ := h
  walk_at "hs"
  rw [decide_eq_true h2]
  exact q _ (by walk_at "sm")
theorem u_is_list_of {H : Hp} {Q : VK} {E : XK} {a : Addr} {xs : List V} {lo hi : Int} (hs : SqL K H a xs) (h1 : lo ≤ xs.length) (h2 : (xs.length : Int) ≤ hi) (q : ∀ H', Same H H' → Q (.bl true) H') : sp_is_list_of K [.ref a, .int lo, .int hi] H Q E := ⟨a, xs, lo, hi, rfl, hs, h1, h2, q⟩
theorem p_is_time (vs : List V) (H : Hp) (Q : VK) (E : XK) (h : sp_is_time K vs H Q E) : t_is_time K E (D0 Q) (start N_is_time vs) H := by
  obtain ⟨x, T, rfl, hk, q⟩ := h
  walk_at "hs"
  exact q
theorem u_is_time {H : Hp} {Q : VK} {E : XK} {x : V} {T : String} (h : Kd K H x T) (q : Q (.bl (betw x 0 TOP)) H) : sp_is_time K [x] H Q E := ⟨x, T, rfl, h, q⟩
local macro_rules | `(tactic| walk_at "hc") => `(tactic| (with_reducible show sp_is_time _ _ _ _ _); (refine u_is_time (by walk_at "kd") ?_))
theorem p_check_time (vs : List V) (H : Hp) (Q : VK) (E : XK) (h : sp_check_time K vs H Q E) : t_check_time K E (D0 Q) (start N_check_time vs) H := by
  obtain ⟨x, T, rfl, hk, q1, q2⟩ := h
  walk_at "hs"
  cases c : betw x 0 TOP <;> walk_at "hs"
  · exact q2 c
  · exact q1 c
theorem u_check_time {H : Hp} {Q : VK} {E : XK} {x : V} {T : String} (hk : Kd K H x T) (q1 : betw x 0 TOP = true → Q .non H) (q2 : betw x 0 TOP = false → Er K E H "InvalidTime" x) : sp_check_time K [x] H Q E := ⟨x, T, rfl, hk, q1, q2⟩
theorem p_is_offset (vs : List V) (H : Hp) (Q : VK) (E : XK) (h : sp_is_offset K vs H Q E) : t_is_offset K E (D0 Q) (start N_is_offset vs) H := by
  obtain ⟨x, T, rfl, hk, q⟩ := h
  walk_at "hs"
  exact q
theorem u_is_offset {H : Hp} {Q : VK} {E : XK} {x : V} {T : String} (h : Kd K H x T) (q : Q (.bl (betw x (-1440) 1440)) H) : sp_is_offset K [x] H Q E := ⟨x, T, rfl, h, q⟩
local macro_rules | `(tactic| walk_at "hc") => `(tactic| (with_reducible show sp_is_offset _ _ _ _ _); (refine u_is_offset (by walk_at "kd") ?_))
theorem p_is_change (vs : List V) (H : Hp) (Q : VK) (E : XK) (h : sp_is_change K vs H Q E) : t_is_change K E (D0 Q) (start N_is_change vs) H := by
  obtain ⟨v, m, x, rfl, ⟨t, rfl, ht⟩, m0, m1, x0, x1, q⟩ := h
  walk_at "hs"
  refine ⟨_, _, rfl, .inl ⟨_, _, rfl, ht, ?_⟩⟩
  walk_at "hs"
  rw [show betw (.int m) 1 1000000000000000 = true from betw_t (hi := TOP) m0 m1]
  walk_at "hs"
  rw [betw_t x0 x1]
  exact q
theorem u_is_change {H : Hp} {Q : VK} {E : XK} {v : V} {m x : Int} (h : IsT K H v [.int m, .int x]) (m0 : 1 ≤ m) (m1 : m ≤ TOP) (x0 : -1440 ≤ x) (x1 : x ≤ 1440) (q : Q (.bl true) H) : sp_is_change K [v] H Q E := ⟨v, m, x, rfl, h, m0, m1, x0, x1, q⟩
theorem p__law_cell (vs : List V) (H : Hp) (Q : VK) (E : XK) (h : sp__law_cell K vs H Q E) : t__law_cell K E (D0 Q) (start N__law_cell vs) H := by
  obtain ⟨a, ns, k, rfl, hs, hn, h0, h1, q⟩ := h
  walk_at "hs"
  refine w_b2 (fun c => ?_) (fun c => ?_)
  · walk_at "hs"
    refine w_ixl_mem hs h0 (by simpa using c) fun v hv => ?_
    obtain ⟨i, _, rfl⟩ := List.mem_map.mp hv
    exact q i H (Same.refl _)
  · walk_at "hs"
    rename_i p H2 np s2 hp
    obtain ⟨ms, e, hm⟩ := cut_int (ns := ns) (lo := none) (hi := some 1)
    rw [e] at hp
    refine w_sum (l_of hp) ?_
    walk_at "hs"
    exact q _ _ s2
theorem u__law_cell {H : Hp} {Q : VK} {E : XK} {a : Addr} {ns : List Int} {k : Int} (hs : SqL K H a (ns.map V.int)) (hn : ns.length ≤ 63) (h0 : 0 ≤ k) (h1 : k ≤ 1000) (q : ∀ i H', Same H H' → Q (.int i) H') : sp__law_cell K [.ref a, .int k] H Q E := ⟨a, ns, k, rfl, hs, hn, h0, h1, q⟩
theorem p__law_box (vs : List V) (H : Hp) (Q : VK) (E : XK) (h : sp__law_box K vs H Q E) : t__law_box K E (D0 Q) (start N__law_box vs) H := by
  obtain ⟨g, rfl, q⟩ := h
  walk_at "hs"
  rename_i p H2 np s2 hp
  exact q p _ s2 ⟨_, _, _, _, hp, by split <;> omega, by omega, by omega, by omega, by omega⟩
theorem u__law_box {H : Hp} {Q : VK} {E : XK} {g : Int} (q : ∀ b H', Same H H' → BoxAt H' b 0 → Q (.ref b) H') : sp__law_box K [.int g] H Q E := ⟨g, rfl, q⟩
theorem p__law_take (vs : List V) (H : Hp) (Q : VK) (E : XK) (h : sp__law_take K vs H Q E) : t__law_take K E (D0 Q) (start N__law_take vs) H := by
  obtain ⟨b, c, many, rfl, ⟨n, m, c0, bo, hb, b1, b2, b3, b4, b5⟩, hc, m0, m1, q⟩ := h
  have hks : ∀ o, Ks H (upd H b o) := fun o => Ks.box hb
  have hkb : ∀ o, Kb b H (upd H b o) := fun o a u n h => by rw [upd_ne n]; exact h
  walk_at "hs"
  have more : ∀ σ : L2.St, σ = [some (.ref b), some (.int many), none, none] → (tSeq (tAsg (tOp (uAdd K) (tOp (uIx K) (tVar 0) (tC (.int 3))) (tC (.int 1))) (gSub (tVar 0) (tC (.int 3)) rSetX))
    (tSeq (tAsg (tOp uMod (tCB uInt (tCons (tOp uPow (tOp (uAdd K) (tOp (uAdd K) (tOp (uIx K) (tVar 0) (tC (.int 2))) (tOp uMul (tC (.int 15485867)) (tOp (uIx K) (tVar 0) (tC (.int 3))))) (tC (.int 179424691))) (tC (.int 5))) tNil)) (tC (.int 2147483647))) (gName 3))
    (tRet (tOp uMod (tCB uInt (tCons (tOp uFdv (tOp uMod (tCB uInt (tCons (tOp uPow (tOp (uAdd K) (tOp uMul (tVar 3) (tC (.int 48271))) (tOp uMul (tC (.int 104743)) (tOp (uIx K) (tVar 0) (tC (.int 3))))) (tC (.int 3))) tNil)) (tC (.int 2147483587))) (tC (.int 64))) tNil)) (tVar 1))))) (D0 Q) σ H := by
    rintro σ rfl
    walk_at "hs"
    refine w_pow_x (by omega) (by omega) ?_
    walk_at "hs"
    refine w_pow_x (by omega) (by omega) ?_
    walk_at "hs"
    exact q _ _ (Int.emod_nonneg _ (by omega)) (Int.emod_lt_of_pos _ m0) (hks _) (hkb _) ⟨_, _, _, _, upd_same, b1, b2, b3, by omega, by omega⟩
  refine w_b2 (fun z => ?_) (fun z => ?_)
  · walk_at "hs"
    refine w_b2 (fun z2 => ?_) (fun z2 => ?_)
    · walk_at "hs"
      have z3 : 0 < n := by simpa using z2
      have := Int.ediv_nonneg (a := n) (b := many) (by omega) (by omega)
      exact q _ _ (Int.emod_nonneg _ (by omega)) (Int.emod_lt_of_pos _ m0) (hks _) (hkb _) ⟨_, _, _, _, upd_same, this, b2, b3, by omega, by omega⟩
    · exact more _ rfl
  · exact more _ rfl
theorem u__law_take_B {H : Hp} {Q : VK} {E : XK} {b : Addr} {c many : Int} (hb : BoxAt H b c) (hc : c < 1000000000) (m0 : 0 < many) (m1 : many < 1000000000000000000000000000000) (q : ∀ r H', 0 ≤ r → r < many → Ks H H' → Kb b H H' → BoxAt H' b (c + 1) → Q (.int r) H') : sp__law_take K [.ref b, .int many] H Q E := ⟨b, c, many, rfl, hb, hc, m0, m1, q⟩
theorem u__law_take {H : Hp} {Q : VK} {E : XK} {b : Addr} {c many : Int} (hb : BoxAt H b c) (hc : c < 1000000000) (m0 : 0 < many) (m1 : many < 1000000000000000000000000000000) (q : ∀ r H', 0 ≤ r → r < many → Ks H H' → BoxAt H' b (c + 1) → Q (.int r) H') : sp__law_take K [.ref b, .int many] H Q E := ⟨b, c, many, rfl, hb, hc, m0, m1, fun r H' h0 h1 k _ b => q r H' h0 h1 k b⟩
local macro_rules | `(tactic| walk_at "hc") => `(tactic| (with_reducible show sp__law_take _ _ _ _ _); (refine u__law_take (by walk_at "bx") (by omega) (by omega) (by omega) ?_); intro _ _ _ _ _ _)
end My
set_option linter.all false
set_option maxRecDepth 100000
set_option maxHeartbeats 4000000
namespace My
open PySem PySem.Spec PyProof.Rows L2 Kx
local macro_rules | `(tactic| walk_at "lk") => `(tactic| first | assumption | ((with_reducible show upd _ _ _ _ = _); (first | exact upd_same | (exact up_new (by assumption) (by walk_at "lk")) | (exact up_other (by assumption) (by walk_at "lk")))) | (exact (by assumption : Same _ _) _ _ (by walk_at "lk")) | (exact ks_get (by assumption) (by walk_at "lk") (by first | rfl | assumption | exact notBox_len rfl)))
local macro_rules | `(tactic| walk_at "sl") => `(tactic| first | assumption | (exact l_of (by walk_at "lk")) | (exact Same.seq (by assumption) (by walk_at "sl")) | ((with_reducible show SqL _ (upd _ _ _) _ _); (exact Same.seq (sm_new (by assumption)) (by walk_at "sl"))))
local macro_rules | `(tactic| walk_at "st") => `(tactic| first | assumption | (exact t_of (by walk_at "lk")) | (exact Kx.Same.tup (by assumption) (by walk_at "st")) | ((with_reducible show SqT _ (upd _ _ _) _ _); (exact Kx.Same.tup (sm_new (by assumption)) (by walk_at "st"))) | (exact ks_tup (by assumption) (by walk_at "st")))
local macro_rules | `(tactic| walk_at "kd") => `(tactic| first | assumption | exact .non | exact .bl _ | exact .int _ | exact .str _ | (exact .lst (by walk_at "sl")) | (exact .tup (by walk_at "st")) | (exact .dic (by walk_at "lk")) | (exact Kd.same (by assumption) (by walk_at "kd")) | ((with_reducible show Kd _ (upd _ _ _) _ _); (exact Kd.same (sm_new (by assumption)) (by walk_at "kd"))))
local macro_rules | `(tactic| walk_at "tt") => `(tactic| first | rfl | assumption | decide +kernel | (simp only [decide_eq_true_eq, Bool.not_eq_true', decide_eq_false_iff_not, Bool.and_eq_true, Bool.or_eq_true]; omega))
local macro_rules | `(tactic| walk_at "ff") => `(tactic| first | rfl | assumption | decide +kernel | (simp only [decide_eq_true_eq, Bool.not_eq_false', decide_eq_false_iff_not, Bool.and_eq_false_imp, Bool.or_eq_false_iff]; omega))
local macro_rules | `(tactic| walk_at "hc") => `(tactic| fail)
local macro_rules | `(tactic| walk_at "hif") => `(tactic| ((with_reducible refine w_b2 ?_ ?_) <;> intro))
local macro_rules | `(tactic| walk_at "hs1") => `(tactic| first
  | (with_reducible refine w_seq ?_)
  | (with_reducible refine w_asg ?_)
  | ((with_reducible refine' w_var ?k1 ?_); (case k1 => exact rfl))
  | (with_reducible refine w_c ?_)
  | (with_reducible refine w_op ?_)
  | (with_reducible refine w_cons ?_)
  | (with_reducible refine w_nil ?_)
  | (with_reducible refine w_name ?_)
  | (with_reducible refine w_kn ?_)
  | (with_reducible refine w_kx ?_)
  | (with_reducible refine w_kk ?_)
  | (with_reducible refine w_cb ?_)
  | (with_reducible refine w_if ?_)
  | (with_reducible refine w_test ?_)
  | (with_reducible refine w_exb ?_)
  | (with_reducible refine iteT ?_)
  | (with_reducible refine iteF ?_)
  | ((with_reducible refine w_bt ?_ ?_); (first | rfl | decide +kernel))
  | ((with_reducible refine w_bf ?_ ?_); (first | rfl | decide +kernel))
  | ((with_reducible refine w_bt ?_ ?_); (walk_at "tt"))
  | ((with_reducible refine w_bf ?_ ?_); (walk_at "ff"))
  | (with_reducible refine w_ret ?_)
  | (with_reducible refine w_retN ?_)
  | (with_reducible refine w_drop ?_)
  | (with_reducible refine w_next ?_)
  | (with_reducible refine w_brk ?_)
  | (with_reducible refine w_cont ?_)
  | (with_reducible refine w_and ?_)
  | (with_reducible refine w_or ?_)
  | (with_reducible refine w_not ?_)
  | (with_reducible refine w_tr ?_)
  | (with_reducible refine w_yes ?_)
  | (with_reducible refine w_tru_bl ?_)
  | (with_reducible refine w_tru_int ?_)
  | (with_reducible refine w_tru_non ?_)
  | (with_reducible refine w_andV ?_)
  | (with_reducible refine w_orV ?_)
  | (with_reducible refine w_notV ?_)
  | (with_reducible refine w_ifx ?_)
  | (with_reducible refine w_chain ?_)
  | (with_reducible refine w_un ?_)
  | (with_reducible refine n_tup ?_)
  | (with_reducible refine n_lst ?_)
  | ((with_reducible show kTup _ _ _); (refine n_ktup rfl ?_); intro _ _ _ _ _)
  | ((with_reducible show kLst _ _ _); (refine n_klst rfl ?_); intro _ _ _ _ _)
  | (with_reducible refine w_par ?_)
  | (with_reducible refine w_par2 ?_)
  | (with_reducible refine w_par3 ?_)
  | (with_reducible refine w_par33 ?_)
  | ((with_reducible refine' w_aug ?k1 ?_); (case k1 => exact rfl))
  | (with_reducible refine w_raise ?_)
  | (with_reducible refine w_mkdue ?_)
  | (with_reducible refine w_one ?_)
  | ((with_reducible show gSq _ _ _ (V.ref _) _ _ _); (first | (refine n_gsq (by walk_at "lk") (by exact rfl) (by exact rfl) ?_) | (refine w_gtup (by walk_at "st") (by exact rfl) ?_) | (refine w_glst (by walk_at "sl") (by exact rfl) ?_)))
  | (with_reducible refine w_gcons ?_)
  | (with_reducible refine w_gnil ?_)
  | (with_reducible refine w_bm ?_)
  | ((with_reducible show tyV _ "list" (V.ref _) _ ∧ _); (refine w_tyl (by walk_at "sl") ?_))
  | (with_reducible refine w_for ?_)
  | (with_reducible refine w_rng1 ?_)
  | (with_reducible refine w_rng2 ?_)
  | (with_reducible refine w_add_ii ?_)
  | (with_reducible refine w_sub_ii ?_)
  | ((with_reducible refine w_fdv_ii ?_ ?_ ?_); (first | decide | omega); (first | decide | omega))
  | ((with_reducible refine w_mul_b ?_ ?_ ?_); (refine ⟨?_, ?_⟩ <;> omega); (refine ⟨?_, ?_⟩ <;> omega))
  | ((with_reducible refine w_mod_ii ?_ ?_); (first | decide | omega))
  | (with_reducible refine w_neg_i ?_)
  | (with_reducible refine w_lt_ii ?_)
  | (with_reducible refine w_le_ii ?_)
  | (with_reducible refine w_gt_ii ?_)
  | (with_reducible refine w_ge_ii ?_)
  | (with_reducible refine w_eq_ii ?_)
  | (with_reducible refine w_ne_ii ?_)
  | (with_reducible refine n_eq_same ?_)
  | (with_reducible refine n_ne_same ?_)
  | (with_reducible refine w_eq_ss ?_)
  | (with_reducible refine w_ne_ss ?_)
  | (with_reducible refine w_eq_bb ?_)
  | (with_reducible refine w_ne_bb ?_)
  | (with_reducible refine w_is_n ?_)
  | (with_reducible refine w_isn_n ?_)
  | (with_reducible refine w_is_bb ?_)
  | (with_reducible refine w_isn_bb ?_)
  | ((with_reducible show rIx _ (V.ref _) (V.int _) _ _); (first | (refine n_ix (by decide) (by walk_at "lk") (by exact rfl) ?_) | (refine n_ixl (by decide) (by walk_at "sl") (by exact rfl) ?_) | (refine n_ixt (by decide) (by walk_at "st") (by exact rfl) ?_)))
  | (with_reducible refine w_ipadd ?_)
  | (with_reducible refine w_ipsub ?_)
  | (with_reducible refine w_int_i ?_)
  | (with_reducible refine w_int_b ?_)
  | (with_reducible refine w_abs ?_)
  | ((with_reducible refine w_max2r ?_); intro _ _ _ _)
  | ((with_reducible refine w_min2r ?_); intro _ _ _ _)
  | ((with_reducible show uLen _ [V.ref _] _ _); (first | (refine n_len (by walk_at "lk") (by exact rfl) ?_) | (refine w_len_l (by walk_at "sl") ?_) | (refine w_len_t (by walk_at "st") ?_) | (refine w_len_d (by walk_at "lk") ?_)))
  | ((with_reducible show uIsi _ [_, V.ty _] _ _); (refine w_isk (by walk_at "kd") (by decide) ?_))
  | ((with_reducible show uIsi _ [_, V.ref (He.ga _ _)] _ _); (first | (refine w_isC_t (by assumption) (by walk_at "lk") ?_) | (refine w_isC_f (by assumption) (by walk_at "kd") ?_)))
  | ((with_reducible show uIsi _ [_, V.ref _] _ _); (refine w_isk2 (by walk_at "lk") (by walk_at "kd") (by decide) (by decide) ?_))
  | (with_reducible refine w_wN ?_)
  | (with_reducible refine w_lc ?_)
  | ((with_reducible refine' w_rng2e ?k1 ?_); (case k1 => (refine ⟨?_, ?_, ?_, ?_⟩ <;> omega)))
  | ((with_reducible refine' w_rng1e ?k1 ?k2 ?_); (case k1 => omega); (case k2 => omega))
  | ((with_reducible show ∃ a', V.ref _ = .ref a' ∧ (∃ xs, SqL _ _ a' xs) ∧ _); (refine w_sqLe (by walk_at "sl") ?_))
  | ((with_reducible show ∃ a', V.ref _ = .ref a' ∧ (∃ xs, SqT _ _ a' xs) ∧ _); (refine w_sqTe (by walk_at "st") ?_))
  | (with_reducible refine w_slc ?_)
  | (with_reducible refine w_nop ?_)
  | (with_reducible refine w_part ?_)
  | (with_reducible refine w_exi ?_)
  | ((with_reducible show uSl _ (V.ref _) _ _ _ _); (refine n_slL (by walk_at "sl") ?_); intro _ _ _ _ _)
  | (with_reducible refine w_gsub ?_)
  | ((with_reducible show rSetL (V.ref _) (V.int _) _ _ _); (refine w_setl (by walk_at "lk") (by exact rfl) ?_))
  | (with_reducible refine w_pow_9 ?_)
  | (with_reducible refine w_pow_12 ?_)
  | (with_reducible refine w_pow_13 ?_)
  | (with_reducible refine w_pow_18 ?_)
  | (with_reducible refine w_pow_29 ?_)
  | ((with_reducible refine n_disp1 ?_); intro _ _ _ _ _)
  | (with_reducible refine w_dput ?_)
  | ((with_reducible show rAppend (V.ref _) [_] _ _); (refine w_append (by walk_at "lk") (by first | omega | (exact Nat.lt_of_le_of_lt (wN_le rfl) (by decide))) ?_))
  | ((with_reducible show ∃ a' H4, V.ref _ = .ref a' ∧ DPut _ a' (V.str _) _ H4 ∧ _); (refine w_dputS (by walk_at "lk") (by first | omega | exact wN_le rfl) ?_))
  | (with_reducible refine w_try ?_)
  | ((with_reducible show wManyA _ _ _ _ (.ref (He.ga _ _)) _ _ _); (first | ((refine w_hit (ExT.ex (by assumption) _ (by decide) _ (by decide)) ?_); intro _ _) | (refine w_miss (ExT.ex (by assumption) _ (by decide) _ (by decide)) ?_)))
  | (with_reducible refine w_xg ?_)
  | ((with_reducible show V.ref _ = .ref _ ∧ ∃ _ _ _ _, Value.ref (He.ga _ _) = _ ∧ _); (refine w_xge (ExT.xf (by assumption) _ (by decide)) (ExT.fg (by assumption) _ (by decide)) (by walk_at "lk") ?_))
  | ((with_reducible show rIsX _ (.ref (He.ga _ _)) _ _ _ _ _); (refine w_isx (ExT.xx (by assumption) _ (by decide)) (ExT.kd (by assumption) _ (by decide)) (by walk_at "lk") ?_))
  | ((with_reducible show uAdd _ (V.ref _) (V.ref _) _ _); (refine n_add_ll (by walk_at "lk") (by walk_at "lk") rfl ?_); intro _ _ _ _ _)
  | ((with_reducible show iSeq _ (tLst _) _ _ _); (refine w_sqL ?_))
  | ((with_reducible show iSeq _ (tTup _) _ _ _); (refine w_sqT ?_))
  | (refine ⟨(rfl : wipe _ _ = wipe _ _), ?_⟩)
  | (with_reducible refine w_tryB ?_)
  | ((with_reducible show L2.wManyB _ _ _ _ (.ref (He.ga _ _)) _ _ _); (first | ((refine w_hitB (by assumption) (by decide) (by decide) (by decide) ?_); intro _ _) | (refine w_missB (by assumption) (by decide) (by decide) (by decide) ?_)))
  | ((with_reducible show uIx _ (V.ref _) (V.int _) _ _); (refine w_ixX ?_))
  | ((with_reducible show uIx _ (V.ref _) (V.ref _) _ _); (refine w_ixT (by walk_at "lk") (by walk_at "lk") (by exact rfl) ?_))
  | ((with_reducible show uIx _ (V.ref _) (V.str _) _ _); (refine w_ixK (by walk_at "lk") (.inr _) (by exact rfl) ?_))
  | ((with_reducible show uInX _ _ (V.ref _) _ _); (refine w_inX (w_in_f (by first | exact .inl (by walk_at "sl") | exact .inr (by walk_at "st")) rfl rfl ?_)))
  | ((with_reducible show uNinX _ _ (V.ref _) _ _); (refine w_ninX (w_nin_f (by first | exact .inl (by walk_at "sl") | exact .inr (by walk_at "st")) rfl rfl ?_)))
  | ((with_reducible show rSetX (V.ref _) (V.int _) _ _ _); (refine w_setX ?_))
  | (with_reducible refine w_km ?_)
  | (with_reducible refine w_kmk ?_)
  | ((with_reducible show ∃ _ _ _, V.ref _ = V.ref _ ∧ _ = some (HO.ins _ _ _) ∧ List.lookup _ _ = none ∧ _); (refine w_kme (by walk_at "lk") (by exact rfl) ?_))
  | (with_reducible refine w_kc ?_)
  | (with_reducible refine w_kck ?_)
  | ((with_reducible show kMade _ _ _ _ _ _); (refine w_kmade ?_); intro _ _ _ _ _ _ _ _ _)
  | (with_reducible refine w_fld ?_)
  | ((with_reducible show ∃ _ _ _ _ _, V.ref _ = V.ref _ ∧ _ = some (HO.ins _ _ _) ∧ Cls _ _ ∧ NoAttr _ _ _ ∧ _ ∧ _); (refine' w_flde ?k1 ?k2 ?k3 ?k4 ?_; (case k3 => walk_at "lk"); (case k1 => exact CF.cls (by assumption)); (case k2 => exact CF.na (by assumption) _ (by decide)); (case k4 => exact rfl)))
  | (with_reducible refine w_sfld ?_)
  | ((with_reducible show ∃ _ _ _ _, V.ref _ = V.ref _ ∧ _ = some (HO.ins _ _ _) ∧ Cls _ _ ∧ NoAttr _ _ _ ∧ _ ∧ _); (refine' w_sflde ?k1 ?k2 ?k3 ?k4 ?_; (case k3 => walk_at "lk"); (case k1 => exact CF.cls (by assumption)); (case k2 => exact CF.na (by assumption) _ (by decide)); (case k4 => exact rfl); intro _ _ _))
  | ((with_reducible show uIsi _ [_, V.ref (He.ga _ _)] _ _); (first | (refine w_isC_t (by assumption) (by walk_at "lk") ?_) | (refine w_isC_f (by assumption) (by walk_at "kd") ?_)))
  | (walk_at "hc"))
local macro_rules | `(tactic| walk_at "hs") => `(tactic| repeat' (walk_at "hs1"))

local macro_rules | `(tactic| walk_at "rg") => `(tactic| repeat' (first | exact rg_nil | (refine rg_cons (by omega) (by omega) ?_)))
local macro_rules | `(tactic| walk_at "sm") => `(tactic| first | exact Same.refl _ | assumption | ((with_reducible show Same _ (upd _ _ _)); (refine Same.trans ?_ (sm_new (by assumption))); walk_at "sm") | ((refine Same.trans ?_ (by assumption)); walk_at "sm"))
local macro_rules | `(tactic| walk_at "bx") => `(tactic| first | assumption | ((with_reducible show BoxAt (upd _ _ _) _ _); (exact BoxAt.new (by assumption) (by walk_at "bx"))) | (exact BoxAt.same (by assumption) (by walk_at "bx")))
local macro_rules | `(tactic| walk_at "ks") => `(tactic| first | exact Ks.refl _ | assumption | ((with_reducible show Ks _ (upd _ _ _)); (refine Ks.trans ?_ (Ks.of (sm_new (by assumption))); walk_at "ks")) | (refine Ks.trans ?_ (by assumption); walk_at "ks") | (refine Ks.trans ?_ (Ks.of (by assumption)); walk_at "ks"))
local macro_rules | `(tactic| walk_at "ob") => `(tactic| first | assumption | exact .sc rfl | (exact Ob.same (by assumption) (by walk_at "ob")) | (exact Ob.ks (by assumption) (by walk_at "ob")))
local macro_rules | `(tactic| walk_at "nd") => `(tactic| first | assumption | (exact Nd.same (by assumption) (by walk_at "nd")) | (exact Nd.ks (by assumption) (by walk_at "nd")))
local macro_rules | `(tactic| walk_at "df") => `(tactic| first | assumption | exact df_sc rfl | (exact df_vr (by assumption) (by walk_at "lk")) | (exact df_rv (by assumption) (by walk_at "ob")) | (exact df_vv (by assumption) (by walk_at "ob")) | (exact Df.symm (df_vv (by assumption) (by walk_at "ob"))))
local macro_rules | `(tactic| walk_at "hc") => `(tactic| (with_reducible show sp_is_whole _ _ _ _ _); (refine u_is_whole (by walk_at "kd") ?_))
local macro_rules | `(tactic| walk_at "hc") => `(tactic| (with_reducible show sp_is_between _ _ _ _ _); (refine u_is_between (by walk_at "kd") ?_))
local macro_rules | `(tactic| walk_at "hc") => `(tactic| (with_reducible show sp_is_list _ _ _ _ _); (refine u_is_list (by walk_at "sl") ?_); intro _ _)
local macro_rules | `(tactic| walk_at "hc") => `(tactic| (with_reducible show sp_is_time _ _ _ _ _); (refine u_is_time (by walk_at "kd") ?_))
local macro_rules | `(tactic| walk_at "hc") => `(tactic| (with_reducible show sp_is_offset _ _ _ _ _); (refine u_is_offset (by walk_at "kd") ?_))
local macro_rules | `(tactic| walk_at "hc") => `(tactic| (with_reducible show sp__law_take _ _ _ _ _); (refine u__law_take (by walk_at "bx") (by omega) (by omega) (by omega) ?_); intro _ _ _ _ _ _)
variable {K : PySem.W.Frag}
theorem at_ints {ns : List Int} {j : Int} (h0 : 0 ≤ j) (h1 : j < ns.length) : ∃ i : Nat, ∃ h : i < ns.length, (i : Int) = j ∧ atI (ns.map V.int) j = some (.int ns[i]) := by
  have e : ((j.toNat : Nat) : Int) = j := by omega
  have hn : j.toNat < ns.length := by omega
  refine ⟨j.toNat, hn, e, ?_⟩
  have : (ns.map V.int)[j.toNat]? = some (.int ns[j.toNat]) := by rw [List.getElem?_map, List.getElem?_eq_getElem hn]; rfl
  have := atI_nat this
  rw [e] at this
  exact this
theorem p_is_ascending (vs : List V) (H : Hp) (Q : VK) (E : XK) (h : sp_is_ascending K vs H Q E) : t_is_ascending K E (D0 Q) (start N_is_ascending vs) H := by
  obtain ⟨a, ns, rfl, hs, hn, hp, q⟩ := h
  walk_at "hs"
  rw [List.length_map]
  refine w_rng1e (by omega) (by omega) ?_
  intro D hD
  refine lc_range (lo := 0) (n := ((ns.length : Int) - 1).toNat) (LcP H D fun i => (List.replicate i true).map V.bl) (LcP.zero hD rfl) ?_ ?_
  · intro i H' hi P
    have P1 := P.1
    obtain ⟨k, hk, e1, a1⟩ := at_ints (ns := ns) (j := 0 + (i : Int)) (by omega) (by omega)
    obtain ⟨m, hm, e2, a2⟩ := at_ints (ns := ns) (j := 0 + (i : Int) + 1) (by omega) (by omega)
    have lt : ns[k] < ns[m] := List.pairwise_iff_getElem.mp hp k m hk hm (by omega)
    walk_at "hs"
    refine w_ixl (P1.seq hs) a1 ?_
    walk_at "hs"
    refine w_ixl (P1.seq hs) a2 ?_
    walk_at "hs"
    rw [decide_eq_true lt]
    refine LcP.one P (Same.refl _) hD ?_ ?_
    · simp; omega
    · simp [List.replicate_succ']
  · intro H' P
    walk_at "hs"
    refine ⟨D, List.replicate ((ns.length : Int) - 1).toNat true, rfl, l_of P.2, ?_⟩
    have : (List.replicate ((ns.length : Int) - 1).toNat true).all id = true := by simp
    rw [this]
    walk_at "hs"
    exact q _ P.1
theorem u_is_ascending {H : Hp} {Q : VK} {E : XK} {a : Addr} {ns : List Int} (hs : SqL K H a (ns.map V.int)) (hn : ns.length ≤ 1000) (hp : ns.Pairwise (· < ·)) (q : ∀ H', Same H H' → Q (.bl true) H') : sp_is_ascending K [.ref a] H Q E := ⟨a, ns, rfl, hs, hn, hp, q⟩
theorem asc_mem : ∀ {cs : List (Int × Int)} {f : Int}, Asc f cs → ∀ p ∈ cs, f < p.1 ∧ p.1 ≤ lastS f cs
  | [], _, _, _, h => by cases h
  | (g, y) :: r, f, a, p, hp => by
    have a1 := a.1
    have l := Asc.le a.2
    rcases List.mem_cons.mp hp with rfl | hp
    · exact ⟨a1, l⟩
    · have := asc_mem a.2 p hp
      exact ⟨by omega, this.2⟩
theorem asc_pw : ∀ {cs : List (Int × Int)} {f : Int}, Asc f cs → (cs.map fun p => p.1).Pairwise (· < ·)
  | [], _, _ => .nil
  | (g, y) :: r, f, a => .cons (fun m hm => by
      obtain ⟨p, hp, rfl⟩ := List.mem_map.mp hm
      exact (asc_mem a.2 p hp).1) (asc_pw a.2)
theorem p_are_changes (vs : List V) (H : Hp) (Q : VK) (E : XK) (h : sp_are_changes K vs H Q E) : t_are_changes K E (D0 Q) (start N_are_changes vs) H := by
  obtain ⟨a, o, cs, rfl, ⟨xs, hs, hr⟩, ok, q⟩ := h
  have hs := l_of (K := K) hs
  have hr := hr.rw (K := K)
  have hl := hr.len
  rw [List.length_map] at hl
  have h8 := ok.len
  walk_at "hs"
  refine u_is_list_of hs (by omega) (by omega) fun H1 e1 => ?_
  walk_at "hs"
  refine w_sqL ?_
  walk_at "hs"
  intro D hD
  refine lc_list (xs := xs) (LcP H1 D fun i => (List.replicate i true).map V.bl) (LcP.zero hD rfl) (fun i H' _ P => P.1.seq (e1.seq hs)) ?_ ?_
  · intro i x H' hx P
    obtain ⟨p, hp, hT⟩ := RnT.map_get (hr.same (Same.trans e1 P.1)) hx
    obtain ⟨m0, m1⟩ := asc_mem ok.asc p (List.mem_of_getElem? hp)
    obtain ⟨x0, x1⟩ := ok.offs p (List.mem_of_getElem? hp)
    have i8 : i < 1000000 := by
      have := (List.getElem?_eq_some_iff.mp hp).1
      omega
    have hlast := ok.last
    have hT' : (TOP : Int) = 1000000000000000 := rfl
    walk_at "hs"
    refine u_is_change hT (by omega) (by omega) x0 x1 ?_
    refine LcP.one P (Same.refl _) hD ?_ ?_
    · simpa using i8
    · simp [List.replicate_succ']
  · intro H2 P
    have e2 := P.1
    walk_at "hs"
    refine ⟨D, List.replicate xs.length true, rfl, l_of P.2, ?_⟩
    have : (List.replicate xs.length true).all id = true := by simp
    rw [this]
    walk_at "hs"
    refine w_sqL ?_
    walk_at "hs"
    intro D2 hD2
    have e12 := Same.trans e1 e2
    refine lc_list (xs := xs) (LcP H2 D2 fun i => ((cs.take i).map fun p => p.1).map V.int) (LcP.zero hD2 rfl) (fun i H' _ P => P.1.seq (e12.seq hs)) ?_ ?_
    · intro i x H' hx P
      obtain ⟨p, hp, ⟨t, rfl, hT⟩⟩ := RnT.map_get (hr.same (Same.trans e12 P.1)) hx
      have i8 : i < cs.length := (List.getElem?_eq_some_iff.mp hp).1
      unfold encC at hT
      walk_at "hs"
      refine LcP.one P (Same.refl _) hD2 ?_ ?_
      · simp; omega
      · rw [take_succ_map hp, List.map_append]; rfl
    · intro H3 P
      have e3 := P.1
      have h3 : H3 D2 = some (.lst (((cs.take cs.length).map fun p => p.1).map V.int)) := by rw [← hl]; exact P.2
      rw [List.take_length] at h3
      walk_at "hs"
      refine u_is_ascending (l_of h3) (by simp; omega) (asc_pw ok.asc) fun H4 e4 => ?_
      exact q _ (Same.trans e12 (Same.trans e3 e4))
theorem u_are_changes {H : Hp} {Q : VK} {E : XK} {a : Addr} {o : Int} {cs : List (Int × Int)} (h : ChL K H a cs) (ok : ClkOk o cs) (q : ∀ H', Same H H' → Q (.bl true) H') : sp_are_changes K [.ref a] H Q E := ⟨a, o, cs, rfl, h, ok, q⟩
end My
set_option linter.all false
namespace My
/-- the offset behind all changes -/
def lo : Int → List (Int × Int) → Int
  | x, [] => x
  | _, (_, y) :: r => lo y r
theorem red_snoc (p : Int × Int) : ∀ (cs : List (Int × Int)) (x : Int), red x (cs ++ [p]) = red x cs ++ (if p.2 = lo x cs then [] else [p])
  | [], x => by
    obtain ⟨g, y⟩ := p
    simp only [List.nil_append, red, lo]
    rfl
  | (g, y) :: r, x => by
    simp only [List.cons_append, red, lo]
    by_cases h : y = x
    · rw [if_pos h, if_pos h, red_snoc p r x, h]; rfl
    · rw [if_neg h, if_neg h, red_snoc p r y, List.cons_append]; rfl
theorem red_last : ∀ (cs : List (Int × Int)) (f x : Int), ∃ l g, (f, x) :: red x cs = l ++ [(g, lo x cs)]
  | [], f, x => ⟨[], f, rfl⟩
  | (g, y) :: r, f, x => by
    by_cases h : y = x
    · obtain ⟨l, g', e⟩ := red_last r f x
      exact ⟨l, g', by simp only [red, lo]; rw [if_pos h, e, h]⟩
    · obtain ⟨l, g', e⟩ := red_last r g y
      exact ⟨(f, x) :: l, g', by simp only [red, lo]; rw [if_neg h, e, List.cons_append]⟩
theorem rgs_zip : ∀ (cs : List (Int × Int)) (f x : Int), rgs f x cs = List.zipWith (fun p e => (p.1, e, p.2)) ((f, x) :: cs) (cs.map (fun p => some (p.1 - 1)) ++ [none])
  | [], f, x => rfl
  | (g, y) :: r, f, x => by
    rw [rgs_cons, rgs_zip r g y]; rfl
theorem red_len : ∀ (cs : List (Int × Int)) (x : Int), (red x cs).length ≤ cs.length
  | [], x => Nat.le_refl _
  | (g, y) :: r, x => by
    simp only [red]
    by_cases h : y = x
    · rw [if_pos h]; have := red_len r x; simp only [List.length_cons]; omega
    · rw [if_neg h]; have := red_len r y; simp only [List.length_cons]; omega
theorem rgs_len : ∀ (cs : List (Int × Int)) (f x : Int), (rgs f x cs).length = cs.length + 1
  | [], f, x => rfl
  | (g, y) :: r, f, x => by rw [rgs_cons, List.length_cons, rgs_len r g y]; rfl
end My
set_option linter.all false
set_option maxRecDepth 100000
set_option maxHeartbeats 4000000
namespace My
open PySem PySem.Spec PyProof.Rows L2 Kx
local macro_rules | `(tactic| walk_at "lk") => `(tactic| first | assumption | ((with_reducible show upd _ _ _ _ = _); (first | exact upd_same | (exact up_new (by assumption) (by walk_at "lk")) | (exact up_other (by assumption) (by walk_at "lk")))) | (exact (by assumption : Same _ _) _ _ (by walk_at "lk")) | (exact ks_get (by assumption) (by walk_at "lk") (by first | rfl | assumption | exact notBox_len rfl)))
local macro_rules | `(tactic| walk_at "sl") => `(tactic| first | assumption | (exact l_of (by walk_at "lk")) | (exact Same.seq (by assumption) (by walk_at "sl")) | ((with_reducible show SqL _ (upd _ _ _) _ _); (exact Same.seq (sm_new (by assumption)) (by walk_at "sl"))))
local macro_rules | `(tactic| walk_at "st") => `(tactic| first | assumption | (exact t_of (by walk_at "lk")) | (exact Kx.Same.tup (by assumption) (by walk_at "st")) | ((with_reducible show SqT _ (upd _ _ _) _ _); (exact Kx.Same.tup (sm_new (by assumption)) (by walk_at "st"))) | (exact ks_tup (by assumption) (by walk_at "st")))
local macro_rules | `(tactic| walk_at "kd") => `(tactic| first | assumption | exact .non | exact .bl _ | exact .int _ | exact .str _ | (exact .lst (by walk_at "sl")) | (exact .tup (by walk_at "st")) | (exact .dic (by walk_at "lk")) | (exact Kd.same (by assumption) (by walk_at "kd")) | ((with_reducible show Kd _ (upd _ _ _) _ _); (exact Kd.same (sm_new (by assumption)) (by walk_at "kd"))))
local macro_rules | `(tactic| walk_at "tt") => `(tactic| first | rfl | assumption | decide +kernel | (simp only [decide_eq_true_eq, Bool.not_eq_true', decide_eq_false_iff_not, Bool.and_eq_true, Bool.or_eq_true]; omega))
local macro_rules | `(tactic| walk_at "ff") => `(tactic| first | rfl | assumption | decide +kernel | (simp only [decide_eq_true_eq, Bool.not_eq_false', decide_eq_false_iff_not, Bool.and_eq_false_imp, Bool.or_eq_false_iff]; omega))
local macro_rules | `(tactic| walk_at "hc") => `(tactic| fail)
local macro_rules | `(tactic| walk_at "hif") => `(tactic| ((with_reducible refine w_b2 ?_ ?_) <;> intro))
local macro_rules | `(tactic| walk_at "hs1") => `(tactic| first
  | (with_reducible refine w_seq ?_)
  | (with_reducible refine w_asg ?_)
  | ((with_reducible refine' w_var ?k1 ?_); (case k1 => exact rfl))
  | (with_reducible refine w_c ?_)
  | (with_reducible refine w_op ?_)
  | (with_reducible refine w_cons ?_)
  | (with_reducible refine w_nil ?_)
  | (with_reducible refine w_name ?_)
  | (with_reducible refine w_kn ?_)
  | (with_reducible refine w_kx ?_)
  | (with_reducible refine w_kk ?_)
  | (with_reducible refine w_cb ?_)
  | (with_reducible refine w_if ?_)
  | (with_reducible refine w_test ?_)
  | (with_reducible refine w_exb ?_)
  | (with_reducible refine iteT ?_)
  | (with_reducible refine iteF ?_)
  | ((with_reducible refine w_bt ?_ ?_); (first | rfl | decide +kernel))
  | ((with_reducible refine w_bf ?_ ?_); (first | rfl | decide +kernel))
  | ((with_reducible refine w_bt ?_ ?_); (walk_at "tt"))
  | ((with_reducible refine w_bf ?_ ?_); (walk_at "ff"))
  | (with_reducible refine w_ret ?_)
  | (with_reducible refine w_retN ?_)
  | (with_reducible refine w_drop ?_)
  | (with_reducible refine w_next ?_)
  | (with_reducible refine w_brk ?_)
  | (with_reducible refine w_cont ?_)
  | (with_reducible refine w_and ?_)
  | (with_reducible refine w_or ?_)
  | (with_reducible refine w_not ?_)
  | (with_reducible refine w_tr ?_)
  | (with_reducible refine w_yes ?_)
  | (with_reducible refine w_tru_bl ?_)
  | (with_reducible refine w_tru_int ?_)
  | (with_reducible refine w_tru_non ?_)
  | (with_reducible refine w_andV ?_)
  | (with_reducible refine w_orV ?_)
  | (with_reducible refine w_notV ?_)
  | (with_reducible refine w_ifx ?_)
  | (with_reducible refine w_chain ?_)
  | (with_reducible refine w_un ?_)
  | (with_reducible refine n_tup ?_)
  | (with_reducible refine n_lst ?_)
  | ((with_reducible show kTup _ _ _); (refine n_ktup rfl ?_); intro _ _ _ _ _)
  | ((with_reducible show kLst _ _ _); (refine n_klst rfl ?_); intro _ _ _ _ _)
  | (with_reducible refine w_par ?_)
  | (with_reducible refine w_par2 ?_)
  | (with_reducible refine w_par3 ?_)
  | (with_reducible refine w_par33 ?_)
  | ((with_reducible refine' w_aug ?k1 ?_); (case k1 => exact rfl))
  | (with_reducible refine w_raise ?_)
  | (with_reducible refine w_mkdue ?_)
  | (with_reducible refine w_one ?_)
  | ((with_reducible show gSq _ _ _ (V.ref _) _ _ _); (first | (refine n_gsq (by walk_at "lk") (by exact rfl) (by exact rfl) ?_) | (refine w_gtup (by walk_at "st") (by exact rfl) ?_) | (refine w_glst (by walk_at "sl") (by exact rfl) ?_)))
  | (with_reducible refine w_gcons ?_)
  | (with_reducible refine w_gnil ?_)
  | (with_reducible refine w_bm ?_)
  | ((with_reducible show tyV _ "list" (V.ref _) _ ∧ _); (refine w_tyl (by walk_at "sl") ?_))
  | (with_reducible refine w_for ?_)
  | (with_reducible refine w_rng1 ?_)
  | (with_reducible refine w_rng2 ?_)
  | (with_reducible refine w_add_ii ?_)
  | (with_reducible refine w_sub_ii ?_)
  | ((with_reducible refine w_fdv_ii ?_ ?_ ?_); (first | decide | omega); (first | decide | omega))
  | ((with_reducible refine w_mul_b ?_ ?_ ?_); (refine ⟨?_, ?_⟩ <;> omega); (refine ⟨?_, ?_⟩ <;> omega))
  | ((with_reducible refine w_mod_ii ?_ ?_); (first | decide | omega))
  | (with_reducible refine w_neg_i ?_)
  | (with_reducible refine w_lt_ii ?_)
  | (with_reducible refine w_le_ii ?_)
  | (with_reducible refine w_gt_ii ?_)
  | (with_reducible refine w_ge_ii ?_)
  | (with_reducible refine w_eq_ii ?_)
  | (with_reducible refine w_ne_ii ?_)
  | (with_reducible refine n_eq_same ?_)
  | (with_reducible refine n_ne_same ?_)
  | (with_reducible refine w_eq_ss ?_)
  | (with_reducible refine w_ne_ss ?_)
  | (with_reducible refine w_eq_bb ?_)
  | (with_reducible refine w_ne_bb ?_)
  | (with_reducible refine w_is_n ?_)
  | (with_reducible refine w_isn_n ?_)
  | (with_reducible refine w_is_bb ?_)
  | (with_reducible refine w_isn_bb ?_)
  | ((with_reducible show rIx _ (V.ref _) (V.int _) _ _); (first | (refine n_ix (by decide) (by walk_at "lk") (by exact rfl) ?_) | (refine n_ixl (by decide) (by walk_at "sl") (by exact rfl) ?_) | (refine n_ixt (by decide) (by walk_at "st") (by exact rfl) ?_)))
  | (with_reducible refine w_ipadd ?_)
  | (with_reducible refine w_ipsub ?_)
  | (with_reducible refine w_int_i ?_)
  | (with_reducible refine w_int_b ?_)
  | (with_reducible refine w_abs ?_)
  | ((with_reducible refine w_max2r ?_); intro _ _ _ _)
  | ((with_reducible refine w_min2r ?_); intro _ _ _ _)
  | ((with_reducible show uLen _ [V.ref _] _ _); (first | (refine n_len (by walk_at "lk") (by exact rfl) ?_) | (refine w_len_l (by walk_at "sl") ?_) | (refine w_len_t (by walk_at "st") ?_) | (refine w_len_d (by walk_at "lk") ?_)))
  | ((with_reducible show uIsi _ [_, V.ty _] _ _); (refine w_isk (by walk_at "kd") (by decide) ?_))
  | ((with_reducible show uIsi _ [_, V.ref (He.ga _ _)] _ _); (first | (refine w_isC_t (by assumption) (by walk_at "lk") ?_) | (refine w_isC_f (by assumption) (by walk_at "kd") ?_)))
  | ((with_reducible show uIsi _ [_, V.ref _] _ _); (refine w_isk2 (by walk_at "lk") (by walk_at "kd") (by decide) (by decide) ?_))
  | (with_reducible refine w_wN ?_)
  | (with_reducible refine w_lc ?_)
  | ((with_reducible refine' w_rng2e ?k1 ?_); (case k1 => (refine ⟨?_, ?_, ?_, ?_⟩ <;> omega)))
  | ((with_reducible refine' w_rng1e ?k1 ?k2 ?_); (case k1 => omega); (case k2 => omega))
  | ((with_reducible show ∃ a', V.ref _ = .ref a' ∧ (∃ xs, SqL _ _ a' xs) ∧ _); (refine w_sqLe (by walk_at "sl") ?_))
  | ((with_reducible show ∃ a', V.ref _ = .ref a' ∧ (∃ xs, SqT _ _ a' xs) ∧ _); (refine w_sqTe (by walk_at "st") ?_))
  | (with_reducible refine w_slc ?_)
  | (with_reducible refine w_nop ?_)
  | (with_reducible refine w_part ?_)
  | (with_reducible refine w_exi ?_)
  | ((with_reducible show uSl _ (V.ref _) _ _ _ _); (refine n_slL (by walk_at "sl") ?_); intro _ _ _ _ _)
  | (with_reducible refine w_gsub ?_)
  | ((with_reducible show rSetL (V.ref _) (V.int _) _ _ _); (refine w_setl (by walk_at "lk") (by exact rfl) ?_))
  | (with_reducible refine w_pow_9 ?_)
  | (with_reducible refine w_pow_12 ?_)
  | (with_reducible refine w_pow_13 ?_)
  | (with_reducible refine w_pow_18 ?_)
  | (with_reducible refine w_pow_29 ?_)
  | ((with_reducible refine n_disp1 ?_); intro _ _ _ _ _)
  | (with_reducible refine w_dput ?_)
  | ((with_reducible show rAppend (V.ref _) [_] _ _); (refine w_append (by walk_at "lk") (by first | omega | (exact Nat.lt_of_le_of_lt (wN_le rfl) (by decide))) ?_))
  | ((with_reducible show ∃ a' H4, V.ref _ = .ref a' ∧ DPut _ a' (V.str _) _ H4 ∧ _); (refine w_dputS (by walk_at "lk") (by first | omega | exact wN_le rfl) ?_))
  | (with_reducible refine w_try ?_)
  | ((with_reducible show wManyA _ _ _ _ (.ref (He.ga _ _)) _ _ _); (first | ((refine w_hit (ExT.ex (by assumption) _ (by decide) _ (by decide)) ?_); intro _ _) | (refine w_miss (ExT.ex (by assumption) _ (by decide) _ (by decide)) ?_)))
  | (with_reducible refine w_xg ?_)
  | ((with_reducible show V.ref _ = .ref _ ∧ ∃ _ _ _ _, Value.ref (He.ga _ _) = _ ∧ _); (refine w_xge (ExT.xf (by assumption) _ (by decide)) (ExT.fg (by assumption) _ (by decide)) (by walk_at "lk") ?_))
  | ((with_reducible show rIsX _ (.ref (He.ga _ _)) _ _ _ _ _); (refine w_isx (ExT.xx (by assumption) _ (by decide)) (ExT.kd (by assumption) _ (by decide)) (by walk_at "lk") ?_))
  | ((with_reducible show uAdd _ (V.ref _) (V.ref _) _ _); (refine n_add_ll (by walk_at "lk") (by walk_at "lk") rfl ?_); intro _ _ _ _ _)
  | ((with_reducible show iSeq _ (tLst _) _ _ _); (refine w_sqL ?_))
  | ((with_reducible show iSeq _ (tTup _) _ _ _); (refine w_sqT ?_))
  | (refine ⟨(rfl : wipe _ _ = wipe _ _), ?_⟩)
  | (with_reducible refine w_tryB ?_)
  | ((with_reducible show L2.wManyB _ _ _ _ (.ref (He.ga _ _)) _ _ _); (first | ((refine w_hitB (by assumption) (by decide) (by decide) (by decide) ?_); intro _ _) | (refine w_missB (by assumption) (by decide) (by decide) (by decide) ?_)))
  | ((with_reducible show uIx _ (V.ref _) (V.int _) _ _); (refine w_ixX ?_))
  | ((with_reducible show uIx _ (V.ref _) (V.ref _) _ _); (refine w_ixT (by walk_at "lk") (by walk_at "lk") (by exact rfl) ?_))
  | ((with_reducible show uIx _ (V.ref _) (V.str _) _ _); (refine w_ixK (by walk_at "lk") (.inr _) (by exact rfl) ?_))
  | ((with_reducible show uInX _ _ (V.ref _) _ _); (refine w_inX (w_in_f (by first | exact .inl (by walk_at "sl") | exact .inr (by walk_at "st")) rfl rfl ?_)))
  | ((with_reducible show uNinX _ _ (V.ref _) _ _); (refine w_ninX (w_nin_f (by first | exact .inl (by walk_at "sl") | exact .inr (by walk_at "st")) rfl rfl ?_)))
  | ((with_reducible show rSetX (V.ref _) (V.int _) _ _ _); (refine w_setX ?_))
  | (with_reducible refine w_km ?_)
  | (with_reducible refine w_kmk ?_)
  | ((with_reducible show ∃ _ _ _, V.ref _ = V.ref _ ∧ _ = some (HO.ins _ _ _) ∧ List.lookup _ _ = none ∧ _); (refine w_kme (by walk_at "lk") (by exact rfl) ?_))
  | (with_reducible refine w_kc ?_)
  | (with_reducible refine w_kck ?_)
  | ((with_reducible show kMade _ _ _ _ _ _); (refine w_kmade ?_); intro _ _ _ _ _ _ _ _ _)
  | (with_reducible refine w_fld ?_)
  | ((with_reducible show ∃ _ _ _ _ _, V.ref _ = V.ref _ ∧ _ = some (HO.ins _ _ _) ∧ Cls _ _ ∧ NoAttr _ _ _ ∧ _ ∧ _); (refine' w_flde ?k1 ?k2 ?k3 ?k4 ?_; (case k3 => walk_at "lk"); (case k1 => exact CF.cls (by assumption)); (case k2 => exact CF.na (by assumption) _ (by decide)); (case k4 => exact rfl)))
  | (with_reducible refine w_sfld ?_)
  | ((with_reducible show ∃ _ _ _ _, V.ref _ = V.ref _ ∧ _ = some (HO.ins _ _ _) ∧ Cls _ _ ∧ NoAttr _ _ _ ∧ _ ∧ _); (refine' w_sflde ?k1 ?k2 ?k3 ?k4 ?_; (case k3 => walk_at "lk"); (case k1 => exact CF.cls (by assumption)); (case k2 => exact CF.na (by assumption) _ (by decide)); (case k4 => exact rfl); intro _ _ _))
  | ((with_reducible show uIsi _ [_, V.ref (He.ga _ _)] _ _); (first | (refine w_isC_t (by assumption) (by walk_at "lk") ?_) | (refine w_isC_f (by assumption) (by walk_at "kd") ?_)))
  | (walk_at "hc"))
local macro_rules | `(tactic| walk_at "hs") => `(tactic| repeat' (walk_at "hs1"))

local macro_rules | `(tactic| walk_at "rg") => `(tactic| repeat' (first | exact rg_nil | (refine rg_cons (by omega) (by omega) ?_)))
local macro_rules | `(tactic| walk_at "sm") => `(tactic| first | exact Same.refl _ | assumption | ((with_reducible show Same _ (upd _ _ _)); (refine Same.trans ?_ (sm_new (by assumption))); walk_at "sm") | ((refine Same.trans ?_ (by assumption)); walk_at "sm"))
local macro_rules | `(tactic| walk_at "bx") => `(tactic| first | assumption | ((with_reducible show BoxAt (upd _ _ _) _ _); (exact BoxAt.new (by assumption) (by walk_at "bx"))) | (exact BoxAt.same (by assumption) (by walk_at "bx")))
local macro_rules | `(tactic| walk_at "ks") => `(tactic| first | exact Ks.refl _ | assumption | ((with_reducible show Ks _ (upd _ _ _)); (refine Ks.trans ?_ (Ks.of (sm_new (by assumption))); walk_at "ks")) | (refine Ks.trans ?_ (by assumption); walk_at "ks") | (refine Ks.trans ?_ (Ks.of (by assumption)); walk_at "ks"))
local macro_rules | `(tactic| walk_at "ob") => `(tactic| first | assumption | exact .sc rfl | (exact Ob.same (by assumption) (by walk_at "ob")) | (exact Ob.ks (by assumption) (by walk_at "ob")))
local macro_rules | `(tactic| walk_at "nd") => `(tactic| first | assumption | (exact Nd.same (by assumption) (by walk_at "nd")) | (exact Nd.ks (by assumption) (by walk_at "nd")))
local macro_rules | `(tactic| walk_at "df") => `(tactic| first | assumption | exact df_sc rfl | (exact df_vr (by assumption) (by walk_at "lk")) | (exact df_rv (by assumption) (by walk_at "ob")) | (exact df_vv (by assumption) (by walk_at "ob")) | (exact Df.symm (df_vv (by assumption) (by walk_at "ob"))))
local macro_rules | `(tactic| walk_at "hc") => `(tactic| (with_reducible show sp_is_whole _ _ _ _ _); (refine u_is_whole (by walk_at "kd") ?_))
local macro_rules | `(tactic| walk_at "hc") => `(tactic| (with_reducible show sp_is_between _ _ _ _ _); (refine u_is_between (by walk_at "kd") ?_))
local macro_rules | `(tactic| walk_at "hc") => `(tactic| (with_reducible show sp_is_list _ _ _ _ _); (refine u_is_list (by walk_at "sl") ?_); intro _ _)
local macro_rules | `(tactic| walk_at "hc") => `(tactic| (with_reducible show sp_is_time _ _ _ _ _); (refine u_is_time (by walk_at "kd") ?_))
local macro_rules | `(tactic| walk_at "hc") => `(tactic| (with_reducible show sp_is_offset _ _ _ _ _); (refine u_is_offset (by walk_at "kd") ?_))
local macro_rules | `(tactic| walk_at "hc") => `(tactic| (with_reducible show sp__law_take _ _ _ _ _); (refine u__law_take (by walk_at "bx") (by omega) (by omega) (by omega) ?_); intro _ _ _ _ _ _)
variable {K : PySem.W.Frag}
theorem cut_tail {x : V} {l : List V} : cutV (x :: l) (some 1) none = l := by
  unfold cutV HT.sIx
  simp
theorem m_add_ll {H : Hp} {Q : VK} {p a : Addr} {xs vs : List V} (h1 : H p = some (.lst xs)) (h2 : H a = some (.lst vs)) (hn : xs.length + vs.length ≤ 1000000) (q : ∀ r H', Same H H' → H' r = some (.lst (xs ++ vs)) → Q (.ref r) H') : uAdd K (.ref p) (.ref a) H Q :=
  w_add_ll h1 h2 hn fun r hr => q r _ (sm_new hr) upd_same
theorem w_zip {ta : TA} {σ : L2.St} {H : Hp} {R : It → Hp → Prop} (q : ta σ H fun vs H1 => ∃ a b xs ys, vs = [.ref a, .ref b] ∧ SqL K H1 a xs ∧ SqL K H1 b ys ∧ R (Itz K a b) H1) : iZip K ta σ H R := q
theorem atI_m1 {ys : List V} {n : Nat} {v : V} (h : ys[n]? = some v) (hl : ys.length = n + 1) : atI ys (-1) = some v := by
  rcases List.eq_nil_or_concat ys with rfl | ⟨l, x, e⟩
  · simp at hl
  · have e : ys = l ++ [x] := by simpa using e
    subst e
    have : l.length = n := by simpa using hl
    subst this
    simp at h
    subst h
    exact atI_last _ _
theorem p_ranges_of (vs : List V) (H : Hp) (Q : VK) (E : XK) (h : sp_ranges_of K vs H Q E) : t_ranges_of K E (D0 Q) (start N_ranges_of vs) H := by
  obtain ⟨o, a, cs, rfl, ⟨xs, hc, hr⟩, ok, q⟩ := h
  have hc := l_of (K := K) hc
  have hr := hr.rw (K := K)
  have hl : xs.length = cs.length := by simpa using hr.len
  have lc := ok.len
  walk_at "hs"
  rename_i T HT nT sT hT F HF nF sF hF
  have e0 : Same H HF := Same.trans sT sF
  refine w_sqL ?_
  walk_at "hs"
  refine for_list (xs := xs) (fun j σ H3 => ∃ s3 s4 s5 s6 s7 s8 s9, σ = [some (.int o), some (.ref a), some (.ref F), s3, s4, s5, s6, s7, s8, s9] ∧ Same H H3 ∧ ∃ ys, H3 F = some (.lst ys) ∧ RnT H3 ys (((0, o) :: red o (cs.take j)).map encC))
    ⟨_, _, _, _, _, _, _, rfl, e0, [.ref T], hF, .cons (sF _ _ hT) .nil⟩ (fun _ _ _ _ ⟨_, _, _, _, _, _, _, _, e3, _⟩ => e3.seq hc) ?_ ?_
  · rintro j v σ H3 hx ⟨s3, s4, s5, s6, s7, s8, s9, rfl, e3, ys, hy, rn⟩
    obtain ⟨p, hp, ⟨t, rfl, hT3⟩⟩ := RnT.map_get (hr.same e3) hx
    have i8 : j < cs.length := (List.getElem?_eq_some_iff.mp hp).1
    unfold encC at hT3
    obtain ⟨l0, g0, e0'⟩ := red_last (cs.take j) 0 o
    have rl : ((0, o) :: red o (cs.take j)).length ≤ 9 := by have := red_len (cs.take j) o; simp only [List.length_cons, List.length_take] at this ⊢; omega
    have yl : ys.length = ((0, o) :: red o (cs.take j)).length := by simpa using rn.len
    obtain ⟨tt, ht1, ht2⟩ := RnT.get2 (i := l0.length) rn (l := encC (g0, lo o (cs.take j))) (by rw [e0', List.map_append, List.getElem?_append_right (by simp)]; simp)
    have yl2 : ys.length = l0.length + 1 := by rw [yl, e0']; simp
    have ha : atI ys (-1) = some (.ref tt) := atI_m1 ht1 yl2
    unfold encC at ht2
    walk_at "hs"
    refine w_ixl (l_of hy) ha ?_
    walk_at "hs"
    have hs1 : cs.take (j + 1) = cs.take j ++ [p] := by rw [List.take_succ, hp]; rfl
    by_cases c : p.2 = lo o (cs.take j)
    · rw [show (!decide (p.snd = (g0, lo o (List.take j cs)).snd)) = false by simpa using c]
      walk_at "hs"
      refine ⟨_, _, _, _, _, _, _, rfl, e3, ys, hy, ?_⟩
      rw [hs1, red_snoc, if_pos c, List.append_nil]; exact rn
    · rw [show (!decide (p.snd = (g0, lo o (List.take j cs)).snd)) = true by simpa using c]
      walk_at "hs"
      rename_i P4 H4 nP sP hP
      have hy4 := sP _ _ hy
      have nF' : H F = none := by
        cases z : H F with
        | none => rfl
        | some u => rw [sT _ _ z] at nF; cases nF
      refine ⟨_, _, _, _, _, _, _, rfl, sm_mut (Same.trans e3 sP) nF', _, upd_same, ?_⟩
      rw [hs1, red_snoc, if_neg c, ← List.cons_append, List.map_append]
      refine RnT.app ?_ ?_
      · exact (rn.same sP).but (fun b o n h => by rw [upd_ne n]; exact h) ⟨ys, hy4⟩
      · refine .cons ?_ .nil
        rw [upd_ne (fun z => by rw [z, hy4] at hP; cases hP)]
        exact hP
  · rintro σ H3 ⟨s3, s4, s5, s6, s7, s8, s9, rfl, e3, ys, hy, rn⟩
    rw [hl, List.take_length] at rn
    walk_at "hs"
    refine w_sqL ?_
    walk_at "hs"
    rename_i S HS nS sS hS
    rcases rn with _ | ⟨hT0, rn1⟩
    rename_i T0 rest
    rw [show cutV (V.ref T0 :: rest) (some 1) none = rest from cut_tail] at hS
    have eS : Same H HS := Same.trans e3 sS
    have rn2 : RwT K HS rest ((red o cs).map encC) := (rn1.same sS).rw
    have rl : (red o cs).length ≤ cs.length := red_len cs o
    have rl2 : rest.length = (red o cs).length := by simpa using rn1.len
    intro D hD
    refine lc_list (xs := rest) (LcP HS D fun i => (((red o cs).take i).map fun p => p.1 - 1).map V.int) (LcP.zero hD rfl) (fun i H' _ P => P.1.seq (l_of hS)) ?_ ?_
    · intro i x H' hx P
      obtain ⟨p, hp, ⟨t, rfl, hT⟩⟩ := RnT.map_get (rn2.same P.1) hx
      have i8 : i < (red o cs).length := (List.getElem?_eq_some_iff.mp hp).1
      unfold encC at hT
      walk_at "hs"
      refine LcP.one P (Same.refl _) hD ?_ ?_
      · simp; omega
      · rw [take_succ_map hp, List.map_append]; rfl
    · intro H5 P
      have e5 := P.1
      have h5 := P.2
      have h6 : H5 D = some (.lst (((red o cs).map fun p => p.1 - 1).map V.int)) := by
        have h6 : H5 D = some (.lst (((((red o cs).take rest.length)).map fun p => p.1 - 1).map V.int)) := h5
        rw [rl2, List.take_length] at h6; exact h6
      clear h5
      walk_at "hs"
      rename_i N HN nN sN hN
      refine m_add_ll (sN _ _ h6) hN (by simp; omega) fun Z HZ sZ hZ => ?_
      have hZ : HZ Z = some (.lst (((red o cs).map (fun p : Int × Int => some (p.1 - 1)) ++ [none]).map oI)) := by
        rw [hZ]; simp [List.map_append, List.map_map, Function.comp_def, oI]
      have eZ : Same HS HZ := Same.trans e5 (Same.trans sN sZ)
      have hFZ : HZ F = some (.lst (V.ref T0 :: rest)) := eZ _ _ (sS _ _ hy)
      have rnF : RnT HZ (V.ref T0 :: rest) (((0, o) :: red o cs).map encC) := by
        exact RnT.same (Same.trans sS eZ) (.cons hT0 rn1)
      walk_at "hs"
      refine w_zip ?_
      walk_at "hs"
      refine ⟨F, Z, _, _, rfl, l_of hFZ, l_of hZ, ?_⟩
      intro D2 hD2
      refine lc_it (walk_zip rfl) (LcR HZ D2 fun i => ((rgs 0 o (red o cs)).take i).map encR) (LcR.zero hD2 rfl) (fun i H' _ P => ⟨P.1.seq (l_of hFZ), P.1.seq (l_of hZ)⟩) ?_ ?_
      · rintro i x H7 H8 hi P ⟨t, x1, y1, rfl, nt, rfl, hx1, hy1⟩
        obtain ⟨p, hp, ⟨t1, rfl, hT1⟩⟩ := RnT.map_get (K := K) (rnF.same P.1).rw hx1
        have hy1 : (((red o cs).map (fun p : Int × Int => some (p.1 - 1)) ++ [none]).map oI)[i]? = some y1 := hy1
        rw [List.getElem?_map] at hy1
        obtain ⟨e, he, rfl⟩ := Option.map_eq_some_iff.mp hy1
        have hr1 : (rgs 0 o (red o cs))[i]? = some (p.1, e, p.2) := by
          rw [rgs_zip, List.getElem?_zipWith, hp, he]
        have i9 : i < (rgs 0 o (red o cs)).length := (List.getElem?_eq_some_iff.mp hr1).1
        rw [rgs_len] at i9
        have sT8 : Same H7 (upd H7 t (.tup [V.ref t1, oI e])) := sm_new nt
        have hT8 : SqT K (upd H7 t (.tup [V.ref t1, oI e])) t1 (encC p) := Kx.Same.tup sT8 hT1
        unfold encC at hT8
        walk_at "hs"
        rename_i T9 H9 nT9 sT9 hT9
        refine LcR.one P (Same.trans sT8 sT9) hD2 ?_ hT9 ?_
        · simp; omega
        · exact take_succ_map hr1
      · intro H9 P
        have hn : (List.map encR (List.take (min (V.ref T0 :: rest).length (((red o cs).map (fun p : Int × Int => some (p.1 - 1)) ++ [none]).map oI).length) (rgs 0 o (red o cs)))) = (rgs 0 o (red o cs)).map encR := by
          rw [List.take_of_length_le]
          rw [rgs_len]; simp [rl2]
        obtain ⟨e9, zs, hz, rz⟩ := P
        have rz : RnT H9 zs (List.map encR (List.take (min (V.ref T0 :: rest).length (((red o cs).map (fun p : Int × Int => some (p.1 - 1)) ++ [none]).map oI).length) (rgs 0 o (red o cs)))) := rz
        rw [hn] at rz
        exact q _ zs _ (Same.trans eS (Same.trans eZ e9)) hz rz
theorem u_ranges_of {H : Hp} {Q : VK} {E : XK} {o : Int} {a : Addr} {cs : List (Int × Int)} (h : ChL K H a cs) (ok : ClkOk o cs) (q : NewR H Q ((rgs 0 o (red o cs)).map encR)) : sp_ranges_of K [.int o, .ref a] H Q E := ⟨o, a, cs, rfl, h, ok, q⟩
end My
set_option linter.all false
set_option maxRecDepth 100000
set_option maxHeartbeats 4000000
namespace My
open PySem PySem.Spec PyProof.Rows L2 Kx
local macro_rules | `(tactic| walk_at "lk") => `(tactic| first | assumption | ((with_reducible show upd _ _ _ _ = _); (first | exact upd_same | (exact up_new (by assumption) (by walk_at "lk")) | (exact up_other (by assumption) (by walk_at "lk")))) | (exact (by assumption : Same _ _) _ _ (by walk_at "lk")) | (exact ks_get (by assumption) (by walk_at "lk") (by first | rfl | assumption | exact notBox_len rfl)))
local macro_rules | `(tactic| walk_at "sl") => `(tactic| first | assumption | (exact l_of (by walk_at "lk")) | (exact Same.seq (by assumption) (by walk_at "sl")) | ((with_reducible show SqL _ (upd _ _ _) _ _); (exact Same.seq (sm_new (by assumption)) (by walk_at "sl"))))
local macro_rules | `(tactic| walk_at "st") => `(tactic| first | assumption | (exact t_of (by walk_at "lk")) | (exact Kx.Same.tup (by assumption) (by walk_at "st")) | ((with_reducible show SqT _ (upd _ _ _) _ _); (exact Kx.Same.tup (sm_new (by assumption)) (by walk_at "st"))) | (exact ks_tup (by assumption) (by walk_at "st")))
local macro_rules | `(tactic| walk_at "kd") => `(tactic| first | assumption | exact .non | exact .bl _ | exact .int _ | exact .str _ | (exact .lst (by walk_at "sl")) | (exact .tup (by walk_at "st")) | (exact .dic (by walk_at "lk")) | (exact Kd.same (by assumption) (by walk_at "kd")) | ((with_reducible show Kd _ (upd _ _ _) _ _); (exact Kd.same (sm_new (by assumption)) (by walk_at "kd"))))
local macro_rules | `(tactic| walk_at "tt") => `(tactic| first | rfl | assumption | decide +kernel | (simp only [decide_eq_true_eq, Bool.not_eq_true', decide_eq_false_iff_not, Bool.and_eq_true, Bool.or_eq_true]; omega))
local macro_rules | `(tactic| walk_at "ff") => `(tactic| first | rfl | assumption | decide +kernel | (simp only [decide_eq_true_eq, Bool.not_eq_false', decide_eq_false_iff_not, Bool.and_eq_false_imp, Bool.or_eq_false_iff]; omega))
local macro_rules | `(tactic| walk_at "hc") => `(tactic| fail)
local macro_rules | `(tactic| walk_at "hif") => `(tactic| ((with_reducible refine w_b2 ?_ ?_) <;> intro))
local macro_rules | `(tactic| walk_at "hs1") => `(tactic| first
  | (with_reducible refine w_seq ?_)
  | (with_reducible refine w_asg ?_)
  | ((with_reducible refine' w_var ?k1 ?_); (case k1 => exact rfl))
  | (with_reducible refine w_c ?_)
  | (with_reducible refine w_op ?_)
  | (with_reducible refine w_cons ?_)
  | (with_reducible refine w_nil ?_)
  | (with_reducible refine w_name ?_)
  | (with_reducible refine w_kn ?_)
  | (with_reducible refine w_kx ?_)
  | (with_reducible refine w_kk ?_)
  | (with_reducible refine w_cb ?_)
  | (with_reducible refine w_if ?_)
  | (with_reducible refine w_test ?_)
  | (with_reducible refine w_exb ?_)
  | (with_reducible refine iteT ?_)
  | (with_reducible refine iteF ?_)
  | ((with_reducible refine w_bt ?_ ?_); (first | rfl | decide +kernel))
  | ((with_reducible refine w_bf ?_ ?_); (first | rfl | decide +kernel))
  | ((with_reducible refine w_bt ?_ ?_); (walk_at "tt"))
  | ((with_reducible refine w_bf ?_ ?_); (walk_at "ff"))
  | (with_reducible refine w_ret ?_)
  | (with_reducible refine w_retN ?_)
  | (with_reducible refine w_drop ?_)
  | (with_reducible refine w_next ?_)
  | (with_reducible refine w_brk ?_)
  | (with_reducible refine w_cont ?_)
  | (with_reducible refine w_and ?_)
  | (with_reducible refine w_or ?_)
  | (with_reducible refine w_not ?_)
  | (with_reducible refine w_tr ?_)
  | (with_reducible refine w_yes ?_)
  | (with_reducible refine w_tru_bl ?_)
  | (with_reducible refine w_tru_int ?_)
  | (with_reducible refine w_tru_non ?_)
  | (with_reducible refine w_andV ?_)
  | (with_reducible refine w_orV ?_)
  | (with_reducible refine w_notV ?_)
  | (with_reducible refine w_ifx ?_)
  | (with_reducible refine w_chain ?_)
  | (with_reducible refine w_un ?_)
  | (with_reducible refine n_tup ?_)
  | (with_reducible refine n_lst ?_)
  | ((with_reducible show kTup _ _ _); (refine n_ktup rfl ?_); intro _ _ _ _ _)
  | ((with_reducible show kLst _ _ _); (refine n_klst rfl ?_); intro _ _ _ _ _)
  | (with_reducible refine w_par ?_)
  | (with_reducible refine w_par2 ?_)
  | (with_reducible refine w_par3 ?_)
  | (with_reducible refine w_par33 ?_)
  | ((with_reducible refine' w_aug ?k1 ?_); (case k1 => exact rfl))
  | (with_reducible refine w_raise ?_)
  | (with_reducible refine w_mkdue ?_)
  | (with_reducible refine w_one ?_)
  | ((with_reducible show gSq _ _ _ (V.ref _) _ _ _); (first | (refine n_gsq (by walk_at "lk") (by exact rfl) (by exact rfl) ?_) | (refine w_gtup (by walk_at "st") (by exact rfl) ?_) | (refine w_glst (by walk_at "sl") (by exact rfl) ?_)))
  | (with_reducible refine w_gcons ?_)
  | (with_reducible refine w_gnil ?_)
  | (with_reducible refine w_bm ?_)
  | ((with_reducible show tyV _ "list" (V.ref _) _ ∧ _); (refine w_tyl (by walk_at "sl") ?_))
  | (with_reducible refine w_for ?_)
  | (with_reducible refine w_rng1 ?_)
  | (with_reducible refine w_rng2 ?_)
  | (with_reducible refine w_add_ii ?_)
  | (with_reducible refine w_sub_ii ?_)
  | ((with_reducible refine w_fdv_ii ?_ ?_ ?_); (first | decide | omega); (first | decide | omega))
  | ((with_reducible refine w_mul_b ?_ ?_ ?_); (refine ⟨?_, ?_⟩ <;> omega); (refine ⟨?_, ?_⟩ <;> omega))
  | ((with_reducible refine w_mod_ii ?_ ?_); (first | decide | omega))
  | (with_reducible refine w_neg_i ?_)
  | (with_reducible refine w_lt_ii ?_)
  | (with_reducible refine w_le_ii ?_)
  | (with_reducible refine w_gt_ii ?_)
  | (with_reducible refine w_ge_ii ?_)
  | (with_reducible refine w_eq_ii ?_)
  | (with_reducible refine w_ne_ii ?_)
  | (with_reducible refine n_eq_same ?_)
  | (with_reducible refine n_ne_same ?_)
  | (with_reducible refine w_eq_ss ?_)
  | (with_reducible refine w_ne_ss ?_)
  | (with_reducible refine w_eq_bb ?_)
  | (with_reducible refine w_ne_bb ?_)
  | (with_reducible refine w_is_n ?_)
  | (with_reducible refine w_isn_n ?_)
  | (with_reducible refine w_is_bb ?_)
  | (with_reducible refine w_isn_bb ?_)
  | ((with_reducible show rIx _ (V.ref _) (V.int _) _ _); (first | (refine n_ix (by decide) (by walk_at "lk") (by exact rfl) ?_) | (refine n_ixl (by decide) (by walk_at "sl") (by exact rfl) ?_) | (refine n_ixt (by decide) (by walk_at "st") (by exact rfl) ?_)))
  | (with_reducible refine w_ipadd ?_)
  | (with_reducible refine w_ipsub ?_)
  | (with_reducible refine w_int_i ?_)
  | (with_reducible refine w_int_b ?_)
  | (with_reducible refine w_abs ?_)
  | ((with_reducible refine w_max2r ?_); intro _ _ _ _)
  | ((with_reducible refine w_min2r ?_); intro _ _ _ _)
  | ((with_reducible show uLen _ [V.ref _] _ _); (first | (refine n_len (by walk_at "lk") (by exact rfl) ?_) | (refine w_len_l (by walk_at "sl") ?_) | (refine w_len_t (by walk_at "st") ?_) | (refine w_len_d (by walk_at "lk") ?_)))
  | ((with_reducible show uIsi _ [_, V.ty _] _ _); (refine w_isk (by walk_at "kd") (by decide) ?_))
  | ((with_reducible show uIsi _ [_, V.ref (He.ga _ _)] _ _); (first | (refine w_isC_t (by assumption) (by walk_at "lk") ?_) | (refine w_isC_f (by assumption) (by walk_at "kd") ?_)))
  | ((with_reducible show uIsi _ [_, V.ref _] _ _); (refine w_isk2 (by walk_at "lk") (by walk_at "kd") (by decide) (by decide) ?_))
  | (with_reducible refine w_wN ?_)
  | (with_reducible refine w_lc ?_)
  | ((with_reducible refine' w_rng2e ?k1 ?_); (case k1 => (refine ⟨?_, ?_, ?_, ?_⟩ <;> omega)))
  | ((with_reducible refine' w_rng1e ?k1 ?k2 ?_); (case k1 => omega); (case k2 => omega))
  | ((with_reducible show ∃ a', V.ref _ = .ref a' ∧ (∃ xs, SqL _ _ a' xs) ∧ _); (refine w_sqLe (by walk_at "sl") ?_))
  | ((with_reducible show ∃ a', V.ref _ = .ref a' ∧ (∃ xs, SqT _ _ a' xs) ∧ _); (refine w_sqTe (by walk_at "st") ?_))
  | (with_reducible refine w_slc ?_)
  | (with_reducible refine w_nop ?_)
  | (with_reducible refine w_part ?_)
  | (with_reducible refine w_exi ?_)
  | ((with_reducible show uSl _ (V.ref _) _ _ _ _); (refine n_slL (by walk_at "sl") ?_); intro _ _ _ _ _)
  | (with_reducible refine w_gsub ?_)
  | ((with_reducible show rSetL (V.ref _) (V.int _) _ _ _); (refine w_setl (by walk_at "lk") (by exact rfl) ?_))
  | (with_reducible refine w_pow_9 ?_)
  | (with_reducible refine w_pow_12 ?_)
  | (with_reducible refine w_pow_13 ?_)
  | (with_reducible refine w_pow_18 ?_)
  | (with_reducible refine w_pow_29 ?_)
  | ((with_reducible refine n_disp1 ?_); intro _ _ _ _ _)
  | (with_reducible refine w_dput ?_)
  | ((with_reducible show rAppend (V.ref _) [_] _ _); (refine w_append (by walk_at "lk") (by first | omega | (exact Nat.lt_of_le_of_lt (wN_le rfl) (by decide))) ?_))
  | ((with_reducible show ∃ a' H4, V.ref _ = .ref a' ∧ DPut _ a' (V.str _) _ H4 ∧ _); (refine w_dputS (by walk_at "lk") (by first | omega | exact wN_le rfl) ?_))
  | (with_reducible refine w_try ?_)
  | ((with_reducible show wManyA _ _ _ _ (.ref (He.ga _ _)) _ _ _); (first | ((refine w_hit (ExT.ex (by assumption) _ (by decide) _ (by decide)) ?_); intro _ _) | (refine w_miss (ExT.ex (by assumption) _ (by decide) _ (by decide)) ?_)))
  | (with_reducible refine w_xg ?_)
  | ((with_reducible show V.ref _ = .ref _ ∧ ∃ _ _ _ _, Value.ref (He.ga _ _) = _ ∧ _); (refine w_xge (ExT.xf (by assumption) _ (by decide)) (ExT.fg (by assumption) _ (by decide)) (by walk_at "lk") ?_))
  | ((with_reducible show rIsX _ (.ref (He.ga _ _)) _ _ _ _ _); (refine w_isx (ExT.xx (by assumption) _ (by decide)) (ExT.kd (by assumption) _ (by decide)) (by walk_at "lk") ?_))
  | ((with_reducible show uAdd _ (V.ref _) (V.ref _) _ _); (refine n_add_ll (by walk_at "lk") (by walk_at "lk") rfl ?_); intro _ _ _ _ _)
  | ((with_reducible show iSeq _ (tLst _) _ _ _); (refine w_sqL ?_))
  | ((with_reducible show iSeq _ (tTup _) _ _ _); (refine w_sqT ?_))
  | (refine ⟨(rfl : wipe _ _ = wipe _ _), ?_⟩)
  | (with_reducible refine w_tryB ?_)
  | ((with_reducible show L2.wManyB _ _ _ _ (.ref (He.ga _ _)) _ _ _); (first | ((refine w_hitB (by assumption) (by decide) (by decide) (by decide) ?_); intro _ _) | (refine w_missB (by assumption) (by decide) (by decide) (by decide) ?_)))
  | ((with_reducible show uIx _ (V.ref _) (V.int _) _ _); (refine w_ixX ?_))
  | ((with_reducible show uIx _ (V.ref _) (V.ref _) _ _); (refine w_ixT (by walk_at "lk") (by walk_at "lk") (by exact rfl) ?_))
  | ((with_reducible show uIx _ (V.ref _) (V.str _) _ _); (refine w_ixK (by walk_at "lk") (.inr _) (by exact rfl) ?_))
  | ((with_reducible show uInX _ _ (V.ref _) _ _); (refine w_inX (w_in_f (by first | exact .inl (by walk_at "sl") | exact .inr (by walk_at "st")) rfl rfl ?_)))
  | ((with_reducible show uNinX _ _ (V.ref _) _ _); (refine w_ninX (w_nin_f (by first | exact .inl (by walk_at "sl") | exact .inr (by walk_at "st")) rfl rfl ?_)))
  | ((with_reducible show rSetX (V.ref _) (V.int _) _ _ _); (refine w_setX ?_))
  | (with_reducible refine w_km ?_)
  | (with_reducible refine w_kmk ?_)
  | ((with_reducible show ∃ _ _ _, V.ref _ = V.ref _ ∧ _ = some (HO.ins _ _ _) ∧ List.lookup _ _ = none ∧ _); (refine w_kme (by walk_at "lk") (by exact rfl) ?_))
  | (with_reducible refine w_kc ?_)
  | (with_reducible refine w_kck ?_)
  | ((with_reducible show kMade _ _ _ _ _ _); (refine w_kmade ?_); intro _ _ _ _ _ _ _ _ _)
  | (with_reducible refine w_fld ?_)
  | ((with_reducible show ∃ _ _ _ _ _, V.ref _ = V.ref _ ∧ _ = some (HO.ins _ _ _) ∧ Cls _ _ ∧ NoAttr _ _ _ ∧ _ ∧ _); (refine' w_flde ?k1 ?k2 ?k3 ?k4 ?_; (case k3 => walk_at "lk"); (case k1 => exact CF.cls (by assumption)); (case k2 => exact CF.na (by assumption) _ (by decide)); (case k4 => exact rfl)))
  | (with_reducible refine w_sfld ?_)
  | ((with_reducible show ∃ _ _ _ _, V.ref _ = V.ref _ ∧ _ = some (HO.ins _ _ _) ∧ Cls _ _ ∧ NoAttr _ _ _ ∧ _ ∧ _); (refine' w_sflde ?k1 ?k2 ?k3 ?k4 ?_; (case k3 => walk_at "lk"); (case k1 => exact CF.cls (by assumption)); (case k2 => exact CF.na (by assumption) _ (by decide)); (case k4 => exact rfl); intro _ _ _))
  | ((with_reducible show uIsi _ [_, V.ref (He.ga _ _)] _ _); (first | (refine w_isC_t (by assumption) (by walk_at "lk") ?_) | (refine w_isC_f (by assumption) (by walk_at "kd") ?_)))
  | (walk_at "hc"))
local macro_rules | `(tactic| walk_at "hs") => `(tactic| repeat' (walk_at "hs1"))

local macro_rules | `(tactic| walk_at "rg") => `(tactic| repeat' (first | exact rg_nil | (refine rg_cons (by omega) (by omega) ?_)))
local macro_rules | `(tactic| walk_at "sm") => `(tactic| first | exact Same.refl _ | assumption | ((with_reducible show Same _ (upd _ _ _)); (refine Same.trans ?_ (sm_new (by assumption))); walk_at "sm") | ((refine Same.trans ?_ (by assumption)); walk_at "sm"))
local macro_rules | `(tactic| walk_at "bx") => `(tactic| first | assumption | ((with_reducible show BoxAt (upd _ _ _) _ _); (exact BoxAt.new (by assumption) (by walk_at "bx"))) | (exact BoxAt.same (by assumption) (by walk_at "bx")))
local macro_rules | `(tactic| walk_at "ks") => `(tactic| first | exact Ks.refl _ | assumption | ((with_reducible show Ks _ (upd _ _ _)); (refine Ks.trans ?_ (Ks.of (sm_new (by assumption))); walk_at "ks")) | (refine Ks.trans ?_ (by assumption); walk_at "ks") | (refine Ks.trans ?_ (Ks.of (by assumption)); walk_at "ks"))
local macro_rules | `(tactic| walk_at "ob") => `(tactic| first | assumption | exact .sc rfl | (exact Ob.same (by assumption) (by walk_at "ob")) | (exact Ob.ks (by assumption) (by walk_at "ob")))
local macro_rules | `(tactic| walk_at "nd") => `(tactic| first | assumption | (exact Nd.same (by assumption) (by walk_at "nd")) | (exact Nd.ks (by assumption) (by walk_at "nd")))
local macro_rules | `(tactic| walk_at "df") => `(tactic| first | assumption | exact df_sc rfl | (exact df_vr (by assumption) (by walk_at "lk")) | (exact df_rv (by assumption) (by walk_at "ob")) | (exact df_vv (by assumption) (by walk_at "ob")) | (exact Df.symm (df_vv (by assumption) (by walk_at "ob"))))
local macro_rules | `(tactic| walk_at "hc") => `(tactic| (with_reducible show sp_is_whole _ _ _ _ _); (refine u_is_whole (by walk_at "kd") ?_))
local macro_rules | `(tactic| walk_at "hc") => `(tactic| (with_reducible show sp_is_between _ _ _ _ _); (refine u_is_between (by walk_at "kd") ?_))
local macro_rules | `(tactic| walk_at "hc") => `(tactic| (with_reducible show sp_is_list _ _ _ _ _); (refine u_is_list (by walk_at "sl") ?_); intro _ _)
local macro_rules | `(tactic| walk_at "hc") => `(tactic| (with_reducible show sp_is_time _ _ _ _ _); (refine u_is_time (by walk_at "kd") ?_))
local macro_rules | `(tactic| walk_at "hc") => `(tactic| (with_reducible show sp_is_offset _ _ _ _ _); (refine u_is_offset (by walk_at "kd") ?_))
local macro_rules | `(tactic| walk_at "hc") => `(tactic| (with_reducible show sp__law_take _ _ _ _ _); (refine u__law_take (by walk_at "bx") (by omega) (by omega) (by omega) ?_); intro _ _ _ _ _ _)
variable {K : PySem.W.Frag}
theorem ClockAt.same {H H' : Hp} {c : Addr} {o : Int} {cs : List (Int × Int)} (e : Same H H') (h : ClockAt K H c o cs) : ClockAt K H' c o cs := by
  obtain ⟨k, dx, ra, ca, xs, h1, h2, h3⟩ := h
  exact ⟨k, dx, ra, ca, xs, e _ _ h1, e _ _ h2, h3.same e⟩
theorem ChL.same {H H' : Hp} {a : Addr} {cs : List (Int × Int)} (e : Same H H') (h : ChL K H a cs) : ChL K H' a cs := by
  obtain ⟨xs, h1, h2⟩ := h
  exact ⟨xs, e _ _ h1, h2.same e⟩
theorem OwnAt.same {H H' : Hp} {a : Addr} {o : Int} {cs : List (Int × Int)} (e : Same H H') (h : OwnAt K H a o cs) : OwnAt K H' a o cs := by
  obtain ⟨ca, h1, h2⟩ := h
  exact ⟨ca, e _ _ h1, h2.same e⟩
theorem fr_of {H H' : Hp} {p : Addr} (e : Same H H') (h : H' p = none) : H p = none := by
  cases z : H p with
  | none => rfl
  | some u => rw [e _ _ z] at h; cases h
theorem rl_le {o : Int} {cs : List (Int × Int)} (ok : ClkOk o cs) : (rgs 0 o (red o cs)).length ≤ 9 := by
  rw [rgs_len]
  have := red_len cs o
  have := ok.len
  omega
theorem filter_map_succ {α β : Type} {f : α → β} {g : α → Bool} {xs : List α} {i : Nat} {x : α} (h : xs[i]? = some x) : ((xs.take (i + 1)).filter g).map f = ((xs.take i).filter g).map f ++ (if g x = true then [f x] else []) := by
  rw [take_succ_filter h, List.map_append]
  congr 1
  split <;> rfl
theorem filter_len {α : Type} {g : α → Bool} {xs : List α} {n i : Nat} (h : xs.length ≤ n) : ((xs.take i).filter g).length ≤ n := by
  have := List.length_filter_le g (xs.take i)
  have := List.length_take_le i xs
  have : (xs.take i).length ≤ xs.length := by rw [List.length_take]; omega
  omega
theorem p_locals_of (vs : List V) (H : Hp) (Q : VK) (E : XK) (h : sp_locals_of K vs H Q E) : t_locals_of K E (D0 Q) (start N_locals_of vs) H := by
  obtain ⟨c, o, cs, rfl, ⟨kk, dx, ra, ca, xs, hc, hs, hr⟩, ok, q⟩ := h
  have rl := rl_le ok
  have hl : xs.length = (rgs 0 o (red o cs)).length := by simpa using hr.len
  walk_at "hs"
  refine w_sqL ?_
  walk_at "hs"
  intro D hD
  refine lc_list (xs := xs) (LcR H D fun i => ((rgs 0 o (red o cs)).take i).map encL) (LcR.zero hD rfl) (fun i H' _ P => P.1.seq (l_of hs)) ?_ ?_
  · intro i x H' hx P
    obtain ⟨p, hp, ⟨t, rfl, hT⟩⟩ := RnT.map_get (K := K) (hr.same P.1).rw hx
    have i8 : i < (rgs 0 o (red o cs)).length := (List.getElem?_eq_some_iff.mp hp).1
    have i9 : (((rgs 0 o (red o cs)).take i).map encL).length < 1000000 := by simp; omega
    obtain ⟨f, e, y⟩ := p
    cases e with
    | none =>
      have hT : SqT K H' t [.int f, .non, .int y] := hT
      walk_at "hs"
      rename_i T9 H9 nT9 sT9 hT9
      exact LcR.one P sT9 hD i9 hT9 (take_succ_map hp)
    | some l =>
      have hT : SqT K H' t [.int f, .int l, .int y] := hT
      walk_at "hs"
      rename_i T9 H9 nT9 sT9 hT9
      exact LcR.one P sT9 hD i9 hT9 (take_succ_map hp)
  · intro H9 P
    obtain ⟨e9, zs, hz, rz⟩ := P
    have rz : RnT H9 zs (((rgs 0 o (red o cs)).take xs.length).map encL) := rz
    rw [List.take_of_length_le (by omega)] at rz
    exact q _ zs _ e9 hz rz
theorem u_locals_of {H : Hp} {Q : VK} {E : XK} {c : Addr} {o : Int} {cs : List (Int × Int)} (h : ClockAt K H c o cs) (ok : ClkOk o cs) (q : NewR H Q ((rgs 0 o (red o cs)).map encL)) : sp_locals_of K [.ref c] H Q E := ⟨c, o, cs, rfl, h, ok, q⟩
theorem p_moments_of (vs : List V) (H : Hp) (Q : VK) (E : XK) (h : sp_moments_of K vs H Q E) : t_moments_of K E (D0 Q) (start N_moments_of vs) H := by
  obtain ⟨c, o, cs, t, rfl, hca, ok, q⟩ := h
  walk_at "hs"
  refine u_locals_of hca ok ?_
  intro R xs H1 e1 hR rn
  have rl := rl_le ok
  have hl : xs.length = (rgs 0 o (red o cs)).length := by simpa using rn.len
  walk_at "hs"
  refine w_sqL ?_
  walk_at "hs"
  intro D hD
  refine lc_list (xs := xs) (LcP H1 D fun i => ((((rgs 0 o (red o cs)).take i).filter (inR t)).map fun p => t - p.2.2).map V.int) (LcP.zero hD rfl) (fun i H' _ P => P.1.seq (l_of hR)) ?_ ?_
  · intro i x H' hx P
    obtain ⟨p, hp, ⟨tt, rfl, hT⟩⟩ := RnT.map_get (K := K) (rn.same P.1).rw hx
    have fl : (((((rgs 0 o (red o cs)).take i).filter (inR t)).map fun p => t - p.2.2).map V.int).length < 1000000 := by
      rw [List.length_map, List.length_map]
      have := filter_len (g := inR t) (i := i) rl
      omega
    have hy : ((((rgs 0 o (red o cs)).take (i + 1)).filter (inR t)).map fun p => t - p.2.2).map V.int = ((((rgs 0 o (red o cs)).take i).filter (inR t)).map fun p => t - p.2.2).map V.int ++ (if inR t p = true then [t - p.2.2] else []).map V.int := by
      rw [filter_map_succ hp, List.map_append]
    obtain ⟨f, e, y⟩ := p
    cases e with
    | none =>
      have hT : SqT K H' tt [.int (f + y), .non, .int y] := hT
      walk_at "hs"
      refine w_b2 (fun c1 => ?_) (fun c1 => ?_)
      · have hi : inR t (f, none, y) = true := by unfold inR; simpa using c1
        walk_at "hs"
        refine LcP.one P (Same.refl _) hD fl ?_
        rw [hy, if_pos hi]; rfl
      · have hi : inR t (f, none, y) = false := by unfold inR; simpa using c1
        walk_at "hs"
        refine LcP.no P (Same.refl _) ?_
        rw [hy, if_neg (by rw [hi]; exact Bool.false_ne_true)]; simp
    | some l =>
      have hT : SqT K H' tt [.int (f + y), .int (l + y), .int y] := hT
      walk_at "hs"
      refine w_b2 (fun c1 => ?_) (fun c1 => ?_)
      · walk_at "hs"
        refine w_b2 (fun c2 => ?_) (fun c2 => ?_)
        · have hi : inR t (f, some l, y) = true := by unfold inR; simp at c1 c2 ⊢; exact ⟨c1, c2⟩
          walk_at "hs"
          refine LcP.one P (Same.refl _) hD fl ?_
          rw [hy, if_pos hi]; rfl
        · have hi : inR t (f, some l, y) = false := by unfold inR; simp at c1 c2 ⊢; omega
          walk_at "hs"
          refine LcP.no P (Same.refl _) ?_
          rw [hy, if_neg (by rw [hi]; exact Bool.false_ne_true)]; simp
      · have hi : inR t (f, some l, y) = false := by unfold inR; simp at c1 ⊢; omega
        walk_at "hs"
        refine LcP.no P (Same.refl _) ?_
        rw [hy, if_neg (by rw [hi]; exact Bool.false_ne_true)]; simp
  · intro H9 P
    have h9 : H9 D = some (.lst (((((rgs 0 o (red o cs)).take xs.length).filter (inR t)).map fun p => t - p.2.2).map V.int)) := P.2
    rw [List.take_of_length_le (by omega)] at h9
    have h9 : H9 D = some (.lst ((momP (rgs 0 o (red o cs)) t).map V.int)) := h9
    rw [momP_eq t ok.asc] at h9
    exact q _ _ (Same.trans e1 P.1) h9 (fr_of e1 hD)
theorem u_moments_of {H : Hp} {Q : VK} {E : XK} {c : Addr} {o t : Int} {cs : List (Int × Int)} (h : ClockAt K H c o cs) (ok : ClkOk o cs) (q : NewI H Q (momL 0 o cs t)) : sp_moments_of K [.ref c, .int t] H Q E := ⟨c, o, cs, t, rfl, h, ok, q⟩
end My
set_option linter.all false
set_option maxRecDepth 100000
set_option maxHeartbeats 4000000
namespace My
open PySem PySem.Spec PyProof.Rows L2 Kx
local macro_rules | `(tactic| walk_at "lk") => `(tactic| first | assumption | ((with_reducible show upd _ _ _ _ = _); (first | exact upd_same | (exact up_new (by assumption) (by walk_at "lk")) | (exact up_other (by assumption) (by walk_at "lk")))) | (exact (by assumption : Same _ _) _ _ (by walk_at "lk")) | (exact ks_get (by assumption) (by walk_at "lk") (by first | rfl | assumption | exact notBox_len rfl)))
local macro_rules | `(tactic| walk_at "sl") => `(tactic| first | assumption | (exact l_of (by walk_at "lk")) | (exact Same.seq (by assumption) (by walk_at "sl")) | ((with_reducible show SqL _ (upd _ _ _) _ _); (exact Same.seq (sm_new (by assumption)) (by walk_at "sl"))))
local macro_rules | `(tactic| walk_at "st") => `(tactic| first | assumption | (exact t_of (by walk_at "lk")) | (exact Kx.Same.tup (by assumption) (by walk_at "st")) | ((with_reducible show SqT _ (upd _ _ _) _ _); (exact Kx.Same.tup (sm_new (by assumption)) (by walk_at "st"))) | (exact ks_tup (by assumption) (by walk_at "st")))
local macro_rules | `(tactic| walk_at "kd") => `(tactic| first | assumption | exact .non | exact .bl _ | exact .int _ | exact .str _ | (exact .lst (by walk_at "sl")) | (exact .tup (by walk_at "st")) | (exact .dic (by walk_at "lk")) | (exact Kd.same (by assumption) (by walk_at "kd")) | ((with_reducible show Kd _ (upd _ _ _) _ _); (exact Kd.same (sm_new (by assumption)) (by walk_at "kd"))))
local macro_rules | `(tactic| walk_at "tt") => `(tactic| first | rfl | assumption | decide +kernel | (simp only [decide_eq_true_eq, Bool.not_eq_true', decide_eq_false_iff_not, Bool.and_eq_true, Bool.or_eq_true]; omega))
local macro_rules | `(tactic| walk_at "ff") => `(tactic| first | rfl | assumption | decide +kernel | (simp only [decide_eq_true_eq, Bool.not_eq_false', decide_eq_false_iff_not, Bool.and_eq_false_imp, Bool.or_eq_false_iff]; omega))
local macro_rules | `(tactic| walk_at "hc") => `(tactic| fail)
local macro_rules | `(tactic| walk_at "hif") => `(tactic| ((with_reducible refine w_b2 ?_ ?_) <;> intro))
local macro_rules | `(tactic| walk_at "hs1") => `(tactic| first
  | (with_reducible refine w_seq ?_)
  | (with_reducible refine w_asg ?_)
  | ((with_reducible refine' w_var ?k1 ?_); (case k1 => exact rfl))
  | (with_reducible refine w_c ?_)
  | (with_reducible refine w_op ?_)
  | (with_reducible refine w_cons ?_)
  | (with_reducible refine w_nil ?_)
  | (with_reducible refine w_name ?_)
  | (with_reducible refine w_kn ?_)
  | (with_reducible refine w_kx ?_)
  | (with_reducible refine w_kk ?_)
  | (with_reducible refine w_cb ?_)
  | (with_reducible refine w_if ?_)
  | (with_reducible refine w_test ?_)
  | (with_reducible refine w_exb ?_)
  | (with_reducible refine iteT ?_)
  | (with_reducible refine iteF ?_)
  | ((with_reducible refine w_bt ?_ ?_); (first | rfl | decide +kernel))
  | ((with_reducible refine w_bf ?_ ?_); (first | rfl | decide +kernel))
  | ((with_reducible refine w_bt ?_ ?_); (walk_at "tt"))
  | ((with_reducible refine w_bf ?_ ?_); (walk_at "ff"))
  | (with_reducible refine w_ret ?_)
  | (with_reducible refine w_retN ?_)
  | (with_reducible refine w_drop ?_)
  | (with_reducible refine w_next ?_)
  | (with_reducible refine w_brk ?_)
  | (with_reducible refine w_cont ?_)
  | (with_reducible refine w_and ?_)
  | (with_reducible refine w_or ?_)
  | (with_reducible refine w_not ?_)
  | (with_reducible refine w_tr ?_)
  | (with_reducible refine w_yes ?_)
  | (with_reducible refine w_tru_bl ?_)
  | (with_reducible refine w_tru_int ?_)
  | (with_reducible refine w_tru_non ?_)
  | (with_reducible refine w_andV ?_)
  | (with_reducible refine w_orV ?_)
  | (with_reducible refine w_notV ?_)
  | (with_reducible refine w_ifx ?_)
  | (with_reducible refine w_chain ?_)
  | (with_reducible refine w_un ?_)
  | (with_reducible refine n_tup ?_)
  | (with_reducible refine n_lst ?_)
  | ((with_reducible show kTup _ _ _); (refine n_ktup rfl ?_); intro _ _ _ _ _)
  | ((with_reducible show kLst _ _ _); (refine n_klst rfl ?_); intro _ _ _ _ _)
  | (with_reducible refine w_par ?_)
  | (with_reducible refine w_par2 ?_)
  | (with_reducible refine w_par3 ?_)
  | (with_reducible refine w_par33 ?_)
  | ((with_reducible refine' w_aug ?k1 ?_); (case k1 => exact rfl))
  | (with_reducible refine w_raise ?_)
  | (with_reducible refine w_mkdue ?_)
  | (with_reducible refine w_one ?_)
  | ((with_reducible show gSq _ _ _ (V.ref _) _ _ _); (first | (refine n_gsq (by walk_at "lk") (by exact rfl) (by exact rfl) ?_) | (refine w_gtup (by walk_at "st") (by exact rfl) ?_) | (refine w_glst (by walk_at "sl") (by exact rfl) ?_)))
  | (with_reducible refine w_gcons ?_)
  | (with_reducible refine w_gnil ?_)
  | (with_reducible refine w_bm ?_)
  | ((with_reducible show tyV _ "list" (V.ref _) _ ∧ _); (refine w_tyl (by walk_at "sl") ?_))
  | (with_reducible refine w_for ?_)
  | (with_reducible refine w_rng1 ?_)
  | (with_reducible refine w_rng2 ?_)
  | (with_reducible refine w_add_ii ?_)
  | (with_reducible refine w_sub_ii ?_)
  | ((with_reducible refine w_fdv_ii ?_ ?_ ?_); (first | decide | omega); (first | decide | omega))
  | ((with_reducible refine w_mul_b ?_ ?_ ?_); (refine ⟨?_, ?_⟩ <;> omega); (refine ⟨?_, ?_⟩ <;> omega))
  | ((with_reducible refine w_mod_ii ?_ ?_); (first | decide | omega))
  | (with_reducible refine w_neg_i ?_)
  | (with_reducible refine w_lt_ii ?_)
  | (with_reducible refine w_le_ii ?_)
  | (with_reducible refine w_gt_ii ?_)
  | (with_reducible refine w_ge_ii ?_)
  | (with_reducible refine w_eq_ii ?_)
  | (with_reducible refine w_ne_ii ?_)
  | (with_reducible refine n_eq_same ?_)
  | (with_reducible refine n_ne_same ?_)
  | (with_reducible refine w_eq_ss ?_)
  | (with_reducible refine w_ne_ss ?_)
  | (with_reducible refine w_eq_bb ?_)
  | (with_reducible refine w_ne_bb ?_)
  | (with_reducible refine w_is_n ?_)
  | (with_reducible refine w_isn_n ?_)
  | (with_reducible refine w_is_bb ?_)
  | (with_reducible refine w_isn_bb ?_)
  | ((with_reducible show rIx _ (V.ref _) (V.int _) _ _); (first | (refine n_ix (by decide) (by walk_at "lk") (by exact rfl) ?_) | (refine n_ixl (by decide) (by walk_at "sl") (by exact rfl) ?_) | (refine n_ixt (by decide) (by walk_at "st") (by exact rfl) ?_)))
  | (with_reducible refine w_ipadd ?_)
  | (with_reducible refine w_ipsub ?_)
  | (with_reducible refine w_int_i ?_)
  | (with_reducible refine w_int_b ?_)
  | (with_reducible refine w_abs ?_)
  | ((with_reducible refine w_max2r ?_); intro _ _ _ _)
  | ((with_reducible refine w_min2r ?_); intro _ _ _ _)
  | ((with_reducible show uLen _ [V.ref _] _ _); (first | (refine n_len (by walk_at "lk") (by exact rfl) ?_) | (refine w_len_l (by walk_at "sl") ?_) | (refine w_len_t (by walk_at "st") ?_) | (refine w_len_d (by walk_at "lk") ?_)))
  | ((with_reducible show uIsi _ [_, V.ty _] _ _); (refine w_isk (by walk_at "kd") (by decide) ?_))
  | ((with_reducible show uIsi _ [_, V.ref (He.ga _ _)] _ _); (first | (refine w_isC_t (by assumption) (by walk_at "lk") ?_) | (refine w_isC_f (by assumption) (by walk_at "kd") ?_)))
  | ((with_reducible show uIsi _ [_, V.ref _] _ _); (refine w_isk2 (by walk_at "lk") (by walk_at "kd") (by decide) (by decide) ?_))
  | (with_reducible refine w_wN ?_)
  | (with_reducible refine w_lc ?_)
  | ((with_reducible refine' w_rng2e ?k1 ?_); (case k1 => (refine ⟨?_, ?_, ?_, ?_⟩ <;> omega)))
  | ((with_reducible refine' w_rng1e ?k1 ?k2 ?_); (case k1 => omega); (case k2 => omega))
  | ((with_reducible show ∃ a', V.ref _ = .ref a' ∧ (∃ xs, SqL _ _ a' xs) ∧ _); (refine w_sqLe (by walk_at "sl") ?_))
  | ((with_reducible show ∃ a', V.ref _ = .ref a' ∧ (∃ xs, SqT _ _ a' xs) ∧ _); (refine w_sqTe (by walk_at "st") ?_))
  | (with_reducible refine w_slc ?_)
  | (with_reducible refine w_nop ?_)
  | (with_reducible refine w_part ?_)
  | (with_reducible refine w_exi ?_)
  | ((with_reducible show uSl _ (V.ref _) _ _ _ _); (refine n_slL (by walk_at "sl") ?_); intro _ _ _ _ _)
  | (with_reducible refine w_gsub ?_)
  | ((with_reducible show rSetL (V.ref _) (V.int _) _ _ _); (refine w_setl (by walk_at "lk") (by exact rfl) ?_))
  | (with_reducible refine w_pow_9 ?_)
  | (with_reducible refine w_pow_12 ?_)
  | (with_reducible refine w_pow_13 ?_)
  | (with_reducible refine w_pow_18 ?_)
  | (with_reducible refine w_pow_29 ?_)
  | ((with_reducible refine n_disp1 ?_); intro _ _ _ _ _)
  | (with_reducible refine w_dput ?_)
  | ((with_reducible show rAppend (V.ref _) [_] _ _); (refine w_append (by walk_at "lk") (by first | omega | (exact Nat.lt_of_le_of_lt (wN_le rfl) (by decide))) ?_))
  | ((with_reducible show ∃ a' H4, V.ref _ = .ref a' ∧ DPut _ a' (V.str _) _ H4 ∧ _); (refine w_dputS (by walk_at "lk") (by first | omega | exact wN_le rfl) ?_))
  | (with_reducible refine w_try ?_)
  | ((with_reducible show wManyA _ _ _ _ (.ref (He.ga _ _)) _ _ _); (first | ((refine w_hit (ExT.ex (by assumption) _ (by decide) _ (by decide)) ?_); intro _ _) | (refine w_miss (ExT.ex (by assumption) _ (by decide) _ (by decide)) ?_)))
  | (with_reducible refine w_xg ?_)
  | ((with_reducible show V.ref _ = .ref _ ∧ ∃ _ _ _ _, Value.ref (He.ga _ _) = _ ∧ _); (refine w_xge (ExT.xf (by assumption) _ (by decide)) (ExT.fg (by assumption) _ (by decide)) (by walk_at "lk") ?_))
  | ((with_reducible show rIsX _ (.ref (He.ga _ _)) _ _ _ _ _); (refine w_isx (ExT.xx (by assumption) _ (by decide)) (ExT.kd (by assumption) _ (by decide)) (by walk_at "lk") ?_))
  | ((with_reducible show uAdd _ (V.ref _) (V.ref _) _ _); (refine n_add_ll (by walk_at "lk") (by walk_at "lk") rfl ?_); intro _ _ _ _ _)
  | ((with_reducible show iSeq _ (tLst _) _ _ _); (refine w_sqL ?_))
  | ((with_reducible show iSeq _ (tTup _) _ _ _); (refine w_sqT ?_))
  | (refine ⟨(rfl : wipe _ _ = wipe _ _), ?_⟩)
  | (with_reducible refine w_tryB ?_)
  | ((with_reducible show L2.wManyB _ _ _ _ (.ref (He.ga _ _)) _ _ _); (first | ((refine w_hitB (by assumption) (by decide) (by decide) (by decide) ?_); intro _ _) | (refine w_missB (by assumption) (by decide) (by decide) (by decide) ?_)))
  | ((with_reducible show uIx _ (V.ref _) (V.int _) _ _); (refine w_ixX ?_))
  | ((with_reducible show uIx _ (V.ref _) (V.ref _) _ _); (refine w_ixT (by walk_at "lk") (by walk_at "lk") (by exact rfl) ?_))
  | ((with_reducible show uIx _ (V.ref _) (V.str _) _ _); (refine w_ixK (by walk_at "lk") (.inr _) (by exact rfl) ?_))
  | ((with_reducible show uInX _ _ (V.ref _) _ _); (refine w_inX (w_in_f (by first | exact .inl (by walk_at "sl") | exact .inr (by walk_at "st")) rfl rfl ?_)))
  | ((with_reducible show uNinX _ _ (V.ref _) _ _); (refine w_ninX (w_nin_f (by first | exact .inl (by walk_at "sl") | exact .inr (by walk_at "st")) rfl rfl ?_)))
  | ((with_reducible show rSetX (V.ref _) (V.int _) _ _ _); (refine w_setX ?_))
  | (with_reducible refine w_km ?_)
  | (with_reducible refine w_kmk ?_)
  | ((with_reducible show ∃ _ _ _, V.ref _ = V.ref _ ∧ _ = some (HO.ins _ _ _) ∧ List.lookup _ _ = none ∧ _); (refine w_kme (by walk_at "lk") (by exact rfl) ?_))
  | (with_reducible refine w_kc ?_)
  | (with_reducible refine w_kck ?_)
  | ((with_reducible show kMade _ _ _ _ _ _); (refine w_kmade ?_); intro _ _ _ _ _ _ _ _ _)
  | (with_reducible refine w_fld ?_)
  | ((with_reducible show ∃ _ _ _ _ _, V.ref _ = V.ref _ ∧ _ = some (HO.ins _ _ _) ∧ Cls _ _ ∧ NoAttr _ _ _ ∧ _ ∧ _); (refine' w_flde ?k1 ?k2 ?k3 ?k4 ?_; (case k3 => walk_at "lk"); (case k1 => exact CF.cls (by assumption)); (case k2 => exact CF.na (by assumption) _ (by decide)); (case k4 => exact rfl)))
  | (with_reducible refine w_sfld ?_)
  | ((with_reducible show ∃ _ _ _ _, V.ref _ = V.ref _ ∧ _ = some (HO.ins _ _ _) ∧ Cls _ _ ∧ NoAttr _ _ _ ∧ _ ∧ _); (refine' w_sflde ?k1 ?k2 ?k3 ?k4 ?_; (case k3 => walk_at "lk"); (case k1 => exact CF.cls (by assumption)); (case k2 => exact CF.na (by assumption) _ (by decide)); (case k4 => exact rfl); intro _ _ _))
  | ((with_reducible show uIsi _ [_, V.ref (He.ga _ _)] _ _); (first | (refine w_isC_t (by assumption) (by walk_at "lk") ?_) | (refine w_isC_f (by assumption) (by walk_at "kd") ?_)))
  | (walk_at "hc"))
local macro_rules | `(tactic| walk_at "hs") => `(tactic| repeat' (walk_at "hs1"))

local macro_rules | `(tactic| walk_at "rg") => `(tactic| repeat' (first | exact rg_nil | (refine rg_cons (by omega) (by omega) ?_)))
local macro_rules | `(tactic| walk_at "sm") => `(tactic| first | exact Same.refl _ | assumption | ((with_reducible show Same _ (upd _ _ _)); (refine Same.trans ?_ (sm_new (by assumption))); walk_at "sm") | ((refine Same.trans ?_ (by assumption)); walk_at "sm"))
local macro_rules | `(tactic| walk_at "bx") => `(tactic| first | assumption | ((with_reducible show BoxAt (upd _ _ _) _ _); (exact BoxAt.new (by assumption) (by walk_at "bx"))) | (exact BoxAt.same (by assumption) (by walk_at "bx")))
local macro_rules | `(tactic| walk_at "ks") => `(tactic| first | exact Ks.refl _ | assumption | ((with_reducible show Ks _ (upd _ _ _)); (refine Ks.trans ?_ (Ks.of (sm_new (by assumption))); walk_at "ks")) | (refine Ks.trans ?_ (by assumption); walk_at "ks") | (refine Ks.trans ?_ (Ks.of (by assumption)); walk_at "ks"))
local macro_rules | `(tactic| walk_at "ob") => `(tactic| first | assumption | exact .sc rfl | (exact Ob.same (by assumption) (by walk_at "ob")) | (exact Ob.ks (by assumption) (by walk_at "ob")))
local macro_rules | `(tactic| walk_at "nd") => `(tactic| first | assumption | (exact Nd.same (by assumption) (by walk_at "nd")) | (exact Nd.ks (by assumption) (by walk_at "nd")))
local macro_rules | `(tactic| walk_at "df") => `(tactic| first | assumption | exact df_sc rfl | (exact df_vr (by assumption) (by walk_at "lk")) | (exact df_rv (by assumption) (by walk_at "ob")) | (exact df_vv (by assumption) (by walk_at "ob")) | (exact Df.symm (df_vv (by assumption) (by walk_at "ob"))))
local macro_rules | `(tactic| walk_at "hc") => `(tactic| (with_reducible show sp_is_whole _ _ _ _ _); (refine u_is_whole (by walk_at "kd") ?_))
local macro_rules | `(tactic| walk_at "hc") => `(tactic| (with_reducible show sp_is_between _ _ _ _ _); (refine u_is_between (by walk_at "kd") ?_))
local macro_rules | `(tactic| walk_at "hc") => `(tactic| (with_reducible show sp_is_list _ _ _ _ _); (refine u_is_list (by walk_at "sl") ?_); intro _ _)
local macro_rules | `(tactic| walk_at "hc") => `(tactic| (with_reducible show sp_is_time _ _ _ _ _); (refine u_is_time (by walk_at "kd") ?_))
local macro_rules | `(tactic| walk_at "hc") => `(tactic| (with_reducible show sp_is_offset _ _ _ _ _); (refine u_is_offset (by walk_at "kd") ?_))
local macro_rules | `(tactic| walk_at "hc") => `(tactic| (with_reducible show sp__law_take _ _ _ _ _); (refine u__law_take (by walk_at "bx") (by omega) (by omega) (by omega) ?_); intro _ _ _ _ _ _)
variable {K : PySem.W.Frag}
/-! list facts -/
theorem dp_ints {H : Hp} : ∀ ns : List Int, DpAll K H (ns.map V.int) (ns.map PyData.int)
  | [] => .nil
  | i :: ns => .cons (.int i) (dp_ints ns)
theorem shp_ints (ns : List Int) : SeqAt.shaped (.list (ns.map PyData.int)) = true := by
  have h1 : ∀ ns : List Int, PyData.canLayAll0 (ns.map PyData.int) = true := by
    intro ns
    induction ns with
    | nil => rfl
    | cons i ns ih => simp [PyData.canLayAll0, PyData.canLay0, ih]
  have h2 : ∀ ns : List Int, PyData.depthAll (ns.map PyData.int) ≤ 1 := by
    intro ns
    induction ns with
    | nil => simp [PyData.depthAll]
    | cons i ns ih => simp [PyData.depthAll, PyData.depth]; omega
  show (PyData.canLay0 (.list (ns.map PyData.int)) && decide (PyData.depth (.list (ns.map PyData.int)) ≤ 64)) = true
  rw [Bool.and_eq_true]
  have := h2 ns
  exact ⟨by simp only [PyData.canLay0]; exact h1 ns, decide_eq_true (by simp only [PyData.depth]; omega)⟩
theorem w_eq_nil {H : Hp} {Q : VK} {a b : Addr} {ns : List Int} (h : SqL K H a (ns.map V.int)) (hb : SqL K H b []) (q : Q (.bl ns.isEmpty) H) : uEq K (.ref a) (.ref b) H Q :=
  w_eq_d (.lst h (dp_ints ns)) (.lst hb .nil) (shp_ints ns) rfl (by cases ns <;> exact q)
theorem w_ne_nil {H : Hp} {Q : VK} {a b : Addr} {ns : List Int} (h : SqL K H a (ns.map V.int)) (hb : SqL K H b []) (q : Q (.bl (!ns.isEmpty)) H) : uNe K (.ref a) (.ref b) H Q :=
  w_ne_d (.lst h (dp_ints ns)) (.lst hb .nil) (shp_ints ns) rfl (by cases ns <;> exact q)
theorem cut_first {ns : List Int} : cutV (ns.map V.int) none (some 1) = (ns.take 1).map V.int := by
  unfold cutV HT.sIx
  cases ns <;> simp
theorem cut_last {ns : List Int} : cutV (ns.map V.int) (some (-1)) none = (ns.drop (ns.length - 1)).map V.int := by
  unfold cutV HT.sIx
  cases ns with
  | nil => simp
  | cons i ns => 
    have e : (-1 + ((ns.length : Int) + 1)).toNat = ns.length := by omega
    have h : ∀ l : List V, l.length = ns.length + 1 → List.take (ns.length + 1 - ns.length) (List.drop ns.length l) = List.drop ns.length l := fun l hl => List.take_of_length_le (by rw [List.length_drop]; omega)
    simp
    rw [e]
    exact h _ (by simp)
theorem eqV_ss (s z : Str) : eqV (.str s) (.str z) = (z == s) := by
  show (s == z) = (z == s)
  by_cases h : s = z
  · subst h; rfl
  · have h2 : ¬ z = s := fun e => h e.symm
    rw [beq_eq_false_iff_ne.mpr h, beq_eq_false_iff_ne.mpr h2]
theorem inV_gaps (s : Str) : inV (.str s) [.str "skip", .str "after"] = gapOk (.str s) := by
  show (eqV _ _ || (eqV _ _ || false)) = _
  rw [eqV_ss, eqV_ss, Bool.or_false]
  rfl
theorem inV_folds (s : Str) : inV (.str s) [.str "first", .str "last", .str "both"] = foldOk (.str s) := by
  show (eqV _ _ || (eqV _ _ || (eqV _ _ || false))) = _
  rw [eqV_ss, eqV_ss, eqV_ss, Bool.or_false, ← Bool.or_assoc]
  rfl
theorem p_jump_over (vs : List V) (H : Hp) (Q : VK) (E : XK) (h : sp_jump_over K vs H Q E) : t_jump_over K E (D0 Q) (start N_jump_over vs) H := by
  obtain ⟨c, o, cs, t, rfl, hca, ok, hm, q⟩ := h
  intro nz
  have hca2 := hca
  obtain ⟨kk, dx, ra, ca, xs, hc, hs, hr⟩ := hca2
  have rl := rl_le ok
  have hl : xs.length = (rgs 0 o (red o cs)).length := by simpa using hr.len
  walk_at "hs"
  refine w_zipV ?_
  walk_at "hs"
  refine u_locals_of hca ok ?_
  intro R ys H1 e1 hR rn
  have hly : ys.length = (rgs 0 o (red o cs)).length := by simpa using rn.len
  walk_at "hs"
  refine ⟨ra, R, xs, ys, rfl, l_of (e1 _ _ hs), l_of hR, ?_⟩
  intro z o1 o2 TI TO i1 i2 H2 e2 n2 Z
  walk_at "hs"
  refine w_izipV rfl Z (l_of (e2 _ _ (e1 _ _ hs))) (l_of (e2 _ _ hR)) ?_
  have eZ := drop5_same e2 n2
  generalize drop5 H2 z TI TO i1 i2 = HZ at *
  intro D hD
  have hra : SqL K HZ ra xs := l_of (eZ _ _ (e1 _ _ hs))
  have hRz : SqL K HZ R ys := l_of (eZ _ _ hR)
  have r1 := hr.same (Same.trans e1 eZ)
  have r2 := rn.same eZ
  refine lc_it (walk_zip rfl) (LcP HZ D fun i => ((((rgs 0 o (red o cs)).take i).filter (behind t)).map fun p => p.1).map V.int) (LcP.zero hD rfl) (fun i H' _ P => ⟨P.1.seq hra, P.1.seq hRz⟩) ?_ ?_
  · rintro i x H7 H8 hi P ⟨T, x1, y1, rfl, nt, rfl, hx1, hy1⟩
    obtain ⟨p, hp, ⟨t1, rfl, hT1⟩⟩ := RnT.map_get (K := K) (r1.same P.1).rw hx1
    obtain ⟨p', hp', ⟨t2, rfl, hT2⟩⟩ := RnT.map_get (K := K) (r2.same P.1).rw hy1
    rw [hp] at hp'
    cases hp'
    have sT8 : Same H7 (upd H7 T (.tup [V.ref t1, V.ref t2])) := sm_new nt
    have hT : upd H7 T (.tup [V.ref t1, V.ref t2]) T = some (.tup [V.ref t1, V.ref t2]) := upd_same
    have g1 := Kx.Same.tup sT8 hT1
    have g2 := Kx.Same.tup sT8 hT2
    generalize upd H7 T (.tup [V.ref t1, V.ref t2]) = H8 at *
    have fl : (((((rgs 0 o (red o cs)).take i).filter (behind t)).map fun p => p.1).map V.int).length < 1000000 := by
      rw [List.length_map, List.length_map]
      have := filter_len (g := behind t) (i := i) rl
      omega
    have hy : ((((rgs 0 o (red o cs)).take (i + 1)).filter (behind t)).map fun p => p.1).map V.int = ((((rgs 0 o (red o cs)).take i).filter (behind t)).map fun p => p.1).map V.int ++ (if behind t p = true then [p.1] else []).map V.int := by
      rw [filter_map_succ hp, List.map_append]
    obtain ⟨f, e, y⟩ := p
    cases e with
    | none =>
      have g1 : SqT K H8 t1 [.int f, .non, .int y] := g1
      have g2 : SqT K H8 t2 [.int (f + y), .non, .int y] := g2
      walk_at "hs"
      exact LcP.one P sT8 hD fl hy
    | some l =>
      have g1 : SqT K H8 t1 [.int f, .int l, .int y] := g1
      have g2 : SqT K H8 t2 [.int (f + y), .int (l + y), .int y] := g2
      walk_at "hs"
      refine w_b2 (fun c1 => ?_) (fun c1 => ?_)
      · have hb : behind t (f, some l, y) = true := c1
        walk_at "hs"
        refine LcP.one P sT8 hD fl ?_
        rw [hy, if_pos hb]; rfl
      · have hb : behind t (f, some l, y) = false := c1
        walk_at "hs"
        refine LcP.no P sT8 ?_
        rw [hy, if_neg (by rw [hb]; exact Bool.false_ne_true)]; simp
  · intro H9 P
    have h9 : H9 D = some (.lst (((((rgs 0 o (red o cs)).take (min xs.length ys.length)).filter (behind t)).map fun p => p.1).map V.int)) := P.2
    rw [List.take_of_length_le (by omega)] at h9
    obtain ⟨r, er⟩ := jumpP_rgs t (red o cs) 0 o
    have h9 : H9 D = some (.lst ((jumpP (rgs 0 o (red o cs)) t).map V.int)) := h9
    rw [er, jumpU_red t cs 0 o ok.asc hm] at h9
    walk_at "hs"
    refine w_ixl (l_of h9) (show atI _ ((0 : Nat) : Int) = some (V.int (jumpU 0 o cs t)) from atI_nat rfl) ?_
    exact q _ (Same.trans e1 (Same.trans eZ P.1))
theorem u_jump_over {H : Hp} {Q : VK} {E : XK} {c : Addr} {o t : Int} {cs : List (Int × Int)} (h : ClockAt K H c o cs) (ok : ClkOk o cs) (hm : momL 0 o cs t = []) (q : ∀ H', Same H H' → Q (.int (jumpU 0 o cs t)) H') : sp_jump_over K [.ref c, .int t] H Q E := ⟨c, o, cs, t, rfl, h, ok, hm, q⟩
theorem p_check_clock (kk : CLK K) (vs : List V) (H : Hp) (Q : VK) (E : XK) (h : sp_check_clock K vs H Q E) : t_check_clock K E (D0 Q) (start N_check_clock vs) H := by
  obtain ⟨x, rfl, ⟨c, o, cs, rfl, ⟨k2, dx, ra, ca, xs, hc, hs, hr⟩, q⟩ | ⟨T, hk, q⟩⟩ := h
  · walk_at "hs"
    exact q
  · walk_at "hs"
    exact q
theorem u_check_clock1 {H : Hp} {Q : VK} {E : XK} {c : Addr} {o : Int} {cs : List (Int × Int)} (h : ClockAt K H c o cs) (q : Q .non H) : sp_check_clock K [.ref c] H Q E := ⟨_, rfl, .inl ⟨c, o, cs, rfl, h, q⟩⟩
theorem u_check_clock2 {H : Hp} {Q : VK} {E : XK} {x : V} {T : String} (h : Kd K H x T) (q : Er K E H "InvalidClock" x) : sp_check_clock K [x] H Q E := ⟨_, rfl, .inr ⟨T, h, q⟩⟩
theorem p_check_ways (hG : ∀ H, SqT K H (He.ga K "GAPS") [.str "skip", .str "after"]) (hF : ∀ H, SqT K H (He.ga K "FOLDS") [.str "first", .str "last", .str "both"]) (vs : List V) (H : Hp) (Q : VK) (E : XK) (h : sp_check_ways K vs H Q E) : t_check_ways K E (D0 Q) (start N_check_ways vs) H := by
  obtain ⟨g, T, f, U, rfl, hg, hf, q1, q2, q3⟩ := h
  have hG := hG H
  have hF := hF H
  cases hg with
  | str s =>
    cases c : gapOk (.str s)
    · walk_at "hs"
      rw [inV_gaps, c]
      walk_at "hs"
      exact q2 c
    · cases hf with
      | str z =>
        walk_at "hs"
        rw [inV_gaps, c]
        walk_at "hs"
        rw [inV_folds]
        cases c2 : foldOk (.str z) <;> walk_at "hs"
        · exact q3 c c2
        · exact q1 c c2
      | _ =>
        walk_at "hs"
        rw [inV_gaps, c]
        walk_at "hs"
        exact q3 c rfl
  | _ => walk_at "hs"; exact q2 rfl
theorem u_check_ways {H : Hp} {Q : VK} {E : XK} {g f : V} {T U : String} (hg : Kd K H g T) (hf : Kd K H f U) (q1 : gapOk g = true → foldOk f = true → Q .non H) (q2 : gapOk g = false → Er K E H "InvalidGap" g) (q3 : gapOk g = true → foldOk f = false → Er K E H "InvalidFold" f) : sp_check_ways K [g, f] H Q E := ⟨g, T, f, U, rfl, hg, hf, q1, q2, q3⟩
end My
set_option linter.all false
set_option maxRecDepth 100000
set_option maxHeartbeats 4000000
namespace My
open PySem PySem.Spec PyProof.Rows L2 Kx
local macro_rules | `(tactic| walk_at "lk") => `(tactic| first | assumption | ((with_reducible show upd _ _ _ _ = _); (first | exact upd_same | (exact up_new (by assumption) (by walk_at "lk")) | (exact up_other (by assumption) (by walk_at "lk")))) | (exact (by assumption : Same _ _) _ _ (by walk_at "lk")) | (exact ks_get (by assumption) (by walk_at "lk") (by first | rfl | assumption | exact notBox_len rfl)))
local macro_rules | `(tactic| walk_at "sl") => `(tactic| first | assumption | (exact l_of (by walk_at "lk")) | (exact Same.seq (by assumption) (by walk_at "sl")) | ((with_reducible show SqL _ (upd _ _ _) _ _); (exact Same.seq (sm_new (by assumption)) (by walk_at "sl"))))
local macro_rules | `(tactic| walk_at "st") => `(tactic| first | assumption | (exact t_of (by walk_at "lk")) | (exact Kx.Same.tup (by assumption) (by walk_at "st")) | ((with_reducible show SqT _ (upd _ _ _) _ _); (exact Kx.Same.tup (sm_new (by assumption)) (by walk_at "st"))) | (exact ks_tup (by assumption) (by walk_at "st")))
local macro_rules | `(tactic| walk_at "kd") => `(tactic| first | assumption | exact .non | exact .bl _ | exact .int _ | exact .str _ | (exact .lst (by walk_at "sl")) | (exact .tup (by walk_at "st")) | (exact .dic (by walk_at "lk")) | (exact Kd.same (by assumption) (by walk_at "kd")) | ((with_reducible show Kd _ (upd _ _ _) _ _); (exact Kd.same (sm_new (by assumption)) (by walk_at "kd"))))
local macro_rules | `(tactic| walk_at "tt") => `(tactic| first | rfl | assumption | decide +kernel | (simp only [decide_eq_true_eq, Bool.not_eq_true', decide_eq_false_iff_not, Bool.and_eq_true, Bool.or_eq_true]; omega))
local macro_rules | `(tactic| walk_at "ff") => `(tactic| first | rfl | assumption | decide +kernel | (simp only [decide_eq_true_eq, Bool.not_eq_false', decide_eq_false_iff_not, Bool.and_eq_false_imp, Bool.or_eq_false_iff]; omega))
local macro_rules | `(tactic| walk_at "hc") => `(tactic| fail)
local macro_rules | `(tactic| walk_at "hif") => `(tactic| ((with_reducible refine w_b2 ?_ ?_) <;> intro))
local macro_rules | `(tactic| walk_at "hs1") => `(tactic| first
  | (with_reducible refine w_seq ?_)
  | (with_reducible refine w_asg ?_)
  | ((with_reducible refine' w_var ?k1 ?_); (case k1 => exact rfl))
  | (with_reducible refine w_c ?_)
  | (with_reducible refine w_op ?_)
  | (with_reducible refine w_cons ?_)
  | (with_reducible refine w_nil ?_)
  | (with_reducible refine w_name ?_)
  | (with_reducible refine w_kn ?_)
  | (with_reducible refine w_kx ?_)
  | (with_reducible refine w_kk ?_)
  | (with_reducible refine w_cb ?_)
  | (with_reducible refine w_if ?_)
  | (with_reducible refine w_test ?_)
  | (with_reducible refine w_exb ?_)
  | (with_reducible refine iteT ?_)
  | (with_reducible refine iteF ?_)
  | ((with_reducible refine w_bt ?_ ?_); (first | rfl | decide +kernel))
  | ((with_reducible refine w_bf ?_ ?_); (first | rfl | decide +kernel))
  | ((with_reducible refine w_bt ?_ ?_); (walk_at "tt"))
  | ((with_reducible refine w_bf ?_ ?_); (walk_at "ff"))
  | (with_reducible refine w_ret ?_)
  | (with_reducible refine w_retN ?_)
  | (with_reducible refine w_drop ?_)
  | (with_reducible refine w_next ?_)
  | (with_reducible refine w_brk ?_)
  | (with_reducible refine w_cont ?_)
  | (with_reducible refine w_and ?_)
  | (with_reducible refine w_or ?_)
  | (with_reducible refine w_not ?_)
  | (with_reducible refine w_tr ?_)
  | (with_reducible refine w_yes ?_)
  | (with_reducible refine w_tru_bl ?_)
  | (with_reducible refine w_tru_int ?_)
  | (with_reducible refine w_tru_non ?_)
  | (with_reducible refine w_andV ?_)
  | (with_reducible refine w_orV ?_)
  | (with_reducible refine w_notV ?_)
  | (with_reducible refine w_ifx ?_)
  | (with_reducible refine w_chain ?_)
  | (with_reducible refine w_un ?_)
  | (with_reducible refine n_tup ?_)
  | (with_reducible refine n_lst ?_)
  | ((with_reducible show kTup _ _ _); (refine n_ktup rfl ?_); intro _ _ _ _ _)
  | ((with_reducible show kLst _ _ _); (refine n_klst rfl ?_); intro _ _ _ _ _)
  | (with_reducible refine w_par ?_)
  | (with_reducible refine w_par2 ?_)
  | (with_reducible refine w_par3 ?_)
  | (with_reducible refine w_par33 ?_)
  | ((with_reducible refine' w_aug ?k1 ?_); (case k1 => exact rfl))
  | (with_reducible refine w_raise ?_)
  | (with_reducible refine w_mkdue ?_)
  | (with_reducible refine w_one ?_)
  | ((with_reducible show gSq _ _ _ (V.ref _) _ _ _); (first | (refine n_gsq (by walk_at "lk") (by exact rfl) (by exact rfl) ?_) | (refine w_gtup (by walk_at "st") (by exact rfl) ?_) | (refine w_glst (by walk_at "sl") (by exact rfl) ?_)))
  | (with_reducible refine w_gcons ?_)
  | (with_reducible refine w_gnil ?_)
  | (with_reducible refine w_bm ?_)
  | ((with_reducible show tyV _ "list" (V.ref _) _ ∧ _); (refine w_tyl (by walk_at "sl") ?_))
  | (with_reducible refine w_for ?_)
  | (with_reducible refine w_rng1 ?_)
  | (with_reducible refine w_rng2 ?_)
  | (with_reducible refine w_add_ii ?_)
  | (with_reducible refine w_sub_ii ?_)
  | ((with_reducible refine w_fdv_ii ?_ ?_ ?_); (first | decide | omega); (first | decide | omega))
  | ((with_reducible refine w_mul_b ?_ ?_ ?_); (refine ⟨?_, ?_⟩ <;> omega); (refine ⟨?_, ?_⟩ <;> omega))
  | ((with_reducible refine w_mod_ii ?_ ?_); (first | decide | omega))
  | (with_reducible refine w_neg_i ?_)
  | (with_reducible refine w_lt_ii ?_)
  | (with_reducible refine w_le_ii ?_)
  | (with_reducible refine w_gt_ii ?_)
  | (with_reducible refine w_ge_ii ?_)
  | (with_reducible refine w_eq_ii ?_)
  | (with_reducible refine w_ne_ii ?_)
  | (with_reducible refine n_eq_same ?_)
  | (with_reducible refine n_ne_same ?_)
  | (with_reducible refine w_eq_ss ?_)
  | (with_reducible refine w_ne_ss ?_)
  | (with_reducible refine w_eq_bb ?_)
  | (with_reducible refine w_ne_bb ?_)
  | (with_reducible refine w_is_n ?_)
  | (with_reducible refine w_isn_n ?_)
  | (with_reducible refine w_is_bb ?_)
  | (with_reducible refine w_isn_bb ?_)
  | ((with_reducible show rIx _ (V.ref _) (V.int _) _ _); (first | (refine n_ix (by decide) (by walk_at "lk") (by exact rfl) ?_) | (refine n_ixl (by decide) (by walk_at "sl") (by exact rfl) ?_) | (refine n_ixt (by decide) (by walk_at "st") (by exact rfl) ?_)))
  | (with_reducible refine w_ipadd ?_)
  | (with_reducible refine w_ipsub ?_)
  | (with_reducible refine w_int_i ?_)
  | (with_reducible refine w_int_b ?_)
  | (with_reducible refine w_abs ?_)
  | ((with_reducible refine w_max2r ?_); intro _ _ _ _)
  | ((with_reducible refine w_min2r ?_); intro _ _ _ _)
  | ((with_reducible show uLen _ [V.ref _] _ _); (first | (refine n_len (by walk_at "lk") (by exact rfl) ?_) | (refine w_len_l (by walk_at "sl") ?_) | (refine w_len_t (by walk_at "st") ?_) | (refine w_len_d (by walk_at "lk") ?_)))
  | ((with_reducible show uIsi _ [_, V.ty _] _ _); (refine w_isk (by walk_at "kd") (by decide) ?_))
  | ((with_reducible show uIsi _ [_, V.ref (He.ga _ _)] _ _); (first | (refine w_isC_t (by assumption) (by walk_at "lk") ?_) | (refine w_isC_f (by assumption) (by walk_at "kd") ?_)))
  | ((with_reducible show uIsi _ [_, V.ref _] _ _); (refine w_isk2 (by walk_at "lk") (by walk_at "kd") (by decide) (by decide) ?_))
  | (with_reducible refine w_wN ?_)
  | (with_reducible refine w_lc ?_)
  | ((with_reducible refine' w_rng2e ?k1 ?_); (case k1 => (refine ⟨?_, ?_, ?_, ?_⟩ <;> omega)))
  | ((with_reducible refine' w_rng1e ?k1 ?k2 ?_); (case k1 => omega); (case k2 => omega))
  | ((with_reducible show ∃ a', V.ref _ = .ref a' ∧ (∃ xs, SqL _ _ a' xs) ∧ _); (refine w_sqLe (by walk_at "sl") ?_))
  | ((with_reducible show ∃ a', V.ref _ = .ref a' ∧ (∃ xs, SqT _ _ a' xs) ∧ _); (refine w_sqTe (by walk_at "st") ?_))
  | (with_reducible refine w_slc ?_)
  | (with_reducible refine w_nop ?_)
  | (with_reducible refine w_part ?_)
  | (with_reducible refine w_exi ?_)
  | ((with_reducible show uSl _ (V.ref _) _ _ _ _); (refine n_slL (by walk_at "sl") ?_); intro _ _ _ _ _)
  | (with_reducible refine w_gsub ?_)
  | ((with_reducible show rSetL (V.ref _) (V.int _) _ _ _); (refine w_setl (by walk_at "lk") (by exact rfl) ?_))
  | (with_reducible refine w_pow_9 ?_)
  | (with_reducible refine w_pow_12 ?_)
  | (with_reducible refine w_pow_13 ?_)
  | (with_reducible refine w_pow_18 ?_)
  | (with_reducible refine w_pow_29 ?_)
  | ((with_reducible refine n_disp1 ?_); intro _ _ _ _ _)
  | (with_reducible refine w_dput ?_)
  | ((with_reducible show rAppend (V.ref _) [_] _ _); (refine w_append (by walk_at "lk") (by first | omega | (exact Nat.lt_of_le_of_lt (wN_le rfl) (by decide))) ?_))
  | ((with_reducible show ∃ a' H4, V.ref _ = .ref a' ∧ DPut _ a' (V.str _) _ H4 ∧ _); (refine w_dputS (by walk_at "lk") (by first | omega | exact wN_le rfl) ?_))
  | (with_reducible refine w_try ?_)
  | ((with_reducible show wManyA _ _ _ _ (.ref (He.ga _ _)) _ _ _); (first | ((refine w_hit (ExT.ex (by assumption) _ (by decide) _ (by decide)) ?_); intro _ _) | (refine w_miss (ExT.ex (by assumption) _ (by decide) _ (by decide)) ?_)))
  | (with_reducible refine w_xg ?_)
  | ((with_reducible show V.ref _ = .ref _ ∧ ∃ _ _ _ _, Value.ref (He.ga _ _) = _ ∧ _); (refine w_xge (ExT.xf (by assumption) _ (by decide)) (ExT.fg (by assumption) _ (by decide)) (by walk_at "lk") ?_))
  | ((with_reducible show rIsX _ (.ref (He.ga _ _)) _ _ _ _ _); (refine w_isx (ExT.xx (by assumption) _ (by decide)) (ExT.kd (by assumption) _ (by decide)) (by walk_at "lk") ?_))
  | ((with_reducible show uAdd _ (V.ref _) (V.ref _) _ _); (refine n_add_ll (by walk_at "lk") (by walk_at "lk") rfl ?_); intro _ _ _ _ _)
  | ((with_reducible show iSeq _ (tLst _) _ _ _); (refine w_sqL ?_))
  | ((with_reducible show iSeq _ (tTup _) _ _ _); (refine w_sqT ?_))
  | (refine ⟨(rfl : wipe _ _ = wipe _ _), ?_⟩)
  | (with_reducible refine w_tryB ?_)
  | ((with_reducible show L2.wManyB _ _ _ _ (.ref (He.ga _ _)) _ _ _); (first | ((refine w_hitB (by assumption) (by decide) (by decide) (by decide) ?_); intro _ _) | (refine w_missB (by assumption) (by decide) (by decide) (by decide) ?_)))
  | ((with_reducible show uIx _ (V.ref _) (V.int _) _ _); (refine w_ixX ?_))
  | ((with_reducible show uIx _ (V.ref _) (V.ref _) _ _); (refine w_ixT (by walk_at "lk") (by walk_at "lk") (by exact rfl) ?_))
  | ((with_reducible show uIx _ (V.ref _) (V.str _) _ _); (refine w_ixK (by walk_at "lk") (.inr _) (by exact rfl) ?_))
  | ((with_reducible show uInX _ _ (V.ref _) _ _); (refine w_inX (w_in_f (by first | exact .inl (by walk_at "sl") | exact .inr (by walk_at "st")) rfl rfl ?_)))
  | ((with_reducible show uNinX _ _ (V.ref _) _ _); (refine w_ninX (w_nin_f (by first | exact .inl (by walk_at "sl") | exact .inr (by walk_at "st")) rfl rfl ?_)))
  | ((with_reducible show rSetX (V.ref _) (V.int _) _ _ _); (refine w_setX ?_))
  | (with_reducible refine w_km ?_)
  | (with_reducible refine w_kmk ?_)
  | ((with_reducible show ∃ _ _ _, V.ref _ = V.ref _ ∧ _ = some (HO.ins _ _ _) ∧ List.lookup _ _ = none ∧ _); (refine w_kme (by walk_at "lk") (by exact rfl) ?_))
  | (with_reducible refine w_kc ?_)
  | (with_reducible refine w_kck ?_)
  | ((with_reducible show kMade _ _ _ _ _ _); (refine w_kmade ?_); intro _ _ _ _ _ _ _ _ _)
  | (with_reducible refine w_fld ?_)
  | ((with_reducible show ∃ _ _ _ _ _, V.ref _ = V.ref _ ∧ _ = some (HO.ins _ _ _) ∧ Cls _ _ ∧ NoAttr _ _ _ ∧ _ ∧ _); (refine' w_flde ?k1 ?k2 ?k3 ?k4 ?_; (case k3 => walk_at "lk"); (case k1 => exact CF.cls (by assumption)); (case k2 => exact CF.na (by assumption) _ (by decide)); (case k4 => exact rfl)))
  | (with_reducible refine w_sfld ?_)
  | ((with_reducible show ∃ _ _ _ _, V.ref _ = V.ref _ ∧ _ = some (HO.ins _ _ _) ∧ Cls _ _ ∧ NoAttr _ _ _ ∧ _ ∧ _); (refine' w_sflde ?k1 ?k2 ?k3 ?k4 ?_; (case k3 => walk_at "lk"); (case k1 => exact CF.cls (by assumption)); (case k2 => exact CF.na (by assumption) _ (by decide)); (case k4 => exact rfl); intro _ _ _))
  | ((with_reducible show uIsi _ [_, V.ref (He.ga _ _)] _ _); (first | (refine w_isC_t (by assumption) (by walk_at "lk") ?_) | (refine w_isC_f (by assumption) (by walk_at "kd") ?_)))
  | (walk_at "hc"))
local macro_rules | `(tactic| walk_at "hs") => `(tactic| repeat' (walk_at "hs1"))

local macro_rules | `(tactic| walk_at "rg") => `(tactic| repeat' (first | exact rg_nil | (refine rg_cons (by omega) (by omega) ?_)))
local macro_rules | `(tactic| walk_at "sm") => `(tactic| first | exact Same.refl _ | assumption | ((with_reducible show Same _ (upd _ _ _)); (refine Same.trans ?_ (sm_new (by assumption))); walk_at "sm") | ((refine Same.trans ?_ (by assumption)); walk_at "sm"))
local macro_rules | `(tactic| walk_at "bx") => `(tactic| first | assumption | ((with_reducible show BoxAt (upd _ _ _) _ _); (exact BoxAt.new (by assumption) (by walk_at "bx"))) | (exact BoxAt.same (by assumption) (by walk_at "bx")))
local macro_rules | `(tactic| walk_at "ks") => `(tactic| first | exact Ks.refl _ | assumption | ((with_reducible show Ks _ (upd _ _ _)); (refine Ks.trans ?_ (Ks.of (sm_new (by assumption))); walk_at "ks")) | (refine Ks.trans ?_ (by assumption); walk_at "ks") | (refine Ks.trans ?_ (Ks.of (by assumption)); walk_at "ks"))
local macro_rules | `(tactic| walk_at "ob") => `(tactic| first | assumption | exact .sc rfl | (exact Ob.same (by assumption) (by walk_at "ob")) | (exact Ob.ks (by assumption) (by walk_at "ob")))
local macro_rules | `(tactic| walk_at "nd") => `(tactic| first | assumption | (exact Nd.same (by assumption) (by walk_at "nd")) | (exact Nd.ks (by assumption) (by walk_at "nd")))
local macro_rules | `(tactic| walk_at "df") => `(tactic| first | assumption | exact df_sc rfl | (exact df_vr (by assumption) (by walk_at "lk")) | (exact df_rv (by assumption) (by walk_at "ob")) | (exact df_vv (by assumption) (by walk_at "ob")) | (exact Df.symm (df_vv (by assumption) (by walk_at "ob"))))
local macro_rules | `(tactic| walk_at "hc") => `(tactic| (with_reducible show sp_is_whole _ _ _ _ _); (refine u_is_whole (by walk_at "kd") ?_))
local macro_rules | `(tactic| walk_at "hc") => `(tactic| (with_reducible show sp_is_between _ _ _ _ _); (refine u_is_between (by walk_at "kd") ?_))
local macro_rules | `(tactic| walk_at "hc") => `(tactic| (with_reducible show sp_is_list _ _ _ _ _); (refine u_is_list (by walk_at "sl") ?_); intro _ _)
local macro_rules | `(tactic| walk_at "hc") => `(tactic| (with_reducible show sp_is_time _ _ _ _ _); (refine u_is_time (by walk_at "kd") ?_))
local macro_rules | `(tactic| walk_at "hc") => `(tactic| (with_reducible show sp_is_offset _ _ _ _ _); (refine u_is_offset (by walk_at "kd") ?_))
local macro_rules | `(tactic| walk_at "hc") => `(tactic| (with_reducible show sp__law_take _ _ _ _ _); (refine u__law_take (by walk_at "bx") (by omega) (by omega) (by omega) ?_); intro _ _ _ _ _ _)
local macro_rules | `(tactic| walk_at "hc") => `(tactic| ((with_reducible show rIsX _ (.ref (He.ga _ _)) _ _ _ _ _); (refine w_isx (ExT.xx (by assumption) _ (by decide)) (KiT.kk (by assumption) _ (by decide) _ (by decide)) (by walk_at "lk") ?_)))
variable {K : PySem.W.Frag}
theorem dueM_e1 {o : Int} {cs : List (Int × Int)} {t : Int} {g f : Str} (h : momL 0 o cs t = []) (h1 : g = "after") (h2 : o < t) : dueM o cs t g f = [jumpU 0 o cs t] := by unfold dueM; rw [if_pos h, if_pos ⟨h1, h2⟩]
theorem dueM_e2 {o : Int} {cs : List (Int × Int)} {t : Int} {g f : Str} (h : momL 0 o cs t = []) (h1 : ¬ (g = "after" ∧ o < t)) : dueM o cs t g f = [] := by unfold dueM; rw [if_pos h, if_neg h1]
theorem dueM_f {o : Int} {cs : List (Int × Int)} {t : Int} {g f : Str} (h : momL 0 o cs t ≠ []) (h1 : f = "first") : dueM o cs t g f = (momL 0 o cs t).take 1 := by unfold dueM; rw [if_neg h, if_pos h1]
theorem dueM_l {o : Int} {cs : List (Int × Int)} {t : Int} {g f : Str} (h : momL 0 o cs t ≠ []) (h1 : ¬ f = "first") (h2 : f = "last") : dueM o cs t g f = (momL 0 o cs t).drop ((momL 0 o cs t).length - 1) := by unfold dueM; rw [if_neg h, if_neg h1, if_pos h2]
theorem dueM_b {o : Int} {cs : List (Int × Int)} {t : Int} {g f : Str} (h : momL 0 o cs t ≠ []) (h1 : ¬ f = "first") (h2 : ¬ f = "last") : dueM o cs t g f = momL 0 o cs t := by unfold dueM; rw [if_neg h, if_neg h1, if_neg h2]
theorem p_due_moments (vs : List V) (H : Hp) (Q : VK) (E : XK) (h : sp_due_moments K vs H Q E) : t_due_moments K E (D0 Q) (start N_due_moments vs) H := by
  obtain ⟨x, t, T, g, U, f, W, rfl, ht, hg, hf, ⟨c, o, cs, rfl, hca, ok, q1, q2, q3, q4⟩ | ⟨Z, hZ, q⟩⟩ := h
  · walk_at "hs"
    refine u_check_clock1 hca ?_
    walk_at "hs"
    refine u_check_time ht (fun c1 => ?_) (fun c1 => q2 c1)
    walk_at "hs"
    refine u_check_ways hg hf (fun g1 f1 => ?_) (fun g1 => q3 c1 g1) (fun g1 f1 => q4 c1 g1 f1)
    clear q2 q3 q4
    cases ht with
    | int i =>
      cases hg with
      | str s =>
        cases hf with
        | str z =>
          have q := q1 i s z rfl rfl rfl c1 g1 f1
          clear q1
          walk_at "hs"
          refine u_moments_of hca ok ?_
          intro p H1 e1 h1 fp
          have hca1 := hca.same e1
          have hca2 := hca1
          obtain ⟨kk, dx, ra, ca, xs, hc, hs, hr⟩ := hca2
          walk_at "hs"
          rename_i p2 H2 n2 e2 h2
          refine w_eq_nil (l_of (e2 _ _ h1)) (l_of h2) ?_
          cases ce : (momL 0 o cs i).isEmpty
          · have hne : momL 0 o cs i ≠ [] := fun z => by rw [z] at ce; cases ce
            walk_at "hs"
            refine w_b2 (fun d1 => ?_) (fun d1 => ?_)
            · walk_at "hs"
              rename_i p3 H3 n3 e3 h3
              rw [cut_first, ← dueM_f (g := s) hne (by simpa using d1)] at h3
              exact q _ _ (Same.trans (Same.trans e1 e2) e3) h3 (fr_of (Same.trans e1 e2) n3)
            · walk_at "hs"
              refine w_b2 (fun d2 => ?_) (fun d2 => ?_)
              · walk_at "hs"
                rename_i p3 H3 n3 e3 h3
                rw [cut_last, ← dueM_l (g := s) hne (by simpa using d1) (by simpa using d2)] at h3
                exact q _ _ (Same.trans (Same.trans e1 e2) e3) h3 (fr_of (Same.trans e1 e2) n3)
              · walk_at "hs"
                have h3 := e2 _ _ h1
                rw [← dueM_b (g := s) hne (by simpa using d1) (by simpa using d2)] at h3
                exact q _ _ (Same.trans e1 e2) h3 fp
          · have hem : momL 0 o cs i = [] := List.isEmpty_iff.mp ce
            walk_at "hs"
            refine w_b2 (fun d1 => ?_) (fun d1 => ?_)
            · walk_at "hs"
              refine w_b2 (fun d2 => ?_) (fun d2 => ?_)
              · walk_at "hs"
                refine u_jump_over (hca.same (Same.trans e1 e2)) ok hem fun H3 e3 => ?_
                walk_at "hs"
                rename_i p4 H4 n4 e4 h4
                refine q _ _ (Same.trans (Same.trans e1 e2) (Same.trans e3 e4)) ?_ (fr_of (Same.trans (Same.trans e1 e2) e3) n4)
                rw [dueM_e1 hem (by simpa using d1) (by simpa using d2)]
                exact h4
              · walk_at "hs"
                rename_i p4 H4 n4 e4 h4
                refine q _ _ (Same.trans (Same.trans e1 e2) e4) ?_ (fr_of (Same.trans e1 e2) n4)
                rw [dueM_e2 hem (fun z => by simp at d2; omega)]
                exact h4
            · walk_at "hs"
              rename_i p4 H4 n4 e4 h4
              refine q _ _ (Same.trans (Same.trans e1 e2) e4) ?_ (fr_of (Same.trans e1 e2) n4)
              rw [dueM_e2 hem (fun z => by simp at d1; exact d1 z.1)]
              exact h4
        | _ => cases f1
      | _ => cases g1
    | _ => cases c1
  · walk_at "hs"
    refine u_check_clock2 hZ ?_
    exact q
theorem tk_cut {x : V} {l : List V} : cutV (x :: l) (some 1) none = l := by
  unfold cutV HT.sIx
  simp
theorem RnT.butT {H H' : Hp} {D : Addr} {u : HO} {vs : List V} {ls : List (List V)} (e : ∀ b o, b ≠ D → H b = some o → H' b = some o) (hD : H D = some u) (hu : ∀ l, u ≠ .tup l) (h : RnT H vs ls) : RnT H' vs ls := by
  induction h with
  | nil => exact .nil
  | cons h r ih => exact .cons (e _ _ (fun z => by rw [z, hD] at h; cases h; exact hu _ rfl) h) ih
theorem rgs_ne : ∀ (cs : List (Int × Int)) (f x : Int), ∃ e r, rgs f x cs = (f, e, x) :: r
  | [], _, _ => ⟨_, _, rfl⟩
  | (_, _) :: _, _, _ => ⟨_, _, rfl⟩
def encZ (p : Int × Option Int × Int) : List V := [.int p.1, .int p.2.2]
theorem p_Clock___init__ (vs : List V) (H : Hp) (Q : VK) (E : XK) (h : sp_Clock___init__ K vs H Q E) : t_Clock___init__ K E (D0 Q) (start N_Clock___init__ vs) H := by
  obtain ⟨c, dx, o, a, cs, rfl, kk, hc, hch, ok, q⟩ := h
  have b1 : betw (.int o) (-1440) 1440 = true := betw_t ok.o0 ok.o1
  have rl := rl_le ok
  walk_at "hs"
  refine u_are_changes hch ok fun H1 e1 => ?_
  walk_at "hs"
  rename_i H2 b2 c2
  obtain ⟨xs, ha, hr⟩ := hch
  have hac : a ≠ c := fun z => by rw [z, hc] at ha; cases ha
  have ha2 := b2 _ _ hac (e1 _ _ ha)
  have hr2 : RnT H2 xs (cs.map encC) := RnT.butT b2 (e1 _ _ hc) (fun l z => by cases z) (hr.same e1)
  refine u_ranges_of ⟨xs, ha2, hr2⟩ ok ?_
  intro R ys H3 e3 hR rn
  have c3 := e3 _ _ c2
  have hRc : R ≠ c := fun z => by rw [z, c3] at hR; cases hR
  walk_at "hs"
  rename_i H4 b4 c4
  have hR4 := b4 _ _ hRc hR
  have rn4 : RnT H4 ys ((rgs 0 o (red o cs)).map encR) := RnT.butT b4 c3 (fun l z => by cases z) rn
  obtain ⟨e0, r0, er⟩ := rgs_ne (red o cs) 0 o
  have rn5 := rn4
  rw [er] at rn5
  rcases rn5 with _ | ⟨hT0, rn1⟩
  rename_i T0 rest
  have r8 : r0.length ≤ 8 := by have := rl; rw [er] at this; simpa using this
  have rl2 : rest.length = r0.length := by simpa using rn1.len
  refine w_sqL ?_
  walk_at "hs"
  rename_i S HS nS sS hS
  rw [tk_cut] at hS
  have rn2 : RwT K HS rest (r0.map encR) := (rn1.same sS).rw
  intro D hD
  refine lc_list (xs := rest) (LcR HS D fun i => (r0.take i).map encZ) (LcR.zero hD rfl) (fun i H' _ P => P.1.seq (l_of hS)) ?_ ?_
  · intro i x H' hx P
    obtain ⟨p, hp, ⟨t, rfl, hT⟩⟩ := RnT.map_get (rn2.same P.1) hx
    have i8 : i < r0.length := (List.getElem?_eq_some_iff.mp hp).1
    unfold encR at hT
    walk_at "hs"
    rename_i T9 H9 nT9 sT9 hT9
    refine LcR.one P sT9 hD ?_ hT9 (take_succ_map hp)
    simp; omega
  · intro H5 P
    obtain ⟨e5, zs, hz, rz⟩ := P
    have c5 := e5 _ _ (sS _ _ c4)
    walk_at "hs"
    refine ⟨D, zs, rfl, .inl ⟨l_of hz, fun l hl => ?_⟩⟩
    have e6 : Same H5 (upd H5 l (.tup zs)) := sm_new hl
    have c6 := e6 _ _ c5
    generalize upd H5 l (.tup zs) = H6 at *
    walk_at "hs"
    rename_i H7 b7 c7
    refine q H7 (fun b u n hb => b7 _ _ n (e6 _ _ (e5 _ _ (sS _ _ (b4 _ _ n (e3 _ _ (b2 _ _ n (e1 _ _ hb)))))))) ⟨kk, dx, R, l, _, c7, b7 _ _ hRc (e6 _ _ (e5 _ _ (sS _ _ hR4))), ?_⟩
    exact RnT.butT b7 c6 (fun l z => by cases z) (rn4.same (Same.trans sS (Same.trans e5 e6)))
theorem u_Clock___init__ {H : Hp} {Q : VK} {E : XK} {c dx a : Addr} {o : Int} {cs : List (Int × Int)} (kk : CLK K) (hc : H c = some (.ins (He.ga K "Clock") dx [])) (h : ChL K H a cs) (ok : ClkOk o cs) (q : ∀ H', (∀ b u, b ≠ c → H b = some u → H' b = some u) → ClockAt K H' c o cs → Q .non H') : sp_Clock___init__ K [.ref c, .int o, .ref a] H Q E := ⟨c, dx, o, a, cs, rfl, kk, hc, h, ok, q⟩
/-- due moments, asked of a clock -/
theorem u_due1 {H : Hp} {Q : VK} {E : XK} {c : Addr} {o i : Int} {cs : List (Int × Int)} {s z : Str} (h : ClockAt K H c o cs) (ok : ClkOk o cs) (i0 : 0 ≤ i) (i1 : i ≤ TOP) (g1 : gapOk (.str s) = true) (f1 : foldOk (.str z) = true) (q : NewI H Q (dueM o cs i s z)) : sp_due_moments K [.ref c, .int i, .str s, .str z] H Q E := by
  have b1 : betw (.int i) 0 TOP = true := betw_t i0 i1
  exact ⟨_, _, _, _, _, _, _, rfl, .int i, .str s, .str z, .inl ⟨c, o, cs, rfl, h, ok, fun i' s' z' e1 e2 e3 _ _ _ => (by cases e1; cases e2; cases e3; exact q), fun c1 => (by rw [b1] at c1; cases c1), fun _ g => (by rw [g1] at g; cases g), fun _ _ f => (by rw [f1] at f; cases f)⟩⟩
theorem p__law_asked (X : ExT K ["InvalidClock", "InvalidTime", "InvalidGap", "InvalidFold"] "DueError") (Y : KiT K ["InvalidClock", "InvalidTime", "InvalidGap", "InvalidFold"]) (vs : List V) (H : Hp) (Q : VK) (E : XK) (h : sp__law_asked K vs H Q E) : t__law_asked K E (D0 Q) (start N__law_asked vs) H := by
  obtain ⟨nm, x, t, T, g, U, f, W, rfl, ht, hg, hf, h⟩ := h
  walk_at "hs"
  refine w_b2 (fun c => ?_) (fun c => ?_)
  · walk_at "hs"
    refine ⟨x, t, T, g, U, f, W, rfl, ht, hg, hf, ?_⟩
    rcases h with ⟨c0, o, cs, rfl, hca, ok, q1, q2, q3, q4⟩ | ⟨Z, hZ, q⟩
    · refine .inl ⟨c0, o, cs, rfl, hca, ok, fun i s z e1 e2 e3 c1 g1 f1 => ?_, fun c1 => ?_, fun c1 g1 => ?_, fun c1 g1 f1 => ?_⟩
      · have q := q1 i s z e1 e2 e3 c1 g1 f1
        intro p H1 e1 h1 fp
        walk_at "hs"
        rename_i l H2 n2 e2 h2
        exact q _ _ _ (Same.trans e1 e2) fp (e2 _ _ h1) h2
      · have q := q2 c1
        clear q1 q2 q3 q4
        intro d hd
        walk_at "hs"
        refine q _ _ ?_ (by assumption); walk_at "sm"
      · have q := q3 c1 g1
        clear q1 q2 q3 q4
        intro d hd
        walk_at "hs"
        refine q _ _ ?_ (by assumption); walk_at "sm"
      · have q := q4 c1 g1 f1
        clear q1 q2 q3 q4
        intro d hd
        walk_at "hs"
        refine q _ _ ?_ (by assumption); walk_at "sm"
    · refine .inr ⟨Z, hZ, ?_⟩
      intro d hd
      walk_at "hs"
      refine q _ _ ?_ (by assumption); walk_at "sm"
  · walk_at "hs"
    refine ⟨x, t, T, g, U, f, W, rfl, ht, hg, hf, ?_⟩
    rcases h with ⟨c0, o, cs, rfl, hca, ok, q1, q2, q3, q4⟩ | ⟨Z, hZ, q⟩
    · refine .inl ⟨c0, o, cs, rfl, hca, ok, fun i s z e1 e2 e3 c1 g1 f1 => ?_, fun c1 => ?_, fun c1 g1 => ?_, fun c1 g1 f1 => ?_⟩
      · have q := q1 i s z e1 e2 e3 c1 g1 f1
        intro p H1 e1 h1 fp
        walk_at "hs"
        rename_i l H2 n2 e2 h2
        exact q _ _ _ (Same.trans e1 e2) fp (e2 _ _ h1) h2
      · have q := q2 c1
        clear q1 q2 q3 q4
        intro d hd
        walk_at "hs"
        refine q _ _ ?_ (by assumption); walk_at "sm"
      · have q := q3 c1 g1
        clear q1 q2 q3 q4
        intro d hd
        walk_at "hs"
        refine q _ _ ?_ (by assumption); walk_at "sm"
      · have q := q4 c1 g1 f1
        clear q1 q2 q3 q4
        intro d hd
        walk_at "hs"
        refine q _ _ ?_ (by assumption); walk_at "sm"
    · refine .inr ⟨Z, hZ, ?_⟩
      intro d hd
      walk_at "hs"
      refine q _ _ ?_ (by assumption); walk_at "sm"
end My
set_option linter.all false
set_option maxRecDepth 100000
set_option maxHeartbeats 4000000
namespace My
open PySem PySem.Spec PyProof.Rows L2 Kx
local macro_rules | `(tactic| walk_at "lk") => `(tactic| first | assumption | ((with_reducible show upd _ _ _ _ = _); (first | exact upd_same | (exact up_new (by assumption) (by walk_at "lk")) | (exact up_other (by assumption) (by walk_at "lk")))) | (exact (by assumption : Same _ _) _ _ (by walk_at "lk")) | (exact ks_get (by assumption) (by walk_at "lk") (by first | rfl | assumption | exact notBox_len rfl)))
local macro_rules | `(tactic| walk_at "sl") => `(tactic| first | assumption | (exact l_of (by walk_at "lk")) | (exact Same.seq (by assumption) (by walk_at "sl")) | ((with_reducible show SqL _ (upd _ _ _) _ _); (exact Same.seq (sm_new (by assumption)) (by walk_at "sl"))))
local macro_rules | `(tactic| walk_at "st") => `(tactic| first | assumption | (exact t_of (by walk_at "lk")) | (exact Kx.Same.tup (by assumption) (by walk_at "st")) | ((with_reducible show SqT _ (upd _ _ _) _ _); (exact Kx.Same.tup (sm_new (by assumption)) (by walk_at "st"))) | (exact ks_tup (by assumption) (by walk_at "st")))
local macro_rules | `(tactic| walk_at "kd") => `(tactic| first | assumption | exact .non | exact .bl _ | exact .int _ | exact .str _ | (exact .lst (by walk_at "sl")) | (exact .tup (by walk_at "st")) | (exact .dic (by walk_at "lk")) | (exact Kd.same (by assumption) (by walk_at "kd")) | ((with_reducible show Kd _ (upd _ _ _) _ _); (exact Kd.same (sm_new (by assumption)) (by walk_at "kd"))))
local macro_rules | `(tactic| walk_at "tt") => `(tactic| first | rfl | assumption | decide +kernel | (simp only [decide_eq_true_eq, Bool.not_eq_true', decide_eq_false_iff_not, Bool.and_eq_true, Bool.or_eq_true]; omega))
local macro_rules | `(tactic| walk_at "ff") => `(tactic| first | rfl | assumption | decide +kernel | (simp only [decide_eq_true_eq, Bool.not_eq_false', decide_eq_false_iff_not, Bool.and_eq_false_imp, Bool.or_eq_false_iff]; omega))
local macro_rules | `(tactic| walk_at "hc") => `(tactic| fail)
local macro_rules | `(tactic| walk_at "hif") => `(tactic| ((with_reducible refine w_b2 ?_ ?_) <;> intro))
local macro_rules | `(tactic| walk_at "hs1") => `(tactic| first
  | (with_reducible refine w_seq ?_)
  | (with_reducible refine w_asg ?_)
  | ((with_reducible refine' w_var ?k1 ?_); (case k1 => exact rfl))
  | (with_reducible refine w_c ?_)
  | (with_reducible refine w_op ?_)
  | (with_reducible refine w_cons ?_)
  | (with_reducible refine w_nil ?_)
  | (with_reducible refine w_name ?_)
  | (with_reducible refine w_kn ?_)
  | (with_reducible refine w_kx ?_)
  | (with_reducible refine w_kk ?_)
  | (with_reducible refine w_cb ?_)
  | (with_reducible refine w_if ?_)
  | (with_reducible refine w_test ?_)
  | (with_reducible refine w_exb ?_)
  | (with_reducible refine iteT ?_)
  | (with_reducible refine iteF ?_)
  | ((with_reducible refine w_bt ?_ ?_); (first | rfl | decide +kernel))
  | ((with_reducible refine w_bf ?_ ?_); (first | rfl | decide +kernel))
  | ((with_reducible refine w_bt ?_ ?_); (walk_at "tt"))
  | ((with_reducible refine w_bf ?_ ?_); (walk_at "ff"))
  | (with_reducible refine w_ret ?_)
  | (with_reducible refine w_retN ?_)
  | (with_reducible refine w_drop ?_)
  | (with_reducible refine w_next ?_)
  | (with_reducible refine w_brk ?_)
  | (with_reducible refine w_cont ?_)
  | (with_reducible refine w_and ?_)
  | (with_reducible refine w_or ?_)
  | (with_reducible refine w_not ?_)
  | (with_reducible refine w_tr ?_)
  | (with_reducible refine w_yes ?_)
  | (with_reducible refine w_tru_bl ?_)
  | (with_reducible refine w_tru_int ?_)
  | (with_reducible refine w_tru_non ?_)
  | (with_reducible refine w_andV ?_)
  | (with_reducible refine w_orV ?_)
  | (with_reducible refine w_notV ?_)
  | (with_reducible refine w_ifx ?_)
  | (with_reducible refine w_chain ?_)
  | (with_reducible refine w_un ?_)
  | (with_reducible refine n_tup ?_)
  | (with_reducible refine n_lst ?_)
  | ((with_reducible show kTup _ _ _); (refine n_ktup rfl ?_); intro _ _ _ _ _)
  | ((with_reducible show kLst _ _ _); (refine n_klst rfl ?_); intro _ _ _ _ _)
  | (with_reducible refine w_par ?_)
  | (with_reducible refine w_par2 ?_)
  | (with_reducible refine w_par3 ?_)
  | (with_reducible refine w_par33 ?_)
  | ((with_reducible refine' w_aug ?k1 ?_); (case k1 => exact rfl))
  | (with_reducible refine w_raise ?_)
  | (with_reducible refine w_mkdue ?_)
  | (with_reducible refine w_one ?_)
  | ((with_reducible show gSq _ _ _ (V.ref _) _ _ _); (first | (refine n_gsq (by walk_at "lk") (by exact rfl) (by exact rfl) ?_) | (refine w_gtup (by walk_at "st") (by exact rfl) ?_) | (refine w_glst (by walk_at "sl") (by exact rfl) ?_)))
  | (with_reducible refine w_gcons ?_)
  | (with_reducible refine w_gnil ?_)
  | (with_reducible refine w_bm ?_)
  | ((with_reducible show tyV _ "list" (V.ref _) _ ∧ _); (refine w_tyl (by walk_at "sl") ?_))
  | (with_reducible refine w_for ?_)
  | (with_reducible refine w_rng1 ?_)
  | (with_reducible refine w_rng2 ?_)
  | (with_reducible refine w_add_ii ?_)
  | (with_reducible refine w_sub_ii ?_)
  | ((with_reducible refine w_fdv_ii ?_ ?_ ?_); (first | decide | omega); (first | decide | omega))
  | ((with_reducible refine w_mul_b ?_ ?_ ?_); (refine ⟨?_, ?_⟩ <;> omega); (refine ⟨?_, ?_⟩ <;> omega))
  | ((with_reducible refine w_mod_ii ?_ ?_); (first | decide | omega))
  | (with_reducible refine w_neg_i ?_)
  | (with_reducible refine w_lt_ii ?_)
  | (with_reducible refine w_le_ii ?_)
  | (with_reducible refine w_gt_ii ?_)
  | (with_reducible refine w_ge_ii ?_)
  | (with_reducible refine w_eq_ii ?_)
  | (with_reducible refine w_ne_ii ?_)
  | (with_reducible refine n_eq_same ?_)
  | (with_reducible refine n_ne_same ?_)
  | (with_reducible refine w_eq_ss ?_)
  | (with_reducible refine w_ne_ss ?_)
  | (with_reducible refine w_eq_bb ?_)
  | (with_reducible refine w_ne_bb ?_)
  | (with_reducible refine w_is_n ?_)
  | (with_reducible refine w_isn_n ?_)
  | (with_reducible refine w_is_bb ?_)
  | (with_reducible refine w_isn_bb ?_)
  | ((with_reducible show rIx _ (V.ref _) (V.int _) _ _); (first | (refine n_ix (by decide) (by walk_at "lk") (by exact rfl) ?_) | (refine n_ixl (by decide) (by walk_at "sl") (by exact rfl) ?_) | (refine n_ixt (by decide) (by walk_at "st") (by exact rfl) ?_)))
  | (with_reducible refine w_ipadd ?_)
  | (with_reducible refine w_ipsub ?_)
  | (with_reducible refine w_int_i ?_)
  | (with_reducible refine w_int_b ?_)
  | (with_reducible refine w_abs ?_)
  | ((with_reducible refine w_max2r ?_); intro _ _ _ _)
  | ((with_reducible refine w_min2r ?_); intro _ _ _ _)
  | ((with_reducible show uLen _ [V.ref _] _ _); (first | (refine n_len (by walk_at "lk") (by exact rfl) ?_) | (refine w_len_l (by walk_at "sl") ?_) | (refine w_len_t (by walk_at "st") ?_) | (refine w_len_d (by walk_at "lk") ?_)))
  | ((with_reducible show uIsi _ [_, V.ty _] _ _); (refine w_isk (by walk_at "kd") (by decide) ?_))
  | ((with_reducible show uIsi _ [_, V.ref (He.ga _ _)] _ _); (first | (refine w_isC_t (by assumption) (by walk_at "lk") ?_) | (refine w_isC_f (by assumption) (by walk_at "kd") ?_)))
  | ((with_reducible show uIsi _ [_, V.ref _] _ _); (refine w_isk2 (by walk_at "lk") (by walk_at "kd") (by decide) (by decide) ?_))
  | (with_reducible refine w_wN ?_)
  | (with_reducible refine w_lc ?_)
  | ((with_reducible refine' w_rng2e ?k1 ?_); (case k1 => (refine ⟨?_, ?_, ?_, ?_⟩ <;> omega)))
  | ((with_reducible refine' w_rng1e ?k1 ?k2 ?_); (case k1 => omega); (case k2 => omega))
  | ((with_reducible show ∃ a', V.ref _ = .ref a' ∧ (∃ xs, SqL _ _ a' xs) ∧ _); (refine w_sqLe (by walk_at "sl") ?_))
  | ((with_reducible show ∃ a', V.ref _ = .ref a' ∧ (∃ xs, SqT _ _ a' xs) ∧ _); (refine w_sqTe (by walk_at "st") ?_))
  | (with_reducible refine w_slc ?_)
  | (with_reducible refine w_nop ?_)
  | (with_reducible refine w_part ?_)
  | (with_reducible refine w_exi ?_)
  | ((with_reducible show uSl _ (V.ref _) _ _ _ _); (refine n_slL (by walk_at "sl") ?_); intro _ _ _ _ _)
  | (with_reducible refine w_gsub ?_)
  | ((with_reducible show rSetL (V.ref _) (V.int _) _ _ _); (refine w_setl (by walk_at "lk") (by exact rfl) ?_))
  | (with_reducible refine w_pow_9 ?_)
  | (with_reducible refine w_pow_12 ?_)
  | (with_reducible refine w_pow_13 ?_)
  | (with_reducible refine w_pow_18 ?_)
  | (with_reducible refine w_pow_29 ?_)
  | ((with_reducible refine n_disp1 ?_); intro _ _ _ _ _)
  | (with_reducible refine w_dput ?_)
  | ((with_reducible show rAppend (V.ref _) [_] _ _); (refine w_append (by walk_at "lk") (by first | omega | (exact Nat.lt_of_le_of_lt (wN_le rfl) (by decide))) ?_))
  | ((with_reducible show ∃ a' H4, V.ref _ = .ref a' ∧ DPut _ a' (V.str _) _ H4 ∧ _); (refine w_dputS (by walk_at "lk") (by first | omega | exact wN_le rfl) ?_))
  | (with_reducible refine w_try ?_)
  | ((with_reducible show wManyA _ _ _ _ (.ref (He.ga _ _)) _ _ _); (first | ((refine w_hit (ExT.ex (by assumption) _ (by decide) _ (by decide)) ?_); intro _ _) | (refine w_miss (ExT.ex (by assumption) _ (by decide) _ (by decide)) ?_)))
  | (with_reducible refine w_xg ?_)
  | ((with_reducible show V.ref _ = .ref _ ∧ ∃ _ _ _ _, Value.ref (He.ga _ _) = _ ∧ _); (refine w_xge (ExT.xf (by assumption) _ (by decide)) (ExT.fg (by assumption) _ (by decide)) (by walk_at "lk") ?_))
  | ((with_reducible show rIsX _ (.ref (He.ga _ _)) _ _ _ _ _); (refine w_isx (ExT.xx (by assumption) _ (by decide)) (ExT.kd (by assumption) _ (by decide)) (by walk_at "lk") ?_))
  | ((with_reducible show uAdd _ (V.ref _) (V.ref _) _ _); (refine n_add_ll (by walk_at "lk") (by walk_at "lk") rfl ?_); intro _ _ _ _ _)
  | ((with_reducible show iSeq _ (tLst _) _ _ _); (refine w_sqL ?_))
  | ((with_reducible show iSeq _ (tTup _) _ _ _); (refine w_sqT ?_))
  | (refine ⟨(rfl : wipe _ _ = wipe _ _), ?_⟩)
  | (with_reducible refine w_tryB ?_)
  | ((with_reducible show L2.wManyB _ _ _ _ (.ref (He.ga _ _)) _ _ _); (first | ((refine w_hitB (by assumption) (by decide) (by decide) (by decide) ?_); intro _ _) | (refine w_missB (by assumption) (by decide) (by decide) (by decide) ?_)))
  | ((with_reducible show uIx _ (V.ref _) (V.int _) _ _); (refine w_ixX ?_))
  | ((with_reducible show uIx _ (V.ref _) (V.ref _) _ _); (refine w_ixT (by walk_at "lk") (by walk_at "lk") (by exact rfl) ?_))
  | ((with_reducible show uIx _ (V.ref _) (V.str _) _ _); (refine w_ixK (by walk_at "lk") (.inr _) (by exact rfl) ?_))
  | ((with_reducible show uInX _ _ (V.ref _) _ _); (refine w_inX (w_in_f (by first | exact .inl (by walk_at "sl") | exact .inr (by walk_at "st")) rfl rfl ?_)))
  | ((with_reducible show uNinX _ _ (V.ref _) _ _); (refine w_ninX (w_nin_f (by first | exact .inl (by walk_at "sl") | exact .inr (by walk_at "st")) rfl rfl ?_)))
  | ((with_reducible show rSetX (V.ref _) (V.int _) _ _ _); (refine w_setX ?_))
  | (with_reducible refine w_km ?_)
  | (with_reducible refine w_kmk ?_)
  | ((with_reducible show ∃ _ _ _, V.ref _ = V.ref _ ∧ _ = some (HO.ins _ _ _) ∧ List.lookup _ _ = none ∧ _); (refine w_kme (by walk_at "lk") (by exact rfl) ?_))
  | (with_reducible refine w_kc ?_)
  | (with_reducible refine w_kck ?_)
  | ((with_reducible show kMade _ _ _ _ _ _); (refine w_kmade ?_); intro _ _ _ _ _ _ _ _ _)
  | (with_reducible refine w_fld ?_)
  | ((with_reducible show ∃ _ _ _ _ _, V.ref _ = V.ref _ ∧ _ = some (HO.ins _ _ _) ∧ Cls _ _ ∧ NoAttr _ _ _ ∧ _ ∧ _); (refine' w_flde ?k1 ?k2 ?k3 ?k4 ?_; (case k3 => walk_at "lk"); (case k1 => exact CF.cls (by assumption)); (case k2 => exact CF.na (by assumption) _ (by decide)); (case k4 => exact rfl)))
  | (with_reducible refine w_sfld ?_)
  | ((with_reducible show ∃ _ _ _ _, V.ref _ = V.ref _ ∧ _ = some (HO.ins _ _ _) ∧ Cls _ _ ∧ NoAttr _ _ _ ∧ _ ∧ _); (refine' w_sflde ?k1 ?k2 ?k3 ?k4 ?_; (case k3 => walk_at "lk"); (case k1 => exact CF.cls (by assumption)); (case k2 => exact CF.na (by assumption) _ (by decide)); (case k4 => exact rfl); intro _ _ _))
  | ((with_reducible show uIsi _ [_, V.ref (He.ga _ _)] _ _); (first | (refine w_isC_t (by assumption) (by walk_at "lk") ?_) | (refine w_isC_f (by assumption) (by walk_at "kd") ?_)))
  | (walk_at "hc"))
local macro_rules | `(tactic| walk_at "hs") => `(tactic| repeat' (walk_at "hs1"))

local macro_rules | `(tactic| walk_at "rg") => `(tactic| repeat' (first | exact rg_nil | (refine rg_cons (by omega) (by omega) ?_)))
local macro_rules | `(tactic| walk_at "sm") => `(tactic| first | exact Same.refl _ | assumption | ((with_reducible show Same _ (upd _ _ _)); (refine Same.trans ?_ (sm_new (by assumption))); walk_at "sm") | ((refine Same.trans ?_ (by assumption)); walk_at "sm"))
local macro_rules | `(tactic| walk_at "bx") => `(tactic| first | assumption | ((with_reducible show BoxAt (upd _ _ _) _ _); (exact BoxAt.new (by assumption) (by walk_at "bx"))) | (exact BoxAt.same (by assumption) (by walk_at "bx")))
local macro_rules | `(tactic| walk_at "ks") => `(tactic| first | exact Ks.refl _ | assumption | ((with_reducible show Ks _ (upd _ _ _)); (refine Ks.trans ?_ (Ks.of (sm_new (by assumption))); walk_at "ks")) | (refine Ks.trans ?_ (by assumption); walk_at "ks") | (refine Ks.trans ?_ (Ks.of (by assumption)); walk_at "ks"))
local macro_rules | `(tactic| walk_at "ob") => `(tactic| first | assumption | exact .sc rfl | (exact Ob.same (by assumption) (by walk_at "ob")) | (exact Ob.ks (by assumption) (by walk_at "ob")))
local macro_rules | `(tactic| walk_at "nd") => `(tactic| first | assumption | (exact Nd.same (by assumption) (by walk_at "nd")) | (exact Nd.ks (by assumption) (by walk_at "nd")))
local macro_rules | `(tactic| walk_at "df") => `(tactic| first | assumption | exact df_sc rfl | (exact df_vr (by assumption) (by walk_at "lk")) | (exact df_rv (by assumption) (by walk_at "ob")) | (exact df_vv (by assumption) (by walk_at "ob")) | (exact Df.symm (df_vv (by assumption) (by walk_at "ob"))))
local macro_rules | `(tactic| walk_at "hc") => `(tactic| (with_reducible show sp_is_whole _ _ _ _ _); (refine u_is_whole (by walk_at "kd") ?_))
local macro_rules | `(tactic| walk_at "hc") => `(tactic| (with_reducible show sp_is_between _ _ _ _ _); (refine u_is_between (by walk_at "kd") ?_))
local macro_rules | `(tactic| walk_at "hc") => `(tactic| (with_reducible show sp_is_list _ _ _ _ _); (refine u_is_list (by walk_at "sl") ?_); intro _ _)
local macro_rules | `(tactic| walk_at "hc") => `(tactic| (with_reducible show sp_is_time _ _ _ _ _); (refine u_is_time (by walk_at "kd") ?_))
local macro_rules | `(tactic| walk_at "hc") => `(tactic| (with_reducible show sp_is_offset _ _ _ _ _); (refine u_is_offset (by walk_at "kd") ?_))
local macro_rules | `(tactic| walk_at "hc") => `(tactic| (with_reducible show sp__law_take _ _ _ _ _); (refine u__law_take (by walk_at "bx") (by omega) (by omega) (by omega) ?_); intro _ _ _ _ _ _)
variable {K : PySem.W.Frag}
theorem okAllE.get : ∀ {n : Nat} {ds : List PyData}, okAllE n ds → ∀ {i : Nat} {d : PyData}, ds[i]? = some d → okE n d
  | _, _ :: _, h, 0, _, e => by cases e; exact h.1
  | _, _ :: _, h, i + 1, _, e => okAllE.get h.2 e
/-- what the inner call may be asked -/
def spInE (K : PySem.W.Frag) : Nat → Sp
  | 0 => fun _ _ _ _ => False
  | n + 1 => sp_eqS K n
theorem u_inE {n : Nat} {H : Hp} {Q : VK} {E : XK} {x y : V} {d : PyData} {ds : List PyData} (h : ∃ m, n = m + 1 ∧ ds.length ≤ 100000 ∧ okAllE m ds) {i : Nat} (hi : ds[i]? = some d) (h1 : Dp K H x d) (h2 : Dp K H y d) (q : ∀ H', Same H H' → Q (.bl true) H') : spInE K n [x, y] H Q E := by
  obtain ⟨m, rfl, _, o⟩ := h
  exact ⟨x, y, d, rfl, h1, h2, okAllE.get o hi, q⟩
theorem w_slS {H : Hp} {Q : VK} {s : Str} {lo hi : Option Int} (h : s.length ≤ 100000) (q : Q (.str (cutS s lo hi)) H) : uSl K (.str s) lo hi H Q := .inr (.inr ⟨s, rfl, Nat.le_trans h (by decide), q⟩)
theorem w_ixS {H : Hp} {Q : VK} {s : Str} {i : Int} {c : Nat} (h : s.length ≤ 100000) (hc : atI s.cps.toList i = some c) (q : Q (.str ⟨#[c]⟩) H) : rIx K (.str s) (.int i) H Q := .inr (.inr ⟨s, i, c, rfl, rfl, Nat.le_trans h (by decide), hc, q⟩)
theorem cutS_one {s : Str} {k c : Nat} (h : s.cps.toList[k]? = some c) : cutS s (some (k : Int)) (some ((k : Int) + 1)) = ⟨#[c]⟩ := by
  obtain ⟨hk, hc⟩ := List.getElem?_eq_some_iff.mp h
  have hk' : k < s.length := by simpa [Str.length] using hk
  unfold cutS
  rw [show ((k : Int) + 1) = ((k + 1 : Nat) : Int) by omega, HT.sIx_nat, HT.sIx_nat, Nat.min_eq_left (by omega), Nat.min_eq_left (by omega), List.drop_eq_getElem_cons hk, hc, show k + 1 - k = 1 by omega]
  rfl
theorem p__law_same (n : Nat) (vs : List V) (H : Hp) (Q : VK) (E : XK) (h : sp_eqS K n vs H Q E) : t__law_same K (spInE K n) E (D0 Q) (start N__law_same vs) H := by
  obtain ⟨x, y, d, rfl, hx, hy, hd, q⟩ := h
  cases d with
  | none =>
    cases hx; cases hy
    walk_at "hs"
    exact q _ (Same.refl _)
  | bool b =>
    cases hx; cases hy
    walk_at "hs"
    have := q _ (Same.refl _)
    cases b <;> exact this
  | int i =>
    cases hx; cases hy
    walk_at "hs"
    simpa using q _ (Same.refl _)
  | str s =>
    cases hx; cases hy
    simp only [okE] at hd
    walk_at "hs"
    refine w_len_s (s := s) (by omega) ?_
    walk_at "hs"
    refine w_len_s (s := s) (by omega) ?_
    walk_at "hs"
    refine w_bt (by simp) ?_
    walk_at "hs"
    refine w_len_s (s := s) (by omega) ?_
    walk_at "hs"
    intro D hD
    refine lc_range (lo := 0) (n := s.length) (LcP H D fun _ => []) (LcP.zero hD rfl) ?_ ?_
    · intro i H' hi P
      have z : (0 : Int) + (i : Int) = (i : Int) := by omega
      rw [z]
      obtain ⟨c, hc⟩ : ∃ c, s.cps.toList[i]? = some c := ⟨_, List.getElem?_eq_getElem (by simpa [Str.length] using hi)⟩
      walk_at "hs"
      refine w_slS hd ?_
      walk_at "hs"
      refine w_ixX (w_ixS hd (atI_nat hc) ?_)
      rw [cutS_one hc]
      walk_at "hs"
      exact LcP.no P (Same.refl _) rfl
    · intro H' P
      walk_at "hs"
      rename_i p H2 np sp hp
      refine w_eq_d (.lst (l_of (sp _ _ P.2)) .nil) (.lst (l_of hp) .nil) rfl rfl ?_
      exact q _ (Same.trans P.1 sp)
  | dict kvs => cases hx
  | list ds =>
    cases hx with | @lst a xs _ ha ra =>
    cases hy with | @lst b ys _ hb rb =>
    simp only [okE] at hd
    have hd' := hd
    obtain ⟨m, rfl, hl, ho⟩ := hd
    have l1 := DpAll.len ra
    have l2 := DpAll.len rb
    walk_at "hs"
    intro D hD
    refine lc_range (lo := 0) (n := ys.length) (LcP H D fun _ => []) (LcP.zero hD rfl) ?_ ?_
    · intro i H' hi P
      have P1 := P.1
      obtain ⟨x, d, ex, ed, kx⟩ := DpAll.get ra i (by omega)
      obtain ⟨y, d', ey, ed', ky⟩ := DpAll.get rb i (by omega)
      rw [ed] at ed'
      cases ed'
      have z : (0 : Int) + (i : Int) = (i : Int) := by omega
      walk_at "hs"
      refine w_ixl (P1.seq ha) (by rw [z]; exact atI_nat ex) ?_
      walk_at "hs"
      refine w_ixl (P1.seq hb) (by rw [z]; exact atI_nat ey) ?_
      walk_at "hs"
      refine u_inE hd' ed (Dp.same P1 kx) (Dp.same P1 ky) fun H2 f => ?_
      walk_at "hs"
      exact LcP.no P f rfl
    · intro H' P
      walk_at "hs"
      rename_i p H2 np sp hp
      refine w_eq_d (.lst (l_of (sp _ _ P.2)) .nil) (.lst (l_of hp) .nil) rfl rfl ?_
      exact q _ (Same.trans P.1 sp)
  | tuple ds =>
    cases hx with | @tup a xs _ ha ra =>
    cases hy with | @tup b ys _ hb rb =>
    simp only [okE] at hd
    have hd' := hd
    obtain ⟨m, rfl, hl, ho⟩ := hd
    have l1 := DpAll.len ra
    have l2 := DpAll.len rb
    walk_at "hs"
    intro D hD
    refine lc_range (lo := 0) (n := ys.length) (LcP H D fun _ => []) (LcP.zero hD rfl) ?_ ?_
    · intro i H' hi P
      have P1 := P.1
      obtain ⟨x, d, ex, ed, kx⟩ := DpAll.get ra i (by omega)
      obtain ⟨y, d', ey, ed', ky⟩ := DpAll.get rb i (by omega)
      rw [ed] at ed'
      cases ed'
      have z : (0 : Int) + (i : Int) = (i : Int) := by omega
      walk_at "hs"
      refine w_ixt (Kx.Same.tup P1 ha) (by rw [z]; exact atI_nat ex) ?_
      walk_at "hs"
      refine w_ixt (Kx.Same.tup P1 hb) (by rw [z]; exact atI_nat ey) ?_
      walk_at "hs"
      refine u_inE hd' ed (Dp.same P1 kx) (Dp.same P1 ky) fun H2 f => ?_
      walk_at "hs"
      exact LcP.no P f rfl
    · intro H' P
      walk_at "hs"
      rename_i p H2 np sp hp
      refine w_eq_d (.lst (l_of (sp _ _ P.2)) .nil) (.lst (l_of hp) .nil) rfl rfl ?_
      exact q _ (Same.trans P.1 sp)
theorem u__law_same {H : Hp} {Q : VK} {E : XK} {x y : V} {d : PyData} (hx : Dp K H x d) (hy : Dp K H y d) (hd : okE 8 d) (q : ∀ H', Same H H' → Q (.bl true) H') : sp_sameS K [x, y] H Q E := ⟨x, y, d, rfl, hx, hy, hd, q⟩
/-! the law's own clock -/
theorem offAt_snoc {g y m : Int} : ∀ (l : List (Int × Int)) (x : Int), offAt x (l ++ [(g, y)]) m = if g ≤ m then y else offAt x l m
  | [], _ => rfl
  | (_, _) :: l, _ => offAt_snoc l _
theorem p__law_offset (vs : List V) (H : Hp) (Q : VK) (E : XK) (h : sp__law_offset K vs H Q E) : t__law_offset K E (D0 Q) (start N__law_offset vs) H := by
  obtain ⟨a, o, cs, m, rfl, ⟨ca, ha, xs, hc, hr⟩, ok, q⟩ := h
  have hl : xs.length = cs.length := by simpa using hr.len
  walk_at "hs"
  refine w_sqL ?_
  walk_at "hs"
  refine for_list (xs := xs) (fun j σ H3 => ∃ s3 s4, σ = [some (.ref a), some (.int m), some (.int (offAt o (cs.take j) m)), s3, s4] ∧ H3 = H)
    ⟨_, _, rfl, rfl⟩ (fun _ _ _ _ ⟨_, _, _, e3⟩ => by rw [e3]; exact l_of hc) ?_ ?_
  · rintro j v σ H3 hx ⟨s3, s4, rfl, e3⟩
    subst e3
    obtain ⟨p, hp, ⟨t, rfl, hT⟩⟩ := RnT.map_get (K := K) hr.rw hx
    obtain ⟨g, y⟩ := p
    have hT : SqT K H3 t [.int g, .int y] := hT
    have hs1 : cs.take (j + 1) = cs.take j ++ [(g, y)] := by rw [List.take_succ, hp]; rfl
    have e := offAt_snoc (g := g) (y := y) (m := m) (cs.take j) o
    rw [← hs1] at e
    walk_at "hs"
    rw [e]
    refine w_b2 (fun c => ?_) (fun c => ?_) <;> walk_at "hs"
    · rw [if_pos (by simpa using c)]
      exact ⟨_, _, rfl, rfl⟩
    · rw [if_neg (by simpa using c)]
      exact ⟨_, _, rfl, rfl⟩
  · rintro σ H3 ⟨s3, s4, rfl, e3⟩
    rw [hl, List.take_length]
    subst e3
    walk_at "hs"
    exact q
theorem u__law_offset {H : Hp} {Q : VK} {E : XK} {a : Addr} {o m : Int} {cs : List (Int × Int)} (h : OwnAt K H a o cs) (ok : ClkOk o cs) (q : Q (.int (offAt o cs m)) H) : sp__law_offset K [.ref a, .int m] H Q E := ⟨a, o, cs, m, rfl, h, ok, q⟩
end My
set_option linter.all false
set_option maxRecDepth 100000
namespace My
/-! the law's ranges, one by one -/
def pc (f g x L : Int) : List (Int × Int × Int) := if f < g ∧ f ≤ L then [(f, min L (g - 1), x)] else []
def lrsN : Nat → Int → Int → List (Int × Int) → Int → List (Int × Int × Int)
  | 0, _, _, _, _ => []
  | _ + 1, f, x, [], L => pc f (L + 1) x L
  | n + 1, f, x, (g, y) :: r, L => pc f g x L ++ lrsN n g y r L
theorem lrsN_all : ∀ (cs : List (Int × Int)) (f x L : Int), lrsN (cs.length + 1) f x cs L = lrs f x cs L
  | [], f, x, L => rfl
  | (g, y) :: r, f, x, L => by
    rw [lrs_cons]
    show pc f g x L ++ lrsN (r.length + 1) g y r L = _
    rw [lrsN_all r g y L]
    rfl
theorem lrsN_succ {s t y L : Int} : ∀ (n : Nat) (cs : List (Int × Int)) (f x : Int), (f :: cs.map (fun p => p.1) ++ [L + 1])[n]? = some s → (f :: cs.map (fun p => p.1) ++ [L + 1])[n + 1]? = some t → (x :: cs.map (fun p => p.2))[n]? = some y →
    lrsN (n + 1) f x cs L = lrsN n f x cs L ++ pc s t y L
  | 0, [], f, x, h1, h2, h3 => by
    cases h1; cases h2; cases h3; rfl
  | 0, (g, z) :: r, f, x, h1, h2, h3 => by
    cases h1; cases h2; cases h3
    exact (List.append_nil _).trans (List.nil_append _).symm
  | n + 1, [], f, x, h1, h2, h3 => by cases n <;> cases h3
  | n + 1, (g, z) :: r, f, x, h1, h2, h3 => by
    have := lrsN_succ n r g z h1 h2 h3
    show pc f g x L ++ lrsN (n + 1) g z r L = (pc f g x L ++ lrsN n g z r L) ++ _
    rw [this, List.append_assoc]
theorem lrsN_len : ∀ (n : Nat) (cs : List (Int × Int)) (f x L : Int), (lrsN n f x cs L).length ≤ n
  | 0, _, _, _, _ => Nat.le_refl _
  | n + 1, [], f, x, L => by
    show (pc f (L + 1) x L).length ≤ _
    unfold pc
    split <;> simp
  | n + 1, (g, y) :: r, f, x, L => by
    show (pc f g x L ++ lrsN n g y r L).length ≤ _
    have := lrsN_len n r g y L
    rw [List.length_append]
    unfold pc
    split
    · simp only [List.length_cons, List.length_nil]; omega
    · simp only [List.length_nil]; omega
theorem lastS_get : ∀ {cs : List (Int × Int)} (f : Int), cs ≠ [] → ∃ p, cs[cs.length - 1]? = some p ∧ lastS f cs = p.1
  | [], _, h => absurd rfl h
  | [p], f, _ => ⟨p, rfl, rfl⟩
  | p :: r :: cs, f, _ => by
    obtain ⟨q, hq, e⟩ := lastS_get (cs := r :: cs) p.1 (by simp)
    refine ⟨q, ?_, e⟩
    simpa using hq
end My
set_option linter.all false
set_option maxRecDepth 100000
set_option maxHeartbeats 4000000
namespace My
open PySem PySem.Spec PyProof.Rows L2 Kx
local macro_rules | `(tactic| walk_at "lk") => `(tactic| first | assumption | ((with_reducible show upd _ _ _ _ = _); (first | exact upd_same | (exact up_new (by assumption) (by walk_at "lk")) | (exact up_other (by assumption) (by walk_at "lk")))) | (exact (by assumption : Same _ _) _ _ (by walk_at "lk")) | (exact ks_get (by assumption) (by walk_at "lk") (by first | rfl | assumption | exact notBox_len rfl)))
local macro_rules | `(tactic| walk_at "sl") => `(tactic| first | assumption | (exact l_of (by walk_at "lk")) | (exact Same.seq (by assumption) (by walk_at "sl")) | ((with_reducible show SqL _ (upd _ _ _) _ _); (exact Same.seq (sm_new (by assumption)) (by walk_at "sl"))))
local macro_rules | `(tactic| walk_at "st") => `(tactic| first | assumption | (exact t_of (by walk_at "lk")) | (exact Kx.Same.tup (by assumption) (by walk_at "st")) | ((with_reducible show SqT _ (upd _ _ _) _ _); (exact Kx.Same.tup (sm_new (by assumption)) (by walk_at "st"))) | (exact ks_tup (by assumption) (by walk_at "st")))
local macro_rules | `(tactic| walk_at "kd") => `(tactic| first | assumption | exact .non | exact .bl _ | exact .int _ | exact .str _ | (exact .lst (by walk_at "sl")) | (exact .tup (by walk_at "st")) | (exact .dic (by walk_at "lk")) | (exact Kd.same (by assumption) (by walk_at "kd")) | ((with_reducible show Kd _ (upd _ _ _) _ _); (exact Kd.same (sm_new (by assumption)) (by walk_at "kd"))))
local macro_rules | `(tactic| walk_at "tt") => `(tactic| first | rfl | assumption | decide +kernel | (simp only [decide_eq_true_eq, Bool.not_eq_true', decide_eq_false_iff_not, Bool.and_eq_true, Bool.or_eq_true]; omega))
local macro_rules | `(tactic| walk_at "ff") => `(tactic| first | rfl | assumption | decide +kernel | (simp only [decide_eq_true_eq, Bool.not_eq_false', decide_eq_false_iff_not, Bool.and_eq_false_imp, Bool.or_eq_false_iff]; omega))
local macro_rules | `(tactic| walk_at "hc") => `(tactic| fail)
local macro_rules | `(tactic| walk_at "hif") => `(tactic| ((with_reducible refine w_b2 ?_ ?_) <;> intro))
local macro_rules | `(tactic| walk_at "hs1") => `(tactic| first
  | (with_reducible refine w_seq ?_)
  | (with_reducible refine w_asg ?_)
  | ((with_reducible refine' w_var ?k1 ?_); (case k1 => exact rfl))
  | (with_reducible refine w_c ?_)
  | (with_reducible refine w_op ?_)
  | (with_reducible refine w_cons ?_)
  | (with_reducible refine w_nil ?_)
  | (with_reducible refine w_name ?_)
  | (with_reducible refine w_kn ?_)
  | (with_reducible refine w_kx ?_)
  | (with_reducible refine w_kk ?_)
  | (with_reducible refine w_cb ?_)
  | (with_reducible refine w_if ?_)
  | (with_reducible refine w_test ?_)
  | (with_reducible refine w_exb ?_)
  | (with_reducible refine iteT ?_)
  | (with_reducible refine iteF ?_)
  | ((with_reducible refine w_bt ?_ ?_); (first | rfl | decide +kernel))
  | ((with_reducible refine w_bf ?_ ?_); (first | rfl | decide +kernel))
  | ((with_reducible refine w_bt ?_ ?_); (walk_at "tt"))
  | ((with_reducible refine w_bf ?_ ?_); (walk_at "ff"))
  | (with_reducible refine w_ret ?_)
  | (with_reducible refine w_retN ?_)
  | (with_reducible refine w_drop ?_)
  | (with_reducible refine w_next ?_)
  | (with_reducible refine w_brk ?_)
  | (with_reducible refine w_cont ?_)
  | (with_reducible refine w_and ?_)
  | (with_reducible refine w_or ?_)
  | (with_reducible refine w_not ?_)
  | (with_reducible refine w_tr ?_)
  | (with_reducible refine w_yes ?_)
  | (with_reducible refine w_tru_bl ?_)
  | (with_reducible refine w_tru_int ?_)
  | (with_reducible refine w_tru_non ?_)
  | (with_reducible refine w_andV ?_)
  | (with_reducible refine w_orV ?_)
  | (with_reducible refine w_notV ?_)
  | (with_reducible refine w_ifx ?_)
  | (with_reducible refine w_chain ?_)
  | (with_reducible refine w_un ?_)
  | (with_reducible refine n_tup ?_)
  | (with_reducible refine n_lst ?_)
  | ((with_reducible show kTup _ _ _); (refine n_ktup rfl ?_); intro _ _ _ _ _)
  | ((with_reducible show kLst _ _ _); (refine n_klst rfl ?_); intro _ _ _ _ _)
  | (with_reducible refine w_par ?_)
  | (with_reducible refine w_par2 ?_)
  | (with_reducible refine w_par3 ?_)
  | (with_reducible refine w_par33 ?_)
  | ((with_reducible refine' w_aug ?k1 ?_); (case k1 => exact rfl))
  | (with_reducible refine w_raise ?_)
  | (with_reducible refine w_mkdue ?_)
  | (with_reducible refine w_one ?_)
  | ((with_reducible show gSq _ _ _ (V.ref _) _ _ _); (first | (refine n_gsq (by walk_at "lk") (by exact rfl) (by exact rfl) ?_) | (refine w_gtup (by walk_at "st") (by exact rfl) ?_) | (refine w_glst (by walk_at "sl") (by exact rfl) ?_)))
  | (with_reducible refine w_gcons ?_)
  | (with_reducible refine w_gnil ?_)
  | (with_reducible refine w_bm ?_)
  | ((with_reducible show tyV _ "list" (V.ref _) _ ∧ _); (refine w_tyl (by walk_at "sl") ?_))
  | (with_reducible refine w_for ?_)
  | (with_reducible refine w_rng1 ?_)
  | (with_reducible refine w_rng2 ?_)
  | (with_reducible refine w_add_ii ?_)
  | (with_reducible refine w_sub_ii ?_)
  | ((with_reducible refine w_fdv_ii ?_ ?_ ?_); (first | decide | omega); (first | decide | omega))
  | ((with_reducible refine w_mul_b ?_ ?_ ?_); (refine ⟨?_, ?_⟩ <;> omega); (refine ⟨?_, ?_⟩ <;> omega))
  | ((with_reducible refine w_mod_ii ?_ ?_); (first | decide | omega))
  | (with_reducible refine w_neg_i ?_)
  | (with_reducible refine w_lt_ii ?_)
  | (with_reducible refine w_le_ii ?_)
  | (with_reducible refine w_gt_ii ?_)
  | (with_reducible refine w_ge_ii ?_)
  | (with_reducible refine w_eq_ii ?_)
  | (with_reducible refine w_ne_ii ?_)
  | (with_reducible refine n_eq_same ?_)
  | (with_reducible refine n_ne_same ?_)
  | (with_reducible refine w_eq_ss ?_)
  | (with_reducible refine w_ne_ss ?_)
  | (with_reducible refine w_eq_bb ?_)
  | (with_reducible refine w_ne_bb ?_)
  | (with_reducible refine w_is_n ?_)
  | (with_reducible refine w_isn_n ?_)
  | (with_reducible refine w_is_bb ?_)
  | (with_reducible refine w_isn_bb ?_)
  | ((with_reducible show rIx _ (V.ref _) (V.int _) _ _); (first | (refine n_ix (by decide) (by walk_at "lk") (by exact rfl) ?_) | (refine n_ixl (by decide) (by walk_at "sl") (by exact rfl) ?_) | (refine n_ixt (by decide) (by walk_at "st") (by exact rfl) ?_)))
  | (with_reducible refine w_ipadd ?_)
  | (with_reducible refine w_ipsub ?_)
  | (with_reducible refine w_int_i ?_)
  | (with_reducible refine w_int_b ?_)
  | (with_reducible refine w_abs ?_)
  | ((with_reducible refine w_max2r ?_); intro _ _ _ _)
  | ((with_reducible refine w_min2r ?_); intro _ _ _ _)
  | ((with_reducible show uLen _ [V.ref _] _ _); (first | (refine n_len (by walk_at "lk") (by exact rfl) ?_) | (refine w_len_l (by walk_at "sl") ?_) | (refine w_len_t (by walk_at "st") ?_) | (refine w_len_d (by walk_at "lk") ?_)))
  | ((with_reducible show uIsi _ [_, V.ty _] _ _); (refine w_isk (by walk_at "kd") (by decide) ?_))
  | ((with_reducible show uIsi _ [_, V.ref (He.ga _ _)] _ _); (first | (refine w_isC_t (by assumption) (by walk_at "lk") ?_) | (refine w_isC_f (by assumption) (by walk_at "kd") ?_)))
  | ((with_reducible show uIsi _ [_, V.ref _] _ _); (refine w_isk2 (by walk_at "lk") (by walk_at "kd") (by decide) (by decide) ?_))
  | (with_reducible refine w_wN ?_)
  | (with_reducible refine w_lc ?_)
  | ((with_reducible refine' w_rng2e ?k1 ?_); (case k1 => (refine ⟨?_, ?_, ?_, ?_⟩ <;> omega)))
  | ((with_reducible refine' w_rng1e ?k1 ?k2 ?_); (case k1 => omega); (case k2 => omega))
  | ((with_reducible show ∃ a', V.ref _ = .ref a' ∧ (∃ xs, SqL _ _ a' xs) ∧ _); (refine w_sqLe (by walk_at "sl") ?_))
  | ((with_reducible show ∃ a', V.ref _ = .ref a' ∧ (∃ xs, SqT _ _ a' xs) ∧ _); (refine w_sqTe (by walk_at "st") ?_))
  | (with_reducible refine w_slc ?_)
  | (with_reducible refine w_nop ?_)
  | (with_reducible refine w_part ?_)
  | (with_reducible refine w_exi ?_)
  | ((with_reducible show uSl _ (V.ref _) _ _ _ _); (refine n_slL (by walk_at "sl") ?_); intro _ _ _ _ _)
  | (with_reducible refine w_gsub ?_)
  | ((with_reducible show rSetL (V.ref _) (V.int _) _ _ _); (refine w_setl (by walk_at "lk") (by exact rfl) ?_))
  | (with_reducible refine w_pow_9 ?_)
  | (with_reducible refine w_pow_12 ?_)
  | (with_reducible refine w_pow_13 ?_)
  | (with_reducible refine w_pow_18 ?_)
  | (with_reducible refine w_pow_29 ?_)
  | ((with_reducible refine n_disp1 ?_); intro _ _ _ _ _)
  | (with_reducible refine w_dput ?_)
  | ((with_reducible show rAppend (V.ref _) [_] _ _); (refine w_append (by walk_at "lk") (by first | omega | (exact Nat.lt_of_le_of_lt (wN_le rfl) (by decide))) ?_))
  | ((with_reducible show ∃ a' H4, V.ref _ = .ref a' ∧ DPut _ a' (V.str _) _ H4 ∧ _); (refine w_dputS (by walk_at "lk") (by first | omega | exact wN_le rfl) ?_))
  | (with_reducible refine w_try ?_)
  | ((with_reducible show wManyA _ _ _ _ (.ref (He.ga _ _)) _ _ _); (first | ((refine w_hit (ExT.ex (by assumption) _ (by decide) _ (by decide)) ?_); intro _ _) | (refine w_miss (ExT.ex (by assumption) _ (by decide) _ (by decide)) ?_)))
  | (with_reducible refine w_xg ?_)
  | ((with_reducible show V.ref _ = .ref _ ∧ ∃ _ _ _ _, Value.ref (He.ga _ _) = _ ∧ _); (refine w_xge (ExT.xf (by assumption) _ (by decide)) (ExT.fg (by assumption) _ (by decide)) (by walk_at "lk") ?_))
  | ((with_reducible show rIsX _ (.ref (He.ga _ _)) _ _ _ _ _); (refine w_isx (ExT.xx (by assumption) _ (by decide)) (ExT.kd (by assumption) _ (by decide)) (by walk_at "lk") ?_))
  | ((with_reducible show uAdd _ (V.ref _) (V.ref _) _ _); (refine n_add_ll (by walk_at "lk") (by walk_at "lk") rfl ?_); intro _ _ _ _ _)
  | ((with_reducible show iSeq _ (tLst _) _ _ _); (refine w_sqL ?_))
  | ((with_reducible show iSeq _ (tTup _) _ _ _); (refine w_sqT ?_))
  | (refine ⟨(rfl : wipe _ _ = wipe _ _), ?_⟩)
  | (with_reducible refine w_tryB ?_)
  | ((with_reducible show L2.wManyB _ _ _ _ (.ref (He.ga _ _)) _ _ _); (first | ((refine w_hitB (by assumption) (by decide) (by decide) (by decide) ?_); intro _ _) | (refine w_missB (by assumption) (by decide) (by decide) (by decide) ?_)))
  | ((with_reducible show uIx _ (V.ref _) (V.int _) _ _); (refine w_ixX ?_))
  | ((with_reducible show uIx _ (V.ref _) (V.ref _) _ _); (refine w_ixT (by walk_at "lk") (by walk_at "lk") (by exact rfl) ?_))
  | ((with_reducible show uIx _ (V.ref _) (V.str _) _ _); (refine w_ixK (by walk_at "lk") (.inr _) (by exact rfl) ?_))
  | ((with_reducible show uInX _ _ (V.ref _) _ _); (refine w_inX (w_in_f (by first | exact .inl (by walk_at "sl") | exact .inr (by walk_at "st")) rfl rfl ?_)))
  | ((with_reducible show uNinX _ _ (V.ref _) _ _); (refine w_ninX (w_nin_f (by first | exact .inl (by walk_at "sl") | exact .inr (by walk_at "st")) rfl rfl ?_)))
  | ((with_reducible show rSetX (V.ref _) (V.int _) _ _ _); (refine w_setX ?_))
  | (with_reducible refine w_km ?_)
  | (with_reducible refine w_kmk ?_)
  | ((with_reducible show ∃ _ _ _, V.ref _ = V.ref _ ∧ _ = some (HO.ins _ _ _) ∧ List.lookup _ _ = none ∧ _); (refine w_kme (by walk_at "lk") (by exact rfl) ?_))
  | (with_reducible refine w_kc ?_)
  | (with_reducible refine w_kck ?_)
  | ((with_reducible show kMade _ _ _ _ _ _); (refine w_kmade ?_); intro _ _ _ _ _ _ _ _ _)
  | (with_reducible refine w_fld ?_)
  | ((with_reducible show ∃ _ _ _ _ _, V.ref _ = V.ref _ ∧ _ = some (HO.ins _ _ _) ∧ Cls _ _ ∧ NoAttr _ _ _ ∧ _ ∧ _); (refine' w_flde ?k1 ?k2 ?k3 ?k4 ?_; (case k3 => walk_at "lk"); (case k1 => exact CF.cls (by assumption)); (case k2 => exact CF.na (by assumption) _ (by decide)); (case k4 => exact rfl)))
  | (with_reducible refine w_sfld ?_)
  | ((with_reducible show ∃ _ _ _ _, V.ref _ = V.ref _ ∧ _ = some (HO.ins _ _ _) ∧ Cls _ _ ∧ NoAttr _ _ _ ∧ _ ∧ _); (refine' w_sflde ?k1 ?k2 ?k3 ?k4 ?_; (case k3 => walk_at "lk"); (case k1 => exact CF.cls (by assumption)); (case k2 => exact CF.na (by assumption) _ (by decide)); (case k4 => exact rfl); intro _ _ _))
  | ((with_reducible show uIsi _ [_, V.ref (He.ga _ _)] _ _); (first | (refine w_isC_t (by assumption) (by walk_at "lk") ?_) | (refine w_isC_f (by assumption) (by walk_at "kd") ?_)))
  | (walk_at "hc"))
local macro_rules | `(tactic| walk_at "hs") => `(tactic| repeat' (walk_at "hs1"))

local macro_rules | `(tactic| walk_at "rg") => `(tactic| repeat' (first | exact rg_nil | (refine rg_cons (by omega) (by omega) ?_)))
local macro_rules | `(tactic| walk_at "sm") => `(tactic| first | exact Same.refl _ | assumption | ((with_reducible show Same _ (upd _ _ _)); (refine Same.trans ?_ (sm_new (by assumption))); walk_at "sm") | ((refine Same.trans ?_ (by assumption)); walk_at "sm"))
local macro_rules | `(tactic| walk_at "bx") => `(tactic| first | assumption | ((with_reducible show BoxAt (upd _ _ _) _ _); (exact BoxAt.new (by assumption) (by walk_at "bx"))) | (exact BoxAt.same (by assumption) (by walk_at "bx")))
local macro_rules | `(tactic| walk_at "ks") => `(tactic| first | exact Ks.refl _ | assumption | ((with_reducible show Ks _ (upd _ _ _)); (refine Ks.trans ?_ (Ks.of (sm_new (by assumption))); walk_at "ks")) | (refine Ks.trans ?_ (by assumption); walk_at "ks") | (refine Ks.trans ?_ (Ks.of (by assumption)); walk_at "ks"))
local macro_rules | `(tactic| walk_at "ob") => `(tactic| first | assumption | exact .sc rfl | (exact Ob.same (by assumption) (by walk_at "ob")) | (exact Ob.ks (by assumption) (by walk_at "ob")))
local macro_rules | `(tactic| walk_at "nd") => `(tactic| first | assumption | (exact Nd.same (by assumption) (by walk_at "nd")) | (exact Nd.ks (by assumption) (by walk_at "nd")))
local macro_rules | `(tactic| walk_at "df") => `(tactic| first | assumption | exact df_sc rfl | (exact df_vr (by assumption) (by walk_at "lk")) | (exact df_rv (by assumption) (by walk_at "ob")) | (exact df_vv (by assumption) (by walk_at "ob")) | (exact Df.symm (df_vv (by assumption) (by walk_at "ob"))))
local macro_rules | `(tactic| walk_at "hc") => `(tactic| (with_reducible show sp_is_whole _ _ _ _ _); (refine u_is_whole (by walk_at "kd") ?_))
local macro_rules | `(tactic| walk_at "hc") => `(tactic| (with_reducible show sp_is_between _ _ _ _ _); (refine u_is_between (by walk_at "kd") ?_))
local macro_rules | `(tactic| walk_at "hc") => `(tactic| (with_reducible show sp_is_list _ _ _ _ _); (refine u_is_list (by walk_at "sl") ?_); intro _ _)
local macro_rules | `(tactic| walk_at "hc") => `(tactic| (with_reducible show sp_is_time _ _ _ _ _); (refine u_is_time (by walk_at "kd") ?_))
local macro_rules | `(tactic| walk_at "hc") => `(tactic| (with_reducible show sp_is_offset _ _ _ _ _); (refine u_is_offset (by walk_at "kd") ?_))
local macro_rules | `(tactic| walk_at "hc") => `(tactic| (with_reducible show sp__law_take _ _ _ _ _); (refine u__law_take (by walk_at "bx") (by omega) (by omega) (by omega) ?_); intro _ _ _ _ _ _)
local macro_rules | `(tactic| walk_at "hc") => `(tactic| ((with_reducible show rIx _ (V.ref _) (V.int _) _ _); (refine w_ixl (by assumption) (by assumption) ?_)))
variable {K : PySem.W.Frag}
theorem m_add_l2 {H : Hp} {Q : VK} {p a : Addr} {xs vs : List V} (h1 : H p = some (.lst xs)) (h2 : H a = some (.lst vs)) (hn : xs.length + vs.length ≤ 1000000) (q : ∀ r H', H r = none → Same H H' → H' r = some (.lst (xs ++ vs)) → Q (.ref r) H') : uAdd K (.ref p) (.ref a) H Q :=
  w_add_ll h1 h2 hn fun r hr => q r _ hr (sm_new hr) upd_same
theorem p__law_ranges (vs : List V) (H : Hp) (Q : VK) (E : XK) (h : sp__law_ranges K vs H Q E) : t__law_ranges K E (D0 Q) (start N__law_ranges vs) H := by
  obtain ⟨a, o, cs, L, rfl, ⟨ca, ha, xs, hc, hr⟩, ok, q⟩ := h
  have hl : xs.length = cs.length := by simpa using hr.len
  have l8 := ok.len
  walk_at "hs"
  rename_i A HA nA sA hA
  refine w_sqL ?_
  walk_at "hs"
  intro D hD
  refine lc_list (xs := xs) (LcP HA D fun i => ((cs.take i).map fun p => p.1).map V.int) (LcP.zero hD rfl) (fun i H' _ P => P.1.seq (l_of (sA _ _ hc))) ?_ ?_
  · intro i x H' hx P
    obtain ⟨p, hp, ⟨t, rfl, hT⟩⟩ := RnT.map_get (K := K) (hr.same (Same.trans sA P.1)).rw hx
    have i8 : i < cs.length := (List.getElem?_eq_some_iff.mp hp).1
    unfold encC at hT
    walk_at "hs"
    refine LcP.one P (Same.refl _) hD ?_ ?_
    · simp; omega
    · rw [take_succ_map hp, List.map_append]; rfl
  intro H1 P
  have e1 := P.1
  have h1 : H1 D = some (.lst (((cs.take cs.length).map fun p => p.1).map V.int)) := by rw [← hl]; exact P.2
  rw [List.take_length] at h1
  clear P
  refine m_add_l2 (e1 _ _ hA) h1 (by simp; omega) fun B HB nB sB hB => ?_
  walk_at "hs"
  rename_i C HC nC sC hC
  refine m_add_l2 (sC _ _ hB) hC (by simp; omega) fun S HS nS sS hS => ?_
  obtain ⟨sl, hsl⟩ : ∃ sl, sl = [V.int 0] ++ List.map V.int (List.map (fun p => p.fst) cs) ++ [V.int (L + 1)] := ⟨_, rfl⟩
  rw [← hsl] at hS
  have e01 : Same H HS := Same.trans sA (Same.trans e1 (Same.trans sB (Same.trans sC sS)))
  clear sA hA nA h1 e1 hB sB nB hC sC nC sS nS hD
  walk_at "hs"
  rename_i F HF nF sF hF A2 HA2 nA2 sA2 hA2
  have hSF : S ≠ F := fun z => by rw [z, nF] at hS; cases hS
  refine w_sqL ?_
  walk_at "hs"
  intro D hD
  refine lc_list (xs := xs) (LcP HA2 D fun i => ((cs.take i).map fun p => p.2).map V.int) (LcP.zero hD rfl) (fun i H' _ P => P.1.seq (l_of (sA2 _ _ (sF _ _ (e01 _ _ hc))))) ?_ ?_
  · intro i x H' hx P
    obtain ⟨p, hp, ⟨t, rfl, hT⟩⟩ := RnT.map_get (K := K) (hr.same (Same.trans e01 (Same.trans sF (Same.trans sA2 P.1)))).rw hx
    have i8 : i < cs.length := (List.getElem?_eq_some_iff.mp hp).1
    unfold encC at hT
    walk_at "hs"
    refine LcP.one P (Same.refl _) hD ?_ ?_
    · simp; omega
    · rw [take_succ_map hp, List.map_append]; rfl
  intro H1 P
  have e1 := P.1
  have h1 : H1 D = some (.lst (((cs.take cs.length).map fun p => p.2).map V.int)) := by rw [← hl]; exact P.2
  rw [List.take_length] at h1
  clear P
  refine m_add_l2 (e1 _ _ hA2) h1 (by simp; omega) fun O HO nO sO hO => ?_
  obtain ⟨ol, hol⟩ : ∃ ol, ol = [V.int o] ++ List.map V.int (List.map (fun p => p.snd) cs) := ⟨_, rfl⟩
  rw [← hol] at hO
  have hF1 := e1 _ _ (sA2 _ _ hF)
  have hOF : O ≠ F := fun z => by rw [z, hF1] at nO; cases nO
  have hSO := sO _ _ (e1 _ _ (sA2 _ _ (sF _ _ hS)))
  have hFO := sO _ _ hF1
  have e02 : Same H HO := Same.trans e01 (Same.trans sF (Same.trans sA2 (Same.trans e1 sO)))
  have nFH : H F = none := by
    cases z : H F with
    | none => rfl
    | some u => rw [e01 _ _ z] at nF; cases nF
  clear sF hF nF sA2 hA2 nA2 e1 h1 hD sO nO hF1 hS e01
  have hlo : ol.length = cs.length + 1 := by rw [hol]; simp
  walk_at "hs"
  rw [hlo]
  refine for_range (lo := 0) (n := cs.length + 1) (fun j σ H3 => ∃ s5 s6 s7, σ = [some (.ref a), some (.int L), some (.ref S), some (.ref F), some (.ref O), s5, s6, s7] ∧ Same H H3 ∧ H3 S = some (.lst sl) ∧ H3 O = some (.lst ol) ∧ ∃ ys, H3 F = some (.lst ys) ∧ RnT H3 ys ((lrsN j 0 o cs L).map encQ))
    ⟨_, _, _, rfl, e02, hSO, hO, [], hFO, .nil⟩ ?_ ?_
  · rintro i σ H3 hi ⟨s5, s6, s7, rfl, e3, hS3, hO3, ys, hF3, rn⟩
    have yl : ys.length ≤ 9 := by
      have h := rn.len
      have := lrsN_len i cs 0 o L
      rw [List.length_map] at h
      omega
    have hss : sl = (0 :: cs.map (fun p => p.1) ++ [L + 1]).map V.int := by rw [hsl]; simp
    have hos : ol = (o :: cs.map (fun p => p.2)).map V.int := by rw [hol]; simp
    obtain ⟨s, h1⟩ : ∃ s, (0 :: cs.map (fun p => p.1) ++ [L + 1])[i]? = some s := ⟨_, List.getElem?_eq_getElem (by simp; omega)⟩
    obtain ⟨t, h2⟩ : ∃ t, (0 :: cs.map (fun p => p.1) ++ [L + 1])[i + 1]? = some t := ⟨_, List.getElem?_eq_getElem (by simp; omega)⟩
    obtain ⟨y, h3⟩ : ∃ y, (o :: cs.map (fun p => p.2))[i]? = some y := ⟨_, List.getElem?_eq_getElem (by simp; omega)⟩
    have hy := lrsN_succ i cs 0 o h1 h2 h3
    have z1 : (0 : Int) + (i : Int) = (i : Int) := by omega
    have z2 : (0 : Int) + (i : Int) + 1 = ((i + 1 : Nat) : Int) := by omega
    have a1 : atI sl (0 + (i : Int)) = some (.int s) := by rw [z1, hss]; refine atI_nat ?_; rw [List.getElem?_map, h1]; rfl
    have a2 : atI sl (0 + (i : Int) + 1) = some (.int t) := by rw [z2, hss]; refine atI_nat ?_; rw [List.getElem?_map, h2]; rfl
    have a3 : atI ol (0 + (i : Int)) = some (.int y) := by rw [z1, hos]; refine atI_nat ?_; rw [List.getElem?_map, h3]; rfl
    have l1 : SqL K H3 S sl := l_of hS3
    have l2 : SqL K H3 O ol := l_of hO3
    clear z1 z2 h1 h2 h3 hss hos
    walk_at "hs"
    refine w_b2 (fun c1 => ?_) (fun c1 => ?_)
    · walk_at "hs"
      refine w_b2 (fun c2 => ?_) (fun c2 => ?_)
      · have hp : pc s t y L = [(s, min L (t - 1), y)] := by unfold pc; rw [if_pos ⟨by simpa using c1, by simpa using c2⟩]
        walk_at "hs"
        rename_i r r1 r2 r3 T H4 nT sT hT
        refine ⟨_, _, _, rfl, sm_mut (Same.trans e3 sT) nFH, (upd_ne hSF).trans (sT _ _ hS3), (upd_ne hOF).trans (sT _ _ hO3), _, upd_same, ?_⟩
        rw [hy, hp, List.map_append]
        refine RnT.app ?_ ?_
        · exact (rn.same sT).but (fun b o n h => by rw [upd_ne n]; exact h) ⟨ys, sT _ _ hF3⟩
        · refine .cons ?_ .nil
          rw [upd_ne (fun z => by rw [z, sT _ _ hF3] at hT; cases hT)]
          rw [hT]
          have : r = min L (t - 1) := by omega
          rw [this]
          rfl
      · have hp : pc s t y L = [] := by unfold pc; rw [if_neg (fun z => by simp at c2; omega)]
        walk_at "hs"
        refine ⟨_, _, _, rfl, e3, hS3, hO3, ys, hF3, ?_⟩
        rw [hy, hp, List.append_nil]
        exact rn
    · have hp : pc s t y L = [] := by unfold pc; rw [if_neg (fun z => by simp at c1; omega)]
      walk_at "hs"
      refine ⟨_, _, _, rfl, e3, hS3, hO3, ys, hF3, ?_⟩
      rw [hy, hp, List.append_nil]
      exact rn
  · rintro σ H3 ⟨s5, s6, s7, rfl, e3, hS3, hO3, ys, hF3, rn⟩
    rw [lrsN_all] at rn
    walk_at "hs"
    exact q _ ys _ e3 hF3 rn
theorem u__law_ranges {H : Hp} {Q : VK} {E : XK} {a : Addr} {o L : Int} {cs : List (Int × Int)} (h : OwnAt K H a o cs) (ok : ClkOk o cs) (q : NewR H Q ((lrs 0 o cs L).map encQ)) : sp__law_ranges K [.ref a, .int L] H Q E := ⟨a, o, cs, L, rfl, h, ok, q⟩
end My
set_option linter.all false
set_option maxRecDepth 100000
set_option maxHeartbeats 4000000
namespace My
open PySem PySem.Spec PyProof.Rows L2 Kx
local macro_rules | `(tactic| walk_at "lk") => `(tactic| first | assumption | ((with_reducible show upd _ _ _ _ = _); (first | exact upd_same | (exact up_new (by assumption) (by walk_at "lk")) | (exact up_other (by assumption) (by walk_at "lk")))) | (exact (by assumption : Same _ _) _ _ (by walk_at "lk")) | (exact ks_get (by assumption) (by walk_at "lk") (by first | rfl | assumption | exact notBox_len rfl)))
local macro_rules | `(tactic| walk_at "sl") => `(tactic| first | assumption | (exact l_of (by walk_at "lk")) | (exact Same.seq (by assumption) (by walk_at "sl")) | ((with_reducible show SqL _ (upd _ _ _) _ _); (exact Same.seq (sm_new (by assumption)) (by walk_at "sl"))))
local macro_rules | `(tactic| walk_at "st") => `(tactic| first | assumption | (exact t_of (by walk_at "lk")) | (exact Kx.Same.tup (by assumption) (by walk_at "st")) | ((with_reducible show SqT _ (upd _ _ _) _ _); (exact Kx.Same.tup (sm_new (by assumption)) (by walk_at "st"))) | (exact ks_tup (by assumption) (by walk_at "st")))
local macro_rules | `(tactic| walk_at "kd") => `(tactic| first | assumption | exact .non | exact .bl _ | exact .int _ | exact .str _ | (exact .lst (by walk_at "sl")) | (exact .tup (by walk_at "st")) | (exact .dic (by walk_at "lk")) | (exact Kd.same (by assumption) (by walk_at "kd")) | ((with_reducible show Kd _ (upd _ _ _) _ _); (exact Kd.same (sm_new (by assumption)) (by walk_at "kd"))))
local macro_rules | `(tactic| walk_at "tt") => `(tactic| first | rfl | assumption | decide +kernel | (simp only [decide_eq_true_eq, Bool.not_eq_true', decide_eq_false_iff_not, Bool.and_eq_true, Bool.or_eq_true]; omega))
local macro_rules | `(tactic| walk_at "ff") => `(tactic| first | rfl | assumption | decide +kernel | (simp only [decide_eq_true_eq, Bool.not_eq_false', decide_eq_false_iff_not, Bool.and_eq_false_imp, Bool.or_eq_false_iff]; omega))
local macro_rules | `(tactic| walk_at "hc") => `(tactic| fail)
local macro_rules | `(tactic| walk_at "hif") => `(tactic| ((with_reducible refine w_b2 ?_ ?_) <;> intro))
local macro_rules | `(tactic| walk_at "hs1") => `(tactic| first
  | (with_reducible refine w_seq ?_)
  | (with_reducible refine w_asg ?_)
  | ((with_reducible refine' w_var ?k1 ?_); (case k1 => exact rfl))
  | (with_reducible refine w_c ?_)
  | (with_reducible refine w_op ?_)
  | (with_reducible refine w_cons ?_)
  | (with_reducible refine w_nil ?_)
  | (with_reducible refine w_name ?_)
  | (with_reducible refine w_kn ?_)
  | (with_reducible refine w_kx ?_)
  | (with_reducible refine w_kk ?_)
  | (with_reducible refine w_cb ?_)
  | (with_reducible refine w_if ?_)
  | (with_reducible refine w_test ?_)
  | (with_reducible refine w_exb ?_)
  | (with_reducible refine iteT ?_)
  | (with_reducible refine iteF ?_)
  | ((with_reducible refine w_bt ?_ ?_); (first | rfl | decide +kernel))
  | ((with_reducible refine w_bf ?_ ?_); (first | rfl | decide +kernel))
  | ((with_reducible refine w_bt ?_ ?_); (walk_at "tt"))
  | ((with_reducible refine w_bf ?_ ?_); (walk_at "ff"))
  | (with_reducible refine w_ret ?_)
  | (with_reducible refine w_retN ?_)
  | (with_reducible refine w_drop ?_)
  | (with_reducible refine w_next ?_)
  | (with_reducible refine w_brk ?_)
  | (with_reducible refine w_cont ?_)
  | (with_reducible refine w_and ?_)
  | (with_reducible refine w_or ?_)
  | (with_reducible refine w_not ?_)
  | (with_reducible refine w_tr ?_)
  | (with_reducible refine w_yes ?_)
  | (with_reducible refine w_tru_bl ?_)
  | (with_reducible refine w_tru_int ?_)
  | (with_reducible refine w_tru_non ?_)
  | (with_reducible refine w_andV ?_)
  | (with_reducible refine w_orV ?_)
  | (with_reducible refine w_notV ?_)
  | (with_reducible refine w_ifx ?_)
  | (with_reducible refine w_chain ?_)
  | (with_reducible refine w_un ?_)
  | (with_reducible refine n_tup ?_)
  | (with_reducible refine n_lst ?_)
  | ((with_reducible show kTup _ _ _); (refine n_ktup rfl ?_); intro _ _ _ _ _)
  | ((with_reducible show kLst _ _ _); (refine n_klst rfl ?_); intro _ _ _ _ _)
  | (with_reducible refine w_par ?_)
  | (with_reducible refine w_par2 ?_)
  | (with_reducible refine w_par3 ?_)
  | (with_reducible refine w_par33 ?_)
  | ((with_reducible refine' w_aug ?k1 ?_); (case k1 => exact rfl))
  | (with_reducible refine w_raise ?_)
  | (with_reducible refine w_mkdue ?_)
  | (with_reducible refine w_one ?_)
  | ((with_reducible show gSq _ _ _ (V.ref _) _ _ _); (first | (refine n_gsq (by walk_at "lk") (by exact rfl) (by exact rfl) ?_) | (refine w_gtup (by walk_at "st") (by exact rfl) ?_) | (refine w_glst (by walk_at "sl") (by exact rfl) ?_)))
  | (with_reducible refine w_gcons ?_)
  | (with_reducible refine w_gnil ?_)
  | (with_reducible refine w_bm ?_)
  | ((with_reducible show tyV _ "list" (V.ref _) _ ∧ _); (refine w_tyl (by walk_at "sl") ?_))
  | (with_reducible refine w_for ?_)
  | (with_reducible refine w_rng1 ?_)
  | (with_reducible refine w_rng2 ?_)
  | (with_reducible refine w_add_ii ?_)
  | (with_reducible refine w_sub_ii ?_)
  | ((with_reducible refine w_fdv_ii ?_ ?_ ?_); (first | decide | omega); (first | decide | omega))
  | ((with_reducible refine w_mul_b ?_ ?_ ?_); (refine ⟨?_, ?_⟩ <;> omega); (refine ⟨?_, ?_⟩ <;> omega))
  | ((with_reducible refine w_mod_ii ?_ ?_); (first | decide | omega))
  | (with_reducible refine w_neg_i ?_)
  | (with_reducible refine w_lt_ii ?_)
  | (with_reducible refine w_le_ii ?_)
  | (with_reducible refine w_gt_ii ?_)
  | (with_reducible refine w_ge_ii ?_)
  | (with_reducible refine w_eq_ii ?_)
  | (with_reducible refine w_ne_ii ?_)
  | (with_reducible refine n_eq_same ?_)
  | (with_reducible refine n_ne_same ?_)
  | (with_reducible refine w_eq_ss ?_)
  | (with_reducible refine w_ne_ss ?_)
  | (with_reducible refine w_eq_bb ?_)
  | (with_reducible refine w_ne_bb ?_)
  | (with_reducible refine w_is_n ?_)
  | (with_reducible refine w_isn_n ?_)
  | (with_reducible refine w_is_bb ?_)
  | (with_reducible refine w_isn_bb ?_)
  | ((with_reducible show rIx _ (V.ref _) (V.int _) _ _); (first | (refine n_ix (by decide) (by walk_at "lk") (by exact rfl) ?_) | (refine n_ixl (by decide) (by walk_at "sl") (by exact rfl) ?_) | (refine n_ixt (by decide) (by walk_at "st") (by exact rfl) ?_)))
  | (with_reducible refine w_ipadd ?_)
  | (with_reducible refine w_ipsub ?_)
  | (with_reducible refine w_int_i ?_)
  | (with_reducible refine w_int_b ?_)
  | (with_reducible refine w_abs ?_)
  | ((with_reducible refine w_max2r ?_); intro _ _ _ _)
  | ((with_reducible refine w_min2r ?_); intro _ _ _ _)
  | ((with_reducible show uLen _ [V.ref _] _ _); (first | (refine n_len (by walk_at "lk") (by exact rfl) ?_) | (refine w_len_l (by walk_at "sl") ?_) | (refine w_len_t (by walk_at "st") ?_) | (refine w_len_d (by walk_at "lk") ?_)))
  | ((with_reducible show uIsi _ [_, V.ty _] _ _); (refine w_isk (by walk_at "kd") (by decide) ?_))
  | ((with_reducible show uIsi _ [_, V.ref (He.ga _ _)] _ _); (first | (refine w_isC_t (by assumption) (by walk_at "lk") ?_) | (refine w_isC_f (by assumption) (by walk_at "kd") ?_)))
  | ((with_reducible show uIsi _ [_, V.ref _] _ _); (refine w_isk2 (by walk_at "lk") (by walk_at "kd") (by decide) (by decide) ?_))
  | (with_reducible refine w_wN ?_)
  | (with_reducible refine w_lc ?_)
  | ((with_reducible refine' w_rng2e ?k1 ?_); (case k1 => (refine ⟨?_, ?_, ?_, ?_⟩ <;> omega)))
  | ((with_reducible refine' w_rng1e ?k1 ?k2 ?_); (case k1 => omega); (case k2 => omega))
  | ((with_reducible show ∃ a', V.ref _ = .ref a' ∧ (∃ xs, SqL _ _ a' xs) ∧ _); (refine w_sqLe (by walk_at "sl") ?_))
  | ((with_reducible show ∃ a', V.ref _ = .ref a' ∧ (∃ xs, SqT _ _ a' xs) ∧ _); (refine w_sqTe (by walk_at "st") ?_))
  | (with_reducible refine w_slc ?_)
  | (with_reducible refine w_nop ?_)
  | (with_reducible refine w_part ?_)
  | (with_reducible refine w_exi ?_)
  | ((with_reducible show uSl _ (V.ref _) _ _ _ _); (refine n_slL (by walk_at "sl") ?_); intro _ _ _ _ _)
  | (with_reducible refine w_gsub ?_)
  | ((with_reducible show rSetL (V.ref _) (V.int _) _ _ _); (refine w_setl (by walk_at "lk") (by exact rfl) ?_))
  | (with_reducible refine w_pow_9 ?_)
  | (with_reducible refine w_pow_12 ?_)
  | (with_reducible refine w_pow_13 ?_)
  | (with_reducible refine w_pow_18 ?_)
  | (with_reducible refine w_pow_29 ?_)
  | ((with_reducible refine n_disp1 ?_); intro _ _ _ _ _)
  | (with_reducible refine w_dput ?_)
  | ((with_reducible show rAppend (V.ref _) [_] _ _); (refine w_append (by walk_at "lk") (by first | omega | (exact Nat.lt_of_le_of_lt (wN_le rfl) (by decide))) ?_))
  | ((with_reducible show ∃ a' H4, V.ref _ = .ref a' ∧ DPut _ a' (V.str _) _ H4 ∧ _); (refine w_dputS (by walk_at "lk") (by first | omega | exact wN_le rfl) ?_))
  | (with_reducible refine w_try ?_)
  | ((with_reducible show wManyA _ _ _ _ (.ref (He.ga _ _)) _ _ _); (first | ((refine w_hit (ExT.ex (by assumption) _ (by decide) _ (by decide)) ?_); intro _ _) | (refine w_miss (ExT.ex (by assumption) _ (by decide) _ (by decide)) ?_)))
  | (with_reducible refine w_xg ?_)
  | ((with_reducible show V.ref _ = .ref _ ∧ ∃ _ _ _ _, Value.ref (He.ga _ _) = _ ∧ _); (refine w_xge (ExT.xf (by assumption) _ (by decide)) (ExT.fg (by assumption) _ (by decide)) (by walk_at "lk") ?_))
  | ((with_reducible show rIsX _ (.ref (He.ga _ _)) _ _ _ _ _); (refine w_isx (ExT.xx (by assumption) _ (by decide)) (ExT.kd (by assumption) _ (by decide)) (by walk_at "lk") ?_))
  | ((with_reducible show uAdd _ (V.ref _) (V.ref _) _ _); (refine n_add_ll (by walk_at "lk") (by walk_at "lk") rfl ?_); intro _ _ _ _ _)
  | ((with_reducible show iSeq _ (tLst _) _ _ _); (refine w_sqL ?_))
  | ((with_reducible show iSeq _ (tTup _) _ _ _); (refine w_sqT ?_))
  | (refine ⟨(rfl : wipe _ _ = wipe _ _), ?_⟩)
  | (with_reducible refine w_tryB ?_)
  | ((with_reducible show L2.wManyB _ _ _ _ (.ref (He.ga _ _)) _ _ _); (first | ((refine w_hitB (by assumption) (by decide) (by decide) (by decide) ?_); intro _ _) | (refine w_missB (by assumption) (by decide) (by decide) (by decide) ?_)))
  | ((with_reducible show uIx _ (V.ref _) (V.int _) _ _); (refine w_ixX ?_))
  | ((with_reducible show uIx _ (V.ref _) (V.ref _) _ _); (refine w_ixT (by walk_at "lk") (by walk_at "lk") (by exact rfl) ?_))
  | ((with_reducible show uIx _ (V.ref _) (V.str _) _ _); (refine w_ixK (by walk_at "lk") (.inr _) (by exact rfl) ?_))
  | ((with_reducible show uInX _ _ (V.ref _) _ _); (refine w_inX (w_in_f (by first | exact .inl (by walk_at "sl") | exact .inr (by walk_at "st")) rfl rfl ?_)))
  | ((with_reducible show uNinX _ _ (V.ref _) _ _); (refine w_ninX (w_nin_f (by first | exact .inl (by walk_at "sl") | exact .inr (by walk_at "st")) rfl rfl ?_)))
  | ((with_reducible show rSetX (V.ref _) (V.int _) _ _ _); (refine w_setX ?_))
  | (with_reducible refine w_km ?_)
  | (with_reducible refine w_kmk ?_)
  | ((with_reducible show ∃ _ _ _, V.ref _ = V.ref _ ∧ _ = some (HO.ins _ _ _) ∧ List.lookup _ _ = none ∧ _); (refine w_kme (by walk_at "lk") (by exact rfl) ?_))
  | (with_reducible refine w_kc ?_)
  | (with_reducible refine w_kck ?_)
  | ((with_reducible show kMade _ _ _ _ _ _); (refine w_kmade ?_); intro _ _ _ _ _ _ _ _ _)
  | (with_reducible refine w_fld ?_)
  | ((with_reducible show ∃ _ _ _ _ _, V.ref _ = V.ref _ ∧ _ = some (HO.ins _ _ _) ∧ Cls _ _ ∧ NoAttr _ _ _ ∧ _ ∧ _); (refine' w_flde ?k1 ?k2 ?k3 ?k4 ?_; (case k3 => walk_at "lk"); (case k1 => exact CF.cls (by assumption)); (case k2 => exact CF.na (by assumption) _ (by decide)); (case k4 => exact rfl)))
  | (with_reducible refine w_sfld ?_)
  | ((with_reducible show ∃ _ _ _ _, V.ref _ = V.ref _ ∧ _ = some (HO.ins _ _ _) ∧ Cls _ _ ∧ NoAttr _ _ _ ∧ _ ∧ _); (refine' w_sflde ?k1 ?k2 ?k3 ?k4 ?_; (case k3 => walk_at "lk"); (case k1 => exact CF.cls (by assumption)); (case k2 => exact CF.na (by assumption) _ (by decide)); (case k4 => exact rfl); intro _ _ _))
  | ((with_reducible show uIsi _ [_, V.ref (He.ga _ _)] _ _); (first | (refine w_isC_t (by assumption) (by walk_at "lk") ?_) | (refine w_isC_f (by assumption) (by walk_at "kd") ?_)))
  | (walk_at "hc"))
local macro_rules | `(tactic| walk_at "hs") => `(tactic| repeat' (walk_at "hs1"))

local macro_rules | `(tactic| walk_at "rg") => `(tactic| repeat' (first | exact rg_nil | (refine rg_cons (by omega) (by omega) ?_)))
local macro_rules | `(tactic| walk_at "sm") => `(tactic| first | exact Same.refl _ | assumption | ((with_reducible show Same _ (upd _ _ _)); (refine Same.trans ?_ (sm_new (by assumption))); walk_at "sm") | ((refine Same.trans ?_ (by assumption)); walk_at "sm"))
local macro_rules | `(tactic| walk_at "bx") => `(tactic| first | assumption | ((with_reducible show BoxAt (upd _ _ _) _ _); (exact BoxAt.new (by assumption) (by walk_at "bx"))) | (exact BoxAt.same (by assumption) (by walk_at "bx")))
local macro_rules | `(tactic| walk_at "ks") => `(tactic| first | exact Ks.refl _ | assumption | ((with_reducible show Ks _ (upd _ _ _)); (refine Ks.trans ?_ (Ks.of (sm_new (by assumption))); walk_at "ks")) | (refine Ks.trans ?_ (by assumption); walk_at "ks") | (refine Ks.trans ?_ (Ks.of (by assumption)); walk_at "ks"))
local macro_rules | `(tactic| walk_at "ob") => `(tactic| first | assumption | exact .sc rfl | (exact Ob.same (by assumption) (by walk_at "ob")) | (exact Ob.ks (by assumption) (by walk_at "ob")))
local macro_rules | `(tactic| walk_at "nd") => `(tactic| first | assumption | (exact Nd.same (by assumption) (by walk_at "nd")) | (exact Nd.ks (by assumption) (by walk_at "nd")))
local macro_rules | `(tactic| walk_at "df") => `(tactic| first | assumption | exact df_sc rfl | (exact df_vr (by assumption) (by walk_at "lk")) | (exact df_rv (by assumption) (by walk_at "ob")) | (exact df_vv (by assumption) (by walk_at "ob")) | (exact Df.symm (df_vv (by assumption) (by walk_at "ob"))))
local macro_rules | `(tactic| walk_at "hc") => `(tactic| (with_reducible show sp_is_whole _ _ _ _ _); (refine u_is_whole (by walk_at "kd") ?_))
local macro_rules | `(tactic| walk_at "hc") => `(tactic| (with_reducible show sp_is_between _ _ _ _ _); (refine u_is_between (by walk_at "kd") ?_))
local macro_rules | `(tactic| walk_at "hc") => `(tactic| (with_reducible show sp_is_list _ _ _ _ _); (refine u_is_list (by walk_at "sl") ?_); intro _ _)
local macro_rules | `(tactic| walk_at "hc") => `(tactic| (with_reducible show sp_is_time _ _ _ _ _); (refine u_is_time (by walk_at "kd") ?_))
local macro_rules | `(tactic| walk_at "hc") => `(tactic| (with_reducible show sp_is_offset _ _ _ _ _); (refine u_is_offset (by walk_at "kd") ?_))
local macro_rules | `(tactic| walk_at "hc") => `(tactic| (with_reducible show sp__law_take _ _ _ _ _); (refine u__law_take (by walk_at "bx") (by omega) (by omega) (by omega) ?_); intro _ _ _ _ _ _)
local macro_rules | `(tactic| walk_at "hc") => `(tactic| ((with_reducible show rIx _ (V.ref _) (V.int _) _ _); (refine w_ixl (by assumption) (by assumption) ?_)))
variable {K : PySem.W.Frag}
theorem dp_enc {H : Hp} {xs : List V} : ∀ {cs : List (Int × Int)}, RnT H xs (cs.map encC) → DpAll K H xs (cs.map fun p => .tuple [.int p.1, .int p.2]) := by
  intro cs h
  induction cs generalizing xs with
  | nil => cases h; exact .nil
  | cons p cs ih =>
    cases h with
    | cons h r => exact .cons (.tup (t_of h) (.cons (.int _) (.cons (.int _) .nil))) (ih r)
theorem shp_enc (cs : List (Int × Int)) : SeqAt.shaped (.list (cs.map fun p => .tuple [.int p.1, .int p.2])) = true := by
  have h1 : ∀ cs : List (Int × Int), PyData.canLayAll0 (cs.map fun p => .tuple [.int p.1, .int p.2]) = true := by
    intro ns
    induction ns with
    | nil => rfl
    | cons i ns ih => simp [PyData.canLayAll0, PyData.canLay0, ih]
  have h2 : ∀ cs : List (Int × Int), PyData.depthAll (cs.map fun p => .tuple [.int p.1, .int p.2]) ≤ 2 := by
    intro ns
    induction ns with
    | nil => simp [PyData.depthAll]
    | cons i ns ih => simp [PyData.depthAll, PyData.depth]; omega
  show (PyData.canLay0 (.list (cs.map fun p => .tuple [.int p.1, .int p.2])) && decide (PyData.depth (.list (cs.map fun p => .tuple [.int p.1, .int p.2])) ≤ 64)) = true
  rw [Bool.and_eq_true]
  have := h2 cs
  exact ⟨by simp only [PyData.canLay0]; exact h1 cs, decide_eq_true (by simp only [PyData.depth]; omega)⟩
theorem w_ne_nilR {H : Hp} {Q : VK} {a b : Addr} {xs : List V} {cs : List (Int × Int)} (h : H a = some (.lst xs)) (hr : RnT H xs (cs.map encC)) (hb : SqL K H b []) (q : Q (.bl (!cs.isEmpty)) H) : uNe K (.ref a) (.ref b) H Q :=
  w_ne_d (.lst (l_of h) (dp_enc hr)) (.lst hb .nil) (shp_enc cs) rfl (by cases cs <;> exact q)
/-- the law's last moment -/
theorem w_last {σ : L2.St} {H : Hp} {Q : VK} {a : Addr} {o t : Int} {cs : List (Int × Int)} (g0 : σ[0]? = some (some (.ref a))) (g1 : σ[1]? = some (some (.int t))) (hown : OwnAt K H a o cs) (ok : ClkOk o cs) (q : ∀ L H', Same H H' → t + 1440 < L → lastS 0 cs ≤ L → Q (.int L) H') :
    (tOp (uAdd K) (tOp (uAdd K) (tCB uMax (tCons (tVar 1) (tCons (tC (.int 0)) tNil))) (tC (.int 2000))) (tIf (tTest (tOp (uNe K) (tOp (uIx K) (tVar 0) (tC (.int 1))) (tLst tNil))) (tOp (uIx K) (tOp (uIx K) (tOp (uIx K) (tVar 0) (tC (.int 1))) (tUn uNeg (tC (.int 1)))) (tC (.int 0))) (tC (.int 0)))) σ H Q := by
  have l0 := Asc.le ok.asc
  obtain ⟨ca, ha, xs, hc, hr⟩ := hown
  have hl : xs.length = cs.length := by simpa using hr.len
  walk_at "hs"
  refine w_var (n := 1) g1 ?_
  walk_at "hs"
  rename_i r r1 r2 r3
  refine w_var (n := 0) g0 ?_
  walk_at "hs"
  rename_i N H1 nN sN hN
  refine w_ne_nilR (sN _ _ hc) (hr.same sN) (l_of hN) ?_
  cases ce : cs.isEmpty
  · have hne : cs ≠ [] := fun z => by rw [z] at ce; cases ce
    obtain ⟨p, hp, hp2⟩ := lastS_get (cs := cs) 0 hne
    obtain ⟨tt, ht1, ht2⟩ := RnT.get2 (hr.same sN) (i := cs.length - 1) (l := encC p) (by rw [List.getElem?_map, hp]; rfl)
    have ha1 : atI xs (-1) = some (.ref tt) := atI_m1 ht1 (by have := List.length_pos_iff.mpr hne; omega)
    have hT : SqT K H1 tt [.int p.1, .int p.2] := t_of ht2
    have hcs : SqL K H1 ca xs := l_of (sN _ _ hc)
    walk_at "hs"
    refine w_var (n := 0) g0 ?_
    walk_at "hs"
    exact q _ _ sN (by omega) (by omega)
  · have hem : cs = [] := List.isEmpty_iff.mp ce
    subst hem
    walk_at "hs"
    refine q _ _ sN ?_ ?_
    · omega
    · show (0 : Int) ≤ _
      omega
theorem lrs_len (o : Int) (cs : List (Int × Int)) (L : Int) : (lrs 0 o cs L).length ≤ cs.length + 1 := by
  rw [← lrsN_all]
  exact lrsN_len _ _ _ _ _
theorem p__law_moments (vs : List V) (H : Hp) (Q : VK) (E : XK) (h : sp__law_moments K vs H Q E) : t__law_moments K E (D0 Q) (start N__law_moments vs) H := by
  obtain ⟨a, o, cs, t, rfl, hown, ok, q⟩ := h
  refine w_seq (w_asg (w_kn (w_cons (w_var (n := 0) rfl (w_cons (w_last rfl rfl hown ok fun L H1 e1 hL1 hL2 => ?_))))))
  walk_at "hs"
  refine u__law_ranges (hown.same e1) ok ?_
  intro R ys H2 e2 hR rn
  have hl : ys.length = (lrs 0 o cs L).length := by simpa using rn.len
  have rl : (lrs 0 o cs L).length ≤ 9 := by have := lrs_len o cs L; have := ok.len; omega
  walk_at "hs"
  refine w_sqL ?_
  walk_at "hs"
  intro D hD
  refine lc_list (xs := ys) (LcP H2 D fun i => ((((lrs 0 o cs L).take i).filter (inL t)).map fun p => t - p.2.2).map V.int) (LcP.zero hD rfl) (fun i H' _ P => P.1.seq (l_of hR)) ?_ ?_
  · intro i x H' hx P
    obtain ⟨p, hp, ⟨tt, rfl, hT⟩⟩ := RnT.map_get (K := K) (rn.same P.1).rw hx
    have fl : (((((lrs 0 o cs L).take i).filter (inL t)).map fun p => t - p.2.2).map V.int).length < 1000000 := by
      rw [List.length_map, List.length_map]
      have := filter_len (g := inL t) (i := i) rl
      omega
    have hy : ((((lrs 0 o cs L).take (i + 1)).filter (inL t)).map fun p => t - p.2.2).map V.int = ((((lrs 0 o cs L).take i).filter (inL t)).map fun p => t - p.2.2).map V.int ++ (if inL t p = true then [t - p.2.2] else []).map V.int := by
      rw [filter_map_succ hp, List.map_append]
    obtain ⟨f, e, y⟩ := p
    have hT : SqT K H' tt [.int f, .int e, .int y] := hT
    walk_at "hs"
    refine w_b2 (fun c1 => ?_) (fun c1 => ?_)
    · walk_at "hs"
      refine w_b2 (fun c2 => ?_) (fun c2 => ?_)
      · have hi : inL t (f, e, y) = true := by unfold inL; simp at c1 c2 ⊢; omega
        walk_at "hs"
        refine LcP.one P (Same.refl _) hD fl ?_
        rw [hy, if_pos hi]; rfl
      · have hi : inL t (f, e, y) = false := by unfold inL; simp at c1 c2 ⊢; omega
        walk_at "hs"
        refine LcP.no P (Same.refl _) ?_
        rw [hy, if_neg (by rw [hi]; exact Bool.false_ne_true)]; simp
    · have hi : inL t (f, e, y) = false := by unfold inL; simp at c1 ⊢; omega
      walk_at "hs"
      refine LcP.no P (Same.refl _) ?_
      rw [hy, if_neg (by rw [hi]; exact Bool.false_ne_true)]; simp
  · intro H9 P
    have h9 : H9 D = some (.lst (((((lrs 0 o cs L).take ys.length).filter (inL t)).map fun p => t - p.2.2).map V.int)) := P.2
    rw [List.take_of_length_le (by omega)] at h9
    have h9 : H9 D = some (.lst ((momQ (lrs 0 o cs L) t).map V.int)) := h9
    rw [momQ_eq t L (by omega) cs 0 o ok.asc ok.o0 ok.o1 ok.offs hL2] at h9
    exact q _ _ (Same.trans e1 (Same.trans e2 P.1)) h9 (fr_of (Same.trans e1 e2) hD)
theorem u__law_moments {H : Hp} {Q : VK} {E : XK} {a : Addr} {o t : Int} {cs : List (Int × Int)} (h : OwnAt K H a o cs) (ok : ClkOk o cs) (q : NewI H Q (momL 0 o cs t)) : sp__law_moments K [.ref a, .int t] H Q E := ⟨a, o, cs, t, rfl, h, ok, q⟩
theorem momL_at_o {o : Int} {cs : List (Int × Int)} (ok : ClkOk o cs) : momL 0 o cs o ≠ [] := fun z => by
  have h := (mem_momL o (m := 0) (x := o) ok.asc).mpr ⟨Int.le_refl _, by rw [offAt_before ok.asc (Int.le_refl _)]; omega⟩
  rw [z] at h
  cases h
theorem p__law_due_moments (vs : List V) (H : Hp) (Q : VK) (E : XK) (h : sp__law_due_moments K vs H Q E) : t__law_due_moments K E (D0 Q) (start N__law_due_moments vs) H := by
  obtain ⟨a, o, cs, t, g, f, rfl, hown, ok, g1, f1, q⟩ := h
  have hown0 := hown
  obtain ⟨ca, ha, xs, hc, hr⟩ := hown0
  walk_at "hs"
  refine u__law_moments hown ok ?_
  intro p H1 e1 h1 fp
  walk_at "hs"
  rename_i N H2 nN sN hN
  refine w_ne_nil (l_of (sN _ _ h1)) (l_of hN) ?_
  cases ce : (momL 0 o cs t).isEmpty
  · have hne : momL 0 o cs t ≠ [] := fun z => by rw [z] at ce; cases ce
    walk_at "hs"
    refine w_b2 (fun d1 => ?_) (fun d1 => ?_)
    · have d1 : f = "both" := by simpa using d1
      walk_at "hs"
      refine q _ _ (Same.trans e1 sN) ?_ fp
      rw [dueM_b hne (by rw [d1]; decide) (by rw [d1]; decide)]
      exact sN _ _ h1
    · have d1 : ¬ f = "both" := by simpa using d1
      walk_at "hs"
      refine w_b2 (fun d2 => ?_) (fun d2 => ?_)
      · have d2 : f = "first" := by simpa using d2
        rw [dueM_f hne d2] at q
        cases em : momL 0 o cs t with
        | nil => exact absurd em hne
        | cons m r =>
          rw [em] at h1 q
          have l1 : SqL K H2 p ((m :: r).map V.int) := l_of (sN _ _ h1)
          have l2 : atI ((m :: r).map V.int) 0 = some (.int m) := atI_nat (j := 0) rfl
          walk_at "hs"
          rename_i p3 H3 n3 s3 h3
          exact q _ _ (Same.trans e1 (Same.trans sN s3)) h3 (fr_of (Same.trans e1 sN) n3)
      · have d2 : ¬ f = "first" := by simpa using d2
        have d3 : f = "last" := by
          unfold foldOk at f1
          simp only [Bool.or_eq_true, beq_iff_eq] at f1
          rcases f1 with (z | z) | z
          · exact absurd z d2
          · exact z
          · exact absurd z d1
        rw [dueM_l hne d2 d3] at q
        rcases List.eq_nil_or_concat (momL 0 o cs t) with em | ⟨r, m, em⟩
        · exact absurd em hne
        · have em : momL 0 o cs t = r ++ [m] := by simpa using em
          rw [em] at h1 q
          have l1 : SqL K H2 p ((r ++ [m]).map V.int) := l_of (sN _ _ h1)
          have l2 : atI ((r ++ [m]).map V.int) (-1) = some (.int m) := by rw [List.map_append]; exact atI_last _ _
          walk_at "hs"
          rename_i p3 H3 n3 s3 h3
          refine q _ _ (Same.trans e1 (Same.trans sN s3)) ?_ (fr_of (Same.trans e1 sN) n3)
          rw [h3]
          simp
  · have hem : momL 0 o cs t = [] := List.isEmpty_iff.mp ce
    have hto : t ≠ o := fun z => by subst z; exact momL_at_o ok hem
    walk_at "hs"
    refine w_b2 (fun d1 => ?_) (fun d1 => ?_)
    · have d1 : g = "skip" := by simpa using d1
      walk_at "hs"
      rename_i p3 H3 n3 s3 h3
      refine q _ _ (Same.trans e1 (Same.trans sN s3)) ?_ (fr_of (Same.trans e1 sN) n3)
      rw [dueM_e2 hem (fun z => by rw [d1] at z; exact absurd z.1 (by decide))]
      exact h3
    · have d1 : ¬ g = "skip" := by simpa using d1
      have d3 : g = "after" := by
        unfold gapOk at g1
        simp only [Bool.or_eq_true, beq_iff_eq] at g1
        rcases g1 with z | z
        · exact absurd z d1
        · exact z
      walk_at "hs"
      refine w_b2 (fun d2 => ?_) (fun d2 => ?_)
      · have d2 : t < o := by simpa using d2
        walk_at "hs"
        rename_i p3 H3 n3 s3 h3
        refine q _ _ (Same.trans e1 (Same.trans sN s3)) ?_ (fr_of (Same.trans e1 sN) n3)
        rw [dueM_e2 hem (fun z => by omega)]
        exact h3
      · have d2 : ¬ t < o := by simpa using d2
        rw [dueM_e1 hem d3 (by omega)] at q
        refine w_next ?_
        refine w_seq (w_asg (w_kn (w_cons (w_var (n := 0) rfl (w_cons (w_last rfl rfl (hown.same (Same.trans e1 sN)) ok fun L H3 e3 hL1 hL2 => ?_))))))
        walk_at "hs"
        refine u__law_ranges ((hown.same (Same.trans e1 sN)).same e3) ok ?_
        intro R ys H4 e4 hR rn
        have hl : ys.length = (lrs 0 o cs L).length := by simpa using rn.len
        have rl : (lrs 0 o cs L).length ≤ 9 := by have := lrs_len o cs L; have := ok.len; omega
        obtain ⟨m1, m2⟩ := laterQ_min t L (by omega) cs 0 o ok.asc ok.o0 ok.o1 ok.offs hL2 hem
        walk_at "hs"
        refine w_sqL ?_
        walk_at "hs"
        intro D hD
        refine lc_list (xs := ys) (LcP H4 D fun i => ((((lrs 0 o cs L).take i).filter fun p => decide (t < p.2.1 + p.2.2)).map fun p => max p.1 (t + 1 - p.2.2)).map V.int) (LcP.zero hD rfl) (fun i H' _ P => P.1.seq (l_of hR)) ?_ ?_
        · intro i x H' hx P
          obtain ⟨p, hp, ⟨tt, rfl, hT⟩⟩ := RnT.map_get (K := K) (rn.same P.1).rw hx
          have fl : (((((lrs 0 o cs L).take i).filter fun p => decide (t < p.2.1 + p.2.2)).map fun p => max p.1 (t + 1 - p.2.2)).map V.int).length < 1000000 := by
            rw [List.length_map, List.length_map]
            have := filter_len (g := fun p : Int × Int × Int => decide (t < p.2.1 + p.2.2)) (i := i) rl
            omega
          have hy : ((((lrs 0 o cs L).take (i + 1)).filter fun p => decide (t < p.2.1 + p.2.2)).map fun p => max p.1 (t + 1 - p.2.2)).map V.int = ((((lrs 0 o cs L).take i).filter fun p => decide (t < p.2.1 + p.2.2)).map fun p => max p.1 (t + 1 - p.2.2)).map V.int ++ (if decide (t < p.2.1 + p.2.2) = true then [max p.1 (t + 1 - p.2.2)] else []).map V.int := by
            rw [filter_map_succ hp, List.map_append]
          obtain ⟨f', e', y⟩ := p
          have hT : SqT K H' tt [.int f', .int e', .int y] := hT
          walk_at "hs"
          refine w_b2 (fun c1 => ?_) (fun c1 => ?_)
          · have hi : decide (t < (f', e', y).2.1 + (f', e', y).2.2) = true := c1
            walk_at "hs"
            rename_i r r1 r2 r3
            refine LcP.one P (Same.refl _) hD fl ?_
            rw [hy, if_pos hi]
            have : r = max f' (t + 1 - y) := by omega
            rw [this]
            rfl
          · have hi : decide (t < (f', e', y).2.1 + (f', e', y).2.2) = false := c1
            walk_at "hs"
            refine LcP.no P (Same.refl _) ?_
            rw [hy, if_neg (by rw [hi]; exact Bool.false_ne_true)]; simp
        · intro H9 P
          have h9 : H9 D = some (.lst (((((lrs 0 o cs L).take ys.length).filter fun p => decide (t < p.2.1 + p.2.2)).map fun p => max p.1 (t + 1 - p.2.2)).map V.int)) := P.2
          rw [List.take_of_length_le (by omega)] at h9
          have h9 : H9 D = some (.lst ((laterQ (lrs 0 o cs L) t).map V.int)) := h9
          have e9 := P.1
          clear P
          walk_at "hs"
          refine ⟨D, _, rfl, l_of h9, List.length_pos_of_mem m1, fun m hm hle => ?_⟩
          have ej : m = jumpU 0 o cs t := by
            have := m2 m hm
            have := hle _ m1
            omega
          subst ej
          walk_at "hs"
          rename_i p5 H5 n5 s5 h5
          exact q _ _ (Same.trans e1 (Same.trans sN (Same.trans e3 (Same.trans e4 (Same.trans e9 s5))))) h5 (fr_of (Same.trans e1 (Same.trans sN (Same.trans e3 (Same.trans e4 e9)))) n5)
theorem u__law_due_moments {H : Hp} {Q : VK} {E : XK} {a : Addr} {o t : Int} {g f : Str} {cs : List (Int × Int)} (h : OwnAt K H a o cs) (ok : ClkOk o cs) (g1 : gapOk (.str g) = true) (f1 : foldOk (.str f) = true) (q : NewI H Q (dueM o cs t g f)) : sp__law_due_moments K [.ref a, .int t, .str g, .str f] H Q E := ⟨a, o, cs, t, g, f, rfl, h, ok, g1, f1, q⟩
end My
set_option linter.all false
set_option maxRecDepth 100000
set_option maxHeartbeats 4000000
namespace My
open PySem PySem.Spec PyProof.Rows L2 Kx
local macro_rules | `(tactic| walk_at "lk") => `(tactic| first | assumption | ((with_reducible show upd _ _ _ _ = _); (first | exact upd_same | (exact up_new (by assumption) (by walk_at "lk")) | (exact up_other (by assumption) (by walk_at "lk")))) | (exact (by assumption : Same _ _) _ _ (by walk_at "lk")) | (exact ks_get (by assumption) (by walk_at "lk") (by first | rfl | assumption | exact notBox_len rfl)))
local macro_rules | `(tactic| walk_at "sl") => `(tactic| first | assumption | (exact l_of (by walk_at "lk")) | (exact Same.seq (by assumption) (by walk_at "sl")) | ((with_reducible show SqL _ (upd _ _ _) _ _); (exact Same.seq (sm_new (by assumption)) (by walk_at "sl"))))
local macro_rules | `(tactic| walk_at "st") => `(tactic| first | assumption | (exact t_of (by walk_at "lk")) | (exact Kx.Same.tup (by assumption) (by walk_at "st")) | ((with_reducible show SqT _ (upd _ _ _) _ _); (exact Kx.Same.tup (sm_new (by assumption)) (by walk_at "st"))) | (exact ks_tup (by assumption) (by walk_at "st")))
local macro_rules | `(tactic| walk_at "kd") => `(tactic| first | assumption | exact .non | exact .bl _ | exact .int _ | exact .str _ | (exact .lst (by walk_at "sl")) | (exact .tup (by walk_at "st")) | (exact .dic (by walk_at "lk")) | (exact Kd.same (by assumption) (by walk_at "kd")) | ((with_reducible show Kd _ (upd _ _ _) _ _); (exact Kd.same (sm_new (by assumption)) (by walk_at "kd"))))
local macro_rules | `(tactic| walk_at "tt") => `(tactic| first | rfl | assumption | decide +kernel | (simp only [decide_eq_true_eq, Bool.not_eq_true', decide_eq_false_iff_not, Bool.and_eq_true, Bool.or_eq_true]; omega))
local macro_rules | `(tactic| walk_at "ff") => `(tactic| first | rfl | assumption | decide +kernel | (simp only [decide_eq_true_eq, Bool.not_eq_false', decide_eq_false_iff_not, Bool.and_eq_false_imp, Bool.or_eq_false_iff]; omega))
local macro_rules | `(tactic| walk_at "hc") => `(tactic| fail)
local macro_rules | `(tactic| walk_at "hif") => `(tactic| ((with_reducible refine w_b2 ?_ ?_) <;> intro))
local macro_rules | `(tactic| walk_at "hs1") => `(tactic| first
  | (with_reducible refine w_seq ?_)
  | (with_reducible refine w_asg ?_)
  | ((with_reducible refine' w_var ?k1 ?_); (case k1 => exact rfl))
  | (with_reducible refine w_c ?_)
  | (with_reducible refine w_op ?_)
  | (with_reducible refine w_cons ?_)
  | (with_reducible refine w_nil ?_)
  | (with_reducible refine w_name ?_)
  | (with_reducible refine w_kn ?_)
  | (with_reducible refine w_kx ?_)
  | (with_reducible refine w_kk ?_)
  | (with_reducible refine w_cb ?_)
  | (with_reducible refine w_if ?_)
  | (with_reducible refine w_test ?_)
  | (with_reducible refine w_exb ?_)
  | (with_reducible refine iteT ?_)
  | (with_reducible refine iteF ?_)
  | ((with_reducible refine w_bt ?_ ?_); (first | rfl | decide +kernel))
  | ((with_reducible refine w_bf ?_ ?_); (first | rfl | decide +kernel))
  | ((with_reducible refine w_bt ?_ ?_); (walk_at "tt"))
  | ((with_reducible refine w_bf ?_ ?_); (walk_at "ff"))
  | (with_reducible refine w_ret ?_)
  | (with_reducible refine w_retN ?_)
  | (with_reducible refine w_drop ?_)
  | (with_reducible refine w_next ?_)
  | (with_reducible refine w_brk ?_)
  | (with_reducible refine w_cont ?_)
  | (with_reducible refine w_and ?_)
  | (with_reducible refine w_or ?_)
  | (with_reducible refine w_not ?_)
  | (with_reducible refine w_tr ?_)
  | (with_reducible refine w_yes ?_)
  | (with_reducible refine w_tru_bl ?_)
  | (with_reducible refine w_tru_int ?_)
  | (with_reducible refine w_tru_non ?_)
  | (with_reducible refine w_andV ?_)
  | (with_reducible refine w_orV ?_)
  | (with_reducible refine w_notV ?_)
  | (with_reducible refine w_ifx ?_)
  | (with_reducible refine w_chain ?_)
  | (with_reducible refine w_un ?_)
  | (with_reducible refine n_tup ?_)
  | (with_reducible refine n_lst ?_)
  | ((with_reducible show kTup _ _ _); (refine n_ktup rfl ?_); intro _ _ _ _ _)
  | ((with_reducible show kLst _ _ _); (refine n_klst rfl ?_); intro _ _ _ _ _)
  | (with_reducible refine w_par ?_)
  | (with_reducible refine w_par2 ?_)
  | (with_reducible refine w_par3 ?_)
  | (with_reducible refine w_par33 ?_)
  | ((with_reducible refine' w_aug ?k1 ?_); (case k1 => exact rfl))
  | (with_reducible refine w_raise ?_)
  | (with_reducible refine w_mkdue ?_)
  | (with_reducible refine w_one ?_)
  | ((with_reducible show gSq _ _ _ (V.ref _) _ _ _); (first | (refine n_gsq (by walk_at "lk") (by exact rfl) (by exact rfl) ?_) | (refine w_gtup (by walk_at "st") (by exact rfl) ?_) | (refine w_glst (by walk_at "sl") (by exact rfl) ?_)))
  | (with_reducible refine w_gcons ?_)
  | (with_reducible refine w_gnil ?_)
  | (with_reducible refine w_bm ?_)
  | ((with_reducible show tyV _ "list" (V.ref _) _ ∧ _); (refine w_tyl (by walk_at "sl") ?_))
  | (with_reducible refine w_for ?_)
  | (with_reducible refine w_rng1 ?_)
  | (with_reducible refine w_rng2 ?_)
  | (with_reducible refine w_add_ii ?_)
  | (with_reducible refine w_sub_ii ?_)
  | ((with_reducible refine w_fdv_ii ?_ ?_ ?_); (first | decide | omega); (first | decide | omega))
  | ((with_reducible refine w_mul_b ?_ ?_ ?_); (refine ⟨?_, ?_⟩ <;> omega); (refine ⟨?_, ?_⟩ <;> omega))
  | ((with_reducible refine w_mod_ii ?_ ?_); (first | decide | omega))
  | (with_reducible refine w_neg_i ?_)
  | (with_reducible refine w_lt_ii ?_)
  | (with_reducible refine w_le_ii ?_)
  | (with_reducible refine w_gt_ii ?_)
  | (with_reducible refine w_ge_ii ?_)
  | (with_reducible refine w_eq_ii ?_)
  | (with_reducible refine w_ne_ii ?_)
  | (with_reducible refine n_eq_same ?_)
  | (with_reducible refine n_ne_same ?_)
  | (with_reducible refine w_eq_ss ?_)
  | (with_reducible refine w_ne_ss ?_)
  | (with_reducible refine w_eq_bb ?_)
  | (with_reducible refine w_ne_bb ?_)
  | (with_reducible refine w_is_n ?_)
  | (with_reducible refine w_isn_n ?_)
  | (with_reducible refine w_is_bb ?_)
  | (with_reducible refine w_isn_bb ?_)
  | ((with_reducible show rIx _ (V.ref _) (V.int _) _ _); (first | (refine n_ix (by decide) (by walk_at "lk") (by exact rfl) ?_) | (refine n_ixl (by decide) (by walk_at "sl") (by exact rfl) ?_) | (refine n_ixt (by decide) (by walk_at "st") (by exact rfl) ?_)))
  | (with_reducible refine w_ipadd ?_)
  | (with_reducible refine w_ipsub ?_)
  | (with_reducible refine w_int_i ?_)
  | (with_reducible refine w_int_b ?_)
  | (with_reducible refine w_abs ?_)
  | ((with_reducible refine w_max2r ?_); intro _ _ _ _)
  | ((with_reducible refine w_min2r ?_); intro _ _ _ _)
  | ((with_reducible show uLen _ [V.ref _] _ _); (first | (refine n_len (by walk_at "lk") (by exact rfl) ?_) | (refine w_len_l (by walk_at "sl") ?_) | (refine w_len_t (by walk_at "st") ?_) | (refine w_len_d (by walk_at "lk") ?_)))
  | ((with_reducible show uIsi _ [_, V.ty _] _ _); (refine w_isk (by walk_at "kd") (by decide) ?_))
  | ((with_reducible show uIsi _ [_, V.ref (He.ga _ _)] _ _); (first | (refine w_isC_t (by assumption) (by walk_at "lk") ?_) | (refine w_isC_f (by assumption) (by walk_at "kd") ?_)))
  | ((with_reducible show uIsi _ [_, V.ref _] _ _); (refine w_isk2 (by walk_at "lk") (by walk_at "kd") (by decide) (by decide) ?_))
  | (with_reducible refine w_wN ?_)
  | (with_reducible refine w_lc ?_)
  | ((with_reducible refine' w_rng2e ?k1 ?_); (case k1 => (refine ⟨?_, ?_, ?_, ?_⟩ <;> omega)))
  | ((with_reducible refine' w_rng1e ?k1 ?k2 ?_); (case k1 => omega); (case k2 => omega))
  | ((with_reducible show ∃ a', V.ref _ = .ref a' ∧ (∃ xs, SqL _ _ a' xs) ∧ _); (refine w_sqLe (by walk_at "sl") ?_))
  | ((with_reducible show ∃ a', V.ref _ = .ref a' ∧ (∃ xs, SqT _ _ a' xs) ∧ _); (refine w_sqTe (by walk_at "st") ?_))
  | (with_reducible refine w_slc ?_)
  | (with_reducible refine w_nop ?_)
  | (with_reducible refine w_part ?_)
  | (with_reducible refine w_exi ?_)
  | ((with_reducible show uSl _ (V.ref _) _ _ _ _); (refine n_slL (by walk_at "sl") ?_); intro _ _ _ _ _)
  | (with_reducible refine w_gsub ?_)
  | ((with_reducible show rSetL (V.ref _) (V.int _) _ _ _); (refine w_setl (by walk_at "lk") (by exact rfl) ?_))
  | (with_reducible refine w_pow_9 ?_)
  | (with_reducible refine w_pow_12 ?_)
  | (with_reducible refine w_pow_13 ?_)
  | (with_reducible refine w_pow_18 ?_)
  | (with_reducible refine w_pow_29 ?_)
  | ((with_reducible refine n_disp1 ?_); intro _ _ _ _ _)
  | (with_reducible refine w_dput ?_)
  | ((with_reducible show rAppend (V.ref _) [_] _ _); (refine w_append (by walk_at "lk") (by first | omega | (exact Nat.lt_of_le_of_lt (wN_le rfl) (by decide))) ?_))
  | ((with_reducible show ∃ a' H4, V.ref _ = .ref a' ∧ DPut _ a' (V.str _) _ H4 ∧ _); (refine w_dputS (by walk_at "lk") (by first | omega | exact wN_le rfl) ?_))
  | (with_reducible refine w_try ?_)
  | ((with_reducible show wManyA _ _ _ _ (.ref (He.ga _ _)) _ _ _); (first | ((refine w_hit (ExT.ex (by assumption) _ (by decide) _ (by decide)) ?_); intro _ _) | (refine w_miss (ExT.ex (by assumption) _ (by decide) _ (by decide)) ?_)))
  | (with_reducible refine w_xg ?_)
  | ((with_reducible show V.ref _ = .ref _ ∧ ∃ _ _ _ _, Value.ref (He.ga _ _) = _ ∧ _); (refine w_xge (ExT.xf (by assumption) _ (by decide)) (ExT.fg (by assumption) _ (by decide)) (by walk_at "lk") ?_))
  | ((with_reducible show rIsX _ (.ref (He.ga _ _)) _ _ _ _ _); (refine w_isx (ExT.xx (by assumption) _ (by decide)) (ExT.kd (by assumption) _ (by decide)) (by walk_at "lk") ?_))
  | ((with_reducible show uAdd _ (V.ref _) (V.ref _) _ _); (refine n_add_ll (by walk_at "lk") (by walk_at "lk") rfl ?_); intro _ _ _ _ _)
  | ((with_reducible show iSeq _ (tLst _) _ _ _); (refine w_sqL ?_))
  | ((with_reducible show iSeq _ (tTup _) _ _ _); (refine w_sqT ?_))
  | (refine ⟨(rfl : wipe _ _ = wipe _ _), ?_⟩)
  | (with_reducible refine w_tryB ?_)
  | ((with_reducible show L2.wManyB _ _ _ _ (.ref (He.ga _ _)) _ _ _); (first | ((refine w_hitB (by assumption) (by decide) (by decide) (by decide) ?_); intro _ _) | (refine w_missB (by assumption) (by decide) (by decide) (by decide) ?_)))
  | ((with_reducible show uIx _ (V.ref _) (V.int _) _ _); (refine w_ixX ?_))
  | ((with_reducible show uIx _ (V.ref _) (V.ref _) _ _); (refine w_ixT (by walk_at "lk") (by walk_at "lk") (by exact rfl) ?_))
  | ((with_reducible show uIx _ (V.ref _) (V.str _) _ _); (refine w_ixK (by walk_at "lk") (.inr _) (by exact rfl) ?_))
  | ((with_reducible show uInX _ _ (V.ref _) _ _); (refine w_inX (w_in_f (by first | exact .inl (by walk_at "sl") | exact .inr (by walk_at "st")) rfl rfl ?_)))
  | ((with_reducible show uNinX _ _ (V.ref _) _ _); (refine w_ninX (w_nin_f (by first | exact .inl (by walk_at "sl") | exact .inr (by walk_at "st")) rfl rfl ?_)))
  | ((with_reducible show rSetX (V.ref _) (V.int _) _ _ _); (refine w_setX ?_))
  | (with_reducible refine w_km ?_)
  | (with_reducible refine w_kmk ?_)
  | ((with_reducible show ∃ _ _ _, V.ref _ = V.ref _ ∧ _ = some (HO.ins _ _ _) ∧ List.lookup _ _ = none ∧ _); (refine w_kme (by walk_at "lk") (by exact rfl) ?_))
  | (with_reducible refine w_kc ?_)
  | (with_reducible refine w_kck ?_)
  | ((with_reducible show kMade _ _ _ _ _ _); (refine w_kmade ?_); intro _ _ _ _ _ _ _ _ _)
  | (with_reducible refine w_fld ?_)
  | ((with_reducible show ∃ _ _ _ _ _, V.ref _ = V.ref _ ∧ _ = some (HO.ins _ _ _) ∧ Cls _ _ ∧ NoAttr _ _ _ ∧ _ ∧ _); (refine' w_flde ?k1 ?k2 ?k3 ?k4 ?_; (case k3 => walk_at "lk"); (case k1 => exact CF.cls (by assumption)); (case k2 => exact CF.na (by assumption) _ (by decide)); (case k4 => exact rfl)))
  | (with_reducible refine w_sfld ?_)
  | ((with_reducible show ∃ _ _ _ _, V.ref _ = V.ref _ ∧ _ = some (HO.ins _ _ _) ∧ Cls _ _ ∧ NoAttr _ _ _ ∧ _ ∧ _); (refine' w_sflde ?k1 ?k2 ?k3 ?k4 ?_; (case k3 => walk_at "lk"); (case k1 => exact CF.cls (by assumption)); (case k2 => exact CF.na (by assumption) _ (by decide)); (case k4 => exact rfl); intro _ _ _))
  | ((with_reducible show uIsi _ [_, V.ref (He.ga _ _)] _ _); (first | (refine w_isC_t (by assumption) (by walk_at "lk") ?_) | (refine w_isC_f (by assumption) (by walk_at "kd") ?_)))
  | (walk_at "hc"))
local macro_rules | `(tactic| walk_at "hs") => `(tactic| repeat' (walk_at "hs1"))

local macro_rules | `(tactic| walk_at "rg") => `(tactic| repeat' (first | exact rg_nil | (refine rg_cons (by omega) (by omega) ?_)))
local macro_rules | `(tactic| walk_at "sm") => `(tactic| first | exact Same.refl _ | assumption | ((with_reducible show Same _ (upd _ _ _)); (refine Same.trans ?_ (sm_new (by assumption))); walk_at "sm") | ((refine Same.trans ?_ (by assumption)); walk_at "sm"))
local macro_rules | `(tactic| walk_at "bx") => `(tactic| first | assumption | ((with_reducible show BoxAt (upd _ _ _) _ _); (exact BoxAt.new (by assumption) (by walk_at "bx"))) | (exact BoxAt.same (by assumption) (by walk_at "bx")))
local macro_rules | `(tactic| walk_at "ks") => `(tactic| first | exact Ks.refl _ | assumption | ((with_reducible show Ks _ (upd _ _ _)); (refine Ks.trans ?_ (Ks.of (sm_new (by assumption))); walk_at "ks")) | (refine Ks.trans ?_ (by assumption); walk_at "ks") | (refine Ks.trans ?_ (Ks.of (by assumption)); walk_at "ks"))
local macro_rules | `(tactic| walk_at "ob") => `(tactic| first | assumption | exact .sc rfl | (exact Ob.same (by assumption) (by walk_at "ob")) | (exact Ob.ks (by assumption) (by walk_at "ob")))
local macro_rules | `(tactic| walk_at "nd") => `(tactic| first | assumption | (exact Nd.same (by assumption) (by walk_at "nd")) | (exact Nd.ks (by assumption) (by walk_at "nd")))
local macro_rules | `(tactic| walk_at "df") => `(tactic| first | assumption | exact df_sc rfl | (exact df_vr (by assumption) (by walk_at "lk")) | (exact df_rv (by assumption) (by walk_at "ob")) | (exact df_vv (by assumption) (by walk_at "ob")) | (exact Df.symm (df_vv (by assumption) (by walk_at "ob"))))
local macro_rules | `(tactic| walk_at "hc") => `(tactic| (with_reducible show sp_is_whole _ _ _ _ _); (refine u_is_whole (by walk_at "kd") ?_))
local macro_rules | `(tactic| walk_at "hc") => `(tactic| (with_reducible show sp_is_between _ _ _ _ _); (refine u_is_between (by walk_at "kd") ?_))
local macro_rules | `(tactic| walk_at "hc") => `(tactic| (with_reducible show sp_is_list _ _ _ _ _); (refine u_is_list (by walk_at "sl") ?_); intro _ _)
local macro_rules | `(tactic| walk_at "hc") => `(tactic| (with_reducible show sp_is_time _ _ _ _ _); (refine u_is_time (by walk_at "kd") ?_))
local macro_rules | `(tactic| walk_at "hc") => `(tactic| (with_reducible show sp_is_offset _ _ _ _ _); (refine u_is_offset (by walk_at "kd") ?_))
local macro_rules | `(tactic| walk_at "hc") => `(tactic| (with_reducible show sp__law_take _ _ _ _ _); (refine u__law_take (by walk_at "bx") (by omega) (by omega) (by omega) ?_); intro _ _ _ _ _ _)
variable {K : PySem.W.Frag}
theorem RnT.ks {H H' : Hp} {xs : List V} {ls : List (List V)} (e : Ks H H') (h : RnT H xs ls) : RnT H' xs ls := by
  induction h with
  | nil => exact .nil
  | cons h r ih => exact .cons (ks_get e h rfl) ih
theorem rn_nb {H : Hp} {xs : List V} {ls : List (List V)} (h : RnT H xs ls) : notBox (.lst xs) = true := by
  cases h <;> rfl
theorem OwnAt.ks {H H' : Hp} {a : Addr} {o : Int} {cs : List (Int × Int)} (e : Ks H H') (h : OwnAt K H a o cs) : OwnAt K H' a o cs := by
  obtain ⟨ca, ha, xs, hc, hr⟩ := h
  exact ⟨ca, ks_get e ha rfl, xs, ks_get e hc (rn_nb hr), RnT.ks e hr⟩
theorem ClockAt.ks {H H' : Hp} {c : Addr} {o : Int} {cs : List (Int × Int)} (e : Ks H H') (h : ClockAt K H c o cs) : ClockAt K H' c o cs := by
  obtain ⟨k, dx, ra, ca, xs, h1, h2, h3⟩ := h
  exact ⟨k, dx, ra, ca, xs, ks_get e h1 rfl, ks_get e h2 (rn_nb h3), RnT.ks e h3⟩
theorem Asc.snoc {g y : Int} : ∀ {cs : List (Int × Int)} {f : Int}, Asc f cs → lastS f cs < g → Asc f (cs ++ [(g, y)])
  | [], _, _, h => ⟨h, True.intro⟩
  | (_, _) :: _, _, a, h => ⟨a.1, Asc.snoc a.2 h⟩
theorem lastS_snoc {g y : Int} : ∀ (cs : List (Int × Int)) (f : Int), lastS f (cs ++ [(g, y)]) = g
  | [], _ => rfl
  | (_, _) :: cs, _ => lastS_snoc cs _
theorem Offs.snoc {g y : Int} {cs : List (Int × Int)} (h : Offs cs) (h0 : -1440 ≤ y) (h1 : y ≤ 1440) : Offs (cs ++ [(g, y)]) := fun p hp => by
  rcases List.mem_append.mp hp with hp | hp
  · exact h p hp
  · rw [List.mem_singleton.mp hp]; exact ⟨h0, h1⟩
theorem Ks.mut {H H4 : Hp} {p : Addr} {o : HO} (e : Ks H H4) (h : H p = none) : Ks H (upd H4 p o) := fun a u ha => by
  obtain ⟨o', h', f⟩ := e a u ha
  exact ⟨o', (upd_ne (ne_of_none ha h)).trans h', f⟩
theorem BoxAt.mut {H : Hp} {b p : Addr} {c : Int} {xs : List V} {o : HO} (h : BoxAt H b c) (hp : H p = some (.lst xs)) (nb : notBox (.lst xs) = true) : BoxAt (upd H p o) b c := by
  obtain ⟨n, m, c0, bo, hb, r⟩ := h
  have ne : b ≠ p := fun z => by
    rw [z, hp] at hb
    cases hb
    cases nb
  exact ⟨n, m, c0, bo, (upd_ne ne).trans hb, r⟩
theorem p__law_clock (vs : List V) (H : Hp) (Q : VK) (E : XK) (h : sp__law_clock K vs H Q E) : t__law_clock K E (D0 Q) (start N__law_clock vs) H := by
  obtain ⟨b, c, rfl, hb, hc, q⟩ := h
  walk_at "hs"
  refine w_ixl_int (-1440) 1440 8 (by walk_at "sl") rfl (by omega) (by omega) (by walk_at "rg") fun o o0 o1 => ?_
  walk_at "hs"
  refine w_ixl_int 0 8 6 (by walk_at "sl") rfl (by omega) (by omega) (by walk_at "rg") fun m m0 m1 => ?_
  walk_at "hs"
  rename_i C HC nC sC hC p5 H5 n5 s5 h5 r5 H6 x1 x2 k6 hb6
  have kH : Ks H H6 := by walk_at "ks"
  have hC6 : H6 C = some (.lst []) := ks_get k6 (s5 _ _ hC) rfl
  have nCH : H C = none := by
    refine Ks.fresh (H' := _) ?_ nC
    walk_at "ks"
  generalize H6 = H6 at *
  clear k6 s5 h5 n5 sC hC
  have em : ((m.toNat : Nat) : Int) = m := by omega
  refine for_range (lo := 0) (n := m.toNat) (fun i σ H3 => ∃ mo la s5 s6, σ = [some (.ref b), some (.int o), some (.int mo), some (.ref C), some (.int la), s5, s6] ∧ Ks H H3 ∧ BoxAt H3 b (c + 2 + 3 * (i : Int)) ∧
      ∃ cs xs, H3 C = some (.lst xs) ∧ RnT H3 xs (cs.map encC) ∧ cs.length = i ∧ Asc 0 cs ∧ Offs cs ∧ lastS 0 cs = mo ∧ 0 ≤ mo ∧ mo ≤ 100000 * (i : Int) ∧ -1440 ≤ la ∧ la ≤ 1440)
    ⟨0, o, _, _, rfl, kH, hb6.mono (by omega), [], [], hC6, .nil, rfl, True.intro, (fun p hp => by cases hp), rfl, by omega, by omega, o0, o1⟩ ?_ ?_
  · rintro i σ H3 hi ⟨mo, la, s5, s6, rfl, e3, hb3, cs, xs, hx, rn, cl, asc, offs, ls, mo0, mo1, la0, la1⟩
    have nb := rn_nb rn
    have xl : xs.length = i := by have := rn.len; rw [List.length_map] at this; omega
    have i8 : (i : Int) < 8 := by omega
    clear hb kH hC6 hb6 nC
    walk_at "hs"
    refine w_ixl_int 90 20000 4 (by walk_at "sl") rfl (by omega) (by omega) (by walk_at "rg") fun k k0 k1 => ?_
    walk_at "hs"
    rename_i r7 H7 x1 x2 k7 b7 p8 H8 n8 s8 h8 r9 H9 x3 x4 k9 b9
    refine w_ixl_int (-120) 1440 8 (by walk_at "sl") rfl (by omega) (by omega) (by walk_at "rg") fun mv v0 v1 => ?_
    walk_at "hs"
    rename_i u1 u2 u3 u4 la2 l2 l3 l4 T HT nT sT hT
    have xC : HT C = some (.lst xs) := by walk_at "lk"
    have kT : Ks H3 HT := by walk_at "ks"
    have bT : BoxAt HT b (c + 2 + 3 * ((i + 1 : Nat) : Int)) := (b9.same sT).mono (by omega)
    refine ⟨mo + 1 + r7, la2, _, _, rfl, Ks.mut (Ks.trans e3 kT) nCH, bT.mut xC nb, cs ++ [(mo + 1 + r7, la2)], _, upd_same, ?_, ?_, Asc.snoc asc (by omega), Offs.snoc offs (by omega) (by omega), lastS_snoc _ _, by omega, ?_, by omega, by omega⟩
    · rw [List.map_append]
      refine RnT.app ?_ ?_
      · exact (RnT.ks kT rn).but (fun b o n h => by rw [upd_ne n]; exact h) ⟨xs, xC⟩
      · refine .cons ?_ .nil
        rw [upd_ne (fun z => by rw [z, xC] at hT; cases hT)]
        exact hT
    · simp; omega
    · rw [Int.natCast_add]
      omega
  · rintro σ H3 ⟨mo, la, s5, s6, rfl, e3, hb3, cs, xs, hx, rn, cl, asc, offs, ls, mo0, mo1, la0, la1⟩
    walk_at "hs"
    rename_i F HF nF sF hF
    refine q F o cs HF (Ks.trans e3 (Ks.of sF)) ((hb3.same sF).mono (by omega)) ⟨C, hF, xs, sF _ _ hx, rn.same sF⟩ ⟨o0, o1, asc, offs, by omega, by omega⟩
theorem u__law_clock {H : Hp} {Q : VK} {E : XK} {b : Addr} {c : Int} (hb : BoxAt H b c) (hc : c < 800000000) (q : ∀ a o cs H', Ks H H' → BoxAt H' b (c + 40) → OwnAt K H' a o cs → ClkOk o cs → Q (.ref a) H') : sp__law_clock K [.ref b] H Q E := ⟨b, c, rfl, hb, hc, q⟩
end My
set_option linter.all false
set_option maxRecDepth 100000
namespace My
open PySem PySem.Spec PyProof.Rows L2 Kx
def lastO : Int → List (Int × Int) → Int
  | x, [] => x
  | _, (_, y) :: r => lastO y r
theorem momL_far (t : Int) : ∀ (cs : List (Int × Int)) (f x : Int), Asc f cs → -1440 ≤ x → x ≤ 1440 → Offs cs → lastS f cs + 1440 ≤ t → momL f x cs t = [t - lastO x cs]
  | [], f, x, _, x0, x1, _, h => by
    have h : f + 1440 ≤ t := h
    unfold momL lastO
    rw [if_pos (by omega)]
  | (g, y) :: r, f, x, a, x0, x1, o, h => by
    have hy := o (g, y) List.mem_cons_self
    have ag := Asc.le a.2
    have a1 := a.1
    have h : lastS g r + 1440 ≤ t := h
    unfold momL
    rw [if_neg (by omega), momL_far t r g y a.2 hy.1 hy.2 (fun p hp => o p (List.mem_cons_of_mem _ hp)) h]
    rfl
theorem lastO_get : ∀ {cs : List (Int × Int)} (x : Int), cs ≠ [] → ∃ p, cs[cs.length - 1]? = some p ∧ lastO x cs = p.2
  | [], _, h => absurd rfl h
  | [p], _, _ => ⟨p, rfl, rfl⟩
  | p :: r :: cs, _, _ => by
    obtain ⟨q, hq, e⟩ := lastO_get (cs := r :: cs) p.2 (by simp)
    exact ⟨q, by simpa using hq, e⟩
theorem momL_len (t : Int) : ∀ (cs : List (Int × Int)) (f x : Int), (momL f x cs t).length ≤ cs.length + 1
  | [], f, x => by unfold momL; split <;> simp
  | (g, y) :: r, f, x => by
    have := momL_len t r g y
    unfold momL
    rw [List.length_append]
    split
    · simp only [List.length_cons, List.length_nil]; omega
    · simp only [List.length_cons, List.length_nil]; omega
theorem dueM_len {o : Int} {cs : List (Int × Int)} {t : Int} {g f : Str} (ok : ClkOk o cs) : (dueM o cs t g f).length ≤ 9 := by
  have := momL_len t cs 0 o
  have := ok.len
  unfold dueM
  split
  · split <;> simp
  · split
    · rw [List.length_take]; omega
    · split
      · rw [List.length_drop]; omega
      · omega
end My
set_option linter.all false
set_option maxRecDepth 100000
set_option maxHeartbeats 4000000
namespace My
open PySem PySem.Spec PyProof.Rows L2 Kx
local macro_rules | `(tactic| walk_at "lk") => `(tactic| first | assumption | ((with_reducible show upd _ _ _ _ = _); (first | exact upd_same | (exact up_new (by assumption) (by walk_at "lk")) | (exact up_other (by assumption) (by walk_at "lk")))) | (exact (by assumption : Same _ _) _ _ (by walk_at "lk")) | (exact ks_get (by assumption) (by walk_at "lk") (by first | rfl | assumption | exact notBox_len rfl)))
local macro_rules | `(tactic| walk_at "sl") => `(tactic| first | assumption | (exact l_of (by walk_at "lk")) | (exact Same.seq (by assumption) (by walk_at "sl")) | ((with_reducible show SqL _ (upd _ _ _) _ _); (exact Same.seq (sm_new (by assumption)) (by walk_at "sl"))))
local macro_rules | `(tactic| walk_at "st") => `(tactic| first | assumption | (exact t_of (by walk_at "lk")) | (exact Kx.Same.tup (by assumption) (by walk_at "st")) | ((with_reducible show SqT _ (upd _ _ _) _ _); (exact Kx.Same.tup (sm_new (by assumption)) (by walk_at "st"))) | (exact ks_tup (by assumption) (by walk_at "st")))
local macro_rules | `(tactic| walk_at "kd") => `(tactic| first | assumption | exact .non | exact .bl _ | exact .int _ | exact .str _ | (exact .lst (by walk_at "sl")) | (exact .tup (by walk_at "st")) | (exact .dic (by walk_at "lk")) | (exact Kd.same (by assumption) (by walk_at "kd")) | ((with_reducible show Kd _ (upd _ _ _) _ _); (exact Kd.same (sm_new (by assumption)) (by walk_at "kd"))))
local macro_rules | `(tactic| walk_at "tt") => `(tactic| first | rfl | assumption | decide +kernel | (simp only [decide_eq_true_eq, Bool.not_eq_true', decide_eq_false_iff_not, Bool.and_eq_true, Bool.or_eq_true]; omega))
local macro_rules | `(tactic| walk_at "ff") => `(tactic| first | rfl | assumption | decide +kernel | (simp only [decide_eq_true_eq, Bool.not_eq_false', decide_eq_false_iff_not, Bool.and_eq_false_imp, Bool.or_eq_false_iff]; omega))
local macro_rules | `(tactic| walk_at "hc") => `(tactic| fail)
local macro_rules | `(tactic| walk_at "hif") => `(tactic| ((with_reducible refine w_b2 ?_ ?_) <;> intro))
local macro_rules | `(tactic| walk_at "hs1") => `(tactic| first
  | (with_reducible refine w_seq ?_)
  | (with_reducible refine w_asg ?_)
  | ((with_reducible refine' w_var ?k1 ?_); (case k1 => exact rfl))
  | (with_reducible refine w_c ?_)
  | (with_reducible refine w_op ?_)
  | (with_reducible refine w_cons ?_)
  | (with_reducible refine w_nil ?_)
  | (with_reducible refine w_name ?_)
  | (with_reducible refine w_kn ?_)
  | (with_reducible refine w_kx ?_)
  | (with_reducible refine w_kk ?_)
  | (with_reducible refine w_cb ?_)
  | (with_reducible refine w_if ?_)
  | (with_reducible refine w_test ?_)
  | (with_reducible refine w_exb ?_)
  | (with_reducible refine iteT ?_)
  | (with_reducible refine iteF ?_)
  | ((with_reducible refine w_bt ?_ ?_); (first | rfl | decide +kernel))
  | ((with_reducible refine w_bf ?_ ?_); (first | rfl | decide +kernel))
  | ((with_reducible refine w_bt ?_ ?_); (walk_at "tt"))
  | ((with_reducible refine w_bf ?_ ?_); (walk_at "ff"))
  | (with_reducible refine w_ret ?_)
  | (with_reducible refine w_retN ?_)
  | (with_reducible refine w_drop ?_)
  | (with_reducible refine w_next ?_)
  | (with_reducible refine w_brk ?_)
  | (with_reducible refine w_cont ?_)
  | (with_reducible refine w_and ?_)
  | (with_reducible refine w_or ?_)
  | (with_reducible refine w_not ?_)
  | (with_reducible refine w_tr ?_)
  | (with_reducible refine w_yes ?_)
  | (with_reducible refine w_tru_bl ?_)
  | (with_reducible refine w_tru_int ?_)
  | (with_reducible refine w_tru_non ?_)
  | (with_reducible refine w_andV ?_)
  | (with_reducible refine w_orV ?_)
  | (with_reducible refine w_notV ?_)
  | (with_reducible refine w_ifx ?_)
  | (with_reducible refine w_chain ?_)
  | (with_reducible refine w_un ?_)
  | (with_reducible refine n_tup ?_)
  | (with_reducible refine n_lst ?_)
  | ((with_reducible show kTup _ _ _); (refine n_ktup rfl ?_); intro _ _ _ _ _)
  | ((with_reducible show kLst _ _ _); (refine n_klst rfl ?_); intro _ _ _ _ _)
  | (with_reducible refine w_par ?_)
  | (with_reducible refine w_par2 ?_)
  | (with_reducible refine w_par3 ?_)
  | (with_reducible refine w_par33 ?_)
  | ((with_reducible refine' w_aug ?k1 ?_); (case k1 => exact rfl))
  | (with_reducible refine w_raise ?_)
  | (with_reducible refine w_mkdue ?_)
  | (with_reducible refine w_one ?_)
  | ((with_reducible show gSq _ _ _ (V.ref _) _ _ _); (first | (refine n_gsq (by walk_at "lk") (by exact rfl) (by exact rfl) ?_) | (refine w_gtup (by walk_at "st") (by exact rfl) ?_) | (refine w_glst (by walk_at "sl") (by exact rfl) ?_)))
  | (with_reducible refine w_gcons ?_)
  | (with_reducible refine w_gnil ?_)
  | (with_reducible refine w_bm ?_)
  | ((with_reducible show tyV _ "list" (V.ref _) _ ∧ _); (refine w_tyl (by walk_at "sl") ?_))
  | (with_reducible refine w_for ?_)
  | (with_reducible refine w_rng1 ?_)
  | (with_reducible refine w_rng2 ?_)
  | (with_reducible refine w_add_ii ?_)
  | (with_reducible refine w_sub_ii ?_)
  | ((with_reducible refine w_fdv_ii ?_ ?_ ?_); (first | decide | omega); (first | decide | omega))
  | ((with_reducible refine w_mul_b ?_ ?_ ?_); (refine ⟨?_, ?_⟩ <;> omega); (refine ⟨?_, ?_⟩ <;> omega))
  | ((with_reducible refine w_mod_ii ?_ ?_); (first | decide | omega))
  | (with_reducible refine w_neg_i ?_)
  | (with_reducible refine w_lt_ii ?_)
  | (with_reducible refine w_le_ii ?_)
  | (with_reducible refine w_gt_ii ?_)
  | (with_reducible refine w_ge_ii ?_)
  | (with_reducible refine w_eq_ii ?_)
  | (with_reducible refine w_ne_ii ?_)
  | (with_reducible refine n_eq_same ?_)
  | (with_reducible refine n_ne_same ?_)
  | (with_reducible refine w_eq_ss ?_)
  | (with_reducible refine w_ne_ss ?_)
  | (with_reducible refine w_eq_bb ?_)
  | (with_reducible refine w_ne_bb ?_)
  | (with_reducible refine w_is_n ?_)
  | (with_reducible refine w_isn_n ?_)
  | (with_reducible refine w_is_bb ?_)
  | (with_reducible refine w_isn_bb ?_)
  | ((with_reducible show rIx _ (V.ref _) (V.int _) _ _); (first | (refine n_ix (by decide) (by walk_at "lk") (by exact rfl) ?_) | (refine n_ixl (by decide) (by walk_at "sl") (by exact rfl) ?_) | (refine n_ixt (by decide) (by walk_at "st") (by exact rfl) ?_)))
  | (with_reducible refine w_ipadd ?_)
  | (with_reducible refine w_ipsub ?_)
  | (with_reducible refine w_int_i ?_)
  | (with_reducible refine w_int_b ?_)
  | (with_reducible refine w_abs ?_)
  | ((with_reducible refine w_max2r ?_); intro _ _ _ _)
  | ((with_reducible refine w_min2r ?_); intro _ _ _ _)
  | ((with_reducible show uLen _ [V.ref _] _ _); (first | (refine n_len (by walk_at "lk") (by exact rfl) ?_) | (refine w_len_l (by walk_at "sl") ?_) | (refine w_len_t (by walk_at "st") ?_) | (refine w_len_d (by walk_at "lk") ?_)))
  | ((with_reducible show uIsi _ [_, V.ty _] _ _); (refine w_isk (by walk_at "kd") (by decide) ?_))
  | ((with_reducible show uIsi _ [_, V.ref (He.ga _ _)] _ _); (first | (refine w_isC_t (by assumption) (by walk_at "lk") ?_) | (refine w_isC_f (by assumption) (by walk_at "kd") ?_)))
  | ((with_reducible show uIsi _ [_, V.ref _] _ _); (refine w_isk2 (by walk_at "lk") (by walk_at "kd") (by decide) (by decide) ?_))
  | (with_reducible refine w_wN ?_)
  | (with_reducible refine w_lc ?_)
  | ((with_reducible refine' w_rng2e ?k1 ?_); (case k1 => (refine ⟨?_, ?_, ?_, ?_⟩ <;> omega)))
  | ((with_reducible refine' w_rng1e ?k1 ?k2 ?_); (case k1 => omega); (case k2 => omega))
  | ((with_reducible show ∃ a', V.ref _ = .ref a' ∧ (∃ xs, SqL _ _ a' xs) ∧ _); (refine w_sqLe (by walk_at "sl") ?_))
  | ((with_reducible show ∃ a', V.ref _ = .ref a' ∧ (∃ xs, SqT _ _ a' xs) ∧ _); (refine w_sqTe (by walk_at "st") ?_))
  | (with_reducible refine w_slc ?_)
  | (with_reducible refine w_nop ?_)
  | (with_reducible refine w_part ?_)
  | (with_reducible refine w_exi ?_)
  | ((with_reducible show uSl _ (V.ref _) _ _ _ _); (refine n_slL (by walk_at "sl") ?_); intro _ _ _ _ _)
  | (with_reducible refine w_gsub ?_)
  | ((with_reducible show rSetL (V.ref _) (V.int _) _ _ _); (refine w_setl (by walk_at "lk") (by exact rfl) ?_))
  | (with_reducible refine w_pow_9 ?_)
  | (with_reducible refine w_pow_12 ?_)
  | (with_reducible refine w_pow_13 ?_)
  | (with_reducible refine w_pow_18 ?_)
  | (with_reducible refine w_pow_29 ?_)
  | ((with_reducible refine n_disp1 ?_); intro _ _ _ _ _)
  | (with_reducible refine w_dput ?_)
  | ((with_reducible show rAppend (V.ref _) [_] _ _); (refine w_append (by walk_at "lk") (by first | omega | (exact Nat.lt_of_le_of_lt (wN_le rfl) (by decide))) ?_))
  | ((with_reducible show ∃ a' H4, V.ref _ = .ref a' ∧ DPut _ a' (V.str _) _ H4 ∧ _); (refine w_dputS (by walk_at "lk") (by first | omega | exact wN_le rfl) ?_))
  | (with_reducible refine w_try ?_)
  | ((with_reducible show wManyA _ _ _ _ (.ref (He.ga _ _)) _ _ _); (first | ((refine w_hit (ExT.ex (by assumption) _ (by decide) _ (by decide)) ?_); intro _ _) | (refine w_miss (ExT.ex (by assumption) _ (by decide) _ (by decide)) ?_)))
  | (with_reducible refine w_xg ?_)
  | ((with_reducible show V.ref _ = .ref _ ∧ ∃ _ _ _ _, Value.ref (He.ga _ _) = _ ∧ _); (refine w_xge (ExT.xf (by assumption) _ (by decide)) (ExT.fg (by assumption) _ (by decide)) (by walk_at "lk") ?_))
  | ((with_reducible show rIsX _ (.ref (He.ga _ _)) _ _ _ _ _); (refine w_isx (ExT.xx (by assumption) _ (by decide)) (ExT.kd (by assumption) _ (by decide)) (by walk_at "lk") ?_))
  | ((with_reducible show uAdd _ (V.ref _) (V.ref _) _ _); (refine n_add_ll (by walk_at "lk") (by walk_at "lk") rfl ?_); intro _ _ _ _ _)
  | ((with_reducible show iSeq _ (tLst _) _ _ _); (refine w_sqL ?_))
  | ((with_reducible show iSeq _ (tTup _) _ _ _); (refine w_sqT ?_))
  | (refine ⟨(rfl : wipe _ _ = wipe _ _), ?_⟩)
  | (with_reducible refine w_tryB ?_)
  | ((with_reducible show L2.wManyB _ _ _ _ (.ref (He.ga _ _)) _ _ _); (first | ((refine w_hitB (by assumption) (by decide) (by decide) (by decide) ?_); intro _ _) | (refine w_missB (by assumption) (by decide) (by decide) (by decide) ?_)))
  | ((with_reducible show uIx _ (V.ref _) (V.int _) _ _); (refine w_ixX ?_))
  | ((with_reducible show uIx _ (V.ref _) (V.ref _) _ _); (refine w_ixT (by walk_at "lk") (by walk_at "lk") (by exact rfl) ?_))
  | ((with_reducible show uIx _ (V.ref _) (V.str _) _ _); (refine w_ixK (by walk_at "lk") (.inr _) (by exact rfl) ?_))
  | ((with_reducible show uInX _ _ (V.ref _) _ _); (refine w_inX (w_in_f (by first | exact .inl (by walk_at "sl") | exact .inr (by walk_at "st")) rfl rfl ?_)))
  | ((with_reducible show uNinX _ _ (V.ref _) _ _); (refine w_ninX (w_nin_f (by first | exact .inl (by walk_at "sl") | exact .inr (by walk_at "st")) rfl rfl ?_)))
  | ((with_reducible show rSetX (V.ref _) (V.int _) _ _ _); (refine w_setX ?_))
  | (with_reducible refine w_km ?_)
  | (with_reducible refine w_kmk ?_)
  | ((with_reducible show ∃ _ _ _, V.ref _ = V.ref _ ∧ _ = some (HO.ins _ _ _) ∧ List.lookup _ _ = none ∧ _); (refine w_kme (by walk_at "lk") (by exact rfl) ?_))
  | (with_reducible refine w_kc ?_)
  | (with_reducible refine w_kck ?_)
  | ((with_reducible show kMade _ _ _ _ _ _); (refine w_kmade ?_); intro _ _ _ _ _ _ _ _ _)
  | (with_reducible refine w_fld ?_)
  | ((with_reducible show ∃ _ _ _ _ _, V.ref _ = V.ref _ ∧ _ = some (HO.ins _ _ _) ∧ Cls _ _ ∧ NoAttr _ _ _ ∧ _ ∧ _); (refine' w_flde ?k1 ?k2 ?k3 ?k4 ?_; (case k3 => walk_at "lk"); (case k1 => exact CF.cls (by assumption)); (case k2 => exact CF.na (by assumption) _ (by decide)); (case k4 => exact rfl)))
  | (with_reducible refine w_sfld ?_)
  | ((with_reducible show ∃ _ _ _ _, V.ref _ = V.ref _ ∧ _ = some (HO.ins _ _ _) ∧ Cls _ _ ∧ NoAttr _ _ _ ∧ _ ∧ _); (refine' w_sflde ?k1 ?k2 ?k3 ?k4 ?_; (case k3 => walk_at "lk"); (case k1 => exact CF.cls (by assumption)); (case k2 => exact CF.na (by assumption) _ (by decide)); (case k4 => exact rfl); intro _ _ _))
  | ((with_reducible show uIsi _ [_, V.ref (He.ga _ _)] _ _); (first | (refine w_isC_t (by assumption) (by walk_at "lk") ?_) | (refine w_isC_f (by assumption) (by walk_at "kd") ?_)))
  | (walk_at "hc"))
local macro_rules | `(tactic| walk_at "hs") => `(tactic| repeat' (walk_at "hs1"))

local macro_rules | `(tactic| walk_at "rg") => `(tactic| repeat' (first | exact rg_nil | (refine rg_cons (by omega) (by omega) ?_)))
local macro_rules | `(tactic| walk_at "sm") => `(tactic| first | exact Same.refl _ | assumption | ((with_reducible show Same _ (upd _ _ _)); (refine Same.trans ?_ (sm_new (by assumption))); walk_at "sm") | ((refine Same.trans ?_ (by assumption)); walk_at "sm"))
local macro_rules | `(tactic| walk_at "bx") => `(tactic| first | assumption | ((with_reducible show BoxAt (upd _ _ _) _ _); (exact BoxAt.new (by assumption) (by walk_at "bx"))) | (exact BoxAt.same (by assumption) (by walk_at "bx")))
local macro_rules | `(tactic| walk_at "ks") => `(tactic| first | exact Ks.refl _ | assumption | ((with_reducible show Ks _ (upd _ _ _)); (refine Ks.trans ?_ (Ks.of (sm_new (by assumption))); walk_at "ks")) | (refine Ks.trans ?_ (by assumption); walk_at "ks") | (refine Ks.trans ?_ (Ks.of (by assumption)); walk_at "ks"))
local macro_rules | `(tactic| walk_at "ob") => `(tactic| first | assumption | exact .sc rfl | (exact Ob.same (by assumption) (by walk_at "ob")) | (exact Ob.ks (by assumption) (by walk_at "ob")))
local macro_rules | `(tactic| walk_at "nd") => `(tactic| first | assumption | (exact Nd.same (by assumption) (by walk_at "nd")) | (exact Nd.ks (by assumption) (by walk_at "nd")))
local macro_rules | `(tactic| walk_at "df") => `(tactic| first | assumption | exact df_sc rfl | (exact df_vr (by assumption) (by walk_at "lk")) | (exact df_rv (by assumption) (by walk_at "ob")) | (exact df_vv (by assumption) (by walk_at "ob")) | (exact Df.symm (df_vv (by assumption) (by walk_at "ob"))))
local macro_rules | `(tactic| walk_at "hc") => `(tactic| (with_reducible show sp_is_whole _ _ _ _ _); (refine u_is_whole (by walk_at "kd") ?_))
local macro_rules | `(tactic| walk_at "hc") => `(tactic| (with_reducible show sp_is_between _ _ _ _ _); (refine u_is_between (by walk_at "kd") ?_))
local macro_rules | `(tactic| walk_at "hc") => `(tactic| (with_reducible show sp_is_list _ _ _ _ _); (refine u_is_list (by walk_at "sl") ?_); intro _ _)
local macro_rules | `(tactic| walk_at "hc") => `(tactic| (with_reducible show sp_is_time _ _ _ _ _); (refine u_is_time (by walk_at "kd") ?_))
local macro_rules | `(tactic| walk_at "hc") => `(tactic| (with_reducible show sp_is_offset _ _ _ _ _); (refine u_is_offset (by walk_at "kd") ?_))
local macro_rules | `(tactic| walk_at "hc") => `(tactic| (with_reducible show sp__law_take _ _ _ _ _); (refine u__law_take (by walk_at "bx") (by omega) (by omega) (by omega) ?_); intro _ _ _ _ _ _)
local macro_rules | `(tactic| walk_at "hc") => `(tactic| ((with_reducible show rIx _ (V.ref _) (V.int _) _ _); (refine w_ixl (by assumption) (by assumption) ?_)))
variable {K : PySem.W.Frag}
theorem okE_ints {n : Nat} {ns : List Int} (h : ns.length ≤ 100000) : okE (n + 1) (.list (ns.map PyData.int)) := by
  have h2 : ∀ ns : List Int, okAllE n (ns.map PyData.int) := by
    intro ns
    induction ns with
    | nil => simp [okAllE]
    | cons i ns ih => simp only [List.map_cons, okAllE, okE]; exact ⟨True.intro, ih⟩
  simp only [okE]
  exact ⟨n, rfl, by simpa using h, h2 ns⟩
theorem u_same_ints {H : Hp} {Q : VK} {E : XK} {a b : Addr} {ns : List Int} (h1 : H a = some (.lst (ns.map V.int))) (h2 : H b = some (.lst (ns.map V.int))) (hn : ns.length ≤ 100000) (q : ∀ H', Same H H' → Q (.bl true) H') : sp_sameS K [.ref a, .ref b] H Q E :=
  u__law_same (.lst (l_of h1) (dp_ints ns)) (.lst (l_of h2) (dp_ints ns)) (okE_ints hn) q
theorem w_pow_15 {H : Hp} {Q : VK} (q : Q (.int 1000000000000000) H) : uPow (.int 10) (.int 15) H Q := w_pow_ii (by decide) q
local macro_rules | `(tactic| walk_at "hc") => `(tactic| (with_reducible refine w_pow_15 ?_))
/-- the last offset of the law's clock -/
theorem w_lastO {σ : L2.St} {H : Hp} {Q : VK} {a : Addr} {o : Int} {cs : List (Int × Int)} (g1 : σ[1]? = some (some (.ref a))) (hown : OwnAt K H a o cs) (q : ∀ H', Same H H' → Q (.int (lastO o cs)) H') :
    (tIf (tTest (tOp (uNe K) (tOp (uIx K) (tVar 1) (tC (.int 1))) (tLst tNil))) (tOp (uIx K) (tOp (uIx K) (tOp (uIx K) (tVar 1) (tC (.int 1))) (tUn uNeg (tC (.int 1)))) (tC (.int 1))) (tOp (uIx K) (tVar 1) (tC (.int 0)))) σ H Q := by
  obtain ⟨ca, ha, xs, hc, hr⟩ := hown
  have hl : xs.length = cs.length := by simpa using hr.len
  walk_at "hs"
  refine w_var (n := 1) g1 ?_
  walk_at "hs"
  rename_i N H1 nN sN hN
  refine w_ne_nilR (sN _ _ hc) (hr.same sN) (l_of hN) ?_
  cases ce : cs.isEmpty
  · have hne : cs ≠ [] := fun z => by rw [z] at ce; cases ce
    obtain ⟨p, hp, hp2⟩ := lastO_get (cs := cs) o hne
    obtain ⟨tt, ht1, ht2⟩ := RnT.get2 (hr.same sN) (i := cs.length - 1) (l := encC p) (by rw [List.getElem?_map, hp]; rfl)
    have ha1 : atI xs (-1) = some (.ref tt) := atI_m1 ht1 (by have := List.length_pos_iff.mpr hne; omega)
    have hT : SqT K H1 tt [.int p.1, .int p.2] := t_of ht2
    have hcs : SqL K H1 ca xs := l_of (sN _ _ hc)
    walk_at "hs"
    refine w_var (n := 1) g1 ?_
    walk_at "hs"
    rw [← hp2]
    exact q _ sN
  · have hem : cs = [] := List.isEmpty_iff.mp ce
    subst hem
    walk_at "hs"
    refine w_var (n := 1) g1 ?_
    walk_at "hs"
    exact q _ sN
theorem p__law_far_right (vs : List V) (H : Hp) (Q : VK) (E : XK) (h : sp__law_far_right K vs H Q E) : t__law_far_right K E (D0 Q) (start N__law_far_right vs) H := by
  obtain ⟨b, k, a, c, o, cs, rfl, hb, hk, hown, hca, ok, q⟩ := h
  have l0 := Asc.le ok.asc
  have o0 := ok.o0
  have o1 := ok.o1
  have hlast := ok.last
  have hT' : (TOP : Int) = 1000000000000000 := rfl
  refine w_seq (w_asg (w_lastO rfl hown fun H2 e2 => ?_))
  have hb := hb.same e2
  have hownA := hown.same e2
  have hcaA := hca.same e2
  clear hown hca
  walk_at "hs"
  rename_i r H3 r0 r1 k3 b3
  have hown := hownA.ks k3
  have hca := hcaA.ks k3
  clear hownA hcaA
  refine u_due1 hca ok (by omega) (by omega) (by decide) (by decide) ?_
  intro p H4 e4 h4 _
  have em : dueM o cs (1000000000000000 - r) "after" "both" = [1000000000000000 - r - lastO o cs] := by
    have e := momL_far (1000000000000000 - r) cs 0 o ok.asc o0 o1 ok.offs (by omega)
    rw [dueM_b (by rw [e]; simp) (by decide) (by decide), e]
  rw [em] at h4
  walk_at "hs"
  rename_i p5 H5 n5 e5 h5
  refine u_same_ints (ns := [1000000000000000 - r - lastO o cs]) (e5 _ _ h4) h5 (by simp) fun H6 e6 => ?_
  have e36 := Same.trans e4 (Same.trans e5 e6)
  have hown6 := hown.same e36
  have hca6 := hca.same e36
  have kk : Ks H H6 := Ks.trans (Ks.of e2) (Ks.trans k3 (Ks.of e36))
  have hb6 := b3.same e36
  clear em e36 h4 h5 n5 e4 e5 e6 hown hca k3 b3 e2
  have hown0 := hown6
  obtain ⟨ca, ha, xs, hc, hr⟩ := hown0
  walk_at "hs"
  rename_i P1 G1 n1 s1 h1
  have hown1 := hown6.same s1
  have hca1 := hca6.same s1
  clear hown6 hca6 ha hc hr
  intro D hD
  refine lc_list (xs := ([0, 1, o - 1, o, o + 1] : List Int).map V.int) (LcP G1 D fun i => ((([0, 1, o - 1, o, o + 1] : List Int).take i).filter fun z => decide (0 ≤ z)).map V.int) (LcP.zero hD rfl) (fun i H' _ P => P.1.seq (l_of h1)) ?_ ?_
  · intro i x H' hx P
    rw [List.getElem?_map] at hx
    obtain ⟨z, hz, rfl⟩ := Option.map_eq_some_iff.mp hx
    have hy : ((([0, 1, o - 1, o, o + 1] : List Int).take (i + 1)).filter fun z => decide (0 ≤ z)).map V.int = ((([0, 1, o - 1, o, o + 1] : List Int).take i).filter fun z => decide (0 ≤ z)).map V.int ++ (if decide (0 ≤ z) = true then [V.int z] else []) := filter_map_succ hz
    walk_at "hs"
    refine w_b2 (fun c1 => ?_) (fun c1 => ?_)
    · have c2 : decide (0 ≤ z) = true := by simpa using c1
      walk_at "hs"
      refine LcP.one P (Same.refl _) hD ?_ ?_
      · rw [List.length_map]
        have := filter_len (g := fun z : Int => decide (0 ≤ z)) (xs := [0, 1, o - 1, o, o + 1]) (n := 5) (i := i) (by simp)
        omega
      · rw [hy, if_pos c2]
    · have c2 : decide (0 ≤ z) = false := by simpa using c1
      walk_at "hs"
      refine LcP.no P (Same.refl _) ?_
      rw [hy, if_neg (by rw [c2]; exact Bool.false_ne_true), List.append_nil]
  · intro H7 P
    have e7 := P.1
    have h7 : H7 D = some (.lst ((([0, 1, o - 1, o, o + 1] : List Int).filter fun z => decide (0 ≤ z)).map V.int)) := P.2
    obtain ⟨ls, hls⟩ : ∃ ls, ls = (([0, 1, o - 1, o, o + 1] : List Int).filter fun z => decide (0 ≤ z)) := ⟨_, rfl⟩
    rw [← hls] at h7
    have hb7 : ∀ z ∈ ls, 0 ≤ z ∧ z ≤ 1500 := fun z hz => by
      rw [hls] at hz
      obtain ⟨z1, z2⟩ := List.mem_filter.mp hz
      have z2 : 0 ≤ z := by simpa using z2
      simp only [List.mem_cons, List.not_mem_nil, or_false] at z1
      omega
    have hown7 := hown1.same e7
    have hca7 := hca1.same e7
    have kk7 : Ks H H7 := Ks.trans kk (Ks.of (Same.trans s1 e7))
    have hb7' := hb6.same (Same.trans s1 e7)
    clear P hls e7 hown1 hca1 s1 h1 n1 hD
    walk_at "hs"
    refine w_sqL ?_
    walk_at "hs"
    intro D2 hD2
    refine lc_list (xs := ls.map V.int) (LcP H7 D2 fun _ => []) (LcP.zero hD2 rfl) (fun i H' _ P => P.1.seq (l_of h7)) ?_ ?_
    · intro i x H' hx P
      rw [List.getElem?_map] at hx
      obtain ⟨z, hz, rfl⟩ := Option.map_eq_some_iff.mp hx
      have bz := hb7 z (List.mem_of_getElem? hz)
      walk_at "hs"
      refine u_due1 (hca7.same P.1) ok (by omega) (by omega) (by decide) (by decide) ?_
      intro q1 G2 s2 h2 _
      walk_at "hs"
      refine u__law_due_moments ((hown7.same P.1).same s2) ok (by decide) (by decide) ?_
      intro q2 G3 s3 h3 _
      walk_at "hs"
      refine u_same_ints (s3 _ _ h2) h3 (by have := dueM_len (t := z) (g := "after") (f := "last") ok; omega) fun G4 s4 => ?_
      walk_at "hs"
      exact LcP.no P (Same.trans s2 (Same.trans s3 s4)) rfl
    · intro H8 P
      have e8 := P.1
      have h8 : H8 D2 = some (.lst []) := P.2
      clear P
      walk_at "hs"
      rename_i N HN nN sN hN
      refine w_eq_nil (ns := []) (l_of (sN _ _ h8)) (l_of hN) ?_
      exact q _ (Ks.trans kk7 (Ks.of (Same.trans e8 sN))) ((hb7'.same (Same.trans e8 sN)).mono (by omega))
theorem u__law_far_right {H : Hp} {Q : VK} {E : XK} {b a c : Addr} {k o : Int} {cs : List (Int × Int)} (hb : BoxAt H b k) (hk : k < 800000000) (hown : OwnAt K H a o cs) (hca : ClockAt K H c o cs) (ok : ClkOk o cs) (q : ∀ H', Ks H H' → BoxAt H' b (k + 10) → Q (.bl true) H') : sp__law_far_right K [.ref b, .ref a, .ref c] H Q E := ⟨b, k, a, c, o, cs, rfl, hb, hk, hown, hca, ok, q⟩
end My
set_option linter.all false
set_option maxRecDepth 100000
set_option maxHeartbeats 4000000
namespace My
open PySem PySem.Spec PyProof.Rows L2 Kx
local macro_rules | `(tactic| walk_at "lk") => `(tactic| first | assumption | ((with_reducible show upd _ _ _ _ = _); (first | exact upd_same | (exact up_new (by assumption) (by walk_at "lk")) | (exact up_other (by assumption) (by walk_at "lk")))) | (exact (by assumption : Same _ _) _ _ (by walk_at "lk")) | (exact ks_get (by assumption) (by walk_at "lk") (by first | rfl | assumption | exact notBox_len rfl)))
local macro_rules | `(tactic| walk_at "sl") => `(tactic| first | assumption | (exact l_of (by walk_at "lk")) | (exact Same.seq (by assumption) (by walk_at "sl")) | ((with_reducible show SqL _ (upd _ _ _) _ _); (exact Same.seq (sm_new (by assumption)) (by walk_at "sl"))))
local macro_rules | `(tactic| walk_at "st") => `(tactic| first | assumption | (exact t_of (by walk_at "lk")) | (exact Kx.Same.tup (by assumption) (by walk_at "st")) | ((with_reducible show SqT _ (upd _ _ _) _ _); (exact Kx.Same.tup (sm_new (by assumption)) (by walk_at "st"))) | (exact ks_tup (by assumption) (by walk_at "st")))
local macro_rules | `(tactic| walk_at "kd") => `(tactic| first | assumption | exact .non | exact .bl _ | exact .int _ | exact .str _ | (exact .lst (by walk_at "sl")) | (exact .tup (by walk_at "st")) | (exact .dic (by walk_at "lk")) | (exact Kd.same (by assumption) (by walk_at "kd")) | ((with_reducible show Kd _ (upd _ _ _) _ _); (exact Kd.same (sm_new (by assumption)) (by walk_at "kd"))))
local macro_rules | `(tactic| walk_at "tt") => `(tactic| first | rfl | assumption | decide +kernel | (simp only [decide_eq_true_eq, Bool.not_eq_true', decide_eq_false_iff_not, Bool.and_eq_true, Bool.or_eq_true]; omega))
local macro_rules | `(tactic| walk_at "ff") => `(tactic| first | rfl | assumption | decide +kernel | (simp only [decide_eq_true_eq, Bool.not_eq_false', decide_eq_false_iff_not, Bool.and_eq_false_imp, Bool.or_eq_false_iff]; omega))
local macro_rules | `(tactic| walk_at "hc") => `(tactic| fail)
local macro_rules | `(tactic| walk_at "hif") => `(tactic| ((with_reducible refine w_b2 ?_ ?_) <;> intro))
local macro_rules | `(tactic| walk_at "hs1") => `(tactic| first
  | (with_reducible refine w_seq ?_)
  | (with_reducible refine w_asg ?_)
  | ((with_reducible refine' w_var ?k1 ?_); (case k1 => exact rfl))
  | (with_reducible refine w_c ?_)
  | (with_reducible refine w_op ?_)
  | (with_reducible refine w_cons ?_)
  | (with_reducible refine w_nil ?_)
  | (with_reducible refine w_name ?_)
  | (with_reducible refine w_kn ?_)
  | (with_reducible refine w_kx ?_)
  | (with_reducible refine w_kk ?_)
  | (with_reducible refine w_cb ?_)
  | (with_reducible refine w_if ?_)
  | (with_reducible refine w_test ?_)
  | (with_reducible refine w_exb ?_)
  | (with_reducible refine iteT ?_)
  | (with_reducible refine iteF ?_)
  | ((with_reducible refine w_bt ?_ ?_); (first | rfl | decide +kernel))
  | ((with_reducible refine w_bf ?_ ?_); (first | rfl | decide +kernel))
  | ((with_reducible refine w_bt ?_ ?_); (walk_at "tt"))
  | ((with_reducible refine w_bf ?_ ?_); (walk_at "ff"))
  | (with_reducible refine w_ret ?_)
  | (with_reducible refine w_retN ?_)
  | (with_reducible refine w_drop ?_)
  | (with_reducible refine w_next ?_)
  | (with_reducible refine w_brk ?_)
  | (with_reducible refine w_cont ?_)
  | (with_reducible refine w_and ?_)
  | (with_reducible refine w_or ?_)
  | (with_reducible refine w_not ?_)
  | (with_reducible refine w_tr ?_)
  | (with_reducible refine w_yes ?_)
  | (with_reducible refine w_tru_bl ?_)
  | (with_reducible refine w_tru_int ?_)
  | (with_reducible refine w_tru_non ?_)
  | (with_reducible refine w_andV ?_)
  | (with_reducible refine w_orV ?_)
  | (with_reducible refine w_notV ?_)
  | (with_reducible refine w_ifx ?_)
  | (with_reducible refine w_chain ?_)
  | (with_reducible refine w_un ?_)
  | (with_reducible refine n_tup ?_)
  | (with_reducible refine n_lst ?_)
  | ((with_reducible show kTup _ _ _); (refine n_ktup rfl ?_); intro _ _ _ _ _)
  | ((with_reducible show kLst _ _ _); (refine n_klst rfl ?_); intro _ _ _ _ _)
  | (with_reducible refine w_par ?_)
  | (with_reducible refine w_par2 ?_)
  | (with_reducible refine w_par3 ?_)
  | (with_reducible refine w_par33 ?_)
  | ((with_reducible refine' w_aug ?k1 ?_); (case k1 => exact rfl))
  | (with_reducible refine w_raise ?_)
  | (with_reducible refine w_mkdue ?_)
  | (with_reducible refine w_one ?_)
  | ((with_reducible show gSq _ _ _ (V.ref _) _ _ _); (first | (refine n_gsq (by walk_at "lk") (by exact rfl) (by exact rfl) ?_) | (refine w_gtup (by walk_at "st") (by exact rfl) ?_) | (refine w_glst (by walk_at "sl") (by exact rfl) ?_)))
  | (with_reducible refine w_gcons ?_)
  | (with_reducible refine w_gnil ?_)
  | (with_reducible refine w_bm ?_)
  | ((with_reducible show tyV _ "list" (V.ref _) _ ∧ _); (refine w_tyl (by walk_at "sl") ?_))
  | (with_reducible refine w_for ?_)
  | (with_reducible refine w_rng1 ?_)
  | (with_reducible refine w_rng2 ?_)
  | (with_reducible refine w_add_ii ?_)
  | (with_reducible refine w_sub_ii ?_)
  | ((with_reducible refine w_fdv_ii ?_ ?_ ?_); (first | decide | omega); (first | decide | omega))
  | ((with_reducible refine w_mul_b ?_ ?_ ?_); (refine ⟨?_, ?_⟩ <;> omega); (refine ⟨?_, ?_⟩ <;> omega))
  | ((with_reducible refine w_mod_ii ?_ ?_); (first | decide | omega))
  | (with_reducible refine w_neg_i ?_)
  | (with_reducible refine w_lt_ii ?_)
  | (with_reducible refine w_le_ii ?_)
  | (with_reducible refine w_gt_ii ?_)
  | (with_reducible refine w_ge_ii ?_)
  | (with_reducible refine w_eq_ii ?_)
  | (with_reducible refine w_ne_ii ?_)
  | (with_reducible refine n_eq_same ?_)
  | (with_reducible refine n_ne_same ?_)
  | (with_reducible refine w_eq_ss ?_)
  | (with_reducible refine w_ne_ss ?_)
  | (with_reducible refine w_eq_bb ?_)
  | (with_reducible refine w_ne_bb ?_)
  | (with_reducible refine w_is_n ?_)
  | (with_reducible refine w_isn_n ?_)
  | (with_reducible refine w_is_bb ?_)
  | (with_reducible refine w_isn_bb ?_)
  | ((with_reducible show rIx _ (V.ref _) (V.int _) _ _); (first | (refine n_ix (by decide) (by walk_at "lk") (by exact rfl) ?_) | (refine n_ixl (by decide) (by walk_at "sl") (by exact rfl) ?_) | (refine n_ixt (by decide) (by walk_at "st") (by exact rfl) ?_)))
  | (with_reducible refine w_ipadd ?_)
  | (with_reducible refine w_ipsub ?_)
  | (with_reducible refine w_int_i ?_)
  | (with_reducible refine w_int_b ?_)
  | (with_reducible refine w_abs ?_)
  | ((with_reducible refine w_max2r ?_); intro _ _ _ _)
  | ((with_reducible refine w_min2r ?_); intro _ _ _ _)
  | ((with_reducible show uLen _ [V.ref _] _ _); (first | (refine n_len (by walk_at "lk") (by exact rfl) ?_) | (refine w_len_l (by walk_at "sl") ?_) | (refine w_len_t (by walk_at "st") ?_) | (refine w_len_d (by walk_at "lk") ?_)))
  | ((with_reducible show uIsi _ [_, V.ty _] _ _); (refine w_isk (by walk_at "kd") (by decide) ?_))
  | ((with_reducible show uIsi _ [_, V.ref (He.ga _ _)] _ _); (first | (refine w_isC_t (by assumption) (by walk_at "lk") ?_) | (refine w_isC_f (by assumption) (by walk_at "kd") ?_)))
  | ((with_reducible show uIsi _ [_, V.ref _] _ _); (refine w_isk2 (by walk_at "lk") (by walk_at "kd") (by decide) (by decide) ?_))
  | (with_reducible refine w_wN ?_)
  | (with_reducible refine w_lc ?_)
  | ((with_reducible refine' w_rng2e ?k1 ?_); (case k1 => (refine ⟨?_, ?_, ?_, ?_⟩ <;> omega)))
  | ((with_reducible refine' w_rng1e ?k1 ?k2 ?_); (case k1 => omega); (case k2 => omega))
  | ((with_reducible show ∃ a', V.ref _ = .ref a' ∧ (∃ xs, SqL _ _ a' xs) ∧ _); (refine w_sqLe (by walk_at "sl") ?_))
  | ((with_reducible show ∃ a', V.ref _ = .ref a' ∧ (∃ xs, SqT _ _ a' xs) ∧ _); (refine w_sqTe (by walk_at "st") ?_))
  | (with_reducible refine w_slc ?_)
  | (with_reducible refine w_nop ?_)
  | (with_reducible refine w_part ?_)
  | (with_reducible refine w_exi ?_)
  | ((with_reducible show uSl _ (V.ref _) _ _ _ _); (refine n_slL (by walk_at "sl") ?_); intro _ _ _ _ _)
  | (with_reducible refine w_gsub ?_)
  | ((with_reducible show rSetL (V.ref _) (V.int _) _ _ _); (refine w_setl (by walk_at "lk") (by exact rfl) ?_))
  | (with_reducible refine w_pow_9 ?_)
  | (with_reducible refine w_pow_12 ?_)
  | (with_reducible refine w_pow_13 ?_)
  | (with_reducible refine w_pow_18 ?_)
  | (with_reducible refine w_pow_29 ?_)
  | ((with_reducible refine n_disp1 ?_); intro _ _ _ _ _)
  | (with_reducible refine w_dput ?_)
  | ((with_reducible show rAppend (V.ref _) [_] _ _); (refine w_append (by walk_at "lk") (by first | omega | (exact Nat.lt_of_le_of_lt (wN_le rfl) (by decide))) ?_))
  | ((with_reducible show ∃ a' H4, V.ref _ = .ref a' ∧ DPut _ a' (V.str _) _ H4 ∧ _); (refine w_dputS (by walk_at "lk") (by first | omega | exact wN_le rfl) ?_))
  | (with_reducible refine w_try ?_)
  | ((with_reducible show wManyA _ _ _ _ (.ref (He.ga _ _)) _ _ _); (first | ((refine w_hit (ExT.ex (by assumption) _ (by decide) _ (by decide)) ?_); intro _ _) | (refine w_miss (ExT.ex (by assumption) _ (by decide) _ (by decide)) ?_)))
  | (with_reducible refine w_xg ?_)
  | ((with_reducible show V.ref _ = .ref _ ∧ ∃ _ _ _ _, Value.ref (He.ga _ _) = _ ∧ _); (refine w_xge (ExT.xf (by assumption) _ (by decide)) (ExT.fg (by assumption) _ (by decide)) (by walk_at "lk") ?_))
  | ((with_reducible show rIsX _ (.ref (He.ga _ _)) _ _ _ _ _); (refine w_isx (ExT.xx (by assumption) _ (by decide)) (ExT.kd (by assumption) _ (by decide)) (by walk_at "lk") ?_))
  | ((with_reducible show uAdd _ (V.ref _) (V.ref _) _ _); (refine n_add_ll (by walk_at "lk") (by walk_at "lk") rfl ?_); intro _ _ _ _ _)
  | ((with_reducible show iSeq _ (tLst _) _ _ _); (refine w_sqL ?_))
  | ((with_reducible show iSeq _ (tTup _) _ _ _); (refine w_sqT ?_))
  | (refine ⟨(rfl : wipe _ _ = wipe _ _), ?_⟩)
  | (with_reducible refine w_tryB ?_)
  | ((with_reducible show L2.wManyB _ _ _ _ (.ref (He.ga _ _)) _ _ _); (first | ((refine w_hitB (by assumption) (by decide) (by decide) (by decide) ?_); intro _ _) | (refine w_missB (by assumption) (by decide) (by decide) (by decide) ?_)))
  | ((with_reducible show uIx _ (V.ref _) (V.int _) _ _); (refine w_ixX ?_))
  | ((with_reducible show uIx _ (V.ref _) (V.ref _) _ _); (refine w_ixT (by walk_at "lk") (by walk_at "lk") (by exact rfl) ?_))
  | ((with_reducible show uIx _ (V.ref _) (V.str _) _ _); (refine w_ixK (by walk_at "lk") (.inr _) (by exact rfl) ?_))
  | ((with_reducible show uInX _ _ (V.ref _) _ _); (refine w_inX (w_in_f (by first | exact .inl (by walk_at "sl") | exact .inr (by walk_at "st")) rfl rfl ?_)))
  | ((with_reducible show uNinX _ _ (V.ref _) _ _); (refine w_ninX (w_nin_f (by first | exact .inl (by walk_at "sl") | exact .inr (by walk_at "st")) rfl rfl ?_)))
  | ((with_reducible show rSetX (V.ref _) (V.int _) _ _ _); (refine w_setX ?_))
  | (with_reducible refine w_km ?_)
  | (with_reducible refine w_kmk ?_)
  | ((with_reducible show ∃ _ _ _, V.ref _ = V.ref _ ∧ _ = some (HO.ins _ _ _) ∧ List.lookup _ _ = none ∧ _); (refine w_kme (by walk_at "lk") (by exact rfl) ?_))
  | (with_reducible refine w_kc ?_)
  | (with_reducible refine w_kck ?_)
  | ((with_reducible show kMade _ _ _ _ _ _); (refine w_kmade ?_); intro _ _ _ _ _ _ _ _ _)
  | (with_reducible refine w_fld ?_)
  | ((with_reducible show ∃ _ _ _ _ _, V.ref _ = V.ref _ ∧ _ = some (HO.ins _ _ _) ∧ Cls _ _ ∧ NoAttr _ _ _ ∧ _ ∧ _); (refine' w_flde ?k1 ?k2 ?k3 ?k4 ?_; (case k3 => walk_at "lk"); (case k1 => exact CF.cls (by assumption)); (case k2 => exact CF.na (by assumption) _ (by decide)); (case k4 => exact rfl)))
  | (with_reducible refine w_sfld ?_)
  | ((with_reducible show ∃ _ _ _ _, V.ref _ = V.ref _ ∧ _ = some (HO.ins _ _ _) ∧ Cls _ _ ∧ NoAttr _ _ _ ∧ _ ∧ _); (refine' w_sflde ?k1 ?k2 ?k3 ?k4 ?_; (case k3 => walk_at "lk"); (case k1 => exact CF.cls (by assumption)); (case k2 => exact CF.na (by assumption) _ (by decide)); (case k4 => exact rfl); intro _ _ _))
  | ((with_reducible show uIsi _ [_, V.ref (He.ga _ _)] _ _); (first | (refine w_isC_t (by assumption) (by walk_at "lk") ?_) | (refine w_isC_f (by assumption) (by walk_at "kd") ?_)))
  | (walk_at "hc"))
local macro_rules | `(tactic| walk_at "hs") => `(tactic| repeat' (walk_at "hs1"))

local macro_rules | `(tactic| walk_at "rg") => `(tactic| repeat' (first | exact rg_nil | (refine rg_cons (by omega) (by omega) ?_)))
local macro_rules | `(tactic| walk_at "sm") => `(tactic| first | exact Same.refl _ | assumption | ((with_reducible show Same _ (upd _ _ _)); (refine Same.trans ?_ (sm_new (by assumption))); walk_at "sm") | ((refine Same.trans ?_ (by assumption)); walk_at "sm"))
local macro_rules | `(tactic| walk_at "bx") => `(tactic| first | assumption | ((with_reducible show BoxAt (upd _ _ _) _ _); (exact BoxAt.new (by assumption) (by walk_at "bx"))) | (exact BoxAt.same (by assumption) (by walk_at "bx")))
local macro_rules | `(tactic| walk_at "ks") => `(tactic| first | exact Ks.refl _ | assumption | ((with_reducible show Ks _ (upd _ _ _)); (refine Ks.trans ?_ (Ks.of (sm_new (by assumption))); walk_at "ks")) | (refine Ks.trans ?_ (by assumption); walk_at "ks") | (refine Ks.trans ?_ (Ks.of (by assumption)); walk_at "ks"))
local macro_rules | `(tactic| walk_at "ob") => `(tactic| first | assumption | exact .sc rfl | (exact Ob.same (by assumption) (by walk_at "ob")) | (exact Ob.ks (by assumption) (by walk_at "ob")))
local macro_rules | `(tactic| walk_at "nd") => `(tactic| first | assumption | (exact Nd.same (by assumption) (by walk_at "nd")) | (exact Nd.ks (by assumption) (by walk_at "nd")))
local macro_rules | `(tactic| walk_at "df") => `(tactic| first | assumption | exact df_sc rfl | (exact df_vr (by assumption) (by walk_at "lk")) | (exact df_rv (by assumption) (by walk_at "ob")) | (exact df_vv (by assumption) (by walk_at "ob")) | (exact Df.symm (df_vv (by assumption) (by walk_at "ob"))))
local macro_rules | `(tactic| walk_at "hc") => `(tactic| (with_reducible show sp_is_whole _ _ _ _ _); (refine u_is_whole (by walk_at "kd") ?_))
local macro_rules | `(tactic| walk_at "hc") => `(tactic| (with_reducible show sp_is_between _ _ _ _ _); (refine u_is_between (by walk_at "kd") ?_))
local macro_rules | `(tactic| walk_at "hc") => `(tactic| (with_reducible show sp_is_list _ _ _ _ _); (refine u_is_list (by walk_at "sl") ?_); intro _ _)
local macro_rules | `(tactic| walk_at "hc") => `(tactic| (with_reducible show sp_is_time _ _ _ _ _); (refine u_is_time (by walk_at "kd") ?_))
local macro_rules | `(tactic| walk_at "hc") => `(tactic| (with_reducible show sp_is_offset _ _ _ _ _); (refine u_is_offset (by walk_at "kd") ?_))
local macro_rules | `(tactic| walk_at "hc") => `(tactic| (with_reducible show sp__law_take _ _ _ _ _); (refine u__law_take (by walk_at "bx") (by omega) (by omega) (by omega) ?_); intro _ _ _ _ _ _)
local macro_rules | `(tactic| walk_at "hc") => `(tactic| ((with_reducible show rIx _ (V.ref _) (V.int _) _ _); (refine w_ixl (by assumption) (by assumption) ?_)))
local macro_rules | `(tactic| walk_at "hc") => `(tactic| (with_reducible refine w_pow_15 ?_))
variable {K : PySem.W.Frag}
/-- a plain value, a text not too long -/
def svB : V → Bool
  | .non => true
  | .bl _ => true
  | .int _ => true
  | .str s => decide (s.length ≤ 100)
  | _ => false
theorem sv_kd {H : Hp} : ∀ {v : V}, svB v = true → ∃ T, Kd K H v T
  | .non, _ => ⟨_, .non⟩
  | .bl b, _ => ⟨_, .bl b⟩
  | .int i, _ => ⟨_, .int i⟩
  | .str s, _ => ⟨_, .str s⟩
theorem sv_dp {H : Hp} : ∀ {v : V}, svB v = true → ∃ d, Dp K H v d ∧ ∀ n, okE n d
  | .non, _ => ⟨.none, .non, fun n => by simp only [okE]⟩
  | .bl b, _ => ⟨.bool b, .bl b, fun n => by simp only [okE]⟩
  | .int i, _ => ⟨.int i, .int i, fun n => by simp only [okE]⟩
  | .str s, h => ⟨.str s, .str s, fun n => by simp only [okE]; have : s.length ≤ 100 := of_decide_eq_true h; omega⟩
inductive Nv (H : Hp) : V → Prop
  | sc {v : V} (h : svB v = true) : Nv H v
  | tup {a b : Addr} {o : Int} (h : H a = some (.tup [.int o, .ref b])) (h2 : H b = some (.tup [])) : Nv H (.ref a)
  | one {a : Addr} {s : Str} (h : H a = some (.tup [.str s])) (hs : s.length ≤ 100) : Nv H (.ref a)
theorem Nv.ks {H H' : Hp} {v : V} (e : Ks H H') (h : Nv H v) : Nv H' v := by
  cases h with
  | sc h => exact .sc h
  | tup h h2 => exact .tup (ks_get e h rfl) (ks_get e h2 rfl)
  | one h hs => exact .one (ks_get e h rfl) hs
theorem Nv.kd {H : Hp} {v : V} (h : Nv H v) : ∃ T, Kd K H v T := by
  cases h with
  | sc h => exact sv_kd h
  | tup h h2 => exact ⟨_, .tup (t_of h)⟩
  | one h hs => exact ⟨_, .tup (t_of h)⟩
theorem Nv.dp {H : Hp} {v : V} (h : Nv H v) : ∃ d, Dp K H v d ∧ okE 6 d := by
  cases h with
  | sc h =>
    obtain ⟨d, k, ok⟩ := sv_dp (K := K) (H := H) h
    exact ⟨d, k, ok 6⟩
  | tup h h2 => 
    refine ⟨.tuple [.int _, .tuple []], .tup (t_of h) (.cons (.int _) (.cons (.tup (t_of h2) .nil) .nil)), ?_⟩
    simp [okE, okAllE]
  | one h hs => 
    refine ⟨.tuple [.str _], .tup (t_of h) (.cons (.str _) .nil), ?_⟩
    simp [okE, okAllE]
    omega
theorem u_ask_clock {H : Hp} {Q : VK} {E : XK} {nm : Bool} {x t g f : V} (hx : ∃ T, Kd K H x T) (ht : ∃ T, Kd K H t T) (hg : ∃ T, Kd K H g T) (hf : ∃ T, Kd K H f T) (q : Ans H Q [.str "clock", x]) : sp__law_asked K [.bl nm, x, t, g, f] H Q E := by
  obtain ⟨X, hx⟩ := hx; obtain ⟨T, ht⟩ := ht; obtain ⟨G, hg⟩ := hg; obtain ⟨F, hf⟩ := hf
  exact ⟨nm, x, t, T, g, G, f, F, rfl, ht, hg, hf, .inr ⟨X, hx, q⟩⟩
theorem u_ask_time {H : Hp} {Q : VK} {E : XK} {nm : Bool} {c : Addr} {o : Int} {cs : List (Int × Int)} {t g f : V} (hca : ClockAt K H c o cs) (ok : ClkOk o cs) (ht : ∃ T, Kd K H t T) (hg : ∃ T, Kd K H g T) (hf : ∃ T, Kd K H f T) (b : betw t 0 TOP = false) (q : Ans H Q [.str "time", t]) : sp__law_asked K [.bl nm, .ref c, t, g, f] H Q E := by
  obtain ⟨T, ht⟩ := ht; obtain ⟨G, hg⟩ := hg; obtain ⟨F, hf⟩ := hf
  exact ⟨nm, _, t, T, g, G, f, F, rfl, ht, hg, hf, .inl ⟨c, o, cs, rfl, hca, ok, fun _ _ _ _ _ _ z => (by rw [b] at z; cases z), fun _ => q, fun z => (by rw [b] at z; cases z), fun z => (by rw [b] at z; cases z)⟩⟩
theorem u_ask_gap {H : Hp} {Q : VK} {E : XK} {nm : Bool} {c : Addr} {o : Int} {cs : List (Int × Int)} {g f : V} (hca : ClockAt K H c o cs) (ok : ClkOk o cs) (hg : ∃ T, Kd K H g T) (hf : ∃ T, Kd K H f T) (b : gapOk g = false) (q : Ans H Q [.str "gap", g]) : sp__law_asked K [.bl nm, .ref c, .int 5, g, f] H Q E := by
  obtain ⟨G, hg⟩ := hg; obtain ⟨F, hf⟩ := hf
  exact ⟨nm, _, _, _, g, G, f, F, rfl, .int 5, hg, hf, .inl ⟨c, o, cs, rfl, hca, ok, fun _ _ _ _ _ _ _ z => (by rw [b] at z; cases z), fun z => (by cases z), fun _ _ => q, fun _ z => (by rw [b] at z; cases z)⟩⟩
theorem u_ask_fold {H : Hp} {Q : VK} {E : XK} {nm : Bool} {c : Addr} {o : Int} {cs : List (Int × Int)} {f : V} (hca : ClockAt K H c o cs) (ok : ClkOk o cs) (hf : ∃ T, Kd K H f T) (b : foldOk f = false) (q : Ans H Q [.str "fold", f]) : sp__law_asked K [.bl nm, .ref c, .int 5, .str "skip", f] H Q E := by
  obtain ⟨F, hf⟩ := hf
  exact ⟨nm, _, _, _, _, _, f, F, rfl, .int 5, .str _, hf, .inl ⟨c, o, cs, rfl, hca, ok, fun _ _ _ _ _ _ _ _ z => (by rw [b] at z; cases z), fun z => (by cases z), fun _ z => absurd z (by decide), fun _ _ _ => q⟩⟩
theorem p__law_refusals_right (vs : List V) (H : Hp) (Q : VK) (E : XK) (h : sp__law_refusals_right K vs H Q E) : t__law_refusals_right K E (D0 Q) (start N__law_refusals_right vs) H := by
  obtain ⟨b, k, a, c, o, cs, rfl, hb, hk, ⟨ca, ha, xs, hc, hr⟩, hca, ok, q⟩ := h
  walk_at "hs"
  rename_i B HB nB sB hB T HT nT sT hT L5 H5 n5 s5 h5 r1 H6 x1 x2 k6 b6
  have hBk := ks_get k6 (s5 _ _ (sT _ _ hB)) rfl
  have hTk := ks_get k6 (s5 _ _ hT) rfl
  refine w_ixl_v 5 (by walk_at "sl") rfl (by omega) (by omega) fun nn hv => ?_
  have kk : Ks H H6 := by walk_at "ks"
  have nv : Nv H6 nn := by
    simp only [List.mem_cons, List.not_mem_nil, or_false] at hv
    rcases hv with rfl | rfl | rfl | rfl | rfl
    · exact .sc rfl
    · exact .sc rfl
    · exact .tup hTk hBk
    · exact .sc (by decide)
    · exact .sc rfl
  have hca6 := hca.ks kk
  obtain ⟨kw, hkw⟩ : ∃ P, P = Ks H H6 := ⟨_, rfl⟩
  rw [← hkw] at kk
  clear hv hBk hTk k6 s5 sT hB hT nB nT sB n5 h5 hb hca ha hc hr
  walk_at "hs"
  rename_i L7 H7 n7 s7 h7 r2 H8 x3 x4 k8 b8
  refine w_ixl_v 4 (by walk_at "sl") rfl (by omega) (by omega) fun bad hv => ?_
  have pb : svB bad = true ∧ betw bad 0 TOP = false := by
    simp only [List.mem_cons, List.not_mem_nil, or_false] at hv
    rcases hv with rfl | rfl | rfl | rfl <;> exact ⟨rfl, rfl⟩
  clear hv h7
  walk_at "hs"
  rename_i L9 H9 n9 s9 h9 r3 H10 x5 x6 k10 b10
  refine w_ixl_v 5 (by walk_at "sl") rfl (by omega) (by omega) fun gap hv => ?_
  have pg : svB gap = true ∧ gapOk gap = false := by
    simp only [List.mem_cons, List.not_mem_nil, or_false] at hv
    rcases hv with rfl | rfl | rfl | rfl | rfl <;> exact ⟨by decide, by decide⟩
  clear hv h9
  walk_at "hs"
  rename_i T2 H11 n11 s11 h11 L12 H12 n12 s12 h12 r4 H13 x7 x8 k13 b13
  have h13 := ks_get k13 (s12 _ _ h11) rfl
  refine w_ixl_v 5 (by walk_at "sl") rfl (by omega) (by omega) fun fold hv => ?_
  have pf : Nv H13 fold ∧ foldOk fold = false := by
    simp only [List.mem_cons, List.not_mem_nil, or_false] at hv
    rcases hv with rfl | rfl | rfl | rfl | rfl
    · exact ⟨.sc (by decide), by decide⟩
    · exact ⟨.sc (by decide), by decide⟩
    · exact ⟨.sc rfl, rfl⟩
    · exact ⟨.sc rfl, rfl⟩
    · exact ⟨.one h13 (by decide), rfl⟩
  have kk2 : Ks H6 H13 := by walk_at "ks"
  clear hv h12 h11 h13
  walk_at "hs"
  rename_i r14 H14 x9 x10 k14 b14
  have nv14 := (nv.ks kk2).ks k14
  have hca14 := (hca6.ks kk2).ks k14
  obtain ⟨pf, pf2⟩ := pf
  have pf14 := pf.ks k14
  have kQ : ∀ H', Same H14 H' → Q (.bl true) H' := fun H' e => q _ (by rw [hkw] at kk; exact Ks.trans kk (Ks.trans kk2 (Ks.trans k14 (Ks.of e))))
  obtain ⟨pb1, pb2⟩ := pb
  obtain ⟨pg1, pg2⟩ := pg
  clear q kk kk2 hkw kw nv hca6 pf k14 k13 s12 n12 n11 s11 k10 s9 n9 k8 s7 n7 b6 b8 b10 b13 b14
  refine u_ask_clock nv14.kd (sv_kd pb1) (sv_kd pg1) pf14.kd ?_
  intro l1 G1 e1 h1
  walk_at "hs"
  refine u_ask_time (hca14.same e1) ok (sv_kd pb1) (sv_kd pg1) (Nv.kd (pf14.ks (Ks.of e1))) pb2 ?_
  intro l2 G2 e2 h2
  walk_at "hs"
  refine u_ask_gap ((hca14.same e1).same e2) ok (sv_kd pg1) (Nv.kd ((pf14.ks (Ks.of e1)).ks (Ks.of e2))) pg2 ?_
  intro l3 G3 e3 h3
  walk_at "hs"
  refine u_ask_fold (((hca14.same e1).same e2).same e3) ok (Nv.kd (((pf14.ks (Ks.of e1)).ks (Ks.of e2)).ks (Ks.of e3))) pf2 ?_
  intro l4 G4 e4 h4
  have kG : Same H14 G4 := Same.trans e1 (Same.trans e2 (Same.trans e3 e4))
  have kQ4 : ∀ H', Same G4 H' → Q (.bl true) H' := fun H' e => kQ _ (Same.trans kG e)
  have nv4 := nv14.ks (Ks.of kG)
  have pf4 := pf14.ks (Ks.of kG)
  have h1 := e4 _ _ (e3 _ _ (e2 _ _ h1))
  have h2 := e4 _ _ (e3 _ _ h2)
  have h3 := e4 _ _ h3
  clear kG kQ e1 e2 e3 e4 nv14 pf14 hca14
  walk_at "hs"
  rename_i t0 F0 m0 s0 g0 t1 F1 m1 s1 g1 t2 F2 m2 s2 g2 t3 F3 m3 s3 g3 t4 F4 m4 s4 g4 t5 F5 m5 s5 g5
  have sF : Same G4 F5 := Same.trans s0 (Same.trans s1 (Same.trans s2 (Same.trans s3 (Same.trans s4 s5))))
  obtain ⟨dn, kn, on⟩ := Nv.dp (K := K) (nv4.ks (Ks.of sF))
  obtain ⟨df, kf, of_⟩ := Nv.dp (K := K) (pf4.ks (Ks.of sF))
  obtain ⟨db, kb, ob⟩ := sv_dp (K := K) (H := F5) pb1
  obtain ⟨dg, kg, og⟩ := sv_dp (K := K) (H := F5) pg1
  refine u__law_same (d := .list [.list [.str "clock", dn], .list [.str "time", db], .list [.str "gap", dg], .list [.str "fold", df]])
    (.lst (l_of (s5 _ _ (s4 _ _ (s3 _ _ (s2 _ _ (s1 _ _ g0)))))) (.cons (.lst (l_of (sF _ _ h1)) (.cons (.str _) (.cons kn .nil))) (.cons (.lst (l_of (sF _ _ h2)) (.cons (.str _) (.cons kb .nil))) (.cons (.lst (l_of (sF _ _ h3)) (.cons (.str _) (.cons kg .nil))) (.cons (.lst (l_of (sF _ _ h4)) (.cons (.str _) (.cons kf .nil))) .nil)))))
    (.lst (l_of g5) (.cons (.lst (l_of (s5 _ _ (s4 _ _ (s3 _ _ (s2 _ _ g1))))) (.cons (.str _) (.cons kn .nil))) (.cons (.lst (l_of (s5 _ _ (s4 _ _ (s3 _ _ g2)))) (.cons (.str _) (.cons kb .nil))) (.cons (.lst (l_of (s5 _ _ (s4 _ _ g3))) (.cons (.str _) (.cons kg .nil))) (.cons (.lst (l_of (s5 _ _ g4)) (.cons (.str _) (.cons kf .nil))) .nil))))) ?_ fun H' e => ?_
  · have ob := ob 6
    have og := og 6
    have c1 : ("clock" : Str).length ≤ 100000 := by decide
    have c2 : ("time" : Str).length ≤ 100000 := by decide
    have c3 : ("gap" : Str).length ≤ 100000 := by decide
    have c4 : ("fold" : Str).length ≤ 100000 := by decide
    simp only [okE, okAllE]
    exact ⟨7, rfl, by simp, ⟨6, rfl, by simp, c1, on, True.intro⟩, ⟨6, rfl, by simp, c2, ob, True.intro⟩, ⟨6, rfl, by simp, c3, og, True.intro⟩, ⟨6, rfl, by simp, c4, of_, True.intro⟩, True.intro⟩
  · walk_at "hs"
    exact kQ4 _ (Same.trans sF e)
theorem u__law_refusals_right {H : Hp} {Q : VK} {E : XK} {b a c : Addr} {k o : Int} {cs : List (Int × Int)} (hb : BoxAt H b k) (hk : k < 800000000) (hown : OwnAt K H a o cs) (hca : ClockAt K H c o cs) (ok : ClkOk o cs) (q : ∀ H', Ks H H' → Q (.bl true) H') : sp__law_refusals_right K [.ref b, .ref a, .ref c] H Q E := ⟨b, k, a, c, o, cs, rfl, hb, hk, hown, hca, ok, q⟩
end My
set_option linter.all false
set_option maxRecDepth 100000
set_option maxHeartbeats 4000000
namespace My
open PySem PySem.Spec PyProof.Rows L2 Kx
local macro_rules | `(tactic| walk_at "lk") => `(tactic| first | assumption | ((with_reducible show upd _ _ _ _ = _); (first | exact upd_same | (exact up_new (by assumption) (by walk_at "lk")) | (exact up_other (by assumption) (by walk_at "lk")))) | (exact (by assumption : Same _ _) _ _ (by walk_at "lk")) | (exact ks_get (by assumption) (by walk_at "lk") (by first | rfl | assumption | exact notBox_len rfl)))
local macro_rules | `(tactic| walk_at "sl") => `(tactic| first | assumption | (exact l_of (by walk_at "lk")) | (exact Same.seq (by assumption) (by walk_at "sl")) | ((with_reducible show SqL _ (upd _ _ _) _ _); (exact Same.seq (sm_new (by assumption)) (by walk_at "sl"))))
local macro_rules | `(tactic| walk_at "st") => `(tactic| first | assumption | (exact t_of (by walk_at "lk")) | (exact Kx.Same.tup (by assumption) (by walk_at "st")) | ((with_reducible show SqT _ (upd _ _ _) _ _); (exact Kx.Same.tup (sm_new (by assumption)) (by walk_at "st"))) | (exact ks_tup (by assumption) (by walk_at "st")))
local macro_rules | `(tactic| walk_at "kd") => `(tactic| first | assumption | exact .non | exact .bl _ | exact .int _ | exact .str _ | (exact .lst (by walk_at "sl")) | (exact .tup (by walk_at "st")) | (exact .dic (by walk_at "lk")) | (exact Kd.same (by assumption) (by walk_at "kd")) | ((with_reducible show Kd _ (upd _ _ _) _ _); (exact Kd.same (sm_new (by assumption)) (by walk_at "kd"))))
local macro_rules | `(tactic| walk_at "tt") => `(tactic| first | rfl | assumption | decide +kernel | (simp only [decide_eq_true_eq, Bool.not_eq_true', decide_eq_false_iff_not, Bool.and_eq_true, Bool.or_eq_true]; omega))
local macro_rules | `(tactic| walk_at "ff") => `(tactic| first | rfl | assumption | decide +kernel | (simp only [decide_eq_true_eq, Bool.not_eq_false', decide_eq_false_iff_not, Bool.and_eq_false_imp, Bool.or_eq_false_iff]; omega))
local macro_rules | `(tactic| walk_at "hc") => `(tactic| fail)
local macro_rules | `(tactic| walk_at "hif") => `(tactic| ((with_reducible refine w_b2 ?_ ?_) <;> intro))
local macro_rules | `(tactic| walk_at "hs1") => `(tactic| first
  | (with_reducible refine w_seq ?_)
  | (with_reducible refine w_asg ?_)
  | ((with_reducible refine' w_var ?k1 ?_); (case k1 => exact rfl))
  | (with_reducible refine w_c ?_)
  | (with_reducible refine w_op ?_)
  | (with_reducible refine w_cons ?_)
  | (with_reducible refine w_nil ?_)
  | (with_reducible refine w_name ?_)
  | (with_reducible refine w_kn ?_)
  | (with_reducible refine w_kx ?_)
  | (with_reducible refine w_kk ?_)
  | (with_reducible refine w_cb ?_)
  | (with_reducible refine w_if ?_)
  | (with_reducible refine w_test ?_)
  | (with_reducible refine w_exb ?_)
  | (with_reducible refine iteT ?_)
  | (with_reducible refine iteF ?_)
  | ((with_reducible refine w_bt ?_ ?_); (first | rfl | decide +kernel))
  | ((with_reducible refine w_bf ?_ ?_); (first | rfl | decide +kernel))
  | ((with_reducible refine w_bt ?_ ?_); (walk_at "tt"))
  | ((with_reducible refine w_bf ?_ ?_); (walk_at "ff"))
  | (with_reducible refine w_ret ?_)
  | (with_reducible refine w_retN ?_)
  | (with_reducible refine w_drop ?_)
  | (with_reducible refine w_next ?_)
  | (with_reducible refine w_brk ?_)
  | (with_reducible refine w_cont ?_)
  | (with_reducible refine w_and ?_)
  | (with_reducible refine w_or ?_)
  | (with_reducible refine w_not ?_)
  | (with_reducible refine w_tr ?_)
  | (with_reducible refine w_yes ?_)
  | (with_reducible refine w_tru_bl ?_)
  | (with_reducible refine w_tru_int ?_)
  | (with_reducible refine w_tru_non ?_)
  | (with_reducible refine w_andV ?_)
  | (with_reducible refine w_orV ?_)
  | (with_reducible refine w_notV ?_)
  | (with_reducible refine w_ifx ?_)
  | (with_reducible refine w_chain ?_)
  | (with_reducible refine w_un ?_)
  | (with_reducible refine n_tup ?_)
  | (with_reducible refine n_lst ?_)
  | ((with_reducible show kTup _ _ _); (refine n_ktup rfl ?_); intro _ _ _ _ _)
  | ((with_reducible show kLst _ _ _); (refine n_klst rfl ?_); intro _ _ _ _ _)
  | (with_reducible refine w_par ?_)
  | (with_reducible refine w_par2 ?_)
  | (with_reducible refine w_par3 ?_)
  | (with_reducible refine w_par33 ?_)
  | ((with_reducible refine' w_aug ?k1 ?_); (case k1 => exact rfl))
  | (with_reducible refine w_raise ?_)
  | (with_reducible refine w_mkdue ?_)
  | (with_reducible refine w_one ?_)
  | ((with_reducible show gSq _ _ _ (V.ref _) _ _ _); (first | (refine n_gsq (by walk_at "lk") (by exact rfl) (by exact rfl) ?_) | (refine w_gtup (by walk_at "st") (by exact rfl) ?_) | (refine w_glst (by walk_at "sl") (by exact rfl) ?_)))
  | (with_reducible refine w_gcons ?_)
  | (with_reducible refine w_gnil ?_)
  | (with_reducible refine w_bm ?_)
  | ((with_reducible show tyV _ "list" (V.ref _) _ ∧ _); (refine w_tyl (by walk_at "sl") ?_))
  | (with_reducible refine w_for ?_)
  | (with_reducible refine w_rng1 ?_)
  | (with_reducible refine w_rng2 ?_)
  | (with_reducible refine w_add_ii ?_)
  | (with_reducible refine w_sub_ii ?_)
  | ((with_reducible refine w_fdv_ii ?_ ?_ ?_); (first | decide | omega); (first | decide | omega))
  | ((with_reducible refine w_mul_b ?_ ?_ ?_); (refine ⟨?_, ?_⟩ <;> omega); (refine ⟨?_, ?_⟩ <;> omega))
  | ((with_reducible refine w_mod_ii ?_ ?_); (first | decide | omega))
  | (with_reducible refine w_neg_i ?_)
  | (with_reducible refine w_lt_ii ?_)
  | (with_reducible refine w_le_ii ?_)
  | (with_reducible refine w_gt_ii ?_)
  | (with_reducible refine w_ge_ii ?_)
  | (with_reducible refine w_eq_ii ?_)
  | (with_reducible refine w_ne_ii ?_)
  | (with_reducible refine n_eq_same ?_)
  | (with_reducible refine n_ne_same ?_)
  | (with_reducible refine w_eq_ss ?_)
  | (with_reducible refine w_ne_ss ?_)
  | (with_reducible refine w_eq_bb ?_)
  | (with_reducible refine w_ne_bb ?_)
  | (with_reducible refine w_is_n ?_)
  | (with_reducible refine w_isn_n ?_)
  | (with_reducible refine w_is_bb ?_)
  | (with_reducible refine w_isn_bb ?_)
  | ((with_reducible show rIx _ (V.ref _) (V.int _) _ _); (first | (refine n_ix (by decide) (by walk_at "lk") (by exact rfl) ?_) | (refine n_ixl (by decide) (by walk_at "sl") (by exact rfl) ?_) | (refine n_ixt (by decide) (by walk_at "st") (by exact rfl) ?_)))
  | (with_reducible refine w_ipadd ?_)
  | (with_reducible refine w_ipsub ?_)
  | (with_reducible refine w_int_i ?_)
  | (with_reducible refine w_int_b ?_)
  | (with_reducible refine w_abs ?_)
  | ((with_reducible refine w_max2r ?_); intro _ _ _ _)
  | ((with_reducible refine w_min2r ?_); intro _ _ _ _)
  | ((with_reducible show uLen _ [V.ref _] _ _); (first | (refine n_len (by walk_at "lk") (by exact rfl) ?_) | (refine w_len_l (by walk_at "sl") ?_) | (refine w_len_t (by walk_at "st") ?_) | (refine w_len_d (by walk_at "lk") ?_)))
  | ((with_reducible show uIsi _ [_, V.ty _] _ _); (refine w_isk (by walk_at "kd") (by decide) ?_))
  | ((with_reducible show uIsi _ [_, V.ref (He.ga _ _)] _ _); (first | (refine w_isC_t (by assumption) (by walk_at "lk") ?_) | (refine w_isC_f (by assumption) (by walk_at "kd") ?_)))
  | ((with_reducible show uIsi _ [_, V.ref _] _ _); (refine w_isk2 (by walk_at "lk") (by walk_at "kd") (by decide) (by decide) ?_))
  | (with_reducible refine w_wN ?_)
  | (with_reducible refine w_lc ?_)
  | ((with_reducible refine' w_rng2e ?k1 ?_); (case k1 => (refine ⟨?_, ?_, ?_, ?_⟩ <;> omega)))
  | ((with_reducible refine' w_rng1e ?k1 ?k2 ?_); (case k1 => omega); (case k2 => omega))
  | ((with_reducible show ∃ a', V.ref _ = .ref a' ∧ (∃ xs, SqL _ _ a' xs) ∧ _); (refine w_sqLe (by walk_at "sl") ?_))
  | ((with_reducible show ∃ a', V.ref _ = .ref a' ∧ (∃ xs, SqT _ _ a' xs) ∧ _); (refine w_sqTe (by walk_at "st") ?_))
  | (with_reducible refine w_slc ?_)
  | (with_reducible refine w_nop ?_)
  | (with_reducible refine w_part ?_)
  | (with_reducible refine w_exi ?_)
  | ((with_reducible show uSl _ (V.ref _) _ _ _ _); (refine n_slL (by walk_at "sl") ?_); intro _ _ _ _ _)
  | (with_reducible refine w_gsub ?_)
  | ((with_reducible show rSetL (V.ref _) (V.int _) _ _ _); (refine w_setl (by walk_at "lk") (by exact rfl) ?_))
  | (with_reducible refine w_pow_9 ?_)
  | (with_reducible refine w_pow_12 ?_)
  | (with_reducible refine w_pow_13 ?_)
  | (with_reducible refine w_pow_18 ?_)
  | (with_reducible refine w_pow_29 ?_)
  | ((with_reducible refine n_disp1 ?_); intro _ _ _ _ _)
  | (with_reducible refine w_dput ?_)
  | ((with_reducible show rAppend (V.ref _) [_] _ _); (refine w_append (by walk_at "lk") (by first | omega | (exact Nat.lt_of_le_of_lt (wN_le rfl) (by decide))) ?_))
  | ((with_reducible show ∃ a' H4, V.ref _ = .ref a' ∧ DPut _ a' (V.str _) _ H4 ∧ _); (refine w_dputS (by walk_at "lk") (by first | omega | exact wN_le rfl) ?_))
  | (with_reducible refine w_try ?_)
  | ((with_reducible show wManyA _ _ _ _ (.ref (He.ga _ _)) _ _ _); (first | ((refine w_hit (ExT.ex (by assumption) _ (by decide) _ (by decide)) ?_); intro _ _) | (refine w_miss (ExT.ex (by assumption) _ (by decide) _ (by decide)) ?_)))
  | (with_reducible refine w_xg ?_)
  | ((with_reducible show V.ref _ = .ref _ ∧ ∃ _ _ _ _, Value.ref (He.ga _ _) = _ ∧ _); (refine w_xge (ExT.xf (by assumption) _ (by decide)) (ExT.fg (by assumption) _ (by decide)) (by walk_at "lk") ?_))
  | ((with_reducible show rIsX _ (.ref (He.ga _ _)) _ _ _ _ _); (refine w_isx (ExT.xx (by assumption) _ (by decide)) (ExT.kd (by assumption) _ (by decide)) (by walk_at "lk") ?_))
  | ((with_reducible show uAdd _ (V.ref _) (V.ref _) _ _); (refine n_add_ll (by walk_at "lk") (by walk_at "lk") rfl ?_); intro _ _ _ _ _)
  | ((with_reducible show iSeq _ (tLst _) _ _ _); (refine w_sqL ?_))
  | ((with_reducible show iSeq _ (tTup _) _ _ _); (refine w_sqT ?_))
  | (refine ⟨(rfl : wipe _ _ = wipe _ _), ?_⟩)
  | (with_reducible refine w_tryB ?_)
  | ((with_reducible show L2.wManyB _ _ _ _ (.ref (He.ga _ _)) _ _ _); (first | ((refine w_hitB (by assumption) (by decide) (by decide) (by decide) ?_); intro _ _) | (refine w_missB (by assumption) (by decide) (by decide) (by decide) ?_)))
  | ((with_reducible show uIx _ (V.ref _) (V.int _) _ _); (refine w_ixX ?_))
  | ((with_reducible show uIx _ (V.ref _) (V.ref _) _ _); (refine w_ixT (by walk_at "lk") (by walk_at "lk") (by exact rfl) ?_))
  | ((with_reducible show uIx _ (V.ref _) (V.str _) _ _); (refine w_ixK (by walk_at "lk") (.inr _) (by exact rfl) ?_))
  | ((with_reducible show uInX _ _ (V.ref _) _ _); (refine w_inX (w_in_f (by first | exact .inl (by walk_at "sl") | exact .inr (by walk_at "st")) rfl rfl ?_)))
  | ((with_reducible show uNinX _ _ (V.ref _) _ _); (refine w_ninX (w_nin_f (by first | exact .inl (by walk_at "sl") | exact .inr (by walk_at "st")) rfl rfl ?_)))
  | ((with_reducible show rSetX (V.ref _) (V.int _) _ _ _); (refine w_setX ?_))
  | (with_reducible refine w_km ?_)
  | (with_reducible refine w_kmk ?_)
  | ((with_reducible show ∃ _ _ _, V.ref _ = V.ref _ ∧ _ = some (HO.ins _ _ _) ∧ List.lookup _ _ = none ∧ _); (refine w_kme (by walk_at "lk") (by exact rfl) ?_))
  | (with_reducible refine w_kc ?_)
  | (with_reducible refine w_kck ?_)
  | ((with_reducible show kMade _ _ _ _ _ _); (refine w_kmade ?_); intro _ _ _ _ _ _ _ _ _)
  | (with_reducible refine w_fld ?_)
  | ((with_reducible show ∃ _ _ _ _ _, V.ref _ = V.ref _ ∧ _ = some (HO.ins _ _ _) ∧ Cls _ _ ∧ NoAttr _ _ _ ∧ _ ∧ _); (refine' w_flde ?k1 ?k2 ?k3 ?k4 ?_; (case k3 => walk_at "lk"); (case k1 => exact CF.cls (by assumption)); (case k2 => exact CF.na (by assumption) _ (by decide)); (case k4 => exact rfl)))
  | (with_reducible refine w_sfld ?_)
  | ((with_reducible show ∃ _ _ _ _, V.ref _ = V.ref _ ∧ _ = some (HO.ins _ _ _) ∧ Cls _ _ ∧ NoAttr _ _ _ ∧ _ ∧ _); (refine' w_sflde ?k1 ?k2 ?k3 ?k4 ?_; (case k3 => walk_at "lk"); (case k1 => exact CF.cls (by assumption)); (case k2 => exact CF.na (by assumption) _ (by decide)); (case k4 => exact rfl); intro _ _ _))
  | ((with_reducible show uIsi _ [_, V.ref (He.ga _ _)] _ _); (first | (refine w_isC_t (by assumption) (by walk_at "lk") ?_) | (refine w_isC_f (by assumption) (by walk_at "kd") ?_)))
  | (walk_at "hc"))
local macro_rules | `(tactic| walk_at "hs") => `(tactic| repeat' (walk_at "hs1"))

local macro_rules | `(tactic| walk_at "rg") => `(tactic| repeat' (first | exact rg_nil | (refine rg_cons (by omega) (by omega) ?_)))
local macro_rules | `(tactic| walk_at "sm") => `(tactic| first | exact Same.refl _ | assumption | ((with_reducible show Same _ (upd _ _ _)); (refine Same.trans ?_ (sm_new (by assumption))); walk_at "sm") | ((refine Same.trans ?_ (by assumption)); walk_at "sm"))
local macro_rules | `(tactic| walk_at "bx") => `(tactic| first | assumption | ((with_reducible show BoxAt (upd _ _ _) _ _); (exact BoxAt.new (by assumption) (by walk_at "bx"))) | (exact BoxAt.same (by assumption) (by walk_at "bx")))
local macro_rules | `(tactic| walk_at "ks") => `(tactic| first | exact Ks.refl _ | assumption | ((with_reducible show Ks _ (upd _ _ _)); (refine Ks.trans ?_ (Ks.of (sm_new (by assumption))); walk_at "ks")) | (refine Ks.trans ?_ (by assumption); walk_at "ks") | (refine Ks.trans ?_ (Ks.of (by assumption)); walk_at "ks"))
local macro_rules | `(tactic| walk_at "ob") => `(tactic| first | assumption | exact .sc rfl | (exact Ob.same (by assumption) (by walk_at "ob")) | (exact Ob.ks (by assumption) (by walk_at "ob")))
local macro_rules | `(tactic| walk_at "nd") => `(tactic| first | assumption | (exact Nd.same (by assumption) (by walk_at "nd")) | (exact Nd.ks (by assumption) (by walk_at "nd")))
local macro_rules | `(tactic| walk_at "df") => `(tactic| first | assumption | exact df_sc rfl | (exact df_vr (by assumption) (by walk_at "lk")) | (exact df_rv (by assumption) (by walk_at "ob")) | (exact df_vv (by assumption) (by walk_at "ob")) | (exact Df.symm (df_vv (by assumption) (by walk_at "ob"))))
local macro_rules | `(tactic| walk_at "hc") => `(tactic| (with_reducible show sp_is_whole _ _ _ _ _); (refine u_is_whole (by walk_at "kd") ?_))
local macro_rules | `(tactic| walk_at "hc") => `(tactic| (with_reducible show sp_is_between _ _ _ _ _); (refine u_is_between (by walk_at "kd") ?_))
local macro_rules | `(tactic| walk_at "hc") => `(tactic| (with_reducible show sp_is_list _ _ _ _ _); (refine u_is_list (by walk_at "sl") ?_); intro _ _)
local macro_rules | `(tactic| walk_at "hc") => `(tactic| (with_reducible show sp_is_time _ _ _ _ _); (refine u_is_time (by walk_at "kd") ?_))
local macro_rules | `(tactic| walk_at "hc") => `(tactic| (with_reducible show sp_is_offset _ _ _ _ _); (refine u_is_offset (by walk_at "kd") ?_))
local macro_rules | `(tactic| walk_at "hc") => `(tactic| (with_reducible show sp__law_take _ _ _ _ _); (refine u__law_take (by walk_at "bx") (by omega) (by omega) (by omega) ?_); intro _ _ _ _ _ _)
variable {K : PySem.W.Frag}
abbrev gs2 : List Str := ["skip", "after"]
abbrev fs3 : List Str := ["first", "last", "both"]
theorem gs_ok : ∀ g ∈ gs2, gapOk (.str g) = true := by decide
theorem fs_ok : ∀ f ∈ fs3, foldOk (.str f) = true := by decide
def RowOk (H : Hp) (kvs : List (List Key × V)) (o : Int) (cs : List (Int × Int)) (t : Int) (g f : Str) : Prop := ∃ p, valV kvs [.inr g, .inr f] = some (.ref p) ∧ H p = some (.lst ((dueM o cs t g f).map V.int))
theorem RowOk.same {H H' : Hp} {kvs : List (List Key × V)} {o t : Int} {cs : List (Int × Int)} {g f : Str} (e : Same H H') (h : RowOk H kvs o cs t g f) : RowOk H' kvs o cs t g f := by
  obtain ⟨p, h1, h2⟩ := h
  exact ⟨p, h1, e _ _ h2⟩
theorem RowOk.put {H : Hp} {R p' : Addr} {kvs kvs' : List (List Key × V)} {o t : Int} {cs : List (Int × Int)} {g f g' f' : Str} (hR : H R = some (.dT kvs)) (h : RowOk H kvs o cs t g f) (hp : H p' = some (.lst ((dueM o cs t g' f').map V.int))) :
    RowOk (upd H R (.dT (putK kvs [.inr g', .inr f'] (.ref p')))) (putK kvs [.inr g', .inr f'] (.ref p')) o cs t g f := by
  obtain ⟨p, h1, h2⟩ := h
  have n1 : p ≠ R := fun z => by rw [z, hR] at h2; cases h2
  have n2 : p' ≠ R := fun z => by rw [z, hR] at hp; cases hp
  by_cases c : ([.inr g, .inr f] : List Key) = [.inr g', .inr f']
  · have c1 : g = g' := Sum.inr.inj (List.cons.inj c).1
    have c2 : f = f' := Sum.inr.inj (List.cons.inj (List.cons.inj c).2).1
    subst c1; subst c2
    exact ⟨p', by rw [valV_put, if_pos rfl], by rw [upd_ne n2]; exact hp⟩
  · exact ⟨p, by rw [valV_put, if_neg c]; exact h1, by rw [upd_ne n1]; exact h2⟩
theorem RowOk.new {H : Hp} {R p' : Addr} {kvs : List (List Key × V)} {o t : Int} {cs : List (Int × Int)} {g' f' : Str} (hR : H R = some (.dT kvs)) (hp : H p' = some (.lst ((dueM o cs t g' f').map V.int))) :
    RowOk (upd H R (.dT (putK kvs [.inr g', .inr f'] (.ref p')))) (putK kvs [.inr g', .inr f'] (.ref p')) o cs t g' f' := by
  have n2 : p' ≠ R := fun z => by rw [z, hR] at hp; cases hp
  exact ⟨p', by rw [valV_put, if_pos rfl], by rw [upd_ne n2]; exact hp⟩
abbrev tFill (K : PySem.W.Frag) : TS := tFor (iSeq K (tLst (tCons (tC (.str "skip")) (tCons (tC (.str "after")) tNil)))) (gName 13) (tFor (iSeq K (tLst (tCons (tC (.str "first")) (tCons (tC (.str "last")) (tCons (tC (.str "both")) tNil))))) (gName 14) (tAsg (tKn (sp__law_due_moments K) (tCons (tVar 1) (tCons (tVar 11) (tCons (tVar 13) (tCons (tVar 14) tNil))))) (gSub (tVar 12) (tTup (tCons (tVar 13) (tCons (tVar 14) tNil))) rSetX)))
theorem putK_le (c : List (List Key × V)) (k : List Key) (x : V) : (putK c k x).length ≤ c.length + 1 := by
  unfold putK
  split <;> simp
theorem but_sm {R : Addr} {H2 H4 H' : Hp} (e : Same H2 H4) (n : H2 R = none) (b : But R H4 H') : Same H2 H' := fun x o h => b x o (fun z => by rw [z, n] at h; cases h) (e _ _ h)
theorem but_andS {R : Addr} {H4 H' H'' : Hp} (b : But R H4 H') (e : Same H' H'') : But R H4 H'' := fun x o n h => e _ _ (b x o n h)
theorem but_up {R : Addr} {H4 H' : Hp} {u : HO} (b : But R H4 H') : But R H4 (upd H' R u) := fun x o n h => by rw [upd_ne n]; exact b x o n h
theorem w_fill {D : Ends} {H2 H3 : Hp} {a R : Addr} {o t : Int} {cs : List (Int × Int)} {s0 s2 s3 s4 s5 s6 s7 s8 s9 s10 s13 s14 s15 s16 s17 s18 s19 s20 : Option V} (e23 : Same H2 H3) (nR : H2 R = none) (hown : OwnAt K H2 a o cs) (ok : ClkOk o cs) (hR : H3 R = some (.dT []))
    (q : ∀ s13 s14 H' kvs, Same H2 H' → H' R = some (.dT kvs) → (∀ g ∈ gs2, ∀ f ∈ fs3, RowOk H' kvs o cs t g f) → D.nx [s0, some (.ref a), s2, s3, s4, s5, s6, s7, s8, s9, s10, some (.int t), some (.ref R), s13, s14, s15, s16, s17, s18, s19, s20] H') :
    tFill K D [s0, some (.ref a), s2, s3, s4, s5, s6, s7, s8, s9, s10, some (.int t), some (.ref R), s13, s14, s15, s16, s17, s18, s19, s20] H3 := by
  refine w_for ?_
  refine w_sqL ?_
  walk_at "hs"
  rename_i G H4 n4 e4 h4
  have hR4 := e4 _ _ hR
  have e24 := Same.trans e23 e4
  have gR : G ≠ R := fun z => by rw [z, hR] at n4; cases n4
  clear e4 n4 hR e23
  refine for_list (xs := gs2.map V.str) (fun i σ H' => ∃ s13 s14, σ = [s0, some (.ref a), s2, s3, s4, s5, s6, s7, s8, s9, s10, some (.int t), some (.ref R), s13, s14, s15, s16, s17, s18, s19, s20] ∧ But R H4 H' ∧
      ∃ kvs, H' R = some (.dT kvs) ∧ kvs.length ≤ 3 * i ∧ ∀ g ∈ gs2.take i, ∀ f ∈ fs3, RowOk H' kvs o cs t g f)
    ⟨_, _, rfl, fun _ _ _ h => h, [], hR4, Nat.zero_le _, fun g hg => by cases hg⟩ (fun _ _ _ _ ⟨_, _, _, b, _⟩ => l_of (b _ _ gR h4)) ?_ ?_
  · rintro i x σ H' hx ⟨u13, u14, rfl, bt, kvs, hk, kl, hrow⟩
    rw [List.getElem?_map] at hx
    obtain ⟨g, hg, rfl⟩ := Option.map_eq_some_iff.mp hx
    have i2 : i < 2 := (List.getElem?_eq_some_iff.mp hg).1
    have gm : g ∈ gs2 := List.mem_of_getElem? hg
    have gt : gs2.take (i + 1) = gs2.take i ++ [g] := by rw [List.take_succ, hg]; rfl
    walk_at "hs"
    rename_i G2 H5 n5 e5 h5
    have hk5 := e5 _ _ hk
    have g2R : G2 ≠ R := fun z => by rw [z, hk] at n5; cases n5
    have e25 : Same H2 H' := but_sm e24 nR bt
    refine for_list (xs := fs3.map V.str) (fun j σ H'' => ∃ s14, σ = [s0, some (.ref a), s2, s3, s4, s5, s6, s7, s8, s9, s10, some (.int t), some (.ref R), some (.str g), s14, s15, s16, s17, s18, s19, s20] ∧ But R H5 H'' ∧
        ∃ kvs, H'' R = some (.dT kvs) ∧ kvs.length ≤ 3 * i + j ∧ (∀ g ∈ gs2.take i, ∀ f ∈ fs3, RowOk H'' kvs o cs t g f) ∧ ∀ f ∈ fs3.take j, RowOk H'' kvs o cs t g f)
      ⟨_, rfl, fun _ _ _ h => h, kvs, hk5, kl, fun g hg f hf => (hrow g hg f hf).same e5, fun f hf => by cases hf⟩ (fun _ _ _ _ ⟨_, _, b, _⟩ => l_of (b _ _ g2R h5)) ?_ ?_
    · rintro j x σ H6 hx ⟨u14, rfl, bt5, kvs6, hk6, kl6, hrow1, hrow2⟩
      rw [List.getElem?_map] at hx
      obtain ⟨f, hf, rfl⟩ := Option.map_eq_some_iff.mp hx
      have j3 : j < 3 := (List.getElem?_eq_some_iff.mp hf).1
      have fm : f ∈ fs3 := List.mem_of_getElem? hf
      have ft : fs3.take (j + 1) = fs3.take j ++ [f] := by rw [List.take_succ, hf]; rfl
      have e26 : Same H2 H6 := but_sm (Same.trans e25 e5) nR bt5
      have hown6 := hown.same e26
      clear hown e25 e24
      walk_at "hs"
      refine u__law_due_moments hown6 ok (gs_ok g gm) (fs_ok f fm) ?_
      intro p H7 e7 h7 _
      walk_at "hs"
      rename_i T H8 n8 e8 h8
      have e68 := Same.trans e7 e8
      have hR8 := e68 _ _ hk6
      refine w_setT (k := [.inr g, .inr f]) hR8 h8 (by omega) ?_
      refine ⟨_, rfl, but_up (but_andS bt5 e68), _, upd_same, ?_, ?_, ?_⟩
      · have := putK_le kvs6 [.inr g, .inr f] (.ref p)
        omega
      · exact fun g' hg' f' hf' => RowOk.put (kvs' := kvs6) hR8 ((hrow1 g' hg' f' hf').same e68) (e8 _ _ h7)
      · intro f' hf'
        rw [ft] at hf'
        rcases List.mem_append.mp hf' with hf' | hf'
        · exact RowOk.put (kvs' := kvs6) hR8 ((hrow2 f' hf').same e68) (e8 _ _ h7)
        · rw [List.mem_singleton.mp hf']
          exact RowOk.new hR8 (e8 _ _ h7)
    · rintro σ H6 ⟨u14, rfl, bt5, kvs6, hk6, kl6, hrow1, hrow2⟩
      refine ⟨_, _, rfl, fun x u n h => bt5 x u n (e5 _ _ (bt x u n h)), kvs6, hk6, by have : (fs3.map V.str).length = 3 := rfl; omega, ?_⟩
      intro g' hg'
      rw [gt] at hg'
      rcases List.mem_append.mp hg' with hg' | hg'
      · exact hrow1 g' hg'
      · rw [List.mem_singleton.mp hg']
        exact hrow2
  · rintro σ H' ⟨u13, u14, rfl, bt, kvs, hk, kl, hrow⟩
    exact q _ _ H' kvs (but_sm e24 nR bt) hk hrow
end My
set_option linter.all false
set_option maxRecDepth 100000
set_option maxHeartbeats 4000000
namespace My
open PySem PySem.Spec PyProof.Rows L2 Kx
local macro_rules | `(tactic| walk_at "lk") => `(tactic| first | assumption | ((with_reducible show upd _ _ _ _ = _); (first | exact upd_same | (exact up_new (by assumption) (by walk_at "lk")) | (exact up_other (by assumption) (by walk_at "lk")))) | (exact (by assumption : Same _ _) _ _ (by walk_at "lk")) | (exact ks_get (by assumption) (by walk_at "lk") (by first | rfl | assumption | exact notBox_len rfl)))
local macro_rules | `(tactic| walk_at "sl") => `(tactic| first | assumption | (exact l_of (by walk_at "lk")) | (exact Same.seq (by assumption) (by walk_at "sl")) | ((with_reducible show SqL _ (upd _ _ _) _ _); (exact Same.seq (sm_new (by assumption)) (by walk_at "sl"))))
local macro_rules | `(tactic| walk_at "st") => `(tactic| first | assumption | (exact t_of (by walk_at "lk")) | (exact Kx.Same.tup (by assumption) (by walk_at "st")) | ((with_reducible show SqT _ (upd _ _ _) _ _); (exact Kx.Same.tup (sm_new (by assumption)) (by walk_at "st"))) | (exact ks_tup (by assumption) (by walk_at "st")))
local macro_rules | `(tactic| walk_at "kd") => `(tactic| first | assumption | exact .non | exact .bl _ | exact .int _ | exact .str _ | (exact .lst (by walk_at "sl")) | (exact .tup (by walk_at "st")) | (exact .dic (by walk_at "lk")) | (exact Kd.same (by assumption) (by walk_at "kd")) | ((with_reducible show Kd _ (upd _ _ _) _ _); (exact Kd.same (sm_new (by assumption)) (by walk_at "kd"))))
local macro_rules | `(tactic| walk_at "tt") => `(tactic| first | rfl | assumption | decide +kernel | (simp only [decide_eq_true_eq, Bool.not_eq_true', decide_eq_false_iff_not, Bool.and_eq_true, Bool.or_eq_true]; omega))
local macro_rules | `(tactic| walk_at "ff") => `(tactic| first | rfl | assumption | decide +kernel | (simp only [decide_eq_true_eq, Bool.not_eq_false', decide_eq_false_iff_not, Bool.and_eq_false_imp, Bool.or_eq_false_iff]; omega))
local macro_rules | `(tactic| walk_at "hc") => `(tactic| fail)
local macro_rules | `(tactic| walk_at "hif") => `(tactic| ((with_reducible refine w_b2 ?_ ?_) <;> intro))
local macro_rules | `(tactic| walk_at "hs1") => `(tactic| first
  | (with_reducible refine w_seq ?_)
  | (with_reducible refine w_asg ?_)
  | ((with_reducible refine' w_var ?k1 ?_); (case k1 => exact rfl))
  | (with_reducible refine w_c ?_)
  | (with_reducible refine w_op ?_)
  | (with_reducible refine w_cons ?_)
  | (with_reducible refine w_nil ?_)
  | (with_reducible refine w_name ?_)
  | (with_reducible refine w_kn ?_)
  | (with_reducible refine w_kx ?_)
  | (with_reducible refine w_kk ?_)
  | (with_reducible refine w_cb ?_)
  | (with_reducible refine w_if ?_)
  | (with_reducible refine w_test ?_)
  | (with_reducible refine w_exb ?_)
  | (with_reducible refine iteT ?_)
  | (with_reducible refine iteF ?_)
  | ((with_reducible refine w_bt ?_ ?_); (first | rfl | decide +kernel))
  | ((with_reducible refine w_bf ?_ ?_); (first | rfl | decide +kernel))
  | ((with_reducible refine w_bt ?_ ?_); (walk_at "tt"))
  | ((with_reducible refine w_bf ?_ ?_); (walk_at "ff"))
  | (with_reducible refine w_ret ?_)
  | (with_reducible refine w_retN ?_)
  | (with_reducible refine w_drop ?_)
  | (with_reducible refine w_next ?_)
  | (with_reducible refine w_brk ?_)
  | (with_reducible refine w_cont ?_)
  | (with_reducible refine w_and ?_)
  | (with_reducible refine w_or ?_)
  | (with_reducible refine w_not ?_)
  | (with_reducible refine w_tr ?_)
  | (with_reducible refine w_yes ?_)
  | (with_reducible refine w_tru_bl ?_)
  | (with_reducible refine w_tru_int ?_)
  | (with_reducible refine w_tru_non ?_)
  | (with_reducible refine w_andV ?_)
  | (with_reducible refine w_orV ?_)
  | (with_reducible refine w_notV ?_)
  | (with_reducible refine w_ifx ?_)
  | (with_reducible refine w_chain ?_)
  | (with_reducible refine w_un ?_)
  | (with_reducible refine n_tup ?_)
  | (with_reducible refine n_lst ?_)
  | ((with_reducible show kTup _ _ _); (refine n_ktup rfl ?_); intro _ _ _ _ _)
  | ((with_reducible show kLst _ _ _); (refine n_klst rfl ?_); intro _ _ _ _ _)
  | (with_reducible refine w_par ?_)
  | (with_reducible refine w_par2 ?_)
  | (with_reducible refine w_par3 ?_)
  | (with_reducible refine w_par33 ?_)
  | ((with_reducible refine' w_aug ?k1 ?_); (case k1 => exact rfl))
  | (with_reducible refine w_raise ?_)
  | (with_reducible refine w_mkdue ?_)
  | (with_reducible refine w_one ?_)
  | ((with_reducible show gSq _ _ _ (V.ref _) _ _ _); (first | (refine n_gsq (by walk_at "lk") (by exact rfl) (by exact rfl) ?_) | (refine w_gtup (by walk_at "st") (by exact rfl) ?_) | (refine w_glst (by walk_at "sl") (by exact rfl) ?_)))
  | (with_reducible refine w_gcons ?_)
  | (with_reducible refine w_gnil ?_)
  | (with_reducible refine w_bm ?_)
  | ((with_reducible show tyV _ "list" (V.ref _) _ ∧ _); (refine w_tyl (by walk_at "sl") ?_))
  | (with_reducible refine w_for ?_)
  | (with_reducible refine w_rng1 ?_)
  | (with_reducible refine w_rng2 ?_)
  | (with_reducible refine w_add_ii ?_)
  | (with_reducible refine w_sub_ii ?_)
  | ((with_reducible refine w_fdv_ii ?_ ?_ ?_); (first | decide | omega); (first | decide | omega))
  | ((with_reducible refine w_mul_b ?_ ?_ ?_); (refine ⟨?_, ?_⟩ <;> omega); (refine ⟨?_, ?_⟩ <;> omega))
  | ((with_reducible refine w_mod_ii ?_ ?_); (first | decide | omega))
  | (with_reducible refine w_neg_i ?_)
  | (with_reducible refine w_lt_ii ?_)
  | (with_reducible refine w_le_ii ?_)
  | (with_reducible refine w_gt_ii ?_)
  | (with_reducible refine w_ge_ii ?_)
  | (with_reducible refine w_eq_ii ?_)
  | (with_reducible refine w_ne_ii ?_)
  | (with_reducible refine n_eq_same ?_)
  | (with_reducible refine n_ne_same ?_)
  | (with_reducible refine w_eq_ss ?_)
  | (with_reducible refine w_ne_ss ?_)
  | (with_reducible refine w_eq_bb ?_)
  | (with_reducible refine w_ne_bb ?_)
  | (with_reducible refine w_is_n ?_)
  | (with_reducible refine w_isn_n ?_)
  | (with_reducible refine w_is_bb ?_)
  | (with_reducible refine w_isn_bb ?_)
  | ((with_reducible show rIx _ (V.ref _) (V.int _) _ _); (first | (refine n_ix (by decide) (by walk_at "lk") (by exact rfl) ?_) | (refine n_ixl (by decide) (by walk_at "sl") (by exact rfl) ?_) | (refine n_ixt (by decide) (by walk_at "st") (by exact rfl) ?_)))
  | (with_reducible refine w_ipadd ?_)
  | (with_reducible refine w_ipsub ?_)
  | (with_reducible refine w_int_i ?_)
  | (with_reducible refine w_int_b ?_)
  | (with_reducible refine w_abs ?_)
  | ((with_reducible refine w_max2r ?_); intro _ _ _ _)
  | ((with_reducible refine w_min2r ?_); intro _ _ _ _)
  | ((with_reducible show uLen _ [V.ref _] _ _); (first | (refine n_len (by walk_at "lk") (by exact rfl) ?_) | (refine w_len_l (by walk_at "sl") ?_) | (refine w_len_t (by walk_at "st") ?_) | (refine w_len_d (by walk_at "lk") ?_)))
  | ((with_reducible show uIsi _ [_, V.ty _] _ _); (refine w_isk (by walk_at "kd") (by decide) ?_))
  | ((with_reducible show uIsi _ [_, V.ref (He.ga _ _)] _ _); (first | (refine w_isC_t (by assumption) (by walk_at "lk") ?_) | (refine w_isC_f (by assumption) (by walk_at "kd") ?_)))
  | ((with_reducible show uIsi _ [_, V.ref _] _ _); (refine w_isk2 (by walk_at "lk") (by walk_at "kd") (by decide) (by decide) ?_))
  | (with_reducible refine w_wN ?_)
  | (with_reducible refine w_lc ?_)
  | ((with_reducible refine' w_rng2e ?k1 ?_); (case k1 => (refine ⟨?_, ?_, ?_, ?_⟩ <;> omega)))
  | ((with_reducible refine' w_rng1e ?k1 ?k2 ?_); (case k1 => omega); (case k2 => omega))
  | ((with_reducible show ∃ a', V.ref _ = .ref a' ∧ (∃ xs, SqL _ _ a' xs) ∧ _); (refine w_sqLe (by walk_at "sl") ?_))
  | ((with_reducible show ∃ a', V.ref _ = .ref a' ∧ (∃ xs, SqT _ _ a' xs) ∧ _); (refine w_sqTe (by walk_at "st") ?_))
  | (with_reducible refine w_slc ?_)
  | (with_reducible refine w_nop ?_)
  | (with_reducible refine w_part ?_)
  | (with_reducible refine w_exi ?_)
  | ((with_reducible show uSl _ (V.ref _) _ _ _ _); (refine n_slL (by walk_at "sl") ?_); intro _ _ _ _ _)
  | (with_reducible refine w_gsub ?_)
  | ((with_reducible show rSetL (V.ref _) (V.int _) _ _ _); (refine w_setl (by walk_at "lk") (by exact rfl) ?_))
  | (with_reducible refine w_pow_9 ?_)
  | (with_reducible refine w_pow_12 ?_)
  | (with_reducible refine w_pow_13 ?_)
  | (with_reducible refine w_pow_18 ?_)
  | (with_reducible refine w_pow_29 ?_)
  | ((with_reducible refine n_disp1 ?_); intro _ _ _ _ _)
  | (with_reducible refine w_dput ?_)
  | ((with_reducible show rAppend (V.ref _) [_] _ _); (refine w_append (by walk_at "lk") (by first | omega | (exact Nat.lt_of_le_of_lt (wN_le rfl) (by decide))) ?_))
  | ((with_reducible show ∃ a' H4, V.ref _ = .ref a' ∧ DPut _ a' (V.str _) _ H4 ∧ _); (refine w_dputS (by walk_at "lk") (by first | omega | exact wN_le rfl) ?_))
  | (with_reducible refine w_try ?_)
  | ((with_reducible show wManyA _ _ _ _ (.ref (He.ga _ _)) _ _ _); (first | ((refine w_hit (ExT.ex (by assumption) _ (by decide) _ (by decide)) ?_); intro _ _) | (refine w_miss (ExT.ex (by assumption) _ (by decide) _ (by decide)) ?_)))
  | (with_reducible refine w_xg ?_)
  | ((with_reducible show V.ref _ = .ref _ ∧ ∃ _ _ _ _, Value.ref (He.ga _ _) = _ ∧ _); (refine w_xge (ExT.xf (by assumption) _ (by decide)) (ExT.fg (by assumption) _ (by decide)) (by walk_at "lk") ?_))
  | ((with_reducible show rIsX _ (.ref (He.ga _ _)) _ _ _ _ _); (refine w_isx (ExT.xx (by assumption) _ (by decide)) (ExT.kd (by assumption) _ (by decide)) (by walk_at "lk") ?_))
  | ((with_reducible show uAdd _ (V.ref _) (V.ref _) _ _); (refine n_add_ll (by walk_at "lk") (by walk_at "lk") rfl ?_); intro _ _ _ _ _)
  | ((with_reducible show iSeq _ (tLst _) _ _ _); (refine w_sqL ?_))
  | ((with_reducible show iSeq _ (tTup _) _ _ _); (refine w_sqT ?_))
  | (refine ⟨(rfl : wipe _ _ = wipe _ _), ?_⟩)
  | (with_reducible refine w_tryB ?_)
  | ((with_reducible show L2.wManyB _ _ _ _ (.ref (He.ga _ _)) _ _ _); (first | ((refine w_hitB (by assumption) (by decide) (by decide) (by decide) ?_); intro _ _) | (refine w_missB (by assumption) (by decide) (by decide) (by decide) ?_)))
  | ((with_reducible show uIx _ (V.ref _) (V.int _) _ _); (refine w_ixX ?_))
  | ((with_reducible show uIx _ (V.ref _) (V.ref _) _ _); (refine w_ixT (by walk_at "lk") (by walk_at "lk") (by exact rfl) ?_))
  | ((with_reducible show uIx _ (V.ref _) (V.str _) _ _); (refine w_ixK (by walk_at "lk") (.inr _) (by exact rfl) ?_))
  | ((with_reducible show uInX _ _ (V.ref _) _ _); (refine w_inX (w_in_f (by first | exact .inl (by walk_at "sl") | exact .inr (by walk_at "st")) rfl rfl ?_)))
  | ((with_reducible show uNinX _ _ (V.ref _) _ _); (refine w_ninX (w_nin_f (by first | exact .inl (by walk_at "sl") | exact .inr (by walk_at "st")) rfl rfl ?_)))
  | ((with_reducible show rSetX (V.ref _) (V.int _) _ _ _); (refine w_setX ?_))
  | (with_reducible refine w_km ?_)
  | (with_reducible refine w_kmk ?_)
  | ((with_reducible show ∃ _ _ _, V.ref _ = V.ref _ ∧ _ = some (HO.ins _ _ _) ∧ List.lookup _ _ = none ∧ _); (refine w_kme (by walk_at "lk") (by exact rfl) ?_))
  | (with_reducible refine w_kc ?_)
  | (with_reducible refine w_kck ?_)
  | ((with_reducible show kMade _ _ _ _ _ _); (refine w_kmade ?_); intro _ _ _ _ _ _ _ _ _)
  | (with_reducible refine w_fld ?_)
  | ((with_reducible show ∃ _ _ _ _ _, V.ref _ = V.ref _ ∧ _ = some (HO.ins _ _ _) ∧ Cls _ _ ∧ NoAttr _ _ _ ∧ _ ∧ _); (refine' w_flde ?k1 ?k2 ?k3 ?k4 ?_; (case k3 => walk_at "lk"); (case k1 => exact CF.cls (by assumption)); (case k2 => exact CF.na (by assumption) _ (by decide)); (case k4 => exact rfl)))
  | (with_reducible refine w_sfld ?_)
  | ((with_reducible show ∃ _ _ _ _, V.ref _ = V.ref _ ∧ _ = some (HO.ins _ _ _) ∧ Cls _ _ ∧ NoAttr _ _ _ ∧ _ ∧ _); (refine' w_sflde ?k1 ?k2 ?k3 ?k4 ?_; (case k3 => walk_at "lk"); (case k1 => exact CF.cls (by assumption)); (case k2 => exact CF.na (by assumption) _ (by decide)); (case k4 => exact rfl); intro _ _ _))
  | ((with_reducible show uIsi _ [_, V.ref (He.ga _ _)] _ _); (first | (refine w_isC_t (by assumption) (by walk_at "lk") ?_) | (refine w_isC_f (by assumption) (by walk_at "kd") ?_)))
  | (walk_at "hc"))
local macro_rules | `(tactic| walk_at "hs") => `(tactic| repeat' (walk_at "hs1"))

local macro_rules | `(tactic| walk_at "rg") => `(tactic| repeat' (first | exact rg_nil | (refine rg_cons (by omega) (by omega) ?_)))
local macro_rules | `(tactic| walk_at "sm") => `(tactic| first | exact Same.refl _ | assumption | ((with_reducible show Same _ (upd _ _ _)); (refine Same.trans ?_ (sm_new (by assumption))); walk_at "sm") | ((refine Same.trans ?_ (by assumption)); walk_at "sm"))
local macro_rules | `(tactic| walk_at "bx") => `(tactic| first | assumption | ((with_reducible show BoxAt (upd _ _ _) _ _); (exact BoxAt.new (by assumption) (by walk_at "bx"))) | (exact BoxAt.same (by assumption) (by walk_at "bx")))
local macro_rules | `(tactic| walk_at "ks") => `(tactic| first | exact Ks.refl _ | assumption | ((with_reducible show Ks _ (upd _ _ _)); (refine Ks.trans ?_ (Ks.of (sm_new (by assumption))); walk_at "ks")) | (refine Ks.trans ?_ (by assumption); walk_at "ks") | (refine Ks.trans ?_ (Ks.of (by assumption)); walk_at "ks"))
local macro_rules | `(tactic| walk_at "ob") => `(tactic| first | assumption | exact .sc rfl | (exact Ob.same (by assumption) (by walk_at "ob")) | (exact Ob.ks (by assumption) (by walk_at "ob")))
local macro_rules | `(tactic| walk_at "nd") => `(tactic| first | assumption | (exact Nd.same (by assumption) (by walk_at "nd")) | (exact Nd.ks (by assumption) (by walk_at "nd")))
local macro_rules | `(tactic| walk_at "df") => `(tactic| first | assumption | exact df_sc rfl | (exact df_vr (by assumption) (by walk_at "lk")) | (exact df_rv (by assumption) (by walk_at "ob")) | (exact df_vv (by assumption) (by walk_at "ob")) | (exact Df.symm (df_vv (by assumption) (by walk_at "ob"))))
local macro_rules | `(tactic| walk_at "hc") => `(tactic| (with_reducible show sp_is_whole _ _ _ _ _); (refine u_is_whole (by walk_at "kd") ?_))
local macro_rules | `(tactic| walk_at "hc") => `(tactic| (with_reducible show sp_is_between _ _ _ _ _); (refine u_is_between (by walk_at "kd") ?_))
local macro_rules | `(tactic| walk_at "hc") => `(tactic| (with_reducible show sp_is_list _ _ _ _ _); (refine u_is_list (by walk_at "sl") ?_); intro _ _)
local macro_rules | `(tactic| walk_at "hc") => `(tactic| (with_reducible show sp_is_time _ _ _ _ _); (refine u_is_time (by walk_at "kd") ?_))
local macro_rules | `(tactic| walk_at "hc") => `(tactic| (with_reducible show sp_is_offset _ _ _ _ _); (refine u_is_offset (by walk_at "kd") ?_))
local macro_rules | `(tactic| walk_at "hc") => `(tactic| (with_reducible show sp__law_take _ _ _ _ _); (refine u__law_take (by walk_at "bx") (by omega) (by omega) (by omega) ?_); intro _ _ _ _ _ _)
variable {K : PySem.W.Frag}
theorem RnT.mget (K : PySem.W.Frag) {α : Type} {H : Hp} {vs : List V} {f : α → List V} {xs : List α} {i : Nat} {v : V} (h : RnT H vs (xs.map f)) (e : vs[i]? = some v) : ∃ x t, xs[i]? = some x ∧ v = .ref t ∧ H t = some (.tup (f x)) := by
  obtain ⟨x, hx, t, rfl, _⟩ := RnT.map_get (K := K) h.rw e
  obtain ⟨t', h1, h2⟩ := RnT.get2 h (i := i) (l := f x) (by rw [List.getElem?_map, hx]; rfl)
  rw [e] at h1
  cases h1
  exact ⟨x, t, hx, rfl, h2⟩
theorem u_ask_told {H : Hp} {Q : VK} {E : XK} {nm : Bool} {c : Addr} {o t : Int} {cs : List (Int × Int)} {g f : Str} (hca : ClockAt K H c o cs) (ok : ClkOk o cs) (t0 : 0 ≤ t) (t1 : t ≤ TOP) (hg : gapOk (.str g) = true) (hf : foldOk (.str f) = true)
    (q : ∀ p l H', Same H H' → H p = none → H' p = some (.lst ((dueM o cs t g f).map V.int)) → H' l = some (.lst [.str "told", .ref p]) → Q (.ref l) H') : sp__law_asked K [.bl nm, .ref c, .int t, .str g, .str f] H Q E := by
  have b1 : betw (.int t) 0 TOP = true := betw_t t0 t1
  exact ⟨nm, _, _, _, _, _, _, _, rfl, .int t, .str g, .str f, .inl ⟨c, o, cs, rfl, hca, ok, fun i' s' z' e1 e2 e3 _ _ _ => (by cases e1; cases e2; cases e3; exact q), fun z => (by rw [b1] at z; cases z), fun _ z => (by rw [hg] at z; cases z), fun _ _ z => (by rw [hf] at z; cases z)⟩⟩
theorem okE_told {w : Str} {ns : List Int} (hw : w.length ≤ 100000) (h : ns.length ≤ 100000) : okE 8 (.list [.str w, .list (ns.map PyData.int)]) := by
  have := okE_ints (n := 6) h
  simp only [okE, okAllE] at this ⊢
  exact ⟨7, rfl, by simp, hw, this, True.intro⟩
abbrev tAskLoop (K : PySem.W.Frag) : TS := tFor (iSeq K (tLst (tCons (tTup (tCons (tVar 13) (tCons (tVar 14) tNil))) (tCons (tTup (tCons (tC (.str "skip")) (tCons (tC (.str "both")) tNil))) (tCons (tTup (tCons (tC (.str "after")) (tCons (tC (.str "first")) tNil))) tNil))))) (gName 15) (tSeq (tAsg (tKn (sp__law_asked K) (tCons (tVar 9) (tCons (tVar 2) (tCons (tVar 11) (tCons (tOp (uIx K) (tVar 15) (tC (.int 0))) (tCons (tOp (uIx K) (tVar 15) (tC (.int 1))) tNil)))))) (gName 16))
    (tSeq (tIfS (tNot (tTr K (tKn (sp_sameS K) (tCons (tVar 16) (tCons (tLst (tCons (tC (.str "told")) (tCons (tOp (uIx K) (tVar 12) (tVar 15)) tNil))) tNil))))) (tRet (tC (.bl false))) tNext)
    (tDrop (tBM K "list" rAppend (tOp (uIx K) (tVar 16) (tC (.int 1))) (tCons (tC .non) tNil)))))
theorem w_asks {D : Ends} {H3 : Hp} {c R : Addr} {o t : Int} {cs : List (Int × Int)} {nm : Bool} {g f : Str} {kvs : List (List Key × V)} {s0 s1 s3 s4 s5 s6 s7 s8 s10 s15 s16 s17 s18 s19 s20 : Option V} (hca : ClockAt K H3 c o cs) (ok : ClkOk o cs) (t0 : 0 ≤ t) (t1 : t ≤ TOP) (hR : H3 R = some (.dT kvs))
    (hrow : ∀ g ∈ gs2, ∀ f ∈ fs3, RowOk H3 kvs o cs t g f) (gm : g ∈ gs2) (fm : f ∈ fs3)
    (q : ∀ s15 s16 H', Same H3 H' → D.nx [s0, s1, some (.ref c), s3, s4, s5, s6, s7, s8, some (.bl nm), s10, some (.int t), some (.ref R), some (.str g), some (.str f), s15, s16, s17, s18, s19, s20] H') :
    tAskLoop K D [s0, s1, some (.ref c), s3, s4, s5, s6, s7, s8, some (.bl nm), s10, some (.int t), some (.ref R), some (.str g), some (.str f), s15, s16, s17, s18, s19, s20] H3 := by
  refine w_for ?_
  refine w_sqL ?_
  walk_at "hs"
  rename_i T1 G1 n1 e1 h1 T2 G2 n2 e2 h2 T3 G3 n3 e3 h3 L H4 n4 e4 h4
  have e34 : Same H3 H4 := Same.trans e1 (Same.trans e2 (Same.trans e3 e4))
  have rn : RnT H4 [.ref T1, .ref T2, .ref T3] (([(g, f), ("skip", "both"), ("after", "first")] : List (Str × Str)).map fun p => [.str p.1, .str p.2]) :=
    .cons (e4 _ _ (e3 _ _ (e2 _ _ h1))) (.cons (e4 _ _ (e3 _ _ h2)) (.cons (e4 _ _ h3) .nil))
  have mem : ∀ p ∈ ([(g, f), ("skip", "both"), ("after", "first")] : List (Str × Str)), p.1 ∈ gs2 ∧ p.2 ∈ fs3 := by
    intro p hp
    simp only [List.mem_cons, List.not_mem_nil, or_false] at hp
    rcases hp with rfl | rfl | rfl
    · exact ⟨gm, fm⟩
    · exact ⟨by decide, by decide⟩
    · exact ⟨by decide, by decide⟩
  have hca4 := hca.same e34
  have hR4 := e34 _ _ hR
  have hrow4 : ∀ g ∈ gs2, ∀ f ∈ fs3, RowOk H4 kvs o cs t g f := fun g hg f hf => (hrow g hg f hf).same e34
  clear e1 h1 n1 e2 h2 n2 e3 h3 n3 e4 n4 hca hR hrow
  refine for_list (xs := [.ref T1, .ref T2, .ref T3]) (fun i σ H' => ∃ s15 s16, σ = [s0, s1, some (.ref c), s3, s4, s5, s6, s7, s8, some (.bl nm), s10, some (.int t), some (.ref R), some (.str g), some (.str f), s15, s16, s17, s18, s19, s20] ∧ Same H4 H')
    ⟨_, _, rfl, Same.refl _⟩ (fun _ _ _ _ ⟨_, _, _, e⟩ => l_of (e _ _ h4)) ?_ ?_
  · rintro i x σ H' hx ⟨u15, u16, rfl, e⟩
    obtain ⟨p, T, hp, rfl, hT⟩ := RnT.mget K (rn.same e) hx
    obtain ⟨p1, p2⟩ := p
    obtain ⟨m1, m2⟩ := mem _ (List.mem_of_getElem? hp)
    have m1 : p1 ∈ gs2 := m1
    have m2 : p2 ∈ fs3 := m2
    have hT : H' T = some (.tup [.str p1, .str p2]) := hT
    obtain ⟨pr, hv, hpr⟩ := (hrow4 _ m1 _ m2).same e
    have hR' := e _ _ hR4
    have hca' := hca4.same e
    have dl := dueM_len (t := t) (g := p1) (f := p2) ok
    clear hx hp rn mem h4 hca4 hR4 hrow4 e34
    obtain ⟨es, hes⟩ : ∃ P, P = Same H4 H' := ⟨_, rfl⟩
    rw [← hes] at e
    walk_at "hs"
    refine u_ask_told hca' ok t0 t1 (gs_ok _ m1) (fs_ok _ m2) ?_
    intro pp l H5 e5 np hpp hll
    walk_at "hs"
    refine w_ixT (k := [.inr p1, .inr p2]) (e5 _ _ hR') (e5 _ _ hT) hv ?_
    walk_at "hs"
    rename_i l2 H6 n6 e6 h6
    have hpp6 := e6 _ _ hpp
    have hll6 := e6 _ _ hll
    refine u__law_same (d := .list [.str "told", .list ((dueM o cs t p1 p2).map PyData.int)]) (.lst (l_of hll6) (.cons (.str _) (.cons (.lst (l_of hpp6) (dp_ints _)) .nil))) (.lst (l_of h6) (.cons (.str _) (.cons (.lst (l_of (e6 _ _ (e5 _ _ hpr))) (dp_ints _)) .nil))) (okE_told (by decide) (by omega)) fun H7 e7 => ?_
    have hpp7 := e7 _ _ hpp6
    have hll7 := e7 _ _ hll6
    have hln : (List.map V.int (dueM o cs t p1 p2)).length < 1000000 := by rw [List.length_map]; omega
    have e47 : Same H4 H7 := by
      rw [hes] at e
      exact Same.trans e (Same.trans e5 (Same.trans e6 e7))
    have np4 : H4 pp = none := by
      rw [hes] at e
      exact fr_of e np
    obtain ⟨et, het⟩ : ∃ P, P = Same H4 H7 := ⟨_, rfl⟩
    rw [← het] at e47
    walk_at "hs"
    rw [het] at e47
    exact ⟨_, _, rfl, sm_mut e47 np4⟩
  · rintro σ H' ⟨u15, u16, rfl, e⟩
    exact q _ _ H' (Same.trans e34 e)
end My
set_option linter.all false
set_option maxRecDepth 100000
set_option maxHeartbeats 4000000
namespace My
open PySem PySem.Spec PyProof.Rows L2 Kx
local macro_rules | `(tactic| walk_at "lk") => `(tactic| first | assumption | ((with_reducible show upd _ _ _ _ = _); (first | exact upd_same | (exact up_new (by assumption) (by walk_at "lk")) | (exact up_other (by assumption) (by walk_at "lk")))) | (exact (by assumption : Same _ _) _ _ (by walk_at "lk")) | (exact ks_get (by assumption) (by walk_at "lk") (by first | rfl | assumption | exact notBox_len rfl)))
local macro_rules | `(tactic| walk_at "sl") => `(tactic| first | assumption | (exact l_of (by walk_at "lk")) | (exact Same.seq (by assumption) (by walk_at "sl")) | ((with_reducible show SqL _ (upd _ _ _) _ _); (exact Same.seq (sm_new (by assumption)) (by walk_at "sl"))))
local macro_rules | `(tactic| walk_at "st") => `(tactic| first | assumption | (exact t_of (by walk_at "lk")) | (exact Kx.Same.tup (by assumption) (by walk_at "st")) | ((with_reducible show SqT _ (upd _ _ _) _ _); (exact Kx.Same.tup (sm_new (by assumption)) (by walk_at "st"))) | (exact ks_tup (by assumption) (by walk_at "st")))
local macro_rules | `(tactic| walk_at "kd") => `(tactic| first | assumption | exact .non | exact .bl _ | exact .int _ | exact .str _ | (exact .lst (by walk_at "sl")) | (exact .tup (by walk_at "st")) | (exact .dic (by walk_at "lk")) | (exact Kd.same (by assumption) (by walk_at "kd")) | ((with_reducible show Kd _ (upd _ _ _) _ _); (exact Kd.same (sm_new (by assumption)) (by walk_at "kd"))))
local macro_rules | `(tactic| walk_at "tt") => `(tactic| first | rfl | assumption | decide +kernel | (simp only [decide_eq_true_eq, Bool.not_eq_true', decide_eq_false_iff_not, Bool.and_eq_true, Bool.or_eq_true]; omega))
local macro_rules | `(tactic| walk_at "ff") => `(tactic| first | rfl | assumption | decide +kernel | (simp only [decide_eq_true_eq, Bool.not_eq_false', decide_eq_false_iff_not, Bool.and_eq_false_imp, Bool.or_eq_false_iff]; omega))
local macro_rules | `(tactic| walk_at "hc") => `(tactic| fail)
local macro_rules | `(tactic| walk_at "hif") => `(tactic| ((with_reducible refine w_b2 ?_ ?_) <;> intro))
local macro_rules | `(tactic| walk_at "hs1") => `(tactic| first
  | (with_reducible refine w_seq ?_)
  | (with_reducible refine w_asg ?_)
  | ((with_reducible refine' w_var ?k1 ?_); (case k1 => exact rfl))
  | (with_reducible refine w_c ?_)
  | (with_reducible refine w_op ?_)
  | (with_reducible refine w_cons ?_)
  | (with_reducible refine w_nil ?_)
  | (with_reducible refine w_name ?_)
  | (with_reducible refine w_kn ?_)
  | (with_reducible refine w_kx ?_)
  | (with_reducible refine w_kk ?_)
  | (with_reducible refine w_cb ?_)
  | (with_reducible refine w_if ?_)
  | (with_reducible refine w_test ?_)
  | (with_reducible refine w_exb ?_)
  | (with_reducible refine iteT ?_)
  | (with_reducible refine iteF ?_)
  | ((with_reducible refine w_bt ?_ ?_); (first | rfl | decide +kernel))
  | ((with_reducible refine w_bf ?_ ?_); (first | rfl | decide +kernel))
  | ((with_reducible refine w_bt ?_ ?_); (walk_at "tt"))
  | ((with_reducible refine w_bf ?_ ?_); (walk_at "ff"))
  | (with_reducible refine w_ret ?_)
  | (with_reducible refine w_retN ?_)
  | (with_reducible refine w_drop ?_)
  | (with_reducible refine w_next ?_)
  | (with_reducible refine w_brk ?_)
  | (with_reducible refine w_cont ?_)
  | (with_reducible refine w_and ?_)
  | (with_reducible refine w_or ?_)
  | (with_reducible refine w_not ?_)
  | (with_reducible refine w_tr ?_)
  | (with_reducible refine w_yes ?_)
  | (with_reducible refine w_tru_bl ?_)
  | (with_reducible refine w_tru_int ?_)
  | (with_reducible refine w_tru_non ?_)
  | (with_reducible refine w_andV ?_)
  | (with_reducible refine w_orV ?_)
  | (with_reducible refine w_notV ?_)
  | (with_reducible refine w_ifx ?_)
  | (with_reducible refine w_chain ?_)
  | (with_reducible refine w_un ?_)
  | (with_reducible refine n_tup ?_)
  | (with_reducible refine n_lst ?_)
  | ((with_reducible show kTup _ _ _); (refine n_ktup rfl ?_); intro _ _ _ _ _)
  | ((with_reducible show kLst _ _ _); (refine n_klst rfl ?_); intro _ _ _ _ _)
  | (with_reducible refine w_par ?_)
  | (with_reducible refine w_par2 ?_)
  | (with_reducible refine w_par3 ?_)
  | (with_reducible refine w_par33 ?_)
  | ((with_reducible refine' w_aug ?k1 ?_); (case k1 => exact rfl))
  | (with_reducible refine w_raise ?_)
  | (with_reducible refine w_mkdue ?_)
  | (with_reducible refine w_one ?_)
  | ((with_reducible show gSq _ _ _ (V.ref _) _ _ _); (first | (refine n_gsq (by walk_at "lk") (by exact rfl) (by exact rfl) ?_) | (refine w_gtup (by walk_at "st") (by exact rfl) ?_) | (refine w_glst (by walk_at "sl") (by exact rfl) ?_)))
  | (with_reducible refine w_gcons ?_)
  | (with_reducible refine w_gnil ?_)
  | (with_reducible refine w_bm ?_)
  | ((with_reducible show tyV _ "list" (V.ref _) _ ∧ _); (refine w_tyl (by walk_at "sl") ?_))
  | (with_reducible refine w_for ?_)
  | (with_reducible refine w_rng1 ?_)
  | (with_reducible refine w_rng2 ?_)
  | (with_reducible refine w_add_ii ?_)
  | (with_reducible refine w_sub_ii ?_)
  | ((with_reducible refine w_fdv_ii ?_ ?_ ?_); (first | decide | omega); (first | decide | omega))
  | ((with_reducible refine w_mul_b ?_ ?_ ?_); (refine ⟨?_, ?_⟩ <;> omega); (refine ⟨?_, ?_⟩ <;> omega))
  | ((with_reducible refine w_mod_ii ?_ ?_); (first | decide | omega))
  | (with_reducible refine w_neg_i ?_)
  | (with_reducible refine w_lt_ii ?_)
  | (with_reducible refine w_le_ii ?_)
  | (with_reducible refine w_gt_ii ?_)
  | (with_reducible refine w_ge_ii ?_)
  | (with_reducible refine w_eq_ii ?_)
  | (with_reducible refine w_ne_ii ?_)
  | (with_reducible refine n_eq_same ?_)
  | (with_reducible refine n_ne_same ?_)
  | (with_reducible refine w_eq_ss ?_)
  | (with_reducible refine w_ne_ss ?_)
  | (with_reducible refine w_eq_bb ?_)
  | (with_reducible refine w_ne_bb ?_)
  | (with_reducible refine w_is_n ?_)
  | (with_reducible refine w_isn_n ?_)
  | (with_reducible refine w_is_bb ?_)
  | (with_reducible refine w_isn_bb ?_)
  | ((with_reducible show rIx _ (V.ref _) (V.int _) _ _); (first | (refine n_ix (by decide) (by walk_at "lk") (by exact rfl) ?_) | (refine n_ixl (by decide) (by walk_at "sl") (by exact rfl) ?_) | (refine n_ixt (by decide) (by walk_at "st") (by exact rfl) ?_)))
  | (with_reducible refine w_ipadd ?_)
  | (with_reducible refine w_ipsub ?_)
  | (with_reducible refine w_int_i ?_)
  | (with_reducible refine w_int_b ?_)
  | (with_reducible refine w_abs ?_)
  | ((with_reducible refine w_max2r ?_); intro _ _ _ _)
  | ((with_reducible refine w_min2r ?_); intro _ _ _ _)
  | ((with_reducible show uLen _ [V.ref _] _ _); (first | (refine n_len (by walk_at "lk") (by exact rfl) ?_) | (refine w_len_l (by walk_at "sl") ?_) | (refine w_len_t (by walk_at "st") ?_) | (refine w_len_d (by walk_at "lk") ?_)))
  | ((with_reducible show uIsi _ [_, V.ty _] _ _); (refine w_isk (by walk_at "kd") (by decide) ?_))
  | ((with_reducible show uIsi _ [_, V.ref (He.ga _ _)] _ _); (first | (refine w_isC_t (by assumption) (by walk_at "lk") ?_) | (refine w_isC_f (by assumption) (by walk_at "kd") ?_)))
  | ((with_reducible show uIsi _ [_, V.ref _] _ _); (refine w_isk2 (by walk_at "lk") (by walk_at "kd") (by decide) (by decide) ?_))
  | (with_reducible refine w_wN ?_)
  | (with_reducible refine w_lc ?_)
  | ((with_reducible refine' w_rng2e ?k1 ?_); (case k1 => (refine ⟨?_, ?_, ?_, ?_⟩ <;> omega)))
  | ((with_reducible refine' w_rng1e ?k1 ?k2 ?_); (case k1 => omega); (case k2 => omega))
  | ((with_reducible show ∃ a', V.ref _ = .ref a' ∧ (∃ xs, SqL _ _ a' xs) ∧ _); (refine w_sqLe (by walk_at "sl") ?_))
  | ((with_reducible show ∃ a', V.ref _ = .ref a' ∧ (∃ xs, SqT _ _ a' xs) ∧ _); (refine w_sqTe (by walk_at "st") ?_))
  | (with_reducible refine w_slc ?_)
  | (with_reducible refine w_nop ?_)
  | (with_reducible refine w_part ?_)
  | (with_reducible refine w_exi ?_)
  | ((with_reducible show uSl _ (V.ref _) _ _ _ _); (refine n_slL (by walk_at "sl") ?_); intro _ _ _ _ _)
  | (with_reducible refine w_gsub ?_)
  | ((with_reducible show rSetL (V.ref _) (V.int _) _ _ _); (refine w_setl (by walk_at "lk") (by exact rfl) ?_))
  | (with_reducible refine w_pow_9 ?_)
  | (with_reducible refine w_pow_12 ?_)
  | (with_reducible refine w_pow_13 ?_)
  | (with_reducible refine w_pow_18 ?_)
  | (with_reducible refine w_pow_29 ?_)
  | ((with_reducible refine n_disp1 ?_); intro _ _ _ _ _)
  | (with_reducible refine w_dput ?_)
  | ((with_reducible show rAppend (V.ref _) [_] _ _); (refine w_append (by walk_at "lk") (by first | omega | (exact Nat.lt_of_le_of_lt (wN_le rfl) (by decide))) ?_))
  | ((with_reducible show ∃ a' H4, V.ref _ = .ref a' ∧ DPut _ a' (V.str _) _ H4 ∧ _); (refine w_dputS (by walk_at "lk") (by first | omega | exact wN_le rfl) ?_))
  | (with_reducible refine w_try ?_)
  | ((with_reducible show wManyA _ _ _ _ (.ref (He.ga _ _)) _ _ _); (first | ((refine w_hit (ExT.ex (by assumption) _ (by decide) _ (by decide)) ?_); intro _ _) | (refine w_miss (ExT.ex (by assumption) _ (by decide) _ (by decide)) ?_)))
  | (with_reducible refine w_xg ?_)
  | ((with_reducible show V.ref _ = .ref _ ∧ ∃ _ _ _ _, Value.ref (He.ga _ _) = _ ∧ _); (refine w_xge (ExT.xf (by assumption) _ (by decide)) (ExT.fg (by assumption) _ (by decide)) (by walk_at "lk") ?_))
  | ((with_reducible show rIsX _ (.ref (He.ga _ _)) _ _ _ _ _); (refine w_isx (ExT.xx (by assumption) _ (by decide)) (ExT.kd (by assumption) _ (by decide)) (by walk_at "lk") ?_))
  | ((with_reducible show uAdd _ (V.ref _) (V.ref _) _ _); (refine n_add_ll (by walk_at "lk") (by walk_at "lk") rfl ?_); intro _ _ _ _ _)
  | ((with_reducible show iSeq _ (tLst _) _ _ _); (refine w_sqL ?_))
  | ((with_reducible show iSeq _ (tTup _) _ _ _); (refine w_sqT ?_))
  | (refine ⟨(rfl : wipe _ _ = wipe _ _), ?_⟩)
  | (with_reducible refine w_tryB ?_)
  | ((with_reducible show L2.wManyB _ _ _ _ (.ref (He.ga _ _)) _ _ _); (first | ((refine w_hitB (by assumption) (by decide) (by decide) (by decide) ?_); intro _ _) | (refine w_missB (by assumption) (by decide) (by decide) (by decide) ?_)))
  | ((with_reducible show uIx _ (V.ref _) (V.int _) _ _); (refine w_ixX ?_))
  | ((with_reducible show uIx _ (V.ref _) (V.ref _) _ _); (refine w_ixT (by walk_at "lk") (by walk_at "lk") (by exact rfl) ?_))
  | ((with_reducible show uIx _ (V.ref _) (V.str _) _ _); (refine w_ixK (by walk_at "lk") (.inr _) (by exact rfl) ?_))
  | ((with_reducible show uInX _ _ (V.ref _) _ _); (refine w_inX (w_in_f (by first | exact .inl (by walk_at "sl") | exact .inr (by walk_at "st")) rfl rfl ?_)))
  | ((with_reducible show uNinX _ _ (V.ref _) _ _); (refine w_ninX (w_nin_f (by first | exact .inl (by walk_at "sl") | exact .inr (by walk_at "st")) rfl rfl ?_)))
  | ((with_reducible show rSetX (V.ref _) (V.int _) _ _ _); (refine w_setX ?_))
  | (with_reducible refine w_km ?_)
  | (with_reducible refine w_kmk ?_)
  | ((with_reducible show ∃ _ _ _, V.ref _ = V.ref _ ∧ _ = some (HO.ins _ _ _) ∧ List.lookup _ _ = none ∧ _); (refine w_kme (by walk_at "lk") (by exact rfl) ?_))
  | (with_reducible refine w_kc ?_)
  | (with_reducible refine w_kck ?_)
  | ((with_reducible show kMade _ _ _ _ _ _); (refine w_kmade ?_); intro _ _ _ _ _ _ _ _ _)
  | (with_reducible refine w_fld ?_)
  | ((with_reducible show ∃ _ _ _ _ _, V.ref _ = V.ref _ ∧ _ = some (HO.ins _ _ _) ∧ Cls _ _ ∧ NoAttr _ _ _ ∧ _ ∧ _); (refine' w_flde ?k1 ?k2 ?k3 ?k4 ?_; (case k3 => walk_at "lk"); (case k1 => exact CF.cls (by assumption)); (case k2 => exact CF.na (by assumption) _ (by decide)); (case k4 => exact rfl)))
  | (with_reducible refine w_sfld ?_)
  | ((with_reducible show ∃ _ _ _ _, V.ref _ = V.ref _ ∧ _ = some (HO.ins _ _ _) ∧ Cls _ _ ∧ NoAttr _ _ _ ∧ _ ∧ _); (refine' w_sflde ?k1 ?k2 ?k3 ?k4 ?_; (case k3 => walk_at "lk"); (case k1 => exact CF.cls (by assumption)); (case k2 => exact CF.na (by assumption) _ (by decide)); (case k4 => exact rfl); intro _ _ _))
  | ((with_reducible show uIsi _ [_, V.ref (He.ga _ _)] _ _); (first | (refine w_isC_t (by assumption) (by walk_at "lk") ?_) | (refine w_isC_f (by assumption) (by walk_at "kd") ?_)))
  | (walk_at "hc"))
local macro_rules | `(tactic| walk_at "hs") => `(tactic| repeat' (walk_at "hs1"))

local macro_rules | `(tactic| walk_at "rg") => `(tactic| repeat' (first | exact rg_nil | (refine rg_cons (by omega) (by omega) ?_)))
local macro_rules | `(tactic| walk_at "sm") => `(tactic| first | exact Same.refl _ | assumption | ((with_reducible show Same _ (upd _ _ _)); (refine Same.trans ?_ (sm_new (by assumption))); walk_at "sm") | ((refine Same.trans ?_ (by assumption)); walk_at "sm"))
local macro_rules | `(tactic| walk_at "bx") => `(tactic| first | assumption | ((with_reducible show BoxAt (upd _ _ _) _ _); (exact BoxAt.new (by assumption) (by walk_at "bx"))) | (exact BoxAt.same (by assumption) (by walk_at "bx")))
local macro_rules | `(tactic| walk_at "ks") => `(tactic| first | exact Ks.refl _ | assumption | ((with_reducible show Ks _ (upd _ _ _)); (refine Ks.trans ?_ (Ks.of (sm_new (by assumption))); walk_at "ks")) | (refine Ks.trans ?_ (by assumption); walk_at "ks") | (refine Ks.trans ?_ (Ks.of (by assumption)); walk_at "ks"))
local macro_rules | `(tactic| walk_at "ob") => `(tactic| first | assumption | exact .sc rfl | (exact Ob.same (by assumption) (by walk_at "ob")) | (exact Ob.ks (by assumption) (by walk_at "ob")))
local macro_rules | `(tactic| walk_at "nd") => `(tactic| first | assumption | (exact Nd.same (by assumption) (by walk_at "nd")) | (exact Nd.ks (by assumption) (by walk_at "nd")))
local macro_rules | `(tactic| walk_at "df") => `(tactic| first | assumption | exact df_sc rfl | (exact df_vr (by assumption) (by walk_at "lk")) | (exact df_rv (by assumption) (by walk_at "ob")) | (exact df_vv (by assumption) (by walk_at "ob")) | (exact Df.symm (df_vv (by assumption) (by walk_at "ob"))))
local macro_rules | `(tactic| walk_at "hc") => `(tactic| (with_reducible show sp_is_whole _ _ _ _ _); (refine u_is_whole (by walk_at "kd") ?_))
local macro_rules | `(tactic| walk_at "hc") => `(tactic| (with_reducible show sp_is_between _ _ _ _ _); (refine u_is_between (by walk_at "kd") ?_))
local macro_rules | `(tactic| walk_at "hc") => `(tactic| (with_reducible show sp_is_list _ _ _ _ _); (refine u_is_list (by walk_at "sl") ?_); intro _ _)
local macro_rules | `(tactic| walk_at "hc") => `(tactic| (with_reducible show sp_is_time _ _ _ _ _); (refine u_is_time (by walk_at "kd") ?_))
local macro_rules | `(tactic| walk_at "hc") => `(tactic| (with_reducible show sp_is_offset _ _ _ _ _); (refine u_is_offset (by walk_at "kd") ?_))
local macro_rules | `(tactic| walk_at "hc") => `(tactic| (with_reducible show sp__law_take _ _ _ _ _); (refine u__law_take (by walk_at "bx") (by omega) (by omega) (by omega) ?_); intro _ _ _ _ _ _)
variable {K : PySem.W.Frag}
theorem dueM_al {o : Int} {cs : List (Int × Int)} {t : Int} : dueM o cs t "after" "last" = (dueM o cs t "after" "both").drop ((dueM o cs t "after" "both").length - 1) := by
  by_cases h : momL 0 o cs t = []
  · by_cases c : o < t
    · rw [dueM_e1 h rfl c, dueM_e1 h rfl c]; rfl
    · rw [dueM_e2 h (fun z => c z.2), dueM_e2 h (fun z => c z.2)]; rfl
  · rw [dueM_l h (by decide) rfl, dueM_b h (by decide) (by decide)]
theorem dueM_af {o : Int} {cs : List (Int × Int)} {t : Int} : dueM o cs t "after" "first" = (dueM o cs t "after" "both").take 1 := by
  by_cases h : momL 0 o cs t = []
  · by_cases c : o < t
    · rw [dueM_e1 h rfl c, dueM_e1 h rfl c]; rfl
    · rw [dueM_e2 h (fun z => c z.2), dueM_e2 h (fun z => c z.2)]; rfl
  · rw [dueM_f h rfl, dueM_b h (by decide) (by decide)]
theorem dueM_sb {o : Int} {cs : List (Int × Int)} {t : Int} : dueM o cs t "skip" "both" = momL 0 o cs t := by
  by_cases h : momL 0 o cs t = []
  · rw [dueM_e2 h (fun z => absurd z.1 (by decide)), h]
  · rw [dueM_b h (by decide) (by decide)]
theorem dueM_one {o : Int} {cs : List (Int × Int)} {t : Int} (ok : ClkOk o cs) (ht : o ≤ t) : (dueM o cs t "after" "first").length = 1 := by
  by_cases h : momL 0 o cs t = []
  · have : t ≠ o := fun z => by subst z; exact momL_at_o ok h
    rw [dueM_e1 h rfl (by omega)]; rfl
  · rw [dueM_f h rfl, List.length_take]
    have := List.length_pos_iff.mpr h
    omega
theorem w_ne_ints {H : Hp} {Q : VK} {a b : Addr} {ns ms : List Int} (h : H a = some (.lst (ns.map V.int))) (h2 : H b = some (.lst (ms.map V.int))) (e : ns = ms) (q : Q (.bl false) H) : uNe K (.ref a) (.ref b) H Q := by
  subst e
  have s := shp_ints ns
  have c : PyData.canLay0 (.list (ns.map PyData.int)) = true := (Bool.and_eq_true_iff.mp (show (PyData.canLay0 (.list (ns.map PyData.int)) && decide (PyData.depth (.list (ns.map PyData.int)) ≤ 64)) = true from s)).1
  refine w_ne_d (.lst (l_of h) (dp_ints ns)) (.lst (l_of h2) (dp_ints ns)) s s ?_
  rw [SeqAt.eqv_refl _ c]
  exact q
abbrev tRest (K : PySem.W.Frag) (E : XK) : TS := tSeq (tAsg (tNotV (tVar 9)) (gName 9))
    (tSeq (tDrop (tBM K "list" rExtend (tVar 10) (tCons (tKx (sp_due_moments K) (W0 E) (tCons (tVar 2) (tCons (tVar 11) (tCons (tC (.str "skip")) (tCons (tC (.str "both")) tNil))))) tNil)))
    (tSeq (tAsg (tKx (sp_due_moments K) (W0 E) (tCons (tVar 2) (tCons (tVar 11) (tCons (tC (.str "after")) (tCons (tC (.str "both")) tNil))))) (gName 17))
    (tSeq (tIfS (tOr (tTest (tOp (uNe K) (tKx (sp_due_moments K) (W0 E) (tCons (tVar 2) (tCons (tVar 11) (tCons (tC (.str "after")) (tCons (tC (.str "last")) tNil))))) (tSl (uSl K) (tVar 17) (tPart (tUn uNeg (tC (.int 1)))) tNoPart))) (tTest (tOp (uNe K) (tKx (sp_due_moments K) (W0 E) (tCons (tVar 2) (tCons (tVar 11) (tCons (tC (.str "after")) (tCons (tC (.str "first")) tNil))))) (tSl (uSl K) (tVar 17) tNoPart (tPart (tC (.int 1))))))) (tRet (tC (.bl false))) tNext)
    (tIfS (tAnd (tTest (tOp uGe (tVar 11) (tOp (uIx K) (tVar 1) (tC (.int 0))))) (tTest (tOp (uNe K) (tCB (uLen K) (tCons (tKx (sp_due_moments K) (W0 E) (tCons (tVar 2) (tCons (tVar 11) (tCons (tC (.str "after")) (tCons (tC (.str "first")) tNil))))) tNil)) (tC (.int 1))))) (tRet (tC (.bl false))) tNext))))
theorem w_rest {D : Ends} {E : XK} {H0 H3 : Hp} {a b c S : Addr} {o t kb : Int} {cs : List (Int × Int)} {ns : List Int} {nm : Bool} {s3 s4 s5 s6 s7 s8 s12 s13 s14 s15 s16 s17 s18 s19 s20 : Option V} (hca0 : ClockAt K H0 c o cs) (hown0 : OwnAt K H0 a o cs) (ok : ClkOk o cs) (nS : H0 S = none) (k03 : Ks H0 H3) (hb : BoxAt H3 b kb) (t0 : 0 ≤ t) (t1 : t ≤ TOP)
    (hS : H3 S = some (.lst (ns.map V.int))) (hl : ns.length ≤ 1000)
    (q : ∀ s17 H', Ks H0 H' → BoxAt H' b kb → H' S = some (.lst ((ns ++ momL 0 o cs t).map V.int)) → D.nx [some (.ref b), some (.ref a), some (.ref c), s3, s4, s5, s6, s7, s8, some (.bl (!nm)), some (.ref S), some (.int t), s12, s13, s14, s15, s16, s17, s18, s19, s20] H') :
    tRest K E D [some (.ref b), some (.ref a), some (.ref c), s3, s4, s5, s6, s7, s8, some (.bl nm), some (.ref S), some (.int t), s12, s13, s14, s15, s16, s17, s18, s19, s20] H3 := by
  have ml : (momL 0 o cs t).length ≤ 9 := by have := momL_len t cs 0 o; have := ok.len; omega
  obtain ⟨ek, hek⟩ : ∃ P, P = Ks H0 H3 := ⟨_, rfl⟩
  rw [← hek] at k03
  walk_at "hs"
  refine u_due1 (hca0.ks (by rw [hek] at k03; exact k03)) ok t0 t1 (by decide) (by decide) ?_
  intro p H4 e4 h4 _
  walk_at "hs"
  rw [dueM_sb] at h4
  have hS4 := e4 _ _ hS
  refine ⟨S, p, _, _, rfl, rfl, hS4, h4, ?_, ?_⟩
  · rw [List.length_map, List.length_map]
    exact Nat.le_trans (show _ ≤ 2000 by omega) (by decide)
  rw [hek] at k03
  have k05 : Ks H0 (upd H4 S (.lst (ns.map V.int ++ (momL 0 o cs t).map V.int))) := Ks.mut (Ks.trans k03 (Ks.of e4)) nS
  have b5 : BoxAt (upd H4 S (.lst (ns.map V.int ++ (momL 0 o cs t).map V.int))) b kb := (hb.same e4).mut hS4 (notBox_int _)
  have hS5 : (upd H4 S (.lst (ns.map V.int ++ (momL 0 o cs t).map V.int))) S = some (.lst ((ns ++ momL 0 o cs t).map V.int)) := by rw [upd_same, List.map_append]
  generalize upd H4 S (.lst (ns.map V.int ++ (momL 0 o cs t).map V.int)) = H5 at *
  have hca5 := hca0.ks k05
  obtain ⟨ca, ha5, _⟩ := hown0.ks k05
  clear hca0 hown0 k03 hek ek hb hS e4 h4 hS4
  obtain ⟨ek, hek⟩ : ∃ P, P = Ks H0 H5 := ⟨_, rfl⟩
  rw [← hek] at k05
  walk_at "hs"
  refine u_due1 hca5 ok t0 t1 (by decide) (by decide) ?_
  intro p6 H6 e6 h6 _
  have hca6 := hca5.same e6
  walk_at "hs"
  refine u_due1 hca6 ok t0 t1 (by decide) (by decide) ?_
  intro p7 H7 e7 h7 _
  have hca7 := hca6.same e7
  walk_at "hs"
  rename_i p8 H8 n8 e8 h8
  have hca8 := hca7.same e8
  rw [cut_last] at h8
  refine w_ne_ints (e8 _ _ h7) h8 dueM_al ?_
  walk_at "hs"
  refine u_due1 hca8 ok t0 t1 (by decide) (by decide) ?_
  intro p9 H9 e9 h9 _
  have hca9 := hca8.same e9
  walk_at "hs"
  rename_i p10 H10 n10 e10 h10
  have hca10 := hca9.same e10
  rw [cut_first] at h10
  refine w_ne_ints (e10 _ _ h9) h10 dueM_af ?_
  walk_at "hs"
  have fin : ∀ H', Same H10 H' → D.nx [some (.ref b), some (.ref a), some (.ref c), s3, s4, s5, s6, s7, s8, some (.bl (!nm)), some (.ref S), some (.int t), s12, s13, s14, s15, s16, some (.ref p6), s18, s19, s20] H' := fun H' e => by
    have f : Same H5 H' := Same.trans e6 (Same.trans e7 (Same.trans e8 (Same.trans e9 (Same.trans e10 e))))
    rw [hek] at k05
    exact q _ H' (Ks.trans k05 (Ks.of f)) (b5.same f) (f _ _ hS5)
  clear q
  refine w_b2 (fun c1 => ?_) (fun c1 => ?_)
  · walk_at "hs"
    refine u_due1 hca10 ok t0 t1 (by decide) (by decide) ?_
    intro p11 H11 e11 h11 _
    walk_at "hs"
    refine w_bf ?_ ?_
    · rw [List.length_map, dueM_one ok (by simpa using c1)]
      rfl
    walk_at "hs"
    exact fin _ e11
  · walk_at "hs"
    exact fin _ (Same.refl _)
end My
set_option linter.all false
set_option maxRecDepth 100000
namespace My
open PySem PySem.Spec PyProof.Rows L2 Kx
theorem offAt_bd : ∀ {cs : List (Int × Int)} {x m : Int}, Offs cs → -1440 ≤ x → x ≤ 1440 → -1440 ≤ offAt x cs m ∧ offAt x cs m ≤ 1440
  | [], x, m, _, h0, h1 => ⟨h0, h1⟩
  | (g, y) :: r, x, m, o, h0, h1 => by
    have hy := o (g, y) List.mem_cons_self
    have ih := fun z (z0 : -1440 ≤ z) (z1 : z ≤ 1440) => offAt_bd (cs := r) (x := z) (m := m) (fun p hp => o p (List.mem_cons_of_mem _ hp)) z0 z1
    unfold offAt
    split
    · exact ih y hy.1 hy.2
    · exact ih x h0 h1
/-- the moments of all these local times -/
def allM (o : Int) (cs : List (Int × Int)) : List Int → List Int
  | [] => []
  | t :: ts => momL 0 o cs t ++ allM o cs ts
theorem allM_snoc {o : Int} {cs : List (Int × Int)} {t : Int} : ∀ ts : List Int, allM o cs (ts ++ [t]) = allM o cs ts ++ momL 0 o cs t
  | [] => List.append_nil _
  | x :: ts => by
    show momL 0 o cs x ++ allM o cs (ts ++ [t]) = (momL 0 o cs x ++ allM o cs ts) ++ _
    rw [allM_snoc ts, List.append_assoc]
theorem allM_mem {o : Int} {cs : List (Int × Int)} (a : Asc 0 cs) : ∀ {ts : List Int} {m : Int}, m ∈ allM o cs ts → m + offAt o cs m ∈ ts
  | t :: ts, m, h => by
    rcases List.mem_append.mp h with h | h
    · rw [((mem_momL t a).mp h).2]
      exact List.mem_cons_self
    · exact List.mem_cons_of_mem _ (allM_mem a h)
theorem allM_nodup {o : Int} {cs : List (Int × Int)} (a : Asc 0 cs) : ∀ {ts : List Int}, ts.Nodup → (allM o cs ts).Nodup
  | [], _ => List.nodup_nil
  | t :: ts, h => by
    obtain ⟨h1, h2⟩ := List.nodup_cons.mp h
    refine List.nodup_append.mpr ⟨(momL_asc t a).imp fun h => by omega, allM_nodup a h2, fun x hx y hy e => ?_⟩
    subst e
    have e1 := ((mem_momL t a).mp hx).2
    have e2 := allM_mem a hy
    rw [e1] at e2
    exact h1 e2
theorem allM_len {o : Int} {cs : List (Int × Int)} (hc : cs.length ≤ 8) : ∀ ts : List Int, (allM o cs ts).length ≤ 9 * ts.length
  | [] => Nat.le_refl _
  | t :: ts => by
    have := allM_len (o := o) hc ts
    have := momL_len t cs 0 o
    show (momL 0 o cs t ++ allM o cs ts).length ≤ _
    rw [List.length_append, List.length_cons]
    omega
/-- the row of local times -/
def rowT (b s : Int) (n : Nat) : List Int := (List.range n).map fun (i : Nat) => b + s * (i : Int)
theorem rowT_succ {b s : Int} {n : Nat} : rowT b s (n + 1) = rowT b s n ++ [b + s * (n : Int)] := by
  unfold rowT
  rw [List.range_succ, List.map_append]
  rfl
theorem rowT_len {b s : Int} {n : Nat} : (rowT b s n).length = n := by
  unfold rowT
  rw [List.length_map, List.length_range]
theorem rowT_nodup {b s : Int} (h : 1 ≤ s) (n : Nat) : (rowT b s n).Nodup := by
  unfold rowT
  refine List.pairwise_map.mpr ?_
  refine List.Pairwise.imp ?_ List.pairwise_lt_range
  intro i j hij e
  have h1 : s * (i : Int) < s * (j : Int) := Int.mul_lt_mul_of_pos_left (by omega) (by omega)
  omega
theorem rowT_bd {b s : Int} (b0 : 0 ≤ b) (h : 1 ≤ s) (h2 : s ≤ 40) {t : Int} (ht : t ∈ rowT b s 60) : 0 ≤ t ∧ t ≤ b + 2400 := by
  obtain ⟨i, hi, rfl⟩ := List.mem_map.mp ht
  have hi := List.mem_range.mp hi
  have h1 : 0 ≤ s * (i : Int) := Int.mul_nonneg (by omega) (by omega)
  have h3 : s * (i : Int) ≤ 40 * 60 := Int.mul_le_mul h2 (by omega) (by omega) (by omega)
  omega
theorem inV_ints {i : Int} {ns : List Int} (h : i ∈ ns) : inV (.int i) (ns.map V.int) = true := by
  unfold inV
  refine List.any_eq_true.mpr ⟨.int i, List.mem_map.mpr ⟨i, h, rfl⟩, ?_⟩
  show (i == i) = true
  exact beq_self_eq_true i
theorem flat_ints (ns : List Int) : (ns.map V.int).all flatV = true := by
  rw [List.all_eq_true]
  intro v hv
  obtain ⟨i, _, rfl⟩ := List.mem_map.mp hv
  rfl
theorem RowOk.ks {H H' : Hp} {kvs : List (List Key × V)} {o t : Int} {cs : List (Int × Int)} {g f : Str} (e : Ks H H') (h : RowOk H kvs o cs t g f) : RowOk H' kvs o cs t g f := by
  obtain ⟨p, h1, h2⟩ := h
  exact ⟨p, h1, ks_get e h2 (notBox_int _)⟩
end My
set_option linter.all false
set_option maxRecDepth 100000
set_option maxHeartbeats 4000000
namespace My
open PySem PySem.Spec PyProof.Rows L2 Kx
local macro_rules | `(tactic| walk_at "lk") => `(tactic| first | assumption | ((with_reducible show upd _ _ _ _ = _); (first | exact upd_same | (exact up_new (by assumption) (by walk_at "lk")) | (exact up_other (by assumption) (by walk_at "lk")))) | (exact (by assumption : Same _ _) _ _ (by walk_at "lk")) | (exact ks_get (by assumption) (by walk_at "lk") (by first | rfl | assumption | exact notBox_len rfl)))
local macro_rules | `(tactic| walk_at "sl") => `(tactic| first | assumption | (exact l_of (by walk_at "lk")) | (exact Same.seq (by assumption) (by walk_at "sl")) | ((with_reducible show SqL _ (upd _ _ _) _ _); (exact Same.seq (sm_new (by assumption)) (by walk_at "sl"))))
local macro_rules | `(tactic| walk_at "st") => `(tactic| first | assumption | (exact t_of (by walk_at "lk")) | (exact Kx.Same.tup (by assumption) (by walk_at "st")) | ((with_reducible show SqT _ (upd _ _ _) _ _); (exact Kx.Same.tup (sm_new (by assumption)) (by walk_at "st"))) | (exact ks_tup (by assumption) (by walk_at "st")))
local macro_rules | `(tactic| walk_at "kd") => `(tactic| first | assumption | exact .non | exact .bl _ | exact .int _ | exact .str _ | (exact .lst (by walk_at "sl")) | (exact .tup (by walk_at "st")) | (exact .dic (by walk_at "lk")) | (exact Kd.same (by assumption) (by walk_at "kd")) | ((with_reducible show Kd _ (upd _ _ _) _ _); (exact Kd.same (sm_new (by assumption)) (by walk_at "kd"))))
local macro_rules | `(tactic| walk_at "tt") => `(tactic| first | rfl | assumption | decide +kernel | (simp only [decide_eq_true_eq, Bool.not_eq_true', decide_eq_false_iff_not, Bool.and_eq_true, Bool.or_eq_true]; omega))
local macro_rules | `(tactic| walk_at "ff") => `(tactic| first | rfl | assumption | decide +kernel | (simp only [decide_eq_true_eq, Bool.not_eq_false', decide_eq_false_iff_not, Bool.and_eq_false_imp, Bool.or_eq_false_iff]; omega))
local macro_rules | `(tactic| walk_at "hc") => `(tactic| fail)
local macro_rules | `(tactic| walk_at "hif") => `(tactic| ((with_reducible refine w_b2 ?_ ?_) <;> intro))
local macro_rules | `(tactic| walk_at "hs1") => `(tactic| first
  | (with_reducible refine w_seq ?_)
  | (with_reducible refine w_asg ?_)
  | ((with_reducible refine' w_var ?k1 ?_); (case k1 => exact rfl))
  | (with_reducible refine w_c ?_)
  | (with_reducible refine w_op ?_)
  | (with_reducible refine w_cons ?_)
  | (with_reducible refine w_nil ?_)
  | (with_reducible refine w_name ?_)
  | (with_reducible refine w_kn ?_)
  | (with_reducible refine w_kx ?_)
  | (with_reducible refine w_kk ?_)
  | (with_reducible refine w_cb ?_)
  | (with_reducible refine w_if ?_)
  | (with_reducible refine w_test ?_)
  | (with_reducible refine w_exb ?_)
  | (with_reducible refine iteT ?_)
  | (with_reducible refine iteF ?_)
  | ((with_reducible refine w_bt ?_ ?_); (first | rfl | decide +kernel))
  | ((with_reducible refine w_bf ?_ ?_); (first | rfl | decide +kernel))
  | ((with_reducible refine w_bt ?_ ?_); (walk_at "tt"))
  | ((with_reducible refine w_bf ?_ ?_); (walk_at "ff"))
  | (with_reducible refine w_ret ?_)
  | (with_reducible refine w_retN ?_)
  | (with_reducible refine w_drop ?_)
  | (with_reducible refine w_next ?_)
  | (with_reducible refine w_brk ?_)
  | (with_reducible refine w_cont ?_)
  | (with_reducible refine w_and ?_)
  | (with_reducible refine w_or ?_)
  | (with_reducible refine w_not ?_)
  | (with_reducible refine w_tr ?_)
  | (with_reducible refine w_yes ?_)
  | (with_reducible refine w_tru_bl ?_)
  | (with_reducible refine w_tru_int ?_)
  | (with_reducible refine w_tru_non ?_)
  | (with_reducible refine w_andV ?_)
  | (with_reducible refine w_orV ?_)
  | (with_reducible refine w_notV ?_)
  | (with_reducible refine w_ifx ?_)
  | (with_reducible refine w_chain ?_)
  | (with_reducible refine w_un ?_)
  | (with_reducible refine n_tup ?_)
  | (with_reducible refine n_lst ?_)
  | ((with_reducible show kTup _ _ _); (refine n_ktup rfl ?_); intro _ _ _ _ _)
  | ((with_reducible show kLst _ _ _); (refine n_klst rfl ?_); intro _ _ _ _ _)
  | (with_reducible refine w_par ?_)
  | (with_reducible refine w_par2 ?_)
  | (with_reducible refine w_par3 ?_)
  | (with_reducible refine w_par33 ?_)
  | ((with_reducible refine' w_aug ?k1 ?_); (case k1 => exact rfl))
  | (with_reducible refine w_raise ?_)
  | (with_reducible refine w_mkdue ?_)
  | (with_reducible refine w_one ?_)
  | ((with_reducible show gSq _ _ _ (V.ref _) _ _ _); (first | (refine n_gsq (by walk_at "lk") (by exact rfl) (by exact rfl) ?_) | (refine w_gtup (by walk_at "st") (by exact rfl) ?_) | (refine w_glst (by walk_at "sl") (by exact rfl) ?_)))
  | (with_reducible refine w_gcons ?_)
  | (with_reducible refine w_gnil ?_)
  | (with_reducible refine w_bm ?_)
  | ((with_reducible show tyV _ "list" (V.ref _) _ ∧ _); (refine w_tyl (by walk_at "sl") ?_))
  | (with_reducible refine w_for ?_)
  | (with_reducible refine w_rng1 ?_)
  | (with_reducible refine w_rng2 ?_)
  | (with_reducible refine w_add_ii ?_)
  | (with_reducible refine w_sub_ii ?_)
  | ((with_reducible refine w_fdv_ii ?_ ?_ ?_); (first | decide | omega); (first | decide | omega))
  | ((with_reducible refine w_mul_b ?_ ?_ ?_); (refine ⟨?_, ?_⟩ <;> omega); (refine ⟨?_, ?_⟩ <;> omega))
  | ((with_reducible refine w_mod_ii ?_ ?_); (first | decide | omega))
  | (with_reducible refine w_neg_i ?_)
  | (with_reducible refine w_lt_ii ?_)
  | (with_reducible refine w_le_ii ?_)
  | (with_reducible refine w_gt_ii ?_)
  | (with_reducible refine w_ge_ii ?_)
  | (with_reducible refine w_eq_ii ?_)
  | (with_reducible refine w_ne_ii ?_)
  | (with_reducible refine n_eq_same ?_)
  | (with_reducible refine n_ne_same ?_)
  | (with_reducible refine w_eq_ss ?_)
  | (with_reducible refine w_ne_ss ?_)
  | (with_reducible refine w_eq_bb ?_)
  | (with_reducible refine w_ne_bb ?_)
  | (with_reducible refine w_is_n ?_)
  | (with_reducible refine w_isn_n ?_)
  | (with_reducible refine w_is_bb ?_)
  | (with_reducible refine w_isn_bb ?_)
  | ((with_reducible show rIx _ (V.ref _) (V.int _) _ _); (first | (refine n_ix (by decide) (by walk_at "lk") (by exact rfl) ?_) | (refine n_ixl (by decide) (by walk_at "sl") (by exact rfl) ?_) | (refine n_ixt (by decide) (by walk_at "st") (by exact rfl) ?_)))
  | (with_reducible refine w_ipadd ?_)
  | (with_reducible refine w_ipsub ?_)
  | (with_reducible refine w_int_i ?_)
  | (with_reducible refine w_int_b ?_)
  | (with_reducible refine w_abs ?_)
  | ((with_reducible refine w_max2r ?_); intro _ _ _ _)
  | ((with_reducible refine w_min2r ?_); intro _ _ _ _)
  | ((with_reducible show uLen _ [V.ref _] _ _); (first | (refine n_len (by walk_at "lk") (by exact rfl) ?_) | (refine w_len_l (by walk_at "sl") ?_) | (refine w_len_t (by walk_at "st") ?_) | (refine w_len_d (by walk_at "lk") ?_)))
  | ((with_reducible show uIsi _ [_, V.ty _] _ _); (refine w_isk (by walk_at "kd") (by decide) ?_))
  | ((with_reducible show uIsi _ [_, V.ref (He.ga _ _)] _ _); (first | (refine w_isC_t (by assumption) (by walk_at "lk") ?_) | (refine w_isC_f (by assumption) (by walk_at "kd") ?_)))
  | ((with_reducible show uIsi _ [_, V.ref _] _ _); (refine w_isk2 (by walk_at "lk") (by walk_at "kd") (by decide) (by decide) ?_))
  | (with_reducible refine w_wN ?_)
  | (with_reducible refine w_lc ?_)
  | ((with_reducible refine' w_rng2e ?k1 ?_); (case k1 => (refine ⟨?_, ?_, ?_, ?_⟩ <;> omega)))
  | ((with_reducible refine' w_rng1e ?k1 ?k2 ?_); (case k1 => omega); (case k2 => omega))
  | ((with_reducible show ∃ a', V.ref _ = .ref a' ∧ (∃ xs, SqL _ _ a' xs) ∧ _); (refine w_sqLe (by walk_at "sl") ?_))
  | ((with_reducible show ∃ a', V.ref _ = .ref a' ∧ (∃ xs, SqT _ _ a' xs) ∧ _); (refine w_sqTe (by walk_at "st") ?_))
  | (with_reducible refine w_slc ?_)
  | (with_reducible refine w_nop ?_)
  | (with_reducible refine w_part ?_)
  | (with_reducible refine w_exi ?_)
  | ((with_reducible show uSl _ (V.ref _) _ _ _ _); (refine n_slL (by walk_at "sl") ?_); intro _ _ _ _ _)
  | (with_reducible refine w_gsub ?_)
  | ((with_reducible show rSetL (V.ref _) (V.int _) _ _ _); (refine w_setl (by walk_at "lk") (by exact rfl) ?_))
  | (with_reducible refine w_pow_9 ?_)
  | (with_reducible refine w_pow_12 ?_)
  | (with_reducible refine w_pow_13 ?_)
  | (with_reducible refine w_pow_18 ?_)
  | (with_reducible refine w_pow_29 ?_)
  | ((with_reducible refine n_disp1 ?_); intro _ _ _ _ _)
  | (with_reducible refine w_dput ?_)
  | ((with_reducible show rAppend (V.ref _) [_] _ _); (refine w_append (by walk_at "lk") (by first | omega | (exact Nat.lt_of_le_of_lt (wN_le rfl) (by decide))) ?_))
  | ((with_reducible show ∃ a' H4, V.ref _ = .ref a' ∧ DPut _ a' (V.str _) _ H4 ∧ _); (refine w_dputS (by walk_at "lk") (by first | omega | exact wN_le rfl) ?_))
  | (with_reducible refine w_try ?_)
  | ((with_reducible show wManyA _ _ _ _ (.ref (He.ga _ _)) _ _ _); (first | ((refine w_hit (ExT.ex (by assumption) _ (by decide) _ (by decide)) ?_); intro _ _) | (refine w_miss (ExT.ex (by assumption) _ (by decide) _ (by decide)) ?_)))
  | (with_reducible refine w_xg ?_)
  | ((with_reducible show V.ref _ = .ref _ ∧ ∃ _ _ _ _, Value.ref (He.ga _ _) = _ ∧ _); (refine w_xge (ExT.xf (by assumption) _ (by decide)) (ExT.fg (by assumption) _ (by decide)) (by walk_at "lk") ?_))
  | ((with_reducible show rIsX _ (.ref (He.ga _ _)) _ _ _ _ _); (refine w_isx (ExT.xx (by assumption) _ (by decide)) (ExT.kd (by assumption) _ (by decide)) (by walk_at "lk") ?_))
  | ((with_reducible show uAdd _ (V.ref _) (V.ref _) _ _); (refine n_add_ll (by walk_at "lk") (by walk_at "lk") rfl ?_); intro _ _ _ _ _)
  | ((with_reducible show iSeq _ (tLst _) _ _ _); (refine w_sqL ?_))
  | ((with_reducible show iSeq _ (tTup _) _ _ _); (refine w_sqT ?_))
  | (refine ⟨(rfl : wipe _ _ = wipe _ _), ?_⟩)
  | (with_reducible refine w_tryB ?_)
  | ((with_reducible show L2.wManyB _ _ _ _ (.ref (He.ga _ _)) _ _ _); (first | ((refine w_hitB (by assumption) (by decide) (by decide) (by decide) ?_); intro _ _) | (refine w_missB (by assumption) (by decide) (by decide) (by decide) ?_)))
  | ((with_reducible show uIx _ (V.ref _) (V.int _) _ _); (refine w_ixX ?_))
  | ((with_reducible show uIx _ (V.ref _) (V.ref _) _ _); (refine w_ixT (by walk_at "lk") (by walk_at "lk") (by exact rfl) ?_))
  | ((with_reducible show uIx _ (V.ref _) (V.str _) _ _); (refine w_ixK (by walk_at "lk") (.inr _) (by exact rfl) ?_))
  | ((with_reducible show uInX _ _ (V.ref _) _ _); (refine w_inX (w_in_f (by first | exact .inl (by walk_at "sl") | exact .inr (by walk_at "st")) rfl rfl ?_)))
  | ((with_reducible show uNinX _ _ (V.ref _) _ _); (refine w_ninX (w_nin_f (by first | exact .inl (by walk_at "sl") | exact .inr (by walk_at "st")) rfl rfl ?_)))
  | ((with_reducible show rSetX (V.ref _) (V.int _) _ _ _); (refine w_setX ?_))
  | (with_reducible refine w_km ?_)
  | (with_reducible refine w_kmk ?_)
  | ((with_reducible show ∃ _ _ _, V.ref _ = V.ref _ ∧ _ = some (HO.ins _ _ _) ∧ List.lookup _ _ = none ∧ _); (refine w_kme (by walk_at "lk") (by exact rfl) ?_))
  | (with_reducible refine w_kc ?_)
  | (with_reducible refine w_kck ?_)
  | ((with_reducible show kMade _ _ _ _ _ _); (refine w_kmade ?_); intro _ _ _ _ _ _ _ _ _)
  | (with_reducible refine w_fld ?_)
  | ((with_reducible show ∃ _ _ _ _ _, V.ref _ = V.ref _ ∧ _ = some (HO.ins _ _ _) ∧ Cls _ _ ∧ NoAttr _ _ _ ∧ _ ∧ _); (refine' w_flde ?k1 ?k2 ?k3 ?k4 ?_; (case k3 => walk_at "lk"); (case k1 => exact CF.cls (by assumption)); (case k2 => exact CF.na (by assumption) _ (by decide)); (case k4 => exact rfl)))
  | (with_reducible refine w_sfld ?_)
  | ((with_reducible show ∃ _ _ _ _, V.ref _ = V.ref _ ∧ _ = some (HO.ins _ _ _) ∧ Cls _ _ ∧ NoAttr _ _ _ ∧ _ ∧ _); (refine' w_sflde ?k1 ?k2 ?k3 ?k4 ?_; (case k3 => walk_at "lk"); (case k1 => exact CF.cls (by assumption)); (case k2 => exact CF.na (by assumption) _ (by decide)); (case k4 => exact rfl); intro _ _ _))
  | ((with_reducible show uIsi _ [_, V.ref (He.ga _ _)] _ _); (first | (refine w_isC_t (by assumption) (by walk_at "lk") ?_) | (refine w_isC_f (by assumption) (by walk_at "kd") ?_)))
  | (walk_at "hc"))
local macro_rules | `(tactic| walk_at "hs") => `(tactic| repeat' (walk_at "hs1"))

local macro_rules | `(tactic| walk_at "rg") => `(tactic| repeat' (first | exact rg_nil | (refine rg_cons (by omega) (by omega) ?_)))
local macro_rules | `(tactic| walk_at "sm") => `(tactic| first | exact Same.refl _ | assumption | ((with_reducible show Same _ (upd _ _ _)); (refine Same.trans ?_ (sm_new (by assumption))); walk_at "sm") | ((refine Same.trans ?_ (by assumption)); walk_at "sm"))
local macro_rules | `(tactic| walk_at "bx") => `(tactic| first | assumption | ((with_reducible show BoxAt (upd _ _ _) _ _); (exact BoxAt.new (by assumption) (by walk_at "bx"))) | (exact BoxAt.same (by assumption) (by walk_at "bx")))
local macro_rules | `(tactic| walk_at "ks") => `(tactic| first | exact Ks.refl _ | assumption | ((with_reducible show Ks _ (upd _ _ _)); (refine Ks.trans ?_ (Ks.of (sm_new (by assumption))); walk_at "ks")) | (refine Ks.trans ?_ (by assumption); walk_at "ks") | (refine Ks.trans ?_ (Ks.of (by assumption)); walk_at "ks"))
local macro_rules | `(tactic| walk_at "ob") => `(tactic| first | assumption | exact .sc rfl | (exact Ob.same (by assumption) (by walk_at "ob")) | (exact Ob.ks (by assumption) (by walk_at "ob")))
local macro_rules | `(tactic| walk_at "nd") => `(tactic| first | assumption | (exact Nd.same (by assumption) (by walk_at "nd")) | (exact Nd.ks (by assumption) (by walk_at "nd")))
local macro_rules | `(tactic| walk_at "df") => `(tactic| first | assumption | exact df_sc rfl | (exact df_vr (by assumption) (by walk_at "lk")) | (exact df_rv (by assumption) (by walk_at "ob")) | (exact df_vv (by assumption) (by walk_at "ob")) | (exact Df.symm (df_vv (by assumption) (by walk_at "ob"))))
local macro_rules | `(tactic| walk_at "hc") => `(tactic| (with_reducible show sp_is_whole _ _ _ _ _); (refine u_is_whole (by walk_at "kd") ?_))
local macro_rules | `(tactic| walk_at "hc") => `(tactic| (with_reducible show sp_is_between _ _ _ _ _); (refine u_is_between (by walk_at "kd") ?_))
local macro_rules | `(tactic| walk_at "hc") => `(tactic| (with_reducible show sp_is_list _ _ _ _ _); (refine u_is_list (by walk_at "sl") ?_); intro _ _)
local macro_rules | `(tactic| walk_at "hc") => `(tactic| (with_reducible show sp_is_time _ _ _ _ _); (refine u_is_time (by walk_at "kd") ?_))
local macro_rules | `(tactic| walk_at "hc") => `(tactic| (with_reducible show sp_is_offset _ _ _ _ _); (refine u_is_offset (by walk_at "kd") ?_))
local macro_rules | `(tactic| walk_at "hc") => `(tactic| (with_reducible show sp__law_take _ _ _ _ _); (refine u__law_take (by walk_at "bx") (by omega) (by omega) (by omega) ?_); intro _ _ _ _ _ _)
variable {K : PySem.W.Frag}
theorem w_lenset {σ : L2.St} {H : Hp} {Q : VK} {ta : TE} (q : ta σ H fun x H1 => ∃ (l : Addr) (ns : List Int), x = .ref l ∧ SqL K H1 l (ns.map V.int) ∧ ns.Nodup ∧ ns.length ≤ 4000 ∧ Q (.int (ns.length : Nat)) H1) : RZ.tLenSetI K ta σ H Q := q
theorem p__law_rows_right (vs : List V) (H : Hp) (Q : VK) (E : XK) (h : sp__law_rows_right K vs H Q E) : t__law_rows_right K E (D0 Q) (start N__law_rows_right vs) H := by
  obtain ⟨b, k, a, c, o, cs, rfl, hb, hk, hown, hca, ok, q⟩ := h
  have hown0 := hown
  obtain ⟨ca, ha, xs, hc, hr⟩ := hown0
  have hl : xs.length = cs.length := by simpa using hr.len
  have l8 := ok.len
  have hlast := ok.last
  have hT' : (TOP : Int) = 1000000000000000 := rfl
  walk_at "hs"
  rename_i A HA nA sA hA
  refine w_sqL ?_
  walk_at "hs"
  intro D hD
  refine lc_list (xs := xs) (LcP HA D fun i => ((cs.take i).map fun p => p.1).map V.int) (LcP.zero hD rfl) (fun i H' _ P => P.1.seq (l_of (sA _ _ hc))) ?_ ?_
  · intro i x H' hx P
    obtain ⟨p, hp, ⟨t, rfl, hT⟩⟩ := RnT.map_get (K := K) (hr.same (Same.trans sA P.1)).rw hx
    have i8 : i < cs.length := (List.getElem?_eq_some_iff.mp hp).1
    unfold encC at hT
    walk_at "hs"
    refine LcP.one P (Same.refl _) hD ?_ ?_
    · simp; omega
    · rw [take_succ_map hp, List.map_append]; rfl
  intro H1 P
  have e1 := P.1
  have h1 : H1 D = some (.lst (((cs.take cs.length).map fun p => p.1).map V.int)) := by rw [← hl]; exact P.2
  rw [List.take_length] at h1
  clear P
  refine m_add_l2 (e1 _ _ hA) h1 (by simp; omega) fun B HB nB sB hB => ?_
  obtain ⟨sl, hsl⟩ : ∃ sl, sl = [V.int 0] ++ List.map V.int (List.map (fun p => p.fst) cs) := ⟨_, rfl⟩
  rw [← hsl] at hB
  have hlen : sl.length = cs.length + 1 := by rw [hsl]; simp
  have hbd : ∀ v ∈ sl, ∃ j, v = .int j ∧ 0 ≤ j ∧ j ≤ 1000000 := by
    intro v hv
    rw [hsl] at hv
    rcases List.mem_append.mp hv with hv | hv
    · rw [List.mem_singleton.mp hv]; exact ⟨0, rfl, by omega, by omega⟩
    · obtain ⟨i, hi, rfl⟩ := List.mem_map.mp hv
      obtain ⟨p, hp, rfl⟩ := List.mem_map.mp hi
      have := asc_mem ok.asc p hp
      exact ⟨_, rfl, by omega, by omega⟩
  have hnb : notBox (.lst sl) = true := by rw [hsl]; exact notBox_int (0 :: cs.map fun p => p.1)
  have eB : Same H HB := Same.trans sA (Same.trans e1 sB)
  have hbB := hb.same eB
  have hownB := hown.same eB
  clear hsl h1 e1 hD sA hA nA sB nB ha hc hr hb hown
  obtain ⟨kq, hkq⟩ : ∃ P, P = Ks H HB := ⟨_, rfl⟩
  have kqp : kq := by rw [hkq]; exact Ks.of eB
  have hcaB := hca.same eB
  clear eB hca
  walk_at "hs"
  rename_i r1 H2 r10 r11 k2 b2
  refine w_ixl_int 0 1000000 (cs.length + 1) (by walk_at "sl") hlen (by omega) (by omega) hbd fun at_ at0 at1 => ?_
  have hown2 := hownB.ks k2
  have hca2 := hcaB.ks k2
  have kq2 : Ks H H2 := by rw [hkq] at kqp; exact Ks.trans kqp k2
  clear k2 hbB hownB hcaB hB hkq kqp hnb hbd hlen
  obtain ⟨kq, hkq⟩ : ∃ P, P = Ks H H2 := ⟨_, rfl⟩
  rw [← hkq] at kq2
  walk_at "hs"
  refine u__law_offset hown2 ok ?_
  obtain ⟨f0, f1⟩ := offAt_bd (m := at_) ok.offs ok.o0 ok.o1
  generalize offAt o cs at_ = off at *
  walk_at "hs"
  rename_i L3 H3 n3 s3 h3 r4 H4 r40 r41 k4 b4
  refine w_ixl_int 1 40 4 (by walk_at "sl") rfl (by omega) (by omega) (by walk_at "rg") fun st st0 st1 => ?_
  walk_at "hs"
  rename_i T5 H5 n5 s5 h5 bg bg1 bg2 bg3
  have k25 : Ks H2 H5 := Ks.trans (Ks.of s3) (Ks.trans k4 (Ks.of s5))
  have hown5 := hown2.ks k25
  have hca5 := hca2.ks k25
  have b5 := b4.same s5
  have bg9 : bg ≤ 2000000 := by omega
  have kq5 : Ks H H5 := by rw [hkq] at kq2; exact Ks.trans kq2 k25
  clear k25 n3 s3 h3 k4 b4 n5 s5 h5 hown2 hca2 b2 bg2 bg3 r40 r41 r10 r11 kq2 hkq
  obtain ⟨kq, hkq⟩ : ∃ P, P = Ks H H5 := ⟨_, rfl⟩
  rw [← hkq] at kq5
  intro D hD
  refine lc_range (lo := 0) (n := 60) (LcP H5 D fun i => (rowT bg st i).map V.int) (LcP.zero hD rfl) ?_ ?_
  · intro i H' hi P
    walk_at "hs"
    refine LcP.one P (Same.refl _) hD ?_ ?_
    · rw [List.length_map, rowT_len]; omega
    · rw [rowT_succ, List.map_append, show (0 : Int) + (i : Int) = (i : Int) by omega]
      rfl
  intro H6 P
  have h6 : H6 D = some (.lst ((rowT bg st 60).map V.int)) := P.2
  have hown6 := hown5.same P.1
  have hca6 := hca5.same P.1
  have b6 := b5.same P.1
  have kq6 : Ks H H6 := by rw [hkq] at kq5; exact Ks.trans kq5 (Ks.of P.1)
  have tb : ∀ t ∈ rowT bg st 60, 0 ≤ t ∧ t ≤ bg + 2400 := fun t ht => rowT_bd bg1 st0 st1 ht
  have nd : (rowT bg st 60).Nodup := rowT_nodup st0 60
  have tl : (rowT bg st 60).length = 60 := rowT_len
  clear P hD hown5 hca5 b5 kq5 hkq
  generalize rowT bg st 60 = ts at *
  obtain ⟨kq, hkq⟩ : ∃ P, P = Ks H H6 := ⟨_, rfl⟩
  rw [← hkq] at kq6
  walk_at "hs"
  rename_i r7 H7 r70 r71 k7 b7 S HS nS sS hS
  have hown0 := hown6.ks k7
  have hca0 := hca6.ks k7
  have htm0 : H7 D = some (.lst (ts.map V.int)) := ks_get k7 h6 (notBox_int _)
  have kqs : Ks H H7 := by rw [hkq] at kq6; exact Ks.trans kq6 k7
  clear h6 hown6 hca6 b6 k7 kq6 hkq
  obtain ⟨kq, hkq⟩ : ∃ P, P = Ks H H7 := ⟨_, rfl⟩
  rw [← hkq] at kqs
  refine w_sqL ?_
  walk_at "hs"
  refine for_list (xs := ts.map V.int) (fun j σ H' => ∃ nm u11 u12 u13 u14 u15 u16 u17 u18 u19 u20, σ = [some (.ref b), some (.ref a), some (.ref c), some (.ref B), some (.int at_), some (.int off), some (.int st), some (.int bg), some (.ref D), some (.bl nm), some (.ref S), u11, u12, u13, u14, u15, u16, u17, u18, u19, u20] ∧ Ks H7 H' ∧ BoxAt H' b (k + 3 + 2 * (j : Int)) ∧ H' S = some (.lst ((allM o cs (ts.take j)).map V.int)))
    ⟨_, _, _, _, _, _, _, _, _, _, _, rfl, Ks.of sS, (b7.same sS).mono (by omega), hS⟩ (fun _ _ _ _ ⟨_, _, _, _, _, _, _, _, _, _, _, _, e, _⟩ => l_of (ks_get e htm0 (notBox_int _))) ?_ ?_
  · rintro j x σ H8 hx ⟨nm, u11, u12, u13, u14, u15, u16, u17, u18, u19, u20, rfl, e8, b8, hS8⟩
    rw [List.getElem?_map] at hx
    obtain ⟨t, ht, rfl⟩ := Option.map_eq_some_iff.mp hx
    have tm := tb t (List.mem_of_getElem? ht)
    have j60 : j < 60 := by have := (List.getElem?_eq_some_iff.mp ht).1; omega
    have ts1 : ts.take (j + 1) = ts.take j ++ [t] := by rw [List.take_succ, ht]; rfl
    have hown8 := hown0.ks e8
    have hca8 := hca0.ks e8
    have sln : (allM o cs (ts.take j)).length ≤ 1000 := by
      have := allM_len (o := o) l8 (ts.take j)
      rw [List.length_take] at this
      omega
    clear hS sS b7 htm0 hx ht
    obtain ⟨k8q, hk8q⟩ : ∃ P, P = Ks H7 H8 := ⟨_, rfl⟩
    rw [← hk8q] at e8
    refine w_name ?_
    refine w_seq ?_
    refine w_asg ?_
    intro R nR
    refine w_name ?_
    refine w_seq ?_
    refine w_fill (H2 := H8) (a := a) (R := R) (o := o) (t := t) (cs := cs) (sm_new nR) nR hown8 ok upd_same ?_
    intro v13 v14 H9 kvs e9 hR9 rows9
    walk_at "hs"
    rename_i L10 H10 n10 e10 h10 r11 H11 r110 r111 k11 b11
    refine w_ixl_v 2 (by walk_at "sl") rfl (by omega) (by omega) fun v hv => ?_
    obtain ⟨g, gm, rfl⟩ := List.mem_map.mp (show v ∈ gs2.map V.str from hv)
    walk_at "hs"
    rename_i L12 H12 n12 e12 h12 r13 H13 r130 r131 k13 b13
    refine w_ixl_v 3 (by walk_at "sl") rfl (by omega) (by omega) fun v hv2 => ?_
    obtain ⟨f, fm, rfl⟩ := List.mem_map.mp (show v ∈ fs3.map V.str from hv2)
    refine w_nil ?_
    refine w_par2 ?_
    refine w_seq ?_
    have k8D : Ks H8 H13 := Ks.trans (Ks.of (Same.trans e9 e10)) (Ks.trans k11 (Ks.trans (Ks.of e12) k13))
    have k9D : Ks H9 H13 := Ks.trans (Ks.of e10) (Ks.trans k11 (Ks.trans (Ks.of e12) k13))
    refine w_asks (hca8.ks k8D) ok tm.1 (by omega) (ks_get k9D hR9 rfl) (fun g hg f hf => (rows9 g hg f hf).ks k9D) gm fm ?_
    intro w15 w16 H14 e14
    refine w_rest hca0 hown0 ok nS (Ks.trans (by rw [hk8q] at e8; exact e8) (Ks.trans k8D (Ks.of e14))) (b13.same e14) tm.1 (by omega) (e14 _ _ (ks_get k8D hS8 (notBox_int _))) sln ?_
    intro w17 H15 k15 b15 hS15
    refine ⟨_, _, _, _, _, _, _, _, _, _, _, rfl, k15, b15.mono (by rw [Int.natCast_add]; omega), ?_⟩
    rw [ts1, allM_snoc]
    exact hS15
  · rintro σ H8 ⟨nm, u11, u12, u13, u14, u15, u16, u17, u18, u19, u20, rfl, e8, b8, hS8⟩
    have z : (ts.map V.int).length = 60 := by rw [List.length_map, tl]
    rw [z] at hS8 b8
    rw [List.take_of_length_le (by omega)] at hS8
    have hown8 := hown0.ks e8
    have htm8 : H8 D = some (.lst (ts.map V.int)) := ks_get e8 htm0 (notBox_int _)
    have nod := allM_nodup (o := o) ok.asc nd
    have len := allM_len (o := o) l8 ts
    have mem : ∀ m ∈ allM o cs ts, m + offAt o cs m ∈ ts := fun m hm => allM_mem ok.asc hm
    have kqe : ∀ H', Same H8 H' → Q (.bl true) H' := fun H' e => by
      rw [hkq] at kqs
      exact q _ (Ks.trans kqs (Ks.trans e8 (Ks.of e))) ((b8.same e).mono (by omega))
    generalize allM o cs ts = ms at *
    clear e8 kqs hkq kq hown0 hca0 htm0 hS sS nS b7 b8 q
    with_reducible refine w_ret ?_
    with_reducible refine w_andV ?_
    with_reducible refine w_op ?_
    with_reducible refine w_lenset ?_
    walk_at "hs"
    refine ⟨S, ms, rfl, l_of hS8, nod, by omega, ?_⟩
    walk_at "hs"
    refine w_bt (by simp) ?_
    walk_at "hs"
    refine w_sqL ?_
    walk_at "hs"
    intro D2 hD2
    refine lc_list (xs := ms.map V.int) (LcP H8 D2 fun _ => []) (LcP.zero hD2 rfl) (fun i H' _ P => P.1.seq (l_of hS8)) ?_ ?_
    · intro i x H' hx P
      rw [List.getElem?_map] at hx
      obtain ⟨m, hm, rfl⟩ := Option.map_eq_some_iff.mp hx
      walk_at "hs"
      refine u__law_offset (hown8.same P.1) ok ?_
      walk_at "hs"
      refine w_ninX (w_nin_f (.inl (l_of (P.1 _ _ htm8))) rfl (flat_ints _) ?_)
      rw [inV_ints (mem m (List.mem_of_getElem? hm))]
      walk_at "hs"
      exact LcP.no P (Same.refl _) rfl
    · intro H9 P
      have e9 := P.1
      have h9 : H9 D2 = some (.lst []) := P.2
      clear P
      walk_at "hs"
      rename_i N HN nN sN hN
      refine w_eq_nil (ns := []) (l_of (sN _ _ h9)) (l_of hN) ?_
      exact kqe _ (Same.trans e9 sN)
theorem u__law_rows_right {H : Hp} {Q : VK} {E : XK} {b a c : Addr} {k o : Int} {cs : List (Int × Int)} (hb : BoxAt H b k) (hk : k < 800000000) (hown : OwnAt K H a o cs) (hca : ClockAt K H c o cs) (ok : ClkOk o cs) (q : ∀ H', Ks H H' → BoxAt H' b (k + 200) → Q (.bl true) H') : sp__law_rows_right K [.ref b, .ref a, .ref c] H Q E := ⟨b, k, a, c, o, cs, rfl, hb, hk, hown, hca, ok, q⟩
end My
set_option linter.all false
set_option maxRecDepth 100000
set_option maxHeartbeats 4000000
namespace My
open PySem PySem.Spec PyProof.Rows L2 Kx
local macro_rules | `(tactic| walk_at "lk") => `(tactic| first | assumption | ((with_reducible show upd _ _ _ _ = _); (first | exact upd_same | (exact up_new (by assumption) (by walk_at "lk")) | (exact up_other (by assumption) (by walk_at "lk")))) | (exact (by assumption : Same _ _) _ _ (by walk_at "lk")) | (exact ks_get (by assumption) (by walk_at "lk") (by first | rfl | assumption | exact notBox_len rfl)))
local macro_rules | `(tactic| walk_at "sl") => `(tactic| first | assumption | (exact l_of (by walk_at "lk")) | (exact Same.seq (by assumption) (by walk_at "sl")) | ((with_reducible show SqL _ (upd _ _ _) _ _); (exact Same.seq (sm_new (by assumption)) (by walk_at "sl"))))
local macro_rules | `(tactic| walk_at "st") => `(tactic| first | assumption | (exact t_of (by walk_at "lk")) | (exact Kx.Same.tup (by assumption) (by walk_at "st")) | ((with_reducible show SqT _ (upd _ _ _) _ _); (exact Kx.Same.tup (sm_new (by assumption)) (by walk_at "st"))) | (exact ks_tup (by assumption) (by walk_at "st")))
local macro_rules | `(tactic| walk_at "kd") => `(tactic| first | assumption | exact .non | exact .bl _ | exact .int _ | exact .str _ | (exact .lst (by walk_at "sl")) | (exact .tup (by walk_at "st")) | (exact .dic (by walk_at "lk")) | (exact Kd.same (by assumption) (by walk_at "kd")) | ((with_reducible show Kd _ (upd _ _ _) _ _); (exact Kd.same (sm_new (by assumption)) (by walk_at "kd"))))
local macro_rules | `(tactic| walk_at "tt") => `(tactic| first | rfl | assumption | decide +kernel | (simp only [decide_eq_true_eq, Bool.not_eq_true', decide_eq_false_iff_not, Bool.and_eq_true, Bool.or_eq_true]; omega))
local macro_rules | `(tactic| walk_at "ff") => `(tactic| first | rfl | assumption | decide +kernel | (simp only [decide_eq_true_eq, Bool.not_eq_false', decide_eq_false_iff_not, Bool.and_eq_false_imp, Bool.or_eq_false_iff]; omega))
local macro_rules | `(tactic| walk_at "hc") => `(tactic| fail)
local macro_rules | `(tactic| walk_at "hif") => `(tactic| ((with_reducible refine w_b2 ?_ ?_) <;> intro))
local macro_rules | `(tactic| walk_at "hs1") => `(tactic| first
  | (with_reducible refine w_seq ?_)
  | (with_reducible refine w_asg ?_)
  | ((with_reducible refine' w_var ?k1 ?_); (case k1 => exact rfl))
  | (with_reducible refine w_c ?_)
  | (with_reducible refine w_op ?_)
  | (with_reducible refine w_cons ?_)
  | (with_reducible refine w_nil ?_)
  | (with_reducible refine w_name ?_)
  | (with_reducible refine w_kn ?_)
  | (with_reducible refine w_kx ?_)
  | (with_reducible refine w_kk ?_)
  | (with_reducible refine w_cb ?_)
  | (with_reducible refine w_if ?_)
  | (with_reducible refine w_test ?_)
  | (with_reducible refine w_exb ?_)
  | (with_reducible refine iteT ?_)
  | (with_reducible refine iteF ?_)
  | ((with_reducible refine w_bt ?_ ?_); (first | rfl | decide +kernel))
  | ((with_reducible refine w_bf ?_ ?_); (first | rfl | decide +kernel))
  | ((with_reducible refine w_bt ?_ ?_); (walk_at "tt"))
  | ((with_reducible refine w_bf ?_ ?_); (walk_at "ff"))
  | (with_reducible refine w_ret ?_)
  | (with_reducible refine w_retN ?_)
  | (with_reducible refine w_drop ?_)
  | (with_reducible refine w_next ?_)
  | (with_reducible refine w_brk ?_)
  | (with_reducible refine w_cont ?_)
  | (with_reducible refine w_and ?_)
  | (with_reducible refine w_or ?_)
  | (with_reducible refine w_not ?_)
  | (with_reducible refine w_tr ?_)
  | (with_reducible refine w_yes ?_)
  | (with_reducible refine w_tru_bl ?_)
  | (with_reducible refine w_tru_int ?_)
  | (with_reducible refine w_tru_non ?_)
  | (with_reducible refine w_andV ?_)
  | (with_reducible refine w_orV ?_)
  | (with_reducible refine w_notV ?_)
  | (with_reducible refine w_ifx ?_)
  | (with_reducible refine w_chain ?_)
  | (with_reducible refine w_un ?_)
  | (with_reducible refine n_tup ?_)
  | (with_reducible refine n_lst ?_)
  | ((with_reducible show kTup _ _ _); (refine n_ktup rfl ?_); intro _ _ _ _ _)
  | ((with_reducible show kLst _ _ _); (refine n_klst rfl ?_); intro _ _ _ _ _)
  | (with_reducible refine w_par ?_)
  | (with_reducible refine w_par2 ?_)
  | (with_reducible refine w_par3 ?_)
  | (with_reducible refine w_par33 ?_)
  | ((with_reducible refine' w_aug ?k1 ?_); (case k1 => exact rfl))
  | (with_reducible refine w_raise ?_)
  | (with_reducible refine w_mkdue ?_)
  | (with_reducible refine w_one ?_)
  | ((with_reducible show gSq _ _ _ (V.ref _) _ _ _); (first | (refine n_gsq (by walk_at "lk") (by exact rfl) (by exact rfl) ?_) | (refine w_gtup (by walk_at "st") (by exact rfl) ?_) | (refine w_glst (by walk_at "sl") (by exact rfl) ?_)))
  | (with_reducible refine w_gcons ?_)
  | (with_reducible refine w_gnil ?_)
  | (with_reducible refine w_bm ?_)
  | ((with_reducible show tyV _ "list" (V.ref _) _ ∧ _); (refine w_tyl (by walk_at "sl") ?_))
  | (with_reducible refine w_for ?_)
  | (with_reducible refine w_rng1 ?_)
  | (with_reducible refine w_rng2 ?_)
  | (with_reducible refine w_add_ii ?_)
  | (with_reducible refine w_sub_ii ?_)
  | ((with_reducible refine w_fdv_ii ?_ ?_ ?_); (first | decide | omega); (first | decide | omega))
  | ((with_reducible refine w_mul_b ?_ ?_ ?_); (refine ⟨?_, ?_⟩ <;> omega); (refine ⟨?_, ?_⟩ <;> omega))
  | ((with_reducible refine w_mod_ii ?_ ?_); (first | decide | omega))
  | (with_reducible refine w_neg_i ?_)
  | (with_reducible refine w_lt_ii ?_)
  | (with_reducible refine w_le_ii ?_)
  | (with_reducible refine w_gt_ii ?_)
  | (with_reducible refine w_ge_ii ?_)
  | (with_reducible refine w_eq_ii ?_)
  | (with_reducible refine w_ne_ii ?_)
  | (with_reducible refine n_eq_same ?_)
  | (with_reducible refine n_ne_same ?_)
  | (with_reducible refine w_eq_ss ?_)
  | (with_reducible refine w_ne_ss ?_)
  | (with_reducible refine w_eq_bb ?_)
  | (with_reducible refine w_ne_bb ?_)
  | (with_reducible refine w_is_n ?_)
  | (with_reducible refine w_isn_n ?_)
  | (with_reducible refine w_is_bb ?_)
  | (with_reducible refine w_isn_bb ?_)
  | ((with_reducible show rIx _ (V.ref _) (V.int _) _ _); (first | (refine n_ix (by decide) (by walk_at "lk") (by exact rfl) ?_) | (refine n_ixl (by decide) (by walk_at "sl") (by exact rfl) ?_) | (refine n_ixt (by decide) (by walk_at "st") (by exact rfl) ?_)))
  | (with_reducible refine w_ipadd ?_)
  | (with_reducible refine w_ipsub ?_)
  | (with_reducible refine w_int_i ?_)
  | (with_reducible refine w_int_b ?_)
  | (with_reducible refine w_abs ?_)
  | ((with_reducible refine w_max2r ?_); intro _ _ _ _)
  | ((with_reducible refine w_min2r ?_); intro _ _ _ _)
  | ((with_reducible show uLen _ [V.ref _] _ _); (first | (refine n_len (by walk_at "lk") (by exact rfl) ?_) | (refine w_len_l (by walk_at "sl") ?_) | (refine w_len_t (by walk_at "st") ?_) | (refine w_len_d (by walk_at "lk") ?_)))
  | ((with_reducible show uIsi _ [_, V.ty _] _ _); (refine w_isk (by walk_at "kd") (by decide) ?_))
  | ((with_reducible show uIsi _ [_, V.ref (He.ga _ _)] _ _); (first | (refine w_isC_t (by assumption) (by walk_at "lk") ?_) | (refine w_isC_f (by assumption) (by walk_at "kd") ?_)))
  | ((with_reducible show uIsi _ [_, V.ref _] _ _); (refine w_isk2 (by walk_at "lk") (by walk_at "kd") (by decide) (by decide) ?_))
  | (with_reducible refine w_wN ?_)
  | (with_reducible refine w_lc ?_)
  | ((with_reducible refine' w_rng2e ?k1 ?_); (case k1 => (refine ⟨?_, ?_, ?_, ?_⟩ <;> omega)))
  | ((with_reducible refine' w_rng1e ?k1 ?k2 ?_); (case k1 => omega); (case k2 => omega))
  | ((with_reducible show ∃ a', V.ref _ = .ref a' ∧ (∃ xs, SqL _ _ a' xs) ∧ _); (refine w_sqLe (by walk_at "sl") ?_))
  | ((with_reducible show ∃ a', V.ref _ = .ref a' ∧ (∃ xs, SqT _ _ a' xs) ∧ _); (refine w_sqTe (by walk_at "st") ?_))
  | (with_reducible refine w_slc ?_)
  | (with_reducible refine w_nop ?_)
  | (with_reducible refine w_part ?_)
  | (with_reducible refine w_exi ?_)
  | ((with_reducible show uSl _ (V.ref _) _ _ _ _); (refine n_slL (by walk_at "sl") ?_); intro _ _ _ _ _)
  | (with_reducible refine w_gsub ?_)
  | ((with_reducible show rSetL (V.ref _) (V.int _) _ _ _); (refine w_setl (by walk_at "lk") (by exact rfl) ?_))
  | (with_reducible refine w_pow_9 ?_)
  | (with_reducible refine w_pow_12 ?_)
  | (with_reducible refine w_pow_13 ?_)
  | (with_reducible refine w_pow_18 ?_)
  | (with_reducible refine w_pow_29 ?_)
  | ((with_reducible refine n_disp1 ?_); intro _ _ _ _ _)
  | (with_reducible refine w_dput ?_)
  | ((with_reducible show rAppend (V.ref _) [_] _ _); (refine w_append (by walk_at "lk") (by first | omega | (exact Nat.lt_of_le_of_lt (wN_le rfl) (by decide))) ?_))
  | ((with_reducible show ∃ a' H4, V.ref _ = .ref a' ∧ DPut _ a' (V.str _) _ H4 ∧ _); (refine w_dputS (by walk_at "lk") (by first | omega | exact wN_le rfl) ?_))
  | (with_reducible refine w_try ?_)
  | ((with_reducible show wManyA _ _ _ _ (.ref (He.ga _ _)) _ _ _); (first | ((refine w_hit (ExT.ex (by assumption) _ (by decide) _ (by decide)) ?_); intro _ _) | (refine w_miss (ExT.ex (by assumption) _ (by decide) _ (by decide)) ?_)))
  | (with_reducible refine w_xg ?_)
  | ((with_reducible show V.ref _ = .ref _ ∧ ∃ _ _ _ _, Value.ref (He.ga _ _) = _ ∧ _); (refine w_xge (ExT.xf (by assumption) _ (by decide)) (ExT.fg (by assumption) _ (by decide)) (by walk_at "lk") ?_))
  | ((with_reducible show rIsX _ (.ref (He.ga _ _)) _ _ _ _ _); (refine w_isx (ExT.xx (by assumption) _ (by decide)) (ExT.kd (by assumption) _ (by decide)) (by walk_at "lk") ?_))
  | ((with_reducible show uAdd _ (V.ref _) (V.ref _) _ _); (refine n_add_ll (by walk_at "lk") (by walk_at "lk") rfl ?_); intro _ _ _ _ _)
  | ((with_reducible show iSeq _ (tLst _) _ _ _); (refine w_sqL ?_))
  | ((with_reducible show iSeq _ (tTup _) _ _ _); (refine w_sqT ?_))
  | (refine ⟨(rfl : wipe _ _ = wipe _ _), ?_⟩)
  | (with_reducible refine w_tryB ?_)
  | ((with_reducible show L2.wManyB _ _ _ _ (.ref (He.ga _ _)) _ _ _); (first | ((refine w_hitB (by assumption) (by decide) (by decide) (by decide) ?_); intro _ _) | (refine w_missB (by assumption) (by decide) (by decide) (by decide) ?_)))
  | ((with_reducible show uIx _ (V.ref _) (V.int _) _ _); (refine w_ixX ?_))
  | ((with_reducible show uIx _ (V.ref _) (V.ref _) _ _); (refine w_ixT (by walk_at "lk") (by walk_at "lk") (by exact rfl) ?_))
  | ((with_reducible show uIx _ (V.ref _) (V.str _) _ _); (refine w_ixK (by walk_at "lk") (.inr _) (by exact rfl) ?_))
  | ((with_reducible show uInX _ _ (V.ref _) _ _); (refine w_inX (w_in_f (by first | exact .inl (by walk_at "sl") | exact .inr (by walk_at "st")) rfl rfl ?_)))
  | ((with_reducible show uNinX _ _ (V.ref _) _ _); (refine w_ninX (w_nin_f (by first | exact .inl (by walk_at "sl") | exact .inr (by walk_at "st")) rfl rfl ?_)))
  | ((with_reducible show rSetX (V.ref _) (V.int _) _ _ _); (refine w_setX ?_))
  | (with_reducible refine w_km ?_)
  | (with_reducible refine w_kmk ?_)
  | ((with_reducible show ∃ _ _ _, V.ref _ = V.ref _ ∧ _ = some (HO.ins _ _ _) ∧ List.lookup _ _ = none ∧ _); (refine w_kme (by walk_at "lk") (by exact rfl) ?_))
  | (with_reducible refine w_kc ?_)
  | (with_reducible refine w_kck ?_)
  | ((with_reducible show kMade _ _ _ _ _ _); (refine w_kmade ?_); intro _ _ _ _ _ _ _ _ _)
  | (with_reducible refine w_fld ?_)
  | ((with_reducible show ∃ _ _ _ _ _, V.ref _ = V.ref _ ∧ _ = some (HO.ins _ _ _) ∧ Cls _ _ ∧ NoAttr _ _ _ ∧ _ ∧ _); (refine' w_flde ?k1 ?k2 ?k3 ?k4 ?_; (case k3 => walk_at "lk"); (case k1 => exact CF.cls (by assumption)); (case k2 => exact CF.na (by assumption) _ (by decide)); (case k4 => exact rfl)))
  | (with_reducible refine w_sfld ?_)
  | ((with_reducible show ∃ _ _ _ _, V.ref _ = V.ref _ ∧ _ = some (HO.ins _ _ _) ∧ Cls _ _ ∧ NoAttr _ _ _ ∧ _ ∧ _); (refine' w_sflde ?k1 ?k2 ?k3 ?k4 ?_; (case k3 => walk_at "lk"); (case k1 => exact CF.cls (by assumption)); (case k2 => exact CF.na (by assumption) _ (by decide)); (case k4 => exact rfl); intro _ _ _))
  | ((with_reducible show uIsi _ [_, V.ref (He.ga _ _)] _ _); (first | (refine w_isC_t (by assumption) (by walk_at "lk") ?_) | (refine w_isC_f (by assumption) (by walk_at "kd") ?_)))
  | (walk_at "hc"))
local macro_rules | `(tactic| walk_at "hs") => `(tactic| repeat' (walk_at "hs1"))

local macro_rules | `(tactic| walk_at "rg") => `(tactic| repeat' (first | exact rg_nil | (refine rg_cons (by omega) (by omega) ?_)))
local macro_rules | `(tactic| walk_at "sm") => `(tactic| first | exact Same.refl _ | assumption | ((with_reducible show Same _ (upd _ _ _)); (refine Same.trans ?_ (sm_new (by assumption))); walk_at "sm") | ((refine Same.trans ?_ (by assumption)); walk_at "sm"))
local macro_rules | `(tactic| walk_at "bx") => `(tactic| first | assumption | ((with_reducible show BoxAt (upd _ _ _) _ _); (exact BoxAt.new (by assumption) (by walk_at "bx"))) | (exact BoxAt.same (by assumption) (by walk_at "bx")))
local macro_rules | `(tactic| walk_at "ks") => `(tactic| first | exact Ks.refl _ | assumption | ((with_reducible show Ks _ (upd _ _ _)); (refine Ks.trans ?_ (Ks.of (sm_new (by assumption))); walk_at "ks")) | (refine Ks.trans ?_ (by assumption); walk_at "ks") | (refine Ks.trans ?_ (Ks.of (by assumption)); walk_at "ks"))
local macro_rules | `(tactic| walk_at "ob") => `(tactic| first | assumption | exact .sc rfl | (exact Ob.same (by assumption) (by walk_at "ob")) | (exact Ob.ks (by assumption) (by walk_at "ob")))
local macro_rules | `(tactic| walk_at "nd") => `(tactic| first | assumption | (exact Nd.same (by assumption) (by walk_at "nd")) | (exact Nd.ks (by assumption) (by walk_at "nd")))
local macro_rules | `(tactic| walk_at "df") => `(tactic| first | assumption | exact df_sc rfl | (exact df_vr (by assumption) (by walk_at "lk")) | (exact df_rv (by assumption) (by walk_at "ob")) | (exact df_vv (by assumption) (by walk_at "ob")) | (exact Df.symm (df_vv (by assumption) (by walk_at "ob"))))
local macro_rules | `(tactic| walk_at "hc") => `(tactic| (with_reducible show sp_is_whole _ _ _ _ _); (refine u_is_whole (by walk_at "kd") ?_))
local macro_rules | `(tactic| walk_at "hc") => `(tactic| (with_reducible show sp_is_between _ _ _ _ _); (refine u_is_between (by walk_at "kd") ?_))
local macro_rules | `(tactic| walk_at "hc") => `(tactic| (with_reducible show sp_is_list _ _ _ _ _); (refine u_is_list (by walk_at "sl") ?_); intro _ _)
local macro_rules | `(tactic| walk_at "hc") => `(tactic| (with_reducible show sp_is_time _ _ _ _ _); (refine u_is_time (by walk_at "kd") ?_))
local macro_rules | `(tactic| walk_at "hc") => `(tactic| (with_reducible show sp_is_offset _ _ _ _ _); (refine u_is_offset (by walk_at "kd") ?_))
local macro_rules | `(tactic| walk_at "hc") => `(tactic| (with_reducible show sp__law_take _ _ _ _ _); (refine u__law_take (by walk_at "bx") (by omega) (by omega) (by omega) ?_); intro _ _ _ _ _ _)
variable {K : PySem.W.Frag}
theorem OwnAt.butI {H H' : Hp} {x a C dx : Addr} {fs : List (Str × V)} {o : Int} {cs : List (Int × Int)} (e : ∀ b u, b ≠ x → H b = some u → H' b = some u) (hx : H x = some (.ins C dx fs)) (h : OwnAt K H a o cs) : OwnAt K H' a o cs := by
  obtain ⟨ca, ha, xs, hc, hr⟩ := h
  exact ⟨ca, e _ _ (fun z => by rw [z, hx] at ha; cases ha) ha, xs, e _ _ (fun z => by rw [z, hx] at hc; cases hc) hc, RnT.butT e hx (fun l z => by cases z) hr⟩
theorem BoxAt.butI {H H' : Hp} {x b C dx : Addr} {fs : List (Str × V)} {c : Int} (e : ∀ b u, b ≠ x → H b = some u → H' b = some u) (hx : H x = some (.ins C dx fs)) (h : BoxAt H b c) : BoxAt H' b c := by
  obtain ⟨n, m, c0, bo, hb, r⟩ := h
  exact ⟨n, m, c0, bo, e _ _ (fun z => by rw [z, hx] at hb; cases hb) hb, r⟩
theorem Ks.butx {H H5 H6 : Hp} {x : Addr} (k : Ks H H5) (n : H x = none) (e : ∀ b u, b ≠ x → H5 b = some u → H6 b = some u) : Ks H H6 := fun a u ha => by
  obtain ⟨o', h', f⟩ := k a u ha
  exact ⟨o', e _ _ (fun z => by rw [z, n] at ha; cases ha) h', f⟩
theorem p_law (kk : CLK K) (vs : List V) (H : Hp) (Q : VK) (E : XK) (h : sp_law K vs H Q E) : t_law K E (D0 Q) (start N_law vs) H := by
  obtain ⟨a, ns, rfl, hs, hn, q⟩ := h
  walk_at "hs"
  rename_i mi mi1 mi2 mi3 r r1 r2 r3
  refine for_range (lo := 0) (n := r.toNat) (fun i σ H' => ∃ s1 s2 s3 s4 s5, σ = [some (.ref a), s1, s2, s3, s4, s5] ∧ Ks H H') ⟨_, _, _, _, _, rfl, Ks.refl _⟩ ?_ ?_
  · rintro i σ H0 hi ⟨s1, s2, s3, s4, s5, rfl, e0⟩
    have i3 : (i : Int) < 3 := by omega
    obtain ⟨kq, hkq⟩ : ∃ P, P = Ks H H0 := ⟨_, rfl⟩
    have hs0 := ks_ints e0 hs
    rw [← hkq] at e0
    walk_at "hs"
    refine u__law_cell hs0 hn (by omega) (by omega) fun z H1 e1 => ?_
    walk_at "hs"
    refine u__law_box fun b H2 e2 hb => ?_
    walk_at "hs"
    refine u__law_clock hb (by omega) fun ow o cs H3 k3 b3 hown ok => ?_
    have hown0 := hown
    obtain ⟨ca, how, xs, hc, hr⟩ := hown0
    have k03 : Ks H0 H3 := Ks.trans (Ks.of (Same.trans e1 e2)) k3
    clear e1 e2 k3 hb hs0
    obtain ⟨k3q, hk3q⟩ : ∃ P, P = Ks H0 H3 := ⟨_, rfl⟩
    rw [← hk3q] at k03
    walk_at "hs"
    refine .inl ⟨ca, xs, rfl, .inl (l_of hc), fun l hl => ?_⟩
    have e4 : Same H3 (upd H3 l (.lst xs)) := sm_new hl
    have h4 : (upd H3 l (.lst xs)) l = some (.lst xs) := upd_same
    generalize upd H3 l (.lst xs) = H4 at *
    walk_at "hs"
    rename_i x dx H5 nx nd xd e5 h5 h5d
    refine u_Clock___init__ kk h5 ⟨xs, e5 _ _ h4, hr.same (Same.trans e4 e5)⟩ ok fun H6 bt6 hca => ?_
    refine ⟨rfl, ?_⟩
    have e35 := Same.trans e4 e5
    have hown6 := (hown.same e35).butI bt6 h5
    have b6 := (b3.same e35).butI bt6 h5
    have k06 : Ks H0 H6 := by
      rw [hk3q] at k03
      exact Ks.butx (Ks.trans k03 (Ks.of e35)) ((Ks.trans k03 (Ks.of e4)).fresh nx) bt6
    clear e35 bt6 h5 h5d e5 nd nx xd e4 h4 hl how hc hr hown b3 k03 hk3q
    obtain ⟨k6q, hk6q⟩ : ∃ P, P = Ks H0 H6 := ⟨_, rfl⟩
    rw [← hk6q] at k06
    walk_at "hs"
    refine for_range (lo := 0) (n := 2) (fun j σ H' => ∃ s5, σ = [some (.ref a), some (.int (0 + (i : Int))), some (.ref b), some (.ref ow), some (.ref x), s5] ∧ Ks H6 H' ∧ BoxAt H' b (40 + 200 * (j : Int))) ⟨_, rfl, Ks.refl _, b6.mono (by omega)⟩ ?_ ?_
    · rintro j σ H7 hj ⟨u5, rfl, e7, b7⟩
      walk_at "hs"
      refine u__law_rows_right b7 (by omega) (hown6.ks e7) (hca.ks e7) ok fun H8 e8 b8 => ?_
      walk_at "hs"
      exact ⟨_, rfl, Ks.trans e7 e8, b8.mono (by rw [Int.natCast_add]; omega)⟩
    · rintro σ H7 ⟨u5, rfl, e7, b7⟩
      walk_at "hs"
      refine u__law_far_right b7 (by decide) (hown6.ks e7) (hca.ks e7) ok fun H8 e8 b8 => ?_
      walk_at "hs"
      refine u__law_refusals_right b8 (by decide) ((hown6.ks e7).ks e8) ((hca.ks e7).ks e8) ok fun H9 e9 => ?_
      walk_at "hs"
      refine ⟨_, _, _, _, _, rfl, ?_⟩
      rw [hkq] at e0
      rw [hk6q] at k06
      exact Ks.trans e0 (Ks.trans k06 (Ks.trans e7 (Ks.trans e8 e9)))
  · rintro σ H0 ⟨s1, s2, s3, s4, s5, rfl, e0⟩
    walk_at "hs"
    exact q _
end My
set_option Elab.async false
set_option linter.all false
set_option maxRecDepth 100000
set_option maxHeartbeats 0
namespace My
open PySem PySem.Spec PyProof.Rows L2 Kx
section
variable {K : PySem.W.Frag} {h : Heap} {mg : Str → Option Value}
theorem tx (X : K.In h) (G : h.Ns mainGlobals mg) (c : SaysM fs fn fc K) : Tx PR K mg where
  n_abs := He.free_ok X G (x := "abs") (c.fact 0 (f := fun K => (He.Fa.free "abs").ok K) rfl)
  n_all := He.free_ok X G (x := "all") (c.fact 1 (f := fun K => (He.Fa.free "all").ok K) rfl)
  n_bool := He.free_ok X G (x := "bool") (c.fact 2 (f := fun K => (He.Fa.free "bool").ok K) rfl)
  n_int := He.free_ok X G (x := "int") (c.fact 3 (f := fun K => (He.Fa.free "int").ok K) rfl)
  n_isinstance := He.free_ok X G (x := "isinstance") (c.fact 4 (f := fun K => (He.Fa.free "isinstance").ok K) rfl)
  n_len := He.free_ok X G (x := "len") (c.fact 5 (f := fun K => (He.Fa.free "len").ok K) rfl)
  n_list := He.free_ok X G (x := "list") (c.fact 6 (f := fun K => (He.Fa.free "list").ok K) rfl)
  n_max := He.free_ok X G (x := "max") (c.fact 7 (f := fun K => (He.Fa.free "max").ok K) rfl)
  n_min := He.free_ok X G (x := "min") (c.fact 8 (f := fun K => (He.Fa.free "min").ok K) rfl)
  n_range := He.free_ok X G (x := "range") (c.fact 9 (f := fun K => (He.Fa.free "range").ok K) rfl)
  n_set := He.free_ok X G (x := "set") (c.fact 10 (f := fun K => (He.Fa.free "set").ok K) rfl)
  n_str := He.free_ok X G (x := "str") (c.fact 11 (f := fun K => (He.Fa.free "str").ok K) rfl)
  n_sum := He.free_ok X G (x := "sum") (c.fact 12 (f := fun K => (He.Fa.free "sum").ok K) rfl)
  n_super := He.free_ok X G (x := "super") (c.fact 13 (f := fun K => (He.Fa.free "super").ok K) rfl)
  n_tuple := He.free_ok X G (x := "tuple") (c.fact 14 (f := fun K => (He.Fa.free "tuple").ok K) rfl)
  n_zip := He.free_ok X G (x := "zip") (c.fact 15 (f := fun K => (He.Fa.free "zip").ok K) rfl)
  r_FOLDS := ⟨_, He.glo_ok X G (x := "FOLDS") (c.fact 16 (f := fun K => (He.Fa.glo "FOLDS").ok K) rfl), rfl⟩
  r_GAPS := ⟨_, He.glo_ok X G (x := "GAPS") (c.fact 17 (f := fun K => (He.Fa.glo "GAPS").ok K) rfl), rfl⟩
  c_MOST_CHANGES := (by obtain ⟨t, e⟩ := He.int_ok X G (x := "MOST_CHANGES") (c.fact 18 (f := fun K => (He.Fa.int "MOST_CHANGES" 400).ok K) rfl); exact ⟨_, e, ⟨t, rfl⟩⟩)
  c_MOST_MOMENT := (by obtain ⟨t, e⟩ := He.int_ok X G (x := "MOST_MOMENT") (c.fact 19 (f := fun K => (He.Fa.int "MOST_MOMENT" 1000000000000000).ok K) rfl); exact ⟨_, e, ⟨t, rfl⟩⟩)
  c_MOST_OFFSET := (by obtain ⟨t, e⟩ := He.int_ok X G (x := "MOST_OFFSET") (c.fact 20 (f := fun K => (He.Fa.int "MOST_OFFSET" 1440).ok K) rfl); exact ⟨_, e, ⟨t, rfl⟩⟩)
  c_MOST_TIME := (by obtain ⟨t, e⟩ := He.int_ok X G (x := "MOST_TIME") (c.fact 21 (f := fun K => (He.Fa.int "MOST_TIME" 1000000000000000).ok K) rfl); exact ⟨_, e, ⟨t, rfl⟩⟩)
  r_Clock := ⟨_, He.glo_ok X G (x := "Clock") (c.fact 22 (f := fun K => (He.Fa.glo "Clock").ok K) rfl), rfl⟩
  k_Clock := cf_ok (c.fact 23 (f := fun K => cfB (He.ga K "Clock") ["offset", "ranges", "changes"] K) rfl)
  r_DueError := ⟨_, He.glo_ok X G (x := "DueError") (c.fact 24 (f := fun K => (He.Fa.glo "DueError").ok K) rfl), rfl⟩
  g_DueError := He.glo_ok X G (x := "DueError") (c.fact 24 (f := fun K => (He.Fa.glo "DueError").ok K) rfl)
  x_DueError := PySem.DueE.cls_ok (c.fact 25 (f := fun K => PySem.DueE.dueClsB (He.ga K "DueError") (He.ga K "DueError") (He.ma K (He.ga K "DueError") "__init__") K) rfl)
  r_InvalidChanges := ⟨_, He.glo_ok X G (x := "InvalidChanges") (c.fact 26 (f := fun K => (He.Fa.glo "InvalidChanges").ok K) rfl), rfl⟩
  g_InvalidChanges := He.glo_ok X G (x := "InvalidChanges") (c.fact 26 (f := fun K => (He.Fa.glo "InvalidChanges").ok K) rfl)
  x_InvalidChanges := PySem.DueE.cls_ok (c.fact 27 (f := fun K => PySem.DueE.dueClsB (He.ga K "DueError") (He.ga K "InvalidChanges") (He.ma K (He.ga K "DueError") "__init__") K) rfl)
  r_InvalidClock := ⟨_, He.glo_ok X G (x := "InvalidClock") (c.fact 28 (f := fun K => (He.Fa.glo "InvalidClock").ok K) rfl), rfl⟩
  g_InvalidClock := He.glo_ok X G (x := "InvalidClock") (c.fact 28 (f := fun K => (He.Fa.glo "InvalidClock").ok K) rfl)
  x_InvalidClock := PySem.DueE.cls_ok (c.fact 29 (f := fun K => PySem.DueE.dueClsB (He.ga K "DueError") (He.ga K "InvalidClock") (He.ma K (He.ga K "DueError") "__init__") K) rfl)
  r_InvalidFold := ⟨_, He.glo_ok X G (x := "InvalidFold") (c.fact 30 (f := fun K => (He.Fa.glo "InvalidFold").ok K) rfl), rfl⟩
  g_InvalidFold := He.glo_ok X G (x := "InvalidFold") (c.fact 30 (f := fun K => (He.Fa.glo "InvalidFold").ok K) rfl)
  x_InvalidFold := PySem.DueE.cls_ok (c.fact 31 (f := fun K => PySem.DueE.dueClsB (He.ga K "DueError") (He.ga K "InvalidFold") (He.ma K (He.ga K "DueError") "__init__") K) rfl)
  r_InvalidGap := ⟨_, He.glo_ok X G (x := "InvalidGap") (c.fact 32 (f := fun K => (He.Fa.glo "InvalidGap").ok K) rfl), rfl⟩
  g_InvalidGap := He.glo_ok X G (x := "InvalidGap") (c.fact 32 (f := fun K => (He.Fa.glo "InvalidGap").ok K) rfl)
  x_InvalidGap := PySem.DueE.cls_ok (c.fact 33 (f := fun K => PySem.DueE.dueClsB (He.ga K "DueError") (He.ga K "InvalidGap") (He.ma K (He.ga K "DueError") "__init__") K) rfl)
  r_InvalidOffset := ⟨_, He.glo_ok X G (x := "InvalidOffset") (c.fact 34 (f := fun K => (He.Fa.glo "InvalidOffset").ok K) rfl), rfl⟩
  g_InvalidOffset := He.glo_ok X G (x := "InvalidOffset") (c.fact 34 (f := fun K => (He.Fa.glo "InvalidOffset").ok K) rfl)
  x_InvalidOffset := PySem.DueE.cls_ok (c.fact 35 (f := fun K => PySem.DueE.dueClsB (He.ga K "DueError") (He.ga K "InvalidOffset") (He.ma K (He.ga K "DueError") "__init__") K) rfl)
  r_InvalidTime := ⟨_, He.glo_ok X G (x := "InvalidTime") (c.fact 36 (f := fun K => (He.Fa.glo "InvalidTime").ok K) rfl), rfl⟩
  g_InvalidTime := He.glo_ok X G (x := "InvalidTime") (c.fact 36 (f := fun K => (He.Fa.glo "InvalidTime").ok K) rfl)
  x_InvalidTime := PySem.DueE.cls_ok (c.fact 37 (f := fun K => PySem.DueE.dueClsB (He.ga K "DueError") (He.ga K "InvalidTime") (He.ma K (He.ga K "DueError") "__init__") K) rfl)
  due := by
    obtain ⟨p1, p2, p3, q1, q2, q3, q4, q5, q6, r1, r2, r3, r4, e1, e2⟩ := ini_eq
    exact PySem.DueE.init_ok ((c.cell 0 (p := iniP) rfl).trans e1) e2 (c.fact 38 (f := fun K => PySem.DueE.dueInitB PR.main.file (He.ga K "DueError") (He.ma K (He.ga K "DueError") "__init__") K) rfl) (by decide +kernel) (c.fact 39 (f := fun K => He.eqO (PySem.W.nsIn K mainGlobals "super") (some none)) rfl) (c.fact 40 (f := fun K => He.eqO (PySem.W.nsIn K cStatics "thirdparty.any") (some none)) rfl)
end
local macro_rules | `(tactic| walk_at "ln") => `(tactic| (intro vs H Q E h; repeat (first | (obtain ⟨e, _⟩ := h; subst e; rfl) | (obtain ⟨_, h⟩ := h))))
theorem g_due_moments_fold_gap_time_clock_rel {zs : List V} {ws : List Value} (r : Vals zs ws) : Vals (g_due_moments_fold_gap_time_clock zs) (g_due_moments_fold_gap_time_clock ws) := by
  cases r with
  | nil => exact .nil
  | cons r0 r =>
    cases r with
    | nil => exact .nil
    | cons r1 r =>
      cases r with
      | nil => exact .nil
      | cons r2 r =>
        cases r with
        | nil => exact .nil
        | cons r3 r =>
          cases r with
          | cons _ _ => exact .nil
          | nil => exact .cons r3 (.cons r2 (.cons r1 (.cons r0 (.nil))))
theorem facts {w : World} {K : PySem.W.Frag} {h : Heap} {mg : Str → Option Value} (X : K.In h) (G : h.Ns mainGlobals mg) (c : SaysM fs fn fc K) :
    ∃ fd : FuncData, (∀ (s : Shared) (v : Value), BindsTo s fd ⟨[v], []⟩ [("script", v)]) ∧ ∀ base : Heap, K.In base → base.Ns mainGlobals mg → FnOk PR w K mg base (L2.CX PR w) 42 (He.ga K "law") fd ["script"] (sp_law K) := by
  have T := tx X G c
  obtain ⟨fd_is_whole, F_is_whole⟩ := c.def_ 0 (d := dd "is_whole" 11) rfl
  obtain ⟨fd_is_between, F_is_between⟩ := c.def_ 1 (d := dd "is_between" 12) rfl
  obtain ⟨fd_is_list, F_is_list⟩ := c.def_ 2 (d := dd "is_list" 13) rfl
  obtain ⟨fd_is_list_of, F_is_list_of⟩ := c.def_ 3 (d := dd "is_list_of" 14) rfl
  obtain ⟨fd_is_tuple_of, F_is_tuple_of⟩ := c.def_ 4 (d := dd "is_tuple_of" 15) rfl
  obtain ⟨fd_is_ascending, F_is_ascending⟩ := c.def_ 5 (d := dd "is_ascending" 16) rfl
  obtain ⟨fd_is_time, F_is_time⟩ := c.def_ 6 (d := dd "is_time" 19) rfl
  obtain ⟨fd_check_time, F_check_time⟩ := c.def_ 7 (d := dd "check_time" 20) rfl
  obtain ⟨fd_is_offset, F_is_offset⟩ := c.def_ 8 (d := dd "is_offset" 27) rfl
  obtain ⟨fd_is_change, F_is_change⟩ := c.def_ 9 (d := dd "is_change" 29) rfl
  obtain ⟨fd_are_changes, F_are_changes⟩ := c.def_ 10 (d := dd "are_changes" 30) rfl
  obtain ⟨fd_ranges_of, F_ranges_of⟩ := c.def_ 11 (d := dd "ranges_of" 31) rfl
  obtain ⟨fd_locals_of, F_locals_of⟩ := c.def_ 12 (d := dd "locals_of" 33) rfl
  obtain ⟨fd_moments_of, F_moments_of⟩ := c.def_ 13 (d := dd "moments_of" 34) rfl
  obtain ⟨fd_jump_over, F_jump_over⟩ := c.def_ 14 (d := dd "jump_over" 35) rfl
  obtain ⟨fd_check_clock, F_check_clock⟩ := c.def_ 15 (d := dd "check_clock" 36) rfl
  obtain ⟨fd_check_ways, F_check_ways⟩ := c.def_ 16 (d := dd "check_ways" 37) rfl
  obtain ⟨fd_due_moments, F_due_moments⟩ := c.def_ 17 (d := dd "due_moments" 38) rfl
  obtain ⟨fd__law_cell, F__law_cell⟩ := c.def_ 18 (d := dd "_law_cell" 40) rfl
  obtain ⟨fd__law_box, F__law_box⟩ := c.def_ 19 (d := dd "_law_box" 41) rfl
  obtain ⟨fd__law_take, F__law_take⟩ := c.def_ 20 (d := dd "_law_take" 42) rfl
  obtain ⟨fd__law_same, F__law_same⟩ := c.def_ 21 (d := dd "_law_same" 43) rfl
  obtain ⟨fd__law_clock, F__law_clock⟩ := c.def_ 22 (d := dd "_law_clock" 44) rfl
  obtain ⟨fd__law_offset, F__law_offset⟩ := c.def_ 23 (d := dd "_law_offset" 45) rfl
  obtain ⟨fd__law_ranges, F__law_ranges⟩ := c.def_ 24 (d := dd "_law_ranges" 46) rfl
  obtain ⟨fd__law_moments, F__law_moments⟩ := c.def_ 25 (d := dd "_law_moments" 47) rfl
  obtain ⟨fd__law_due_moments, F__law_due_moments⟩ := c.def_ 26 (d := dd "_law_due_moments" 48) rfl
  obtain ⟨fd__law_asked, F__law_asked⟩ := c.def_ 27 (d := dd "_law_asked" 49) rfl
  obtain ⟨fd__law_rows_right, F__law_rows_right⟩ := c.def_ 28 (d := dd "_law_rows_right" 50) rfl
  obtain ⟨fd__law_far_right, F__law_far_right⟩ := c.def_ 29 (d := dd "_law_far_right" 51) rfl
  obtain ⟨fd__law_refusals_right, F__law_refusals_right⟩ := c.def_ 30 (d := dd "_law_refusals_right" 52) rfl
  obtain ⟨fd_law, F_law⟩ := c.def_ 31 (d := dd "law" 53) rfl
  obtain ⟨fd_Clock___init__, F_Clock___init__⟩ := c.def_ 32 (d := ddm "Clock" "__init__" "Clock.__init__" (mth 32 0)) rfl
  have bl := FunD.bindsA (ps := ["script"]) F_law fun _ _ _ _ _ _ us hl => match us, hl with | [_], _ => rfl
  refine ⟨fd_law, fun s v => bl s [v] rfl, fun base _ _ => ?_⟩
  have ok_is_whole : FnOk PR w K mg base (L2.CX PR w) 3 (He.ga K "is_whole") fd_is_whole ["value"] (sp_is_whole K) := kn_ok F_is_whole sc_is_whole (by walk_at "ln") (fun E => t_is_whole K E) (fun cdv A outer s H E hr => d_is_whole T  hr) (fun vs H Q E h => p_is_whole  vs H Q E h)
  have c_is_whole : Kn PR w K mg base 3 "is_whole" ["value"] (sp_is_whole K) := Kn.of F_is_whole ok_is_whole (He.glo_ok X G (x := "is_whole") (c.fact 45 (f := fun K => (He.Fa.glo "is_whole").ok K) rfl)) (FunD.bindsN (ps := ["value"]) F_is_whole fun _ _ _ _ _ _ us hl => match us, hl with | [_], _ => rfl)
  have ok_is_between : FnOk PR w K mg base (L2.CX PR w) 4 (He.ga K "is_between") fd_is_between ["value", "least", "most"] (sp_is_between K) := kn_ok F_is_between sc_is_between (by walk_at "ln") (fun E => t_is_between K E) (fun cdv A outer s H E hr => d_is_between T c_is_whole hr) (fun vs H Q E h => p_is_between  vs H Q E h)
  have c_is_between : Kn PR w K mg base 4 "is_between" ["value", "least", "most"] (sp_is_between K) := Kn.of F_is_between ok_is_between (He.glo_ok X G (x := "is_between") (c.fact 46 (f := fun K => (He.Fa.glo "is_between").ok K) rfl)) (FunD.bindsN (ps := ["value", "least", "most"]) F_is_between fun _ _ _ _ _ _ us hl => match us, hl with | [_, _, _], _ => rfl)
  have ok_is_list : FnOk PR w K mg base (L2.CX PR w) 3 (He.ga K "is_list") fd_is_list ["value"] (sp_is_list K) := kn_ok F_is_list sc_is_list (by walk_at "ln") (fun E => t_is_list K E) (fun cdv A outer s H E hr => d_is_list T  hr) (fun vs H Q E h => p_is_list  vs H Q E h)
  have c_is_list : Kn PR w K mg base 3 "is_list" ["value"] (sp_is_list K) := Kn.of F_is_list ok_is_list (He.glo_ok X G (x := "is_list") (c.fact 47 (f := fun K => (He.Fa.glo "is_list").ok K) rfl)) (FunD.bindsN (ps := ["value"]) F_is_list fun _ _ _ _ _ _ us hl => match us, hl with | [_], _ => rfl)
  have ok_is_list_of : FnOk PR w K mg base (L2.CX PR w) 4 (He.ga K "is_list_of") fd_is_list_of ["value", "least", "most"] (sp_is_list_of K) := kn_ok F_is_list_of sc_is_list_of (by walk_at "ln") (fun E => t_is_list_of K E) (fun cdv A outer s H E hr => d_is_list_of T c_is_list hr) (fun vs H Q E h => p_is_list_of  vs H Q E h)
  have c_is_list_of : Kn PR w K mg base 4 "is_list_of" ["value", "least", "most"] (sp_is_list_of K) := Kn.of F_is_list_of ok_is_list_of (He.glo_ok X G (x := "is_list_of") (c.fact 48 (f := fun K => (He.Fa.glo "is_list_of").ok K) rfl)) (FunD.bindsN (ps := ["value", "least", "most"]) F_is_list_of fun _ _ _ _ _ _ us hl => match us, hl with | [_, _, _], _ => rfl)
  have ok_is_tuple_of : FnOk PR w K mg base (L2.CX PR w) 3 (He.ga K "is_tuple_of") fd_is_tuple_of ["value", "many"] (sp_is_tuple_of K) := kn_ok F_is_tuple_of sc_is_tuple_of (by walk_at "ln") (fun E => t_is_tuple_of K E) (fun cdv A outer s H E hr => d_is_tuple_of T  hr) (fun vs H Q E h => p_is_tuple_of  vs H Q E h)
  have c_is_tuple_of : Kn PR w K mg base 3 "is_tuple_of" ["value", "many"] (sp_is_tuple_of K) := Kn.of F_is_tuple_of ok_is_tuple_of (He.glo_ok X G (x := "is_tuple_of") (c.fact 49 (f := fun K => (He.Fa.glo "is_tuple_of").ok K) rfl)) (FunD.bindsN (ps := ["value", "many"]) F_is_tuple_of fun _ _ _ _ _ _ us hl => match us, hl with | [_, _], _ => rfl)
  have ok_is_ascending : FnOk PR w K mg base (L2.CX PR w) 3 (He.ga K "is_ascending") fd_is_ascending ["items"] (sp_is_ascending K) := kn_ok F_is_ascending sc_is_ascending (by walk_at "ln") (fun E => t_is_ascending K E) (fun cdv A outer s H E hr => d_is_ascending T  hr) (fun vs H Q E h => p_is_ascending  vs H Q E h)
  have c_is_ascending : Kn PR w K mg base 3 "is_ascending" ["items"] (sp_is_ascending K) := Kn.of F_is_ascending ok_is_ascending (He.glo_ok X G (x := "is_ascending") (c.fact 50 (f := fun K => (He.Fa.glo "is_ascending").ok K) rfl)) (FunD.bindsN (ps := ["items"]) F_is_ascending fun _ _ _ _ _ _ us hl => match us, hl with | [_], _ => rfl)
  have ok_is_time : FnOk PR w K mg base (L2.CX PR w) 5 (He.ga K "is_time") fd_is_time ["value"] (sp_is_time K) := kn_ok F_is_time sc_is_time (by walk_at "ln") (fun E => t_is_time K E) (fun cdv A outer s H E hr => d_is_time T c_is_between hr) (fun vs H Q E h => p_is_time  vs H Q E h)
  have c_is_time : Kn PR w K mg base 5 "is_time" ["value"] (sp_is_time K) := Kn.of F_is_time ok_is_time (He.glo_ok X G (x := "is_time") (c.fact 51 (f := fun K => (He.Fa.glo "is_time").ok K) rfl)) (FunD.bindsN (ps := ["value"]) F_is_time fun _ _ _ _ _ _ us hl => match us, hl with | [_], _ => rfl)
  have ok_check_time : FnOk PR w K mg base (L2.CX PR w) 6 (He.ga K "check_time") fd_check_time ["time"] (sp_check_time K) := kn_ok F_check_time sc_check_time (by walk_at "ln") (fun E => t_check_time K E) (fun cdv A outer s H E hr => d_check_time T c_is_time hr) (fun vs H Q E h => p_check_time  vs H Q E h)
  have c_check_time : Kn PR w K mg base 6 "check_time" ["time"] (sp_check_time K) := Kn.of F_check_time ok_check_time (He.glo_ok X G (x := "check_time") (c.fact 52 (f := fun K => (He.Fa.glo "check_time").ok K) rfl)) (FunD.bindsN (ps := ["time"]) F_check_time fun _ _ _ _ _ _ us hl => match us, hl with | [_], _ => rfl)
  have ok_is_offset : FnOk PR w K mg base (L2.CX PR w) 5 (He.ga K "is_offset") fd_is_offset ["value"] (sp_is_offset K) := kn_ok F_is_offset sc_is_offset (by walk_at "ln") (fun E => t_is_offset K E) (fun cdv A outer s H E hr => d_is_offset T c_is_between hr) (fun vs H Q E h => p_is_offset  vs H Q E h)
  have c_is_offset : Kn PR w K mg base 5 "is_offset" ["value"] (sp_is_offset K) := Kn.of F_is_offset ok_is_offset (He.glo_ok X G (x := "is_offset") (c.fact 53 (f := fun K => (He.Fa.glo "is_offset").ok K) rfl)) (FunD.bindsN (ps := ["value"]) F_is_offset fun _ _ _ _ _ _ us hl => match us, hl with | [_], _ => rfl)
  have ok_is_change : FnOk PR w K mg base (L2.CX PR w) 6 (He.ga K "is_change") fd_is_change ["value"] (sp_is_change K) := kn_ok F_is_change sc_is_change (by walk_at "ln") (fun E => t_is_change K E) (fun cdv A outer s H E hr => d_is_change T c_is_between c_is_offset c_is_tuple_of hr) (fun vs H Q E h => p_is_change  vs H Q E h)
  have c_is_change : Kn PR w K mg base 6 "is_change" ["value"] (sp_is_change K) := Kn.of F_is_change ok_is_change (He.glo_ok X G (x := "is_change") (c.fact 54 (f := fun K => (He.Fa.glo "is_change").ok K) rfl)) (FunD.bindsN (ps := ["value"]) F_is_change fun _ _ _ _ _ _ us hl => match us, hl with | [_], _ => rfl)
  have ok_are_changes : FnOk PR w K mg base (L2.CX PR w) 7 (He.ga K "are_changes") fd_are_changes ["value"] (sp_are_changes K) := kn_ok F_are_changes sc_are_changes (by walk_at "ln") (fun E => t_are_changes K E) (fun cdv A outer s H E hr => d_are_changes T c_is_ascending c_is_change c_is_list_of hr) (fun vs H Q E h => p_are_changes  vs H Q E h)
  have c_are_changes : Kn PR w K mg base 7 "are_changes" ["value"] (sp_are_changes K) := Kn.of F_are_changes ok_are_changes (He.glo_ok X G (x := "are_changes") (c.fact 55 (f := fun K => (He.Fa.glo "are_changes").ok K) rfl)) (FunD.bindsN (ps := ["value"]) F_are_changes fun _ _ _ _ _ _ us hl => match us, hl with | [_], _ => rfl)
  have ok_ranges_of : FnOk PR w K mg base (L2.CX PR w) 3 (He.ga K "ranges_of") fd_ranges_of ["offset", "changes"] (sp_ranges_of K) := kn_ok F_ranges_of sc_ranges_of (by walk_at "ln") (fun E => t_ranges_of K E) (fun cdv A outer s H E hr => d_ranges_of T  hr) (fun vs H Q E h => p_ranges_of  vs H Q E h)
  have c_ranges_of : Kn PR w K mg base 3 "ranges_of" ["offset", "changes"] (sp_ranges_of K) := Kn.of F_ranges_of ok_ranges_of (He.glo_ok X G (x := "ranges_of") (c.fact 56 (f := fun K => (He.Fa.glo "ranges_of").ok K) rfl)) (FunD.bindsN (ps := ["offset", "changes"]) F_ranges_of fun _ _ _ _ _ _ us hl => match us, hl with | [_, _], _ => rfl)
  have ok_locals_of : FnOk PR w K mg base (L2.CX PR w) 3 (He.ga K "locals_of") fd_locals_of ["clock"] (sp_locals_of K) := kn_ok F_locals_of sc_locals_of (by walk_at "ln") (fun E => t_locals_of K E) (fun cdv A outer s H E hr => d_locals_of T  hr) (fun vs H Q E h => p_locals_of  vs H Q E h)
  have c_locals_of : Kn PR w K mg base 3 "locals_of" ["clock"] (sp_locals_of K) := Kn.of F_locals_of ok_locals_of (He.glo_ok X G (x := "locals_of") (c.fact 57 (f := fun K => (He.Fa.glo "locals_of").ok K) rfl)) (FunD.bindsN (ps := ["clock"]) F_locals_of fun _ _ _ _ _ _ us hl => match us, hl with | [_], _ => rfl)
  have ok_moments_of : FnOk PR w K mg base (L2.CX PR w) 4 (He.ga K "moments_of") fd_moments_of ["clock", "time"] (sp_moments_of K) := kn_ok F_moments_of sc_moments_of (by walk_at "ln") (fun E => t_moments_of K E) (fun cdv A outer s H E hr => d_moments_of T c_locals_of hr) (fun vs H Q E h => p_moments_of  vs H Q E h)
  have c_moments_of : Kn PR w K mg base 4 "moments_of" ["clock", "time"] (sp_moments_of K) := Kn.of F_moments_of ok_moments_of (He.glo_ok X G (x := "moments_of") (c.fact 58 (f := fun K => (He.Fa.glo "moments_of").ok K) rfl)) (FunD.bindsN (ps := ["clock", "time"]) F_moments_of fun _ _ _ _ _ _ us hl => match us, hl with | [_, _], _ => rfl)
  have ok_jump_over : FnOk PR w K mg base (L2.CX PR w) 4 (He.ga K "jump_over") fd_jump_over ["clock", "time"] (sp_jump_over K) := kn_ok F_jump_over sc_jump_over (by walk_at "ln") (fun E => t_jump_over K E) (fun cdv A outer s H E hr => d_jump_over T c_locals_of hr) (fun vs H Q E h => p_jump_over  vs H Q E h)
  have c_jump_over : Kn PR w K mg base 4 "jump_over" ["clock", "time"] (sp_jump_over K) := Kn.of F_jump_over ok_jump_over (He.glo_ok X G (x := "jump_over") (c.fact 59 (f := fun K => (He.Fa.glo "jump_over").ok K) rfl)) (FunD.bindsN (ps := ["clock", "time"]) F_jump_over fun _ _ _ _ _ _ us hl => match us, hl with | [_, _], _ => rfl)
  have ok_check_clock : FnOk PR w K mg base (L2.CX PR w) 3 (He.ga K "check_clock") fd_check_clock ["clock"] (sp_check_clock K) := kn_ok F_check_clock sc_check_clock (by walk_at "ln") (fun E => t_check_clock K E) (fun cdv A outer s H E hr => d_check_clock T  hr) (fun vs H Q E h => p_check_clock T.k_Clock vs H Q E h)
  have c_check_clock : Kn PR w K mg base 3 "check_clock" ["clock"] (sp_check_clock K) := Kn.of F_check_clock ok_check_clock (He.glo_ok X G (x := "check_clock") (c.fact 60 (f := fun K => (He.Fa.glo "check_clock").ok K) rfl)) (FunD.bindsN (ps := ["clock"]) F_check_clock fun _ _ _ _ _ _ us hl => match us, hl with | [_], _ => rfl)
  have ok_check_ways : FnOk PR w K mg base (L2.CX PR w) 3 (He.ga K "check_ways") fd_check_ways ["gap", "fold"] (sp_check_ways K) := kn_ok F_check_ways sc_check_ways (by walk_at "ln") (fun E => t_check_ways K E) (fun cdv A outer s H E hr => d_check_ways T  hr) (fun vs H Q E h => p_check_ways (fun H => He.tupB_ok (vs := [.str "skip", .str "after"]) (c.fact 41 (f := fun K => He.tupB K "GAPS" ([.str "skip", .str "after"])) rfl) H) (fun H => He.tupB_ok (vs := [.str "first", .str "last", .str "both"]) (c.fact 42 (f := fun K => He.tupB K "FOLDS" ([.str "first", .str "last", .str "both"])) rfl) H) vs H Q E h)
  have c_check_ways : Kn PR w K mg base 3 "check_ways" ["gap", "fold"] (sp_check_ways K) := Kn.of F_check_ways ok_check_ways (He.glo_ok X G (x := "check_ways") (c.fact 61 (f := fun K => (He.Fa.glo "check_ways").ok K) rfl)) (FunD.bindsN (ps := ["gap", "fold"]) F_check_ways fun _ _ _ _ _ _ us hl => match us, hl with | [_, _], _ => rfl)
  have ok_due_moments : FnOk PR w K mg base (L2.CX PR w) 7 (He.ga K "due_moments") fd_due_moments ["clock", "time", "gap", "fold"] (sp_due_moments K) := kn_ok F_due_moments sc_due_moments (by walk_at "ln") (fun E => t_due_moments K E) (fun cdv A outer s H E hr => d_due_moments T c_check_clock c_check_time c_check_ways c_jump_over c_moments_of hr) (fun vs H Q E h => p_due_moments  vs H Q E h)
  have c_due_moments : Kn PR w K mg base 7 "due_moments" ["clock", "time", "gap", "fold"] (sp_due_moments K) := Kn.of F_due_moments ok_due_moments (He.glo_ok X G (x := "due_moments") (c.fact 62 (f := fun K => (He.Fa.glo "due_moments").ok K) rfl)) (FunD.bindsN (ps := ["clock", "time", "gap", "fold"]) F_due_moments fun _ _ _ _ _ _ us hl => match us, hl with | [_, _, _, _], _ => rfl)
  have k_due_moments_fold_gap_time_clock : Kk PR w K mg base 7 "due_moments" ["clock", "time", "gap", "fold"] ["fold", "gap", "time", "clock"] g_due_moments_fold_gap_time_clock (sp_due_moments K) := Kk.of F_due_moments ok_due_moments (He.glo_ok X G (x := "due_moments") (c.fact 62 (f := fun K => (He.Fa.glo "due_moments").ok K) rfl)) (fun _ _ _ _ _ _ us hl => match us, hl with | [_, _, _, _], _ => rfl) (fun {zs ws} r => g_due_moments_fold_gap_time_clock_rel r)
  have ok__law_cell : FnOk PR w K mg base (L2.CX PR w) 3 (He.ga K "_law_cell") fd__law_cell ["script", "k"] (sp__law_cell K) := kn_ok F__law_cell sc__law_cell (by walk_at "ln") (fun E => t__law_cell K E) (fun cdv A outer s H E hr => d__law_cell T  hr) (fun vs H Q E h => p__law_cell  vs H Q E h)
  have c__law_cell : Kn PR w K mg base 3 "_law_cell" ["script", "k"] (sp__law_cell K) := Kn.of F__law_cell ok__law_cell (He.glo_ok X G (x := "_law_cell") (c.fact 63 (f := fun K => (He.Fa.glo "_law_cell").ok K) rfl)) (FunD.bindsN (ps := ["script", "k"]) F__law_cell fun _ _ _ _ _ _ us hl => match us, hl with | [_, _], _ => rfl)
  have ok__law_box : FnOk PR w K mg base (L2.CX PR w) 3 (He.ga K "_law_box") fd__law_box ["great"] (sp__law_box K) := kn_ok F__law_box sc__law_box (by walk_at "ln") (fun E => t__law_box K E) (fun cdv A outer s H E hr => d__law_box T  hr) (fun vs H Q E h => p__law_box  vs H Q E h)
  have c__law_box : Kn PR w K mg base 3 "_law_box" ["great"] (sp__law_box K) := Kn.of F__law_box ok__law_box (He.glo_ok X G (x := "_law_box") (c.fact 64 (f := fun K => (He.Fa.glo "_law_box").ok K) rfl)) (FunD.bindsN (ps := ["great"]) F__law_box fun _ _ _ _ _ _ us hl => match us, hl with | [_], _ => rfl)
  have ok__law_take : FnOk PR w K mg base (L2.CX PR w) 3 (He.ga K "_law_take") fd__law_take ["box", "many"] (sp__law_take K) := kn_ok F__law_take sc__law_take (by walk_at "ln") (fun E => t__law_take K E) (fun cdv A outer s H E hr => d__law_take T  hr) (fun vs H Q E h => p__law_take  vs H Q E h)
  have c__law_take : Kn PR w K mg base 3 "_law_take" ["box", "many"] (sp__law_take K) := Kn.of F__law_take ok__law_take (He.glo_ok X G (x := "_law_take") (c.fact 65 (f := fun K => (He.Fa.glo "_law_take").ok K) rfl)) (FunD.bindsN (ps := ["box", "many"]) F__law_take fun _ _ _ _ _ _ us hl => match us, hl with | [_, _], _ => rfl)
  have cs : ∀ n, Kn PR w K mg base (4 + n) "_law_same" ["told", "due"] (spInE K n) := by
    intro n
    induction n with
    | zero => exact Kn.of F__law_same ⟨fun _ _ _ _ z => z.elim, fun _ _ _ _ _ _ _ _ _ _ _ _ _ z => z.elim⟩ (He.glo_ok X G (x := "_law_same") (c.fact 66 (f := fun K => (He.Fa.glo "_law_same").ok K) rfl)) (FunD.bindsN (ps := ["told", "due"]) F__law_same fun _ _ _ _ _ _ us hl => match us, hl with | [_, _], _ => rfl)
    | succ n ih => exact Kn.of F__law_same (kn_ok F__law_same sc__law_same (by walk_at "ln") (fun E => t__law_same K (spInE K n) E) (fun cdv A outer s H E hr => d__law_same T ih (Nat.le_refl _) (by omega) hr) (fun vs H Q E h => p__law_same n vs H Q E h)) (He.glo_ok X G (x := "_law_same") (c.fact 66 (f := fun K => (He.Fa.glo "_law_same").ok K) rfl)) (FunD.bindsN (ps := ["told", "due"]) F__law_same fun _ _ _ _ _ _ us hl => match us, hl with | [_, _], _ => rfl)
  have c__law_same : Kn PR w K mg base 40 "_law_same" ["told", "due"] (sp_sameS K) := Kn_mono (cs 9) (by decide)
  have ok__law_clock : FnOk PR w K mg base (L2.CX PR w) 4 (He.ga K "_law_clock") fd__law_clock ["box"] (sp__law_clock K) := kn_ok F__law_clock sc__law_clock (by walk_at "ln") (fun E => t__law_clock K E) (fun cdv A outer s H E hr => d__law_clock T c__law_take hr) (fun vs H Q E h => p__law_clock  vs H Q E h)
  have c__law_clock : Kn PR w K mg base 4 "_law_clock" ["box"] (sp__law_clock K) := Kn.of F__law_clock ok__law_clock (He.glo_ok X G (x := "_law_clock") (c.fact 67 (f := fun K => (He.Fa.glo "_law_clock").ok K) rfl)) (FunD.bindsN (ps := ["box"]) F__law_clock fun _ _ _ _ _ _ us hl => match us, hl with | [_], _ => rfl)
  have ok__law_offset : FnOk PR w K mg base (L2.CX PR w) 3 (He.ga K "_law_offset") fd__law_offset ["clock", "moment"] (sp__law_offset K) := kn_ok F__law_offset sc__law_offset (by walk_at "ln") (fun E => t__law_offset K E) (fun cdv A outer s H E hr => d__law_offset T  hr) (fun vs H Q E h => p__law_offset  vs H Q E h)
  have c__law_offset : Kn PR w K mg base 3 "_law_offset" ["clock", "moment"] (sp__law_offset K) := Kn.of F__law_offset ok__law_offset (He.glo_ok X G (x := "_law_offset") (c.fact 68 (f := fun K => (He.Fa.glo "_law_offset").ok K) rfl)) (FunD.bindsN (ps := ["clock", "moment"]) F__law_offset fun _ _ _ _ _ _ us hl => match us, hl with | [_, _], _ => rfl)
  have ok__law_ranges : FnOk PR w K mg base (L2.CX PR w) 3 (He.ga K "_law_ranges") fd__law_ranges ["clock", "last"] (sp__law_ranges K) := kn_ok F__law_ranges sc__law_ranges (by walk_at "ln") (fun E => t__law_ranges K E) (fun cdv A outer s H E hr => d__law_ranges T  hr) (fun vs H Q E h => p__law_ranges  vs H Q E h)
  have c__law_ranges : Kn PR w K mg base 3 "_law_ranges" ["clock", "last"] (sp__law_ranges K) := Kn.of F__law_ranges ok__law_ranges (He.glo_ok X G (x := "_law_ranges") (c.fact 69 (f := fun K => (He.Fa.glo "_law_ranges").ok K) rfl)) (FunD.bindsN (ps := ["clock", "last"]) F__law_ranges fun _ _ _ _ _ _ us hl => match us, hl with | [_, _], _ => rfl)
  have ok__law_moments : FnOk PR w K mg base (L2.CX PR w) 4 (He.ga K "_law_moments") fd__law_moments ["clock", "time"] (sp__law_moments K) := kn_ok F__law_moments sc__law_moments (by walk_at "ln") (fun E => t__law_moments K E) (fun cdv A outer s H E hr => d__law_moments T c__law_ranges hr) (fun vs H Q E h => p__law_moments  vs H Q E h)
  have c__law_moments : Kn PR w K mg base 4 "_law_moments" ["clock", "time"] (sp__law_moments K) := Kn.of F__law_moments ok__law_moments (He.glo_ok X G (x := "_law_moments") (c.fact 70 (f := fun K => (He.Fa.glo "_law_moments").ok K) rfl)) (FunD.bindsN (ps := ["clock", "time"]) F__law_moments fun _ _ _ _ _ _ us hl => match us, hl with | [_, _], _ => rfl)
  have ok__law_due_moments : FnOk PR w K mg base (L2.CX PR w) 5 (He.ga K "_law_due_moments") fd__law_due_moments ["clock", "time", "gap", "fold"] (sp__law_due_moments K) := kn_ok F__law_due_moments sc__law_due_moments (by walk_at "ln") (fun E => t__law_due_moments K E) (fun cdv A outer s H E hr => d__law_due_moments T c__law_moments c__law_ranges hr) (fun vs H Q E h => p__law_due_moments  vs H Q E h)
  have c__law_due_moments : Kn PR w K mg base 5 "_law_due_moments" ["clock", "time", "gap", "fold"] (sp__law_due_moments K) := Kn.of F__law_due_moments ok__law_due_moments (He.glo_ok X G (x := "_law_due_moments") (c.fact 71 (f := fun K => (He.Fa.glo "_law_due_moments").ok K) rfl)) (FunD.bindsN (ps := ["clock", "time", "gap", "fold"]) F__law_due_moments fun _ _ _ _ _ _ us hl => match us, hl with | [_, _, _, _], _ => rfl)
  have ok__law_asked : FnOk PR w K mg base (L2.CX PR w) 8 (He.ga K "_law_asked") fd__law_asked ["named", "clock", "time", "gap", "fold"] (sp__law_asked K) := kn_ok F__law_asked sc__law_asked (by walk_at "ln") (fun E => t__law_asked K E) (fun cdv A outer s H E hr => d__law_asked T c_due_moments k_due_moments_fold_gap_time_clock hr) (fun vs H Q E h => p__law_asked (ext_ok (c.fact 43 (f := fun K => extB ["InvalidClock", "InvalidTime", "InvalidGap", "InvalidFold"] "DueError" K) rfl)) (kit_ok (c.fact 44 (f := fun K => kitB ["InvalidClock", "InvalidTime", "InvalidGap", "InvalidFold"] K) rfl)) vs H Q E h)
  have c__law_asked : Kn PR w K mg base 8 "_law_asked" ["named", "clock", "time", "gap", "fold"] (sp__law_asked K) := Kn.of F__law_asked ok__law_asked (He.glo_ok X G (x := "_law_asked") (c.fact 72 (f := fun K => (He.Fa.glo "_law_asked").ok K) rfl)) (FunD.bindsN (ps := ["named", "clock", "time", "gap", "fold"]) F__law_asked fun _ _ _ _ _ _ us hl => match us, hl with | [_, _, _, _, _], _ => rfl)
  have ok__law_rows_right : FnOk PR w K mg base (L2.CX PR w) 41 (He.ga K "_law_rows_right") fd__law_rows_right ["box", "own", "clock"] (sp__law_rows_right K) := kn_ok F__law_rows_right sc__law_rows_right (by walk_at "ln") (fun E => t__law_rows_right K E) (fun cdv A outer s H E hr => d__law_rows_right T c__law_asked c__law_due_moments c__law_offset c__law_same c__law_take c_due_moments hr) (fun vs H Q E h => p__law_rows_right  vs H Q E h)
  have c__law_rows_right : Kn PR w K mg base 41 "_law_rows_right" ["box", "own", "clock"] (sp__law_rows_right K) := Kn.of F__law_rows_right ok__law_rows_right (He.glo_ok X G (x := "_law_rows_right") (c.fact 73 (f := fun K => (He.Fa.glo "_law_rows_right").ok K) rfl)) (FunD.bindsN (ps := ["box", "own", "clock"]) F__law_rows_right fun _ _ _ _ _ _ us hl => match us, hl with | [_, _, _], _ => rfl)
  have ok__law_far_right : FnOk PR w K mg base (L2.CX PR w) 41 (He.ga K "_law_far_right") fd__law_far_right ["box", "own", "clock"] (sp__law_far_right K) := kn_ok F__law_far_right sc__law_far_right (by walk_at "ln") (fun E => t__law_far_right K E) (fun cdv A outer s H E hr => d__law_far_right T c__law_due_moments c__law_same c__law_take c_due_moments hr) (fun vs H Q E h => p__law_far_right  vs H Q E h)
  have c__law_far_right : Kn PR w K mg base 41 "_law_far_right" ["box", "own", "clock"] (sp__law_far_right K) := Kn.of F__law_far_right ok__law_far_right (He.glo_ok X G (x := "_law_far_right") (c.fact 74 (f := fun K => (He.Fa.glo "_law_far_right").ok K) rfl)) (FunD.bindsN (ps := ["box", "own", "clock"]) F__law_far_right fun _ _ _ _ _ _ us hl => match us, hl with | [_, _, _], _ => rfl)
  have ok__law_refusals_right : FnOk PR w K mg base (L2.CX PR w) 41 (He.ga K "_law_refusals_right") fd__law_refusals_right ["box", "own", "clock"] (sp__law_refusals_right K) := kn_ok F__law_refusals_right sc__law_refusals_right (by walk_at "ln") (fun E => t__law_refusals_right K E) (fun cdv A outer s H E hr => d__law_refusals_right T c__law_asked c__law_same c__law_take hr) (fun vs H Q E h => p__law_refusals_right  vs H Q E h)
  have c__law_refusals_right : Kn PR w K mg base 41 "_law_refusals_right" ["box", "own", "clock"] (sp__law_refusals_right K) := Kn.of F__law_refusals_right ok__law_refusals_right (He.glo_ok X G (x := "_law_refusals_right") (c.fact 75 (f := fun K => (He.Fa.glo "_law_refusals_right").ok K) rfl)) (FunD.bindsN (ps := ["box", "own", "clock"]) F__law_refusals_right fun _ _ _ _ _ _ us hl => match us, hl with | [_, _, _], _ => rfl)
  have ok_Clock___init__ : FnOk PR w K mg base (L2.CX PR w) 8 (He.ma K (He.ga K "Clock") "__init__") fd_Clock___init__ ["self", "offset", "changes"] (sp_Clock___init__ K) := kn_ok F_Clock___init__ sc_Clock___init__ (by walk_at "ln") (fun E => t_Clock___init__ K E) (fun cdv A outer s H E hr => d_Clock___init__ T c_are_changes c_is_offset c_ranges_of hr) (fun vs H Q E h => p_Clock___init__  vs H Q E h)
  have i_Clock : Kc PR w K mg base 8 "Clock" (He.ga K "Clock") ["self", "offset", "changes"] (sp_Clock___init__ K) := ⟨_, _, ok_Clock___init__, He.mkr_ok (c.fact 77 (f := fun K => (He.Fa.mkr "Clock").ok K) rfl), He.glo_ok X G (x := "Clock") (c.fact 22 (f := fun K => (He.Fa.glo "Clock").ok K) rfl), (FunD.bindsN (ps := ["self", "offset", "changes"]) F_Clock___init__ fun _ _ _ _ _ _ us hl => match us, hl with | [_, _, _], _ => rfl)⟩
  have ok_law : FnOk PR w K mg base (L2.CX PR w) 42 (He.ga K "law") fd_law ["script"] (sp_law K) := kn_ok F_law sc_law (by walk_at "ln") (fun E => t_law K E) (fun cdv A outer s H E hr => d_law T i_Clock c__law_box c__law_cell c__law_clock c__law_far_right c__law_refusals_right c__law_rows_right hr) (fun vs H Q E h => p_law T.k_Clock vs H Q E h)
  exact ok_law
end My
open PySem PySem.W PySem.Calls PyProof.Rows
theorem PySem.Challenge.cw_dueagain_k17_whole_due_moments_of_local_holds : PySem.Challenge.rw_dueagain_k17_whole_due_moments_of_local.Holds := by
  w_on; o_law
  refine HandSHeadRun.head_any (r := OpenLaw.row PySem.Challenge.rw_dueagain_k17_whole_due_moments_of_local) (q := view (OpenLaw.row PySem.Challenge.rw_dueagain_k17_whole_due_moments_of_local).prog [53]) (H := My.hk) (ob := My.ob) (M := 4000) (loose := My.names) (d := HandSHeadRun.topDef (OpenLaw.row PySem.Challenge.rw_dueagain_k17_whole_due_moments_of_local).prog 53) (kwd := []) My.ob_eq
    (by kernel_rfl) (fun s => by kernel_rfl) My.run (by kernel_rfl) (by kernel_rfl) (by kernel_rfl) (by rfl) (by first | assumption | decide +kernel) (by decide +kernel) ⟨rfl, rfl, rfl, rfl, rfl, by decide +kernel⟩ ?hw ?hc
  case hw => w_witness2
  case hc =>
    refine Kx.walk_ofX (l := PySem.Challenge.rw_dueagain_k17_whole_due_moments_of_local) (n := 63) (k := 42) (x := "script") rfl (by decide) (by kernel_rfl) ⟨rfl, by decide, by decide⟩ ?F
    intro w mg fa h Y G hmg0
    obtain ⟨K, KX, c⟩ := Y
    have hmg : mg ("law" : PySem.Str) = some (.ref fa) := by
      have e : (HandSHeadRun.topDef (OpenLaw.row PySem.Challenge.rw_dueagain_k17_whole_due_moments_of_local).prog 53).name = ("law" : PySem.Str) := by kernel_rfl
      rw [← e]
      exact hmg0
    have e := hmg.symm.trans (He.glo_ok KX G (x := "law") (c.fact 76 rfl))
    cases e
    obtain ⟨fd, hb, hF⟩ := My.facts (w := w) KX G c
    exact ⟨K, fd, My.sp_law K, KX, hb, fun H a ns hl _ hS => ⟨a, ns, rfl, hS, hl, fun _ => rfl⟩, hF⟩
