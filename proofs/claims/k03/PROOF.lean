import PyProof.Rows.All
import Wide.All
import OpenK.AllK
import Wide.FinOn
import KE.KExcSuper
import HandS.ForExc
import HandS.ExcInit
import HandS.ExcSuper
import HandS.ExcField
import HandS.TryMany
import HandS.CallSlots
import HandS.Defaults
import KE.KExcIs
import HandS.IsInst
import HandS.ForMost
import HandS.Wide
import HandS.TupAny
import HandS.TupLe
import HandS.Style
import HandS.Deep
import HandS.Codes
import HandS.TryOnly
import HandS.WordsDict
import HandS.TupLen
import HandS.HeadHook2
import HandS.HeadEnd
import PySem.Challenge.RW_dueagain_k03_places_in_years_and_months
import HandS.Head0
import HandS.Head1
import HandS.Head2
set_option Elab.async false
set_option linter.all false
set_option maxRecDepth 100000
set_option maxHeartbeats 4000000
namespace PySem
namespace DueE
open PySem.W PySem.Calls PyProof.Rows PySem.HandSPX
/-! the text of DueError.__init__: super().__init__(given); self.given = given -/
def iA (p1 p2 p3 : Pos) : Arguments := { posonlyargs := [], args := [{ arg := "self", annotation := none, pos := p1 }, { arg := "given", annotation := none, pos := p2 }], vararg := none, kwonlyargs := [], kw_defaults := [], kwarg := none, defaults := [.Constant .none 0 p3] }
def iB (q1 q2 q3 q4 q5 q6 r1 r2 r3 r4 : Pos) : List Stmt :=
  [.Expr (.Call (.Attribute (.Call (.Name "super" q1) [] [] q2) "__init__" q3) [.Name "given" q4] [] q5) q6, .Assign [.Attribute (.Name "self" r1) "given" r2] (.Name "given" r3) r4]
def iS : Scope := { kind := .function, names := [(PySem.Str.ofString "self", .local), (PySem.Str.ofString "given", .local), (PySem.Str.ofString "__class__", .free), (PySem.Str.ofString "super", .globalImplicit)], isGenerator := false, isCoroutine := false, more := [] }
/-- what the written part says of DueError, at D, of its __init__, at fI -/
structure InitTxt (P : Program) (K : Frag) (D fI : Addr) : Prop where
  fn : ∃ (cc cda TD : Addr) (oD : Obj) (itD : Value) (nD : Nat) (oc : Value) (od : Option Addr) (kV doc pm : Value) (an : Option Addr) (ct : Value) (osl : Array (Option Value)) (p1 p2 p3 q1 q2 q3 q4 q5 q6 r1 r2 r3 r4 : Pos)
      (ccl : Value) (cdd : Option Addr) (ccs : Array (Option Value)) (vs : Array Value) (file : Str) (tf : Tok) (cl : Value) (cld : Option Addr) (csl : Array (Option Value)) (cdD : ClassData),
    K.lookup fI = some ⟨oc, od, .func (fnX "__init__" "DueError.__init__" (iA p1 p2 p3) (iB q1 q2 q3 q4 q5 q6 r1 r2 r3 r4) iS [("__class__", cc)] (.ref TD) kV doc pm an (.ref cda) ct), osl⟩ ∧ K.lookup TD = some oD ∧ oD.data = .seq #[itD] nD ∧ codeIn K (.ref cda) "DueError.__init__" = true ∧
    K.lookup cda = some ⟨ccl, cdd, .fields vs, ccs⟩ ∧ vs[2]? = some (.str file tf) ∧ ((P.main.file : Str) == file) = true ∧ (q3.endLine == q5.line) = true ∧
    K.lookup cc = some ⟨cl, cld, .cell (some (.ref D)), csl⟩ ∧ clsIn K D = some cdD
  top : (P.main.scope.names.lookup ("super" : Str)).isSome = false
  noSuper : nsIn K mainGlobals "super" = some none
  stat : nsIn K cStatics "thirdparty.any" = some none
/-- what it says of a class of the family, at C -/
structure ClsTxt (K : Frag) (D C fI : Addr) : Prop where
  cls : ∃ nm q N bs bm sn sub ab col dd k0 k1 k2 k3 k5, K.lookup C = some (excClassObj nm q C N bs bm true sn sub ab col dd k0 k1 k2 k3 k5 "ValueError.__new__") ∧ refsVE bm = true
  sup : ks_superIn K C D "__init__" = some (some (.builtin "ValueError.__init__"))
  isD : mroIn K C (.ref D) = some true
  isV : subIn K (.ref C) (.type "ValueError") = some true
  sa : findIn K (.ref C) "__setattr__" = some (some (.builtin "object.__setattr__"))
  noN : findIn K (.ref C) "given" = some none
  iC : findIn K (.ref C) "__init__" = some (some (.ref fI))
  tI : typeIn K (.ref fI) = some (.type "function")
  kC : keepIn K (.ref C) = true
  exC : subIn K (.ref C) (.type "BaseException") = some true
  tyC : typeIn K (.ref C) = some (.type "type")
theorem one_size (v : Value) : [v].length ≤ sizeLine := by
  rw [sizeLine_eq]
  exact (by decide : 1 ≤ 16777216)
theorem kept_but {K : Frag} {h h' : Heap} {x : Addr} (X : K.In h) (hx : K.lookup x = none) (k : ∀ b o, b ≠ x → h.get? b = some o → h'.get? b = some o) : K.In h' := fun a o e =>
  k a o (fun z => by rw [z, hx] at e; cases e) (X a o e)
theorem ldL {M : Model} {s : Shared} {env : Env} {m : Str → Option Value} {x : Str} {pos : Pos} {v : Value} {Q : Value → Shared → Prop} {A : Around} {E : Value → Shared → Prop} (hn : s.heap.Ns env.locals m) (hv : m x = some v) (h : Q v s)
    (hk : env.scope.kind = .function := by rfl) (hl : env.kindOf x = some .local := by rfl) (hd : (x == ("__debug__" : Str)) = false := by decide) :
    wpAny M A (eval (.Name x pos) env) Q E s := wpAny_Name (wpAny_loadName_local hk hl hn hv h) hd
/-- what __init__ leaves of a fresh exception at x -/
structure InitEnd (h h' : Heap) (x C dx t1 : Addr) (v : Value) : Prop where
  keep : ∀ b o, b ≠ x → h.get? b = some o → h'.get? b = some o
  obj : h'.get? x = some { cls := .ref C, dict := some dx, data := .fields #[.ref t1, .none, .none, .none, .bool false, .none] }
  dbig : h.objs.size ≤ dx
  dne : dx ≠ x
  ns : h'.Ns1 dx (fun y => if y = "given" then some v else none)
/-- a made one -/
structure OwnMade (h h' : Heap) (e C d : Addr) (v : Value) : Prop where
  keep : ∀ b o, h.get? b = some o → h'.get? b = some o
  new : h.objs.size ≤ e
  obj : ∃ oe vs, h'.get? e = some oe ∧ oe.cls = .ref C ∧ oe.dict = some d ∧ oe.data = .fields vs ∧ vs[1]? = some .none
  dbig : h.objs.size ≤ d
  dne : d ≠ e
  ns : h'.Ns1 d (fun y => if y = "given" then some v else none)
section
variable {prog : Program} {w : World} {A : Around} {E : Value → Shared → Prop} {R : Result → Shared → Prop} {s : Shared} {K : Frag} {mg mb : Str → Option Value} {C D fI : Addr}
theorem bind_looks {M : Model} {cc cda TD : Addr} {oD : Obj} {itD : Value} {nD : Nat} {h : Heap} {kV doc pm : Value} {an : Option Addr} {ct u v : Value} {p1 p2 p3 : Pos} {body : List Stmt} (X : K.In h) (lT : K.lookup TD = some oD) (oT : oD.data = .seq #[itD] nD) :
    Looks M h (bindArgs (fnX "__init__" "DueError.__init__" (iA p1 p2 p3) body iS [("__class__", cc)] (.ref TD) kV doc pm an (.ref cda) ct) ⟨[u, v], []⟩) [("self", u), ("given", v)] := by
  have e : ∃ k, bindArgs (fnX "__init__" "DueError.__init__" (iA p1 p2 p3) body iS [("__class__", cc)] (.ref TD) kV doc pm an (.ref cda) ct) ⟨[u, v], []⟩ = seqItems? (.ref TD) >>= k ∧ k (some #[itD]) = (pure [("self", u), ("given", v)] : Sem (List (Str × Value))) := ⟨_, by first | rfl | with_unfolding_all rfl, by first | with_unfolding_all rfl | kernel_rfl⟩
  obtain ⟨k, e1, e2⟩ := e
  rw [e1]
  exact L2.looks_items X lT oT (.of_pure e2)
/-- super().__init__(v), the built-in's wrapper called -/
theorem call_mw {u e t0 : Addr} {rest : List Value} {Q : Value → Shared → Prop} {nm q : Str} {N : Addr} {bs bm : List Value} {hdct : Bool} {sn : List Str} {sub : List Value} {ab : Bool} {col : Option Bool} {dd : Option Addr} {k0 k1 k2 k3 k5 : Option Value}
    {h : Heap} {g : Array GenState} {d : Drawn} {t : Nat} {os : OsState}
    (hC : h.get? C = some (excClassObj nm q C N bs bm hdct sn sub ab col dd k0 k1 k2 k3 k5 "ValueError.__new__")) (he : h.get? e = some (excO C t0)) (hu : h.get? u = some (kxs_mw "ValueError.__init__" e)) (hrest : rest.length ≤ sizeLine)
    (hq : ∀ h' t1, (∀ b o, b ≠ e → h.get? b = some o → h'.get? b = some o) → h'.get? e = some (excO C t1) → Q .none ⟨h', g, d, t, os⟩) :
    wpAny (model prog w) A (call (.ref u) rest) Q E ⟨h, g, d, t, os⟩ := by
  refine wpAny_call (codeAny_of_tree ?_)
  show wpAny _ A.in1 (callAny (.ref u) ⟨rest, []⟩) _ _ _
  simp only [callAny]
  refine wpAny_bind (wpAny_load hu ?_)
  simp only [kxs_mw, show (Value.type "method-wrapper" == Value.type "method" || Value.type "method-wrapper" == Value.type "builtin_function_or_method" || Value.type "method-wrapper" == Value.type "method-wrapper") = true by decide, if_true]
  refine KFB.if_so (by decide) ?_
  refine wpAny_bind (check_bound_init F.excBase_ValueError.toExcCallFacts hC he rfl ?_)
  refine wpAny_bind (wpAny_pure (wpAny_pure ?_))
  refine ⟨Code.quiet_builtin _ (by decide +kernel), codeAny_builtin F.excBase_ValueError.initEntry ?_⟩
  rw [Around.under_plainId F.excBase_ValueError.init.plain _]
  wp_walk
  refine hq _ h.objs.size (fun b o hb ho => ?_) ?_
  · rw [Heap.get?_update_other _ _ (Ne.symm hb)]
    exact Heap.get?_push_of_some _ ho
  · rw [Heap.get?_update_self _ (Heap.get?_push_of_some _ he) rfl]
    rfl
theorem he_of {o g : Expr} {name : Str} {apos pos : Pos} {env : Env} (hl : (apos.endLine == pos.line) = true) (hf : methodCallForm 1 (backTo pos (starEach [g] env)) [] = true) :
    eval (.Call (.Attribute o name apos) [g] [] pos) env = (do
      let ov ← attributeBase o name env (eval o env)
      standAt apos.atName
      let (f, first) ← holding [ov] (getMethod ov name (do return (← importBound o env).getD true))
      callWith pos f first (backTo pos (starEach [g] env)) []) := by
  rw [arm_eval_Call]
  have e0 : backToKw pos (keywordEach [] env) = [] := rfl
  have e1 : (([g] : List Expr).length + ([] : List Keyword).length) = 1 := rfl
  rw [e0, e1]
  unfold methodCall methodCallPos calleeOf
  rw [hf, hl]
  simp only [Bool.not_true, Bool.false_or, if_true, pure_bind]
theorem due_init (T : InitTxt prog K D fI) (U : ClsTxt K D C fI) {x t0 : Addr} {v : Value} (X : K.In s.heap) (G : s.heap.Ns mainGlobals mg) (B : s.heap.Ns builtinsNs mb) (hmg : mg "super" = none) (hmb : mb "super" = some (.type "super"))
    (hlim : s.heap.NoLimit) (hx : s.heap.get? x = some (excO C t0)) (hnx : K.lookup x = none) (hroom : A.depth < recursionLimit)
    (hq : ∀ h' tk dx t1, InitEnd s.heap h' x C dx t1 v → R (.ok (.ret .none)) { s with heap := h', toks := tk }) :
    codeAny (model prog w) A (.call (.ref fI) ⟨[.ref x, v], []⟩) R s := by
  obtain ⟨cc, cda, TD, oD, itD, nD, oc, od, kV, doc, pm, an, ct, osl, p1, p2, p3, q1, q2, q3, q4, q5, q6, r1, r2, r3, r4, ccl, cdd, ccs, vs, file, tf, cl, cld, csl, cdD, ho, lT, oT, hcd, hcda, hvs, hfile, hln, hcell, hD⟩ := T.fn
  obtain ⟨nm, q, N, bs, bm, sn, sub, ab, col, dd, k0, k1, k2, k3, k5, hC, hbm⟩ := U.cls
  have hcl : clsIn K C = some { name := nm, bases := bs, mro := .ref C :: bm, ns := N, qualname := q, hasDict := true, slotNames := sn, subclasses := sub, abstract := ab, collection := col, hasDel := false } := by unfold clsIn; rw [hC] <;> rfl
  have I : InstAt s.heap x (excO C t0) C none := ⟨hx, rfl, rfl, trivial⟩
  refine ks_codeAny_call_defAt (binds := [("self", .ref x), ("given", v)]) hroom (X _ _ ho) rfl hlim (codeRec_of X hcd) rfl (L2.BindsTo.of_looks fun M => bind_looks X lT oT) (by show ∀ z ∈ iS.names, z.2 ≠ .cell; decide)
    (by
      intro z hz
      rcases List.mem_cons.mp hz with rfl | hz
      · rfl
      · rcases List.mem_cons.mp hz with rfl | hz
        · rfl
        · cases hz) (fun h₁ hn k => ?_) rfl rfl rfl
  have X₁ : K.In h₁ := X.keeps k
  have hx₁ := k _ _ hx
  have hxL : s.heap.objs.size ≠ x := Nat.ne_of_gt (Heap.lt_size hx)
  have G₁ := G.keeps k
  have B₁ := B.keeps k
  have I₁ : InstAt h₁ x (excO C t0) C none := ⟨hx₁, rfl, rfl, trivial⟩
  -- super().__init__(given)
  refine ks_wpAt_execs_cons (ks_wpAt_Expr_any (ks_wpAt_MethodCall (he := he_of hln rfl) ?_))
  obtain ⟨oDD, hD1, hD2⟩ : ∃ o, h₁.get? D = some o ∧ o.data = .cls cdD := by
    unfold clsIn at hD
    split at hD
    · rename_i c d cd' sl ho
      cases hD
      exact ⟨_, X₁ _ _ ho, rfl⟩
    · cases hD
  refine ks_wpAt_super_base (by rfl) (by rfl) (by rfl) rfl (X₁ _ _ ho) rfl rfl rfl (X₁ _ _ hcda) rfl hvs hfile T.top ?_
  refine ks_loadName_global rfl (by rfl) (loadGlobal_builtin G₁ hmg B₁ hmb ⟨rfl, ?_⟩)
  refine wpAny_loadName_free rfl (by rfl) rfl ⟨_, X₁ _ _ hcell, rfl⟩ ?_
  refine wpAny_loadName_local rfl (by rfl) hn rfl ?_
  refine ks_wpAny_isType_cls hD1 hD2 ⟨rfl, ?_⟩
  refine ks_wpAny_call_super hD1 hD2 hx₁ rfl (fun c e => by cases e) (looks_mroIn X₁ U.isD) (fun h₂ hso k₂ => ?_)
  have X₂ : K.In h₂ := X₁.keeps k₂
  have hx₂ := k₂ _ _ hx₁
  have I₂ : InstAt h₂ x (excO C t0) C none := ⟨hx₂, rfl, rfl, trivial⟩
  have hsup := U.sup
  unfold ks_superIn at hsup
  rw [hcl] at hsup
  refine kxs_getMethod kxs_ValueError hso (looks_opaque X₂ T.stat) (l₀ := .ref C :: bm) (fun A Q E s k q => wpAny_bind ((looks_clsIn X₂ hcl) A _ E s k (wpAny_pure q))) rfl X₂ hsup (I₂.type.andThen (looks_subIn X₂ U.isV)) (ks_ne X₂ I₂ hcl) rfl ?_
  have hn₂ := hn.keeps k₂
  have k₃ : ∀ b o, h₂.get? b = some o → (h₂.push (kxs_mw "ValueError.__init__" x)).get? b = some o := fun b o e => Heap.get?_push_of_some _ e
  have hu₃ : (h₂.push (kxs_mw "ValueError.__init__" x)).get? h₂.objs.size = some (kxs_mw "ValueError.__init__" x) := Heap.get?_push_at rfl rfl
  have X₃ := X₂.keeps k₃
  refine kxs_callWith (i := "ValueError.__init__") (x := x) rfl ?_
  refine evalArgs_plain (spliced_more (ldL (v := v) (hn₂.keeps k₃) rfl (spliced_none ?_)))
  refine ⟨hu₃, ?_⟩
  refine call_mw (X₃ _ _ hC) (k₃ _ _ hx₂) hu₃ (one_size v) fun h₄ t1 k₄ hx₄ => ?_
  -- self.given = given
  have hxL' : ∀ {b : Addr}, b = s.heap.objs.size → b ≠ x := fun {b} e z => hxL (e.symm.trans z)
  have hn₄ : h₄.Ns s.heap.objs.size fun x_1 => List.lookup x_1 [(Str.ofString "self", Value.ref x), (Str.ofString "given", v)].reverse := (hn₂.keeps k₃).at fun o e => k₄ _ o hxL e
  have X₄ : K.In h₄ := kept_but X₃ hnx k₄
  refine ks_wpAt_execs_cons (wpAt_of_wpAny (plainObj_wpAny_Assign_Attribute ?_))
  refine ldL (v := v) hn₄ rfl (ldL (v := .ref x) hn₄ rfl ?_)
  refine set_plain X₄ (ox := excO C t1) (od := none) ⟨hx₄, rfl, rfl, trivial⟩ U.sa ?_
  refine exc_osa X₄ hx₄ hcl (show refsVE (.ref C :: bm) = true from hbm) rfl U.noN (fun h₅ tk₅ dx k₅ dn dne hx₅ hn₅ => ?_)
  show wpAt _ _ _ (execs _ _) _ _ _
  have z : s.heap.objs.size < h₄.objs.size := hn₄.lt
  exact wpAt_of_wpAny (wpAny_execs_nil (hq h₅ tk₅ dx t1 ⟨fun b o hb e => k₅ b o hb (k₄ b o hb (k₃ b o (k₂ b o (k b o e)))), hx₅, Nat.le_of_lt (Nat.lt_of_lt_of_le z dn), dne, hn₅⟩))
theorem due_made (T : InitTxt prog K D fI) (U : ClsTxt K D C fI) {v : Value} (X : K.In s.heap) (G : s.heap.Ns mainGlobals mg) (B : s.heap.Ns builtinsNs mb) (hmg : mg "super" = none) (hmb : mb "super" = some (.type "super"))
    (hlim : s.heap.NoLimit) (hroom : A.depth + 1 < recursionLimit)
    (hq : ∀ h' tk e d, OwnMade s.heap h' e C d v → R (.ok (.ret (.ref e))) { s with heap := h', toks := tk }) :
    codeAny (model prog w) A (.call (.ref C) ⟨[v], []⟩) R s := by
  obtain ⟨nm, q, N, bs, bm, sn, sub, ab, col, dd, k0, k1, k2, k3, k5, hC, hbm⟩ := id U.cls
  obtain ⟨hp, g, dr, tk, os⟩ := s
  have k : ∀ b o, hp.get? b = some o → ((hp.push (kdv_tup [v])).push (excO C hp.objs.size)).get? b = some o := fun b o e => Heap.get?_push_of_some _ (Heap.get?_push_of_some _ e)
  have hget : ((hp.push (kdv_tup [v])).push (excO C hp.objs.size)).get? (hp.objs.size + 1) = some (excO C hp.objs.size) := by heap_get
  have hnx : K.lookup (hp.objs.size + 1) = none := by
    cases e : K.lookup (hp.objs.size + 1) with
    | none => rfl
    | some o =>
      have z : hp.get? (hp.objs.size + 1) = some o := X _ _ e
      exact absurd (Nat.lt_of_succ_lt (Heap.lt_size z)) (Nat.lt_irrefl _)
  refine call_own F.excBase_ValueError (fun X => refsVE_contains X bm hbm) (X _ _ hC) (looks_findIn X U.iC) (fun self => bind_fn X self U.tI) (one_size v) ?_
  refine due_init (s := ⟨(hp.push (kdv_tup [v])).push (excO C hp.objs.size), g, dr, tk, os⟩) T U (X.keeps k) (G.keeps k) (B.keeps k) hmg hmb (hlim.keeps k) hget hnx ?_ fun h' tk' dx t1 ⟨k', hx, dn, dne, hns⟩ => ?_
  · show A.depth + 1 < recursionLimit
    exact hroom
  · have old : ∀ b o, hp.get? b = some o → h'.get? b = some o := fun b o e => k' b o (Nat.ne_of_lt (Nat.lt_succ_of_lt (Heap.lt_size e))) (k b o e)
    have z : hp.objs.size + 1 + 1 ≤ dx := by
      first
        | (simpa only [Heap.size_push] using dn)
        | exact dn
        | (have q := dn; rw [Heap.size_push, Heap.size_push] at q; exact q)
    exact ⟨rfl, hq h' tk' (hp.objs.size + 1) dx ⟨old, Nat.le_succ _, ⟨_, _, hx, rfl, rfl, rfl, rfl⟩, Nat.le_trans (Nat.le_trans (Nat.le_succ _) (Nat.le_succ _)) z, dne, hns⟩⟩
end
end DueE
end PySem
namespace L2
open PySem PySem.Spec PyProof.Rows
theorem relO_given {v : V} {v' : Value} (r : RelV v v') (f : Str) : RelO (List.lookup f [(("given" : Str), v)]) (if f = "given" then some v' else none) := by
  by_cases hw : f = "given"
  · subst hw
    rw [if_pos rfl]
    have q : List.lookup ("given" : Str) [(("given" : Str), v)] = some v := by simp [List.lookup]
    rw [q]
    exact r
  · rw [if_neg hw]
    have qw : (f == ("given" : Str)) = false := by simpa using hw
    have q2 : List.lookup f [(("given" : Str), v)] = none := by simp [List.lookup, qw]
    rw [q2]
    trivial
/-- X(e), X of DueError's family: its class, its own dict -/
def tMkDue (C : Addr) (ta : TA) : St → Hp → XK → Prop := fun σ H Q => ta σ H fun vs H1 => ∃ v, vs = [v] ∧ ∀ d, H1 d = none → Q (.ref C) (some d) (upd H1 d (.xd [(("given" : Str), v)]))
section
variable {X : Cx} {C D fI : Addr}
theorem pmk_due {x : Str} {a : Expr} {ta : TA} {p pos : Pos} {k : Nat} (T : PySem.DueE.InitTxt X.prog X.K D fI) (U : PySem.DueE.ClsTxt X.K D C fI) (hr : Room k X.A) (hgC : X.mg x = some (.ref C)) (hsu : X.mg "super" = none) (ha : PA X [a] ta) (hg : Gl X x := by rfl)
    (hdb : (x == ("__debug__" : Str)) = false := by decide)
    (he : starEach (a :: []) X.env = (false, eval a X.env) :: starEach [] X.env := by rfl) (hpl : (backTo pos (starEach [] X.env)).any (·.1) = false := by rfl) :
    PMk X (.Call (.Name x p) [a] [] pos) (tMkDue C ta) := by
  intro pins s σ H Q I h
  refine wpAny_Call_Name_kw (ld_glob I hg hgC ?_ hdb)
  refine PySem.W.callWith_K (h₀ := X.base) I.ok.mod.kin U.kC (thn (ha.run pos pins s σ H _ I h) fun us s1 hh => ?_) he hpl
  obtain ⟨vs, H1, I1, r1, v, ev, q1⟩ := hh
  subst ev
  refine ⟨I1.kIn, ?_⟩
  cases r1 with
  | cons rv rn =>
    rename_i v' us'
    cases rn
    show wpAny _ _ (call (.ref C) [v']) _ _ _
    have hlim := I1.nolimit
    obtain ⟨mb, hB, hbb⟩ := I1.mod.blt
    have G1 := I1.mod.glob.keeps I1.bk
    have B1 := hB.keeps I1.bk
    obtain ⟨hp, g, dr, tk, os⟩ := s1
    refine wpAny_call (PySem.DueE.due_made T U I1.kIn G1 B1 hsu ((hbb "super" (by decide)).trans PyProof.Rows.Boot.«super») hlim (by have := hr.dp; omega) fun h' tk' e d M => ?_)
    show MkP X pins σ Q (.ref e) ⟨h', g, dr, tk', os⟩
    obtain ⟨oe, fv, hoe, hc, hd, hdat, h1⟩ := M.obj
    have hns := M.ns
    obtain ⟨G', g1, g2⟩ := restrict h' fun b => decide (b ≠ e)
    have gk : ∀ b, b ≠ e → G'.get? b = h'.get? b := fun b hb => g1 b (decide_eq_true hb)
    have ge : G'.get? e = none := g2 e (by simp)
    have old : ∀ b o, hp.get? b = some o → G'.get? b = some o := fun b o q => (gk b (Nat.ne_of_lt (Nat.lt_of_lt_of_le (Heap.lt_size q) M.new))).trans (M.keep b o q)
    have ob : ObjOk X.prog X.w (upd H1 d (.xd [(("given" : Str), v)])) G' d (.xd [(("given" : Str), v)]) :=
      ⟨_, hns.at (fun o q => (gk d M.dne).trans q), fun f => relO_given rv f⟩
    have J : Inv X pins σ (upd H1 d (.xd [(("given" : Str), v)])) ⟨G', g, dr, tk', os⟩ := I1.laid (t' := tk') old M.dbig ob
    refine ⟨e, oe, fv, ⟨G', g, dr, tk', os⟩, _, .ref C, some d, rfl, J, fun b o q => ?_, ge, hoe, ⟨hc, hd⟩, hdat, h1, ?_, rfl, I1.bare, raises_own U.exC U.tyC, q1 d (I1.hok.fresh M.dbig)⟩
    · by_cases hb : b = e
      · have q' : G'.get? b = some o := q
        rw [hb, ge] at q'; cases q'
      · exact (gk b hb).symm.trans q
    · rw [upd_ne (Ne.symm M.dne)]
      exact I1.hok.fresh M.new
/-- raise X(e) -/
def tRaiseDue (C : Addr) (W : WX) (ta : TA) : TS := fun _ σ H => tMkDue C ta σ H fun cls d H' => W cls d σ H'
theorem ps_raiseDue {x : Str} {a : Expr} {ta : TA} {W : WX} {p pos pos2 : Pos} {k : Nat} (hc : X.calm = true) (T : PySem.DueE.InitTxt X.prog X.K D fI) (U : PySem.DueE.ClsTxt X.K D C fI) (hr : Room k X.A) (hgC : X.mg x = some (.ref C)) (hsu : X.mg "super" = none) (tk : Takes X W) (ha : PA X [a] ta) (hg : Gl X x := by rfl)
    (hdb : (x == ("__debug__" : Str)) = false := by decide)
    (he : starEach (a :: []) X.env = (false, eval a X.env) :: starEach [] X.env := by rfl) (hpl : (backTo pos (starEach [] X.env)).any (·.1) = false := by rfl) :
    PS X (.Raise (some (.Call (.Name x p) [a] [] pos)) none pos2) (tRaiseDue C W ta) := ps_raise hc tk (pmk_due T U hr hgC hsu ha hg hdb he hpl)
end
end L2
set_option Elab.async false
set_option linter.all false
set_option maxRecDepth 100000
set_option maxHeartbeats 4000000
namespace L2
open PySem PySem.Spec PyProof.Rows
/-! several except clauses, each with a name or without -/
def dAs (o : Option Nat) (D : Ends) : Ends := match o with
  | none => D
  | some i => { nx := fun σ' H' => D.nx (σ'.set i none) H', rt := D.rt, bk := fun σ' H' => D.bk (σ'.set i none) H', ct := fun σ' H' => D.ct (σ'.set i none) H' }
def sAs (o : Option Nat) (σ : St) (a : Addr) : St := match o with
  | none => σ
  | some i => σ.set i (some (.ref a))
/-- what the clauses wish, one after the other: the class, the name's slot, the suite -/
def wManyA (K : PySem.W.Frag) (Wout : WX) (D : Ends) : List (Value × Option Nat × (Addr → Value → Option Addr → TS)) → WX
  | [] => Wout
  | (c, o, ts) :: r => fun cls d σ H => ∃ b, PySem.W.exmOne K cls c = some b ∧ (b = true → ∀ a, H a = none → ts a cls d (dAs o D) (sAs o σ a) H) ∧ (b = false → wManyA K Wout D r cls d σ H)
inductive HdsA (X : Cx) : List ExceptHandler → List (Value × Option Nat × (Addr → Value → Option Addr → TS)) → Prop
  | nil : HdsA X [] []
  | bare {x : Str} {c : Value} {ts : Addr → Value → Option Addr → TS} {b₀ : Stmt} {suite : List Stmt} {np pos' : Pos} {hds : List ExceptHandler} {l : List (Value × Option Nat × (Addr → Value → Option Addr → TS))} (hc : Names X x c)
      (hsu : ∀ (a : Addr) (oe : Obj) (cls : Value) (d : Option Addr) (pn : List (Addr × Obj)), Zc cls d oe → (∃ vs, oe.data = .fields vs) → PSs (X.suite a ((a, oe) :: pn)) (b₀ :: suite) (ts a cls d)) (r : HdsA X hds l) :
      HdsA X (.ExceptHandler (some (.Name x np)) none (b₀ :: suite) pos' :: hds) ((c, none, ts) :: l)
  | named {x n : Str} {c : Value} {i : Nat} {ts : Addr → Value → Option Addr → TS} {b₀ : Stmt} {suite : List Stmt} {np pos' : Pos} {hds : List ExceptHandler} {l : List (Value × Option Nat × (Addr → Value → Option Addr → TS))} (hN : X.N.Nodup) (hi : X.N[i]? = some n) (hln : X.env.kindOf n = some .local) (hc : Names X x c)
      (hsu : ∀ (a : Addr) (oe : Obj) (cls : Value) (d : Option Addr) (pn : List (Addr × Obj)), Zc cls d oe → (∃ vs, oe.data = .fields vs) → PSs (X.suite a ((a, oe) :: pn)) (b₀ :: suite) (ts a cls d)) (r : HdsA X hds l) :
      HdsA X (.ExceptHandler (some (.Name x np)) (some n) (b₀ :: suite) pos' :: hds) ((c, some i, ts) :: l)
section
variable {X : Cx} {body : List Stmt} {h₀ : ExceptHandler} {hds : List ExceptHandler} {l : List (Value × Option Nat × (Addr → Value → Option Addr → TS))} {pos : Pos} {tb : WX → TS} {Wout : WX}
theorem ps_try_manyA (hs : X.stack = X.env :: X.outer) (hf : X.env.frame = some X.env.locals) (tk : Takes X Wout)
    (hb : ∀ (W : WX) (pn : List (Addr × Obj)) (xe : Value → Shared → Prop), Takes (X.tr pn xe) W → PassesOwn (model X.prog X.w) X.A X.env xe → PSs (X.tr pn xe) body (tb W))
    (hh : HdsA X (h₀ :: hds) l) : PS X (.Try body (h₀ :: hds) [] [] pos) (fun D σ H => tb (wManyA X.K Wout D l) D σ H) := by
  refine ⟨fun pins s σ H D I h => ?_⟩
  have ok := I.ok
  have hfr : X.A.frames = some (X.env :: X.outer) := by rw [ok.frames, hs]
  refine wpAny_Try_except ?_
  refine wpAny_mono ((hb (wManyA X.K Wout D l) (X.pn ++ pins) (fun e s₁ => wpAny (model X.prog X.w) X.A (noteFrame e X.env) (fun _ s₂ => wpAny (model X.prog X.w) X.A (setFlight e none) (fun _ s₃ =>
    wpAny (model X.prog X.w) X.A (handleBy e X.env (h₀ :: hds)) (SP X pins D) X.xe s₃) X.xe s₂) X.xe s₁) (fun u s' xx => ?_) PassesOwn.looking).run [] s σ H D (I.toTry _) h) (fun f s1 hsp => ?_) (fun e s1 he => he)
  · obtain ⟨a, B, sI, pins', σ', H', cls, d, rfl, J', nb, up, sky, na, os, ag, w⟩ := xx
    have J : Inv X pins σ' H' sI := J'.ofTry ok
    have sky' : Sky B (X.env :: X.outer) a (Zc cls d) X.env.locals s'.heap := by rw [← hs]; exact sky
    show wpAny (model X.prog X.w) X.A (noteFrame (.ref a) X.env) _ _ _
    refine Sky.land Zc.steady hfr hf sky' fun h3 fl3 up3 => ?_
    have J3 : Inv X pins σ' H' { s' with heap := h3 } := J.landed nb fl3.1 (up.trans up3) os ag
    obtain ⟨oe3, vs3, he3, hz3, hd3⟩ := fl3.there
    have notFr : ∀ {h : Heap} {o : Obj} {vs : Array Value}, h.FunFrames B (X.env :: X.outer) → h.get? a = some o → o.data = .fields vs → a ∉ frs (X.env :: X.outer) := fun {h o vs} ff e dd hm => by
      obtain ⟨_, o', e', hnf⟩ := ff.mem hm
      rw [e] at e'; cases e'
      exact hnf _ dd
    have nfr := notFr fl3.2.2.1 he3 hd3
    have nL : a ≠ X.env.locals := fun z => nfr (List.mem_filterMap.mpr ⟨X.env, List.mem_cons_self, by rw [hf, z]⟩)
    have nF : a ∉ X.fs := fun hm => by
      obtain ⟨e, he, q⟩ := List.mem_filterMap.mp hm
      exact nfr (List.mem_filterMap.mpr ⟨e, List.mem_cons_of_mem _ he, q⟩)
    have S3 := J3.suite he3 hd3 na nL nF
    have LT : PySem.W.Looks (model X.prog X.w) h3 (typeOf (.ref a)) cls := fun A Q E s k q => wpAny_typeOf_ref (k _ _ he3) (by rw [hz3.1]; exact q)
    have test : ∀ {x : Str} {c : Value} {np : Pos} {Q : Value → Shared → Prop} {E : Value → Shared → Prop}, Names X x c → Q c { s' with heap := h3 } → wpAny (model X.prog X.w) (X.A.mark (some (.ref a))) (eval (.Name x np) X.env) Q E { s' with heap := h3 } := fun {x c np Q E} hc q => by
      obtain ⟨hg, hdbg, hm | ⟨hm, hv, hnn⟩⟩ := hc
      · exact ld_glob (X := X.suite a ((a, oe3) :: (X.pn ++ pins))) S3 hg hm q hdbg
      · exact ld_blt (X := X.suite a ((a, oe3) :: (X.pn ++ pins))) S3 hg hm hv q hnn hdbg
    have go : ∀ {hds' : List ExceptHandler} {l' : List (Value × Option Nat × (Addr → Value → Option Addr → TS))}, HdsA X hds' l' → wManyA X.K Wout D l' cls d σ' H' →
        wpAny (model X.prog X.w) X.A (handleBy (.ref a) X.env hds') (SP X pins D) X.xe { s' with heap := h3 } := by
      intro hds' l' hk
      induction hk with
      | nil =>
        intro w
        refine wpAny_handleBy_nil ?_
        obtain ⟨k1, k2, k3, oe, vs, T, oT, ts', he, hz, hd, h1, hr⟩ := id fl3
        unfold PySem.passOn
        refine wpAny_bind (wpAny_field he hd h1 ?_)
        rw [if_neg (show ¬ ((Value.ref T == Value.none) = true) from by simp)]
        have fin : wpAny (model X.prog X.w) X.A (setFlight (.ref a) X.env.frame) (fun _ s4 => wpAny (model X.prog X.w) X.A (throw (.ref a) : Sem Flow) (SP X pins D) X.xe s4) X.xe { s' with heap := h3 } := by
          rw [hf]
          refine HandSPX.setFlight_upZ fl3 fun h4 hh4 up4 => wpAny_throw (tk _ _ ?_)
          exact ⟨a, B, sI, pins, σ', H', cls, d, rfl, J, nb, (up.trans up3).trans up4, .inr (.inr (by rw [hs]; exact hh4)), na, os, ag, w⟩
        first
          | exact wpAny_bind (wpAny_pure (wpAny_bind fin))
          | exact wpAny_bind fin
      | @bare x c ts b₀ suite np pos' hds2 l2 hc hsu r ih =>
        intro w
        obtain ⟨b, hb1, hyes, hno⟩ := w
        refine wpAny_handleBy_cons (codeAny_handlers_test ?_) (by intro q; cases q)
        have LM := PySem.W.exm_one (M := model X.prog X.w) (J3.kIn) LT hb1
        refine test hc (LM.here ?_)
        cases b with
        | true =>
          refine codeAny_handlers_suite ?_
          refine HandSPX.lands_againZ fl3 fun h4 fl4 up4 => ?_
          have J4 : Inv X pins σ' H' { s' with heap := h4 } := J.landed nb fl4.1 ((up.trans up3).trans up4) os ag
          obtain ⟨oe4, vs4, he4, hz4, hd4⟩ := fl4.there
          have S4 := J4.suite he4 hd4 na nL nF
          refine wpAny_mono ((hsu a oe4 cls d (X.pn ++ pins) hz4 ⟨_, hd4⟩).run [] _ _ H' _ S4 (hyes rfl a na)) (fun f s6 hsp => ?_) (fun _ _ z => False.elim z)
          cases f with
          | next =>
            obtain ⟨σ6, H6, S6, q6⟩ := hsp
            exact ⟨_, _, S6.unsuite ok, q6⟩
          | brk =>
            obtain ⟨σ6, H6, S6, q6⟩ := hsp
            exact ⟨_, _, S6.unsuite ok, q6⟩
          | cont =>
            obtain ⟨σ6, H6, S6, q6⟩ := hsp
            exact ⟨_, _, S6.unsuite ok, q6⟩
          | ret u =>
            obtain ⟨v6, σ6, H6, S6, r6, q6⟩ := hsp
            exact ⟨_, _, _, S6.unsuite ok, r6, q6⟩
        | false =>
          show wpAny _ X.A (handleBy (.ref a) X.env hds2) _ _ _
          exact ih (hno rfl)
      | @named x n c i ts b₀ suite np pos' hds2 l2 hN hi hln hc hsu r ih =>
        intro w
        have hloc : Loc X.env.scope n := .inl hln
        obtain ⟨b, hb1, hyes, hno⟩ := w
        refine wpAny_handleBy_cons (codeAny_handlers_test ?_) (by intro q; cases q)
        have LM := PySem.W.exm_one (M := model X.prog X.w) (J3.kIn) LT hb1
        refine test hc (LM.here ?_)
        cases b with
        | true =>
          refine codeAny_handlers_suite_as ?_
          refine HandSPX.lands_againZ fl3 fun h4 fl4 up4 => ?_
          have J4 : Inv X pins σ' H' { s' with heap := h4 } := J.landed nb fl4.1 ((up.trans up3).trans up4) os ag
          obtain ⟨oe4, vs4, he4, hz4, hd4⟩ := fl4.there
          have S4 := J4.suite he4 hd4 na nL nF
          refine store_ok (X := X.suite a ((a, oe4) :: (X.pn ++ pins))) (v := .ref a) S4 hN hi hloc rfl (fun s5 S5 => ?_) (.inr hln)
          refine wpAny_mono ((hsu a oe4 cls d (X.pn ++ pins) hz4 ⟨_, hd4⟩).run [] s5 _ H' _ S5 (hyes rfl a na)) (fun f s6 hsp => ?_) (fun _ _ z => False.elim z)
          have end_ : ∀ {σ6 : St} {H6 : Hp} {Q : Shared → Prop}, Inv (X.suite a ((a, oe4) :: (X.pn ++ pins))) [] σ6 H6 s6 → (∀ s7, Inv X pins (σ6.set i none) H6 s7 → Q s7) →
              wpAny (model X.prog X.w) X.A (do bindName X.env n .none; unbindBehindTheSuite X.env n pos') (fun _ s7 => Q s7) X.xe s6 := fun {σ6 H6 Q} S6 hq => gone_ok (S6.unsuite ok) hN hi hln hq
          cases f with
          | next =>
            obtain ⟨σ6, H6, S6, q6⟩ := hsp
            exact end_ S6 fun s7 J7 => ⟨_, _, J7, q6⟩
          | brk =>
            obtain ⟨σ6, H6, S6, q6⟩ := hsp
            exact end_ S6 fun s7 J7 => ⟨_, _, J7, q6⟩
          | cont =>
            obtain ⟨σ6, H6, S6, q6⟩ := hsp
            exact end_ S6 fun s7 J7 => ⟨_, _, J7, q6⟩
          | ret u =>
            obtain ⟨v6, σ6, H6, S6, r6, q6⟩ := hsp
            exact end_ S6 fun s7 J7 => ⟨_, _, _, J7, r6, q6⟩
        | false =>
          show wpAny _ X.A (handleBy (.ref a) X.env hds2) _ _ _
          exact ih (hno rfl)
    exact go hh w
  · cases f with
    | next =>
      obtain ⟨σ', H', J', q⟩ := hsp
      exact wpAny_execs_nil ⟨σ', H', J'.ofTry ok, q⟩
    | brk =>
      obtain ⟨σ', H', J', q⟩ := hsp
      exact ⟨σ', H', J'.ofTry ok, q⟩
    | cont =>
      obtain ⟨σ', H', J', q⟩ := hsp
      exact ⟨σ', H', J'.ofTry ok, q⟩
    | ret u =>
      obtain ⟨v, σ', H', J', r, q⟩ := hsp
      exact ⟨v, σ', H', J'.ofTry ok, r, q⟩
end
/-! isinstance(e, c), e the exception that the suite holds, with its own dict -/
structure ExcX (K : PySem.W.Frag) (D : Addr) : Prop where
  hc : (PySem.W.clsIn K D).isSome = true
  hg : PySem.W.findIn K (.ref D) "__getattribute__" = some (some (.builtin "BaseException.__getattribute__"))
  hk : PySem.W.findIn K (.ref D) "__getattr__" = some none
  hs : PySem.W.subIn K (.ref D) (.type "BaseException") = some true
  ha : PySem.W.findIn K (.ref D) "__class__" = some (some (.builtin "object.__class__"))
  hn : PySem.W.specialIn K (.builtin "object.__class__") "__get__" = some (some (.builtin "getset_descriptor.__get__"))
  ht : PySem.W.takesIn K (.builtin "object.__class__") = some true
  hm : PySem.W.mroIn K D (.type "object") = some true
def rIsX (K : PySem.W.Frag) (cls : Value) (d : Option Addr) (a : Addr) : List V → Hp → VK → Prop := fun xs H Q => ∃ (D : Addr) (dd : Addr) (fs : List (Str × V)) (c : V) (cv : Value) (b : Bool), cls = .ref D ∧ ExcX K D ∧ d = some dd ∧ H dd = some (.xd fs) ∧ xs = [.ref a, c] ∧ ClsV c cv ∧ PySem.W.kitOne K (.ref D) cv = some b ∧ Q (.bl b) H
theorem call_isX {X : Cx} {a : Addr} {cls : Value} {d : Option Addr} {oe : Obj} {pn : List (Addr × Obj)} (hz : Zc cls d oe) (hf : ∃ vs, oe.data = .fields vs) : CallR (X.suite a ((a, oe) :: pn)) (.builtin "isinstance") (rIsX X.K cls d a) := by
  intro pins s σ H xs us Q I r h
  obtain ⟨D, dd, fs, c, cv, b, rfl, C, rfl, ed, rfl, hcv, e, q⟩ := h
  cases r with
  | cons rx rr =>
    cases rr with
    | cons rt rr =>
      cases rr
      cases rx
      have ec := hcv.eq rt
      subst ec
      obtain ⟨hget, _⟩ := I.pin (a, oe) (List.mem_append.mpr (.inl List.mem_cons_self))
      obtain ⟨vs, hv⟩ := hf
      have hx : ObjOk X.prog X.w H s.heap dd (.xd fs) := I.hok dd _ ed
      obtain ⟨mA, hns, hr⟩ := hx
      obtain ⟨od, ho, hl⟩ := lookIn_ns hns
      have J : PySem.W.InstAt s.heap a oe D (some od) := ⟨hget, hz.1, by unfold PySem.W.notCls; rw [hv] <;> rfl, by rw [hz.2]; exact ho⟩
      exact PySem.W.kia_one (PySem.W.kitx_exc C.hc C.hg C.hk C.hs C.ha C.hn C.ht C.hm) I.kIn J e (fun z => nomatch z) fun tk => ⟨.bl b, H, I.kept (t' := tk) fun _ _ z => z, rfl, q⟩
end L2
set_option Elab.async false
set_option linter.all false
set_option maxRecDepth 100000
set_option maxHeartbeats 4000000
namespace Kx
open PySem PySem.Spec PyProof.Rows L2
/-! operators by whatever their operands are -/
def rStr2 (g : Str → Str → V) : R2 := fun x y H Q => ∃ i j, x = .str i ∧ y = .str j ∧ Q (g i j) H
def uAdd (K : PySem.W.Frag) : R2 := fun x y H Q => rI0 (fun i j => .int (i + j)) x y H Q ∨ rCat x y H Q ∨ rCatA K x y H Q ∨
  (∃ i j, x = .str i ∧ y = .str j ∧ i.length + j.length ≤ sizeLine ∧ Q (.str (i ++ j)) H) ∨ (∃ i k, x = .int i ∧ y = .bl k ∧ Q (.int (i + b2i k)) H)
def uSub : R2 := rI0 fun i j => .int (i - j)
def uMul : R2 := fun x y H Q => rI CMulW (fun i j => .int (i * j)) x y H Q ∨ rRep x y H Q
def uFdv : R2 := rI CDivW fun i j => .int (i / j)
def uMod : R2 := rI (fun _ j => 0 < j) fun i j => .int (i % j)
def uPow : R2 := rI CPow fun i j => .int (i ^ j.toNat)
def uLt (K : PySem.W.Frag) : R2 := fun x y H Q => rI0 (fun i j => .bl (decide (i < j))) x y H Q ∨ rLtT K x y H Q ∨ (∃ i j, x = .str i ∧ y = .str j ∧ Q (.bl (decide (i.cps.toList < j.cps.toList))) H)
def uLe : R2 := rI0 fun i j => .bl (decide (i ≤ j))
def uGt : R2 := rI0 fun i j => .bl (decide (j < i))
def uGe : R2 := rI0 fun i j => .bl (decide (j ≤ i))
def uEq (K : PySem.W.Frag) : R2 := fun x y H Q => rEq x y H Q ∨ rEqD K x y H Q
def uNe (K : PySem.W.Frag) : R2 := fun x y H Q => rNe x y H Q ∨ rNeD K x y H Q
def uIs : R2 := fun x y H Q => (y = .non ∧ Q (.bl (decide (x = .non))) H) ∨ rIsB x y H Q
def uIsn : R2 := fun x y H Q => (y = .non ∧ Q (.bl (!decide (x = .non))) H) ∨ rNotB x y H Q
def uIn (K : PySem.W.Frag) : R2 := fun x y H Q => rIn K false x y H Q ∨ (∃ i j, x = .str i ∧ y = .str j ∧ Q (.bl (!(Builtin.Str.occurrences j i 0 j.length 1).isEmpty)) H) ∨ rInD K x y H Q
def uNin (K : PySem.W.Frag) : R2 := fun x y H Q => rIn K true x y H Q ∨ (∃ i j, x = .str i ∧ y = .str j ∧ Q (.bl (!(!(Builtin.Str.occurrences j i 0 j.length 1).isEmpty))) H) ∨ rNotInD K x y H Q
def uNeg : V → Hp → VK → Prop := rU fun i => .int (-i)
section
variable {X : Cx}
theorem u_add : OpR X (binaryOp .Add) (uAdd X.K) := op_add.or (op_cat.or (op_catA.or (op_add_str.or op_add_ib)))
theorem u_sub : OpR X (binaryOp .Sub) uSub := op_sub
theorem u_mul : OpR X (binaryOp .Mult) uMul := op_mulW.or op_rep
theorem u_fdv : OpR X (binaryOp .FloorDiv) uFdv := op_fdivW
theorem u_mod : OpR X (binaryOp .Mod) uMod := op_mod
theorem u_pow : OpR X (binaryOp .Pow) uPow := op_pow
theorem u_lt (hu : X.A.units < cLine) : OpR X (compareOp .Lt) (uLt X.K) := op_lt.or ((op_ltT hu).or op_lt_str)
theorem u_le : OpR X (compareOp .LtE) uLe := op_le
theorem u_gt : OpR X (compareOp .Gt) uGt := op_gt
theorem u_ge : OpR X (compareOp .GtE) uGe := op_ge
theorem u_eq (hu : X.A.units + 64 < cLine) : OpR X (compareOp .Eq) (uEq X.K) := op_eq.or (op_eqD hu)
theorem u_ne (hu : X.A.units + 64 < cLine) : OpR X (compareOp .NotEq) (uNe X.K) := op_ne.or (op_neD hu)
theorem u_is : OpR X (compareOp .Is) uIs := op_isN.or op_isBl
theorem u_isn : OpR X (compareOp .IsNot) uIsn := op_notN.or op_notBl
theorem u_in (hu : X.A.units + 65 < cLine) : OpR X (compareOp .In) (uIn X.K) := op_in_seq.or (op_in_str.or (op_inD hu))
theorem u_nin (hu : X.A.units + 65 < cLine) : OpR X (compareOp .NotIn) (uNin X.K) := op_notIn_seq.or (op_notin_str.or (op_notInD hu))
theorem u_neg : UnR X (unaryOp .USub) uNeg := un_neg
end
/-- a test by truth -/
def tTr (K : PySem.W.Frag) (ta : TE) : TT := fun σ H Q => ta σ H fun x H' => ∃ k, TruV K x H' k ∧ Q k H'
theorem pt_tr {X : Cx} {a : Expr} {ta : TE} (ha : PE X a ta) (he : ∀ whole, isTrue a X.env whole = (do let v ← whole; standAt a.pos; holding [v] (truthy v))) : PT X a (tTr X.K ta) := pt_truth ha he
/-! built-ins by their names -/
def uLen (K : PySem.W.Frag) : List V → Hp → VK → Prop := fun xs H Q => (∃ x n, xs = [x] ∧ LenV K x H n ∧ Q (.int n) H) ∨ (∃ a kvs, xs = [V.ref a] ∧ H a = some (.dK kvs) ∧ Q (.int kvs.length) H) ∨ rLenT xs H Q
theorem c_len {X : Cx} : CallR X (.builtin "len") (uLen X.K) := call_len.or (call_lenD.or call_len_dT)
def uInt : List V → Hp → VK → Prop := fun xs H Q => (∃ i, xs = [.int i] ∧ Q (.int i) H) ∨ ∃ k, xs = [.bl k] ∧ Q (.int (if k then 1 else 0)) H
theorem c_int {X : Cx} : CallR X (.type "int") uInt := call_int1
def uAbs : List V → Hp → VK → Prop := fun xs H Q => ∃ i, xs = [.int i] ∧ Q (.int (if i < 0 then -i else i)) H
theorem c_abs {X : Cx} : CallR X (.builtin "abs") uAbs := call_abs
def uMax : List V → Hp → VK → Prop := fun xs H Q => ∃ i j, xs = [.int i, .int j] ∧ Q (.int (if j > i then j else i)) H
theorem c_max {X : Cx} (hc : X.calm = true) : CallR X (.builtin "max") uMax := call_max2 hc
def uMin : List V → Hp → VK → Prop := fun xs H Q => ∃ i j, xs = [.int i, .int j] ∧ Q (.int (if j < i then j else i)) H
theorem c_min {X : Cx} (hc : X.calm = true) : CallR X (.builtin "min") uMin := call_min2 hc
def uIsi (K : PySem.W.Frag) : List V → Hp → VK → Prop := fun xs H Q => rIsi K xs H Q ∨ rIsiT K xs H Q
theorem c_isi {X : Cx} : CallR X (.builtin "isinstance") (uIsi X.K) := call_isi.or call_isiT
/-! a def that may be called by its name; it may raise -/
structure Kn (P : Program) (w : World) (K : PySem.W.Frag) (mg : Str → Option Value) (base : Heap) (k : Nat) (x : Str) (ps : List Str) (sp : Sp) : Prop where
  ex : ∃ (f : Addr) (fd : FuncData), FnOk P w K mg base (L2.CX P w) k f fd ps sp ∧ mg x = some (.ref f) ∧ PySem.W.keepIn K (.ref f) = true ∧ Binds K fd ps []
/-- .. by keywords alone, ks their order, g puts them in the parameters' order -/
structure Kk (P : Program) (w : World) (K : PySem.W.Frag) (mg : Str → Option Value) (base : Heap) (k : Nat) (x : Str) (ps ks : List Str) (g : {α : Type} → List α → List α) (sp : Sp) : Prop where
  ex : ∃ (f : Addr) (fd : FuncData), FnOk P w K mg base (L2.CX P w) k f fd ps sp ∧ mg x = some (.ref f) ∧ PySem.W.keepIn K (.ref f) = true ∧
    (∀ (s : Shared) (ws : List Value), K.In s.heap → (g ws).length = ps.length → BindsTo s fd ⟨[], ks.zip ws⟩ (ps.zip (g ws))) ∧ ∀ {zs : List V} {ws : List Value}, Vals zs ws → Vals (g zs) (g ws)
abbrev E00 : XK := fun _ _ _ => False
/-- a call that raises nothing -/
def tKn (sp : Sp) (t : TA) : TE := fun σ H Q => t σ H fun vs H1 => sp vs H1 Q E00
/-- a call that may raise: W what is wished then -/
def tKx (sp : Sp) (W : WX) (t : TA) : TE := fun σ H Q => t σ H fun vs H1 => sp vs H1 Q fun cls d H' => W cls d σ H'
/-- by keywords -/
def tKk (sp : Sp) (g : {α : Type} → List α → List α) (W : WX) (t : TA) : TE := fun σ H Q => t σ H fun vs H1 => sp (g vs) H1 Q fun cls d H' => W cls d σ H'
section
variable {X : Cx} {k j : Nat} {x : Str} {ps ks : List Str} {sp : Sp} {p pos : Pos} {e : Expr} {es : List Expr} {t : TA} {W : WX} {kws : List Keyword}
theorem run_kn {E : L2.St → XK} {pins : List (Addr × Obj)} {σ : L2.St} {H : Hp} {s : Shared} {Q : VK} {us : List Value} {vs : List V} {f : Addr} {fd : FuncData} (F : FnOk X.prog X.w X.K X.mg X.base (L2.CX X.prog X.w) k f fd ps sp) (hr : Room k X.A) (hb : Binds X.K fd ps []) (hx : PassesAt (L2.CX X.prog X.w) X σ (E σ))
    (I : Inv X pins σ H s) (r : Vals vs us) (h : sp vs H Q (E σ)) : wpAny (model X.prog X.w) X.A (call (.ref f) us) (EP X pins σ Q) X.xe s := run_fnS F hr hb hx I r h
theorem no_pass {σ : L2.St} : PassesAt (L2.CX X.prog X.w) X σ E00 := fun _ _ _ _ _ _ c => by
  obtain ⟨_, _, _, _, _, _, _, _, _, _, _, _, z⟩ := c
  exact z.elim
theorem pe_kn (c : Kn X.prog X.w X.K X.mg X.base k x ps sp) (hr : Room j X.A) (hk : k ≤ j) (hg : Gl X x) (ha : PA X (e :: es) t)
    (hdb : (x == ("__debug__" : Str)) = false := by decide) (he : starEach (e :: es) X.env = (false, eval e X.env) :: starEach es X.env := by rfl) (hpl : (backTo pos (starEach es X.env)).any (·.1) = false := by rfl) :
    PE X (.Call (.Name x p) (e :: es) [] pos) (tKn sp t) := by
  obtain ⟨f, fd, F, hm, kp, b⟩ := c.ex
  refine ⟨fun pins s σ H Q I h => ?_⟩
  refine wpAny_Call_Name_kw (ld_glob I hg hm ?_ hdb)
  refine PySem.W.callWith_K (h₀ := X.base) I.ok.mod.kin kp (thn (ha.run pos pins s σ H _ I h) fun us s1 ⟨vs, H1, I1, r, q⟩ => ⟨I1.kIn, ?_⟩) he hpl
  exact run_kn (E := fun _ => E00) F (hr.mono hk) b no_pass I1 r q
theorem pe_kx (c : Kn X.prog X.w X.K X.mg X.base k x ps sp) (hr : Room j X.A) (hk : k ≤ j) (tk : Takes X W) (hg : Gl X x) (ha : PA X (e :: es) t)
    (hdb : (x == ("__debug__" : Str)) = false := by decide) (he : starEach (e :: es) X.env = (false, eval e X.env) :: starEach es X.env := by rfl) (hpl : (backTo pos (starEach es X.env)).any (·.1) = false := by rfl) :
    PE X (.Call (.Name x p) (e :: es) [] pos) (tKx sp W t) := by
  obtain ⟨f, fd, F, hm, kp, b⟩ := c.ex
  refine ⟨fun pins s σ H Q I h => ?_⟩
  refine wpAny_Call_Name_kw (ld_glob I hg hm ?_ hdb)
  refine PySem.W.callWith_K (h₀ := X.base) I.ok.mod.kin kp (thn (ha.run pos pins s σ H _ I h) fun us s1 ⟨vs, H1, I1, r, q⟩ => ⟨I1.kIn, ?_⟩) he hpl
  exact run_kn (E := WE W) F (hr.mono hk) b (passAt tk σ) I1 r q
theorem pe_kk {g : {α : Type} → List α → List α} (c : Kk X.prog X.w X.K X.mg X.base k x ps ks g sp) (hr : Room j X.A) (hk : k ≤ j) (tk : Takes X W) (hg : Gl X x) (hkw : PK X kws t)
    (hall : (backToKw pos (keywordEach kws X.env)).all (·.1.isSome) = true := by rfl) (hks : (backToKw pos (keywordEach kws X.env)).filterMap (·.1) = ks := by rfl) (hdb : (x == ("__debug__" : Str)) = false := by decide)
    (hpl : ((backTo pos (starEach [] X.env)).any (·.1) || (backToKw pos (keywordEach kws X.env)).any (·.1.isNone)) = false := by rfl) :
    PE X (.Call (.Name x p) [] kws pos) (tKk sp g W t) := by
  obtain ⟨f, fd, F, hm, kp, b, rel⟩ := c.ex
  refine ⟨fun pins s σ H Q I h => ?_⟩
  refine wpAny_Call_Name_kw (ld_glob I hg hm ?_ hdb)
  refine PySem.W.callWith_KW0 (h₀ := X.base) I.ok.mod.kin kp hall ?_ hpl
  refine thn (hkw.run pos pins s σ H _ I h) fun ws s2 ⟨zs, H2, I2, rz, q2⟩ => ⟨I2.kIn, ?_⟩
  rw [hks]
  have r2 := rel rz
  have hl : (g ws).length = ps.length := by rw [← r2.length]; exact F.len _ _ _ _ q2
  refine wpAny_call (codeAny_mono (F.run X.A X.stack s2 H2 ⟨[], ks.zip ws⟩ (g ws) (g zs) Q (WE W σ) (hr.mono hk) I2.env0 (b s2 ws I2.kIn hl) r2 q2) fun r s' hq => ?_)
  cases r with
  | error e => exact passAt tk σ pins H2 s2 e s' I2 hq
  | ok fl =>
    cases fl with
    | ret u => exact I2.after hq
    | next => exact False.elim hq
    | brk => exact False.elim hq
    | cont => exact False.elim hq
end
/-- a module's constant -/
theorem pe_cst {X : Cx} {x : Str} {pos : Pos} {v : V} (hg : Gl X x) (h : ∃ u, X.mg x = some u ∧ RelV v u) (hdb : (x == ("__debug__" : Str)) = false := by decide) : PE X (.Name x pos) (tC v) := by
  obtain ⟨u, hm, r⟩ := h
  exact pe_glob hg hm r hdb
/-- a class, built-in, as a value -/
theorem pe_ty {X : Cx} {x : Str} {n : String} {pos : Pos} (hg : Gl X x) (hm : X.mg x = none) (hv : bootBuiltins x = some (.type n)) (hn : x ≠ "__name__" := by decide) (hdb : (x == ("__debug__" : Str)) = false := by decide) : PE X (.Name x pos) (tC (.ty n)) := by
  first | exact pe_bltn hg hm hv rfl | exact pe_bltn hg hm hv rfl hn | exact pe_bltn hg hm hv rfl hn hdb
section
variable {P : Program} {w : World} {K : PySem.W.Frag} {mg : Str → Option Value} {base : Heap}
/-- a def by its body's walk (hd) and the reading's law (hp) -/
theorem kn_ok {x qual : Str} {st : Stmt} {f : Addr} {fd : FuncData} {N ps : List Str} {k : Nat} {sp : Sp} (F : FunD K x qual (defArgs st) (defBody st) (defScope st) [] [] f fd) (S : FnScope N ps (defScope st)) (len : ∀ vs H Q E, sp vs H Q E → vs.length = ps.length) (t : XK → TS)
    (hd : ∀ (cdv : Value) (A : Around) (outer : List Env) (s : Shared) (H : Hp) (E : XK), Room k (A.deeper (envOfC qual (defScope st) s.heap.objs.size f cdv)) → PSs (cxOf (L2.CX P w) P w K mg base N qual (defScope st) f cdv A outer s H E) (defBody st) (t E))
    (hp : ∀ (vs : List V) (H : Hp) (Q : VK) (E : XK), sp vs H Q E → t E { nx := fun _ H' => Q .non H', rt := Q } (start N vs) H) : FnOk P w K mg base (L2.CX P w) (k + 1) f fd ps sp :=
  F.ok S len fun cdv A outer s H vs Q E hr h => ⟨t E, hd cdv A outer s H E hr, hp vs H Q E h⟩
end
theorem hu0_of {A : Around} {k : Nat} (hr : Room k A) : A.units < cLine := by have := hr.un; omega
theorem hu64_of {A : Around} {k : Nat} (hr : Room k A) : A.units + 64 < cLine := by have := hr.un; omega
theorem hu65_of {A : Around} {k : Nat} (hr : Room k A) : A.units + 65 < cLine := by have := hr.un; omega
abbrev W0 (E : XK) : WX := fun cls d _ H => E cls d H
def tTryM (K : PySem.W.Frag) (Wout : WX) (tb : WX → TS) (l : List (Value × Option Nat × (Addr → Value → Option Addr → TS))) : TS := fun D σ H => tb (wManyA K Wout D l) D σ H
def iSeq (K : PySem.W.Frag) (tl : TE) : TI := fun σ H R => iList K tl σ H R ∨ iTup K tl σ H R
theorem pi_seq {X : Cx} {tg l : Expr} {tl : TE} (hl : PE X l tl) : PI X tg l (iSeq X.K tl) :=
  ⟨fun pins s σ H R I h => h.elim ((pi_list hl).run pins s σ H R I) ((pi_tup hl).run pins s σ H R I)⟩
/-- (a, b, ..) = a tuple or a list of that length -/
def gSq (K : PySem.W.Frag) (n : Nat) (t : TGs) : TG := fun v σ H Q => gTup K n t v σ H Q ∨ gLst K n t v σ H Q
theorem pg_sq {X : Cx} {pos : Pos} {es : List Expr} {k : Nat} {t : TGs} {n : Nat} (hc : X.calm = true) (h : PGs X es t)
    (hn : (assignEach es X.env).length = n := by rfl) (hst : (assignEach es X.env).findIdx? (·.1) = none := by rfl) : PG X (.Tuple es k pos) (gSq X.K n t) :=
  ⟨fun pins s σ H v u Q I r hw => hw.elim ((pg_tup hc h hn hst).run pins s σ H v u Q I r) ((pg_lst hc h hn hst).run pins s σ H v u Q I r)⟩
def uSl (K : PySem.W.Frag) : V → Option Int → Option Int → Hp → VK → Prop := fun x lo hi H Q => rSlL K x lo hi H Q ∨ rSlA K x lo hi H Q ∨ rSlS x lo hi H Q
theorem u_sl {X : Cx} : SlR X (uSl X.K) := fun pins s σ H x v vl vu lo hi sl Q I rx hs pl pu h => by
  rcases h with h | h | h
  · exact sl_list pins s σ H x v vl vu lo hi sl Q I rx hs pl pu h
  · exact sl_tupA pins s σ H x v vl vu lo hi sl Q I rx hs pl pu h
  · exact sl_str pins s σ H x v vl vu lo hi sl Q I rx hs pl pu h
def uSum (K : PySem.W.Frag) : List V → Hp → VK → Prop := rSum K
theorem c_sum {X : Cx} (hc : X.calm = true) : CallR X (.builtin "sum") (uSum X.K) := cr_sum hc
def uAll (K : PySem.W.Frag) : List V → Hp → VK → Prop := rAll K
theorem c_all {X : Cx} (hc : X.calm = true) : CallR X (.builtin "all") (uAll X.K) := cr_all hc
def uAny (K : PySem.W.Frag) : List V → Hp → VK → Prop := rAny K
theorem c_any {X : Cx} (hc : X.calm = true) : CallR X (.builtin "any") (uAny X.K) := cr_any hc
def tpAdd : TIp := ipI fun i j => i + j
def tpSub : TIp := ipI fun i j => i - j
/-- e.n, e the error that the suite holds -/
def tXg (K : PySem.W.Frag) (a : Addr) (cls : Value) (d : Option Addr) (f : Str) (te : TE) : TE := fun σ H Q => te σ H fun x H1 => x = .ref a ∧ ∃ (C dd : Addr) (fs : List (Str × V)) (v : V), cls = .ref C ∧ XfC K C ∧ PySem.W.findIn K (.ref C) f = some none ∧ d = some dd ∧ H1 dd = some (.xd fs) ∧ fs.lookup f = some v ∧ Q v H1
theorem pe_xg {X : Cx} {a : Addr} {oe : Obj} {cls : Value} {d : Option Addr} {pn : List (Addr × Obj)} {e : Expr} {te : TE} {pos : Pos} {n : Str} (hz : Zc cls d oe) (hf : ∃ vs, oe.data = .fields vs) (he : PE (X.suite a ((a, oe) :: pn)) e te)
    (hb : attributeBase e n X.env (eval e X.env) = eval e X.env := by rfl) :
    PE (X.suite a ((a, oe) :: pn)) (.Attribute e n pos) (tXg X.K a cls d n te) := by
  refine ⟨fun pins s σ H Q I h => ?_⟩
  refine attr_of hb (thn (he.run pins s σ H _ I h) fun u s1 hh => ?_)
  obtain ⟨x, H1, I1, rx, ex, C, dd, fs, v, ec, T, hno, ed, ea, l, q⟩ := hh
  subst ex
  obtain rfl : u = Value.ref a := rx
  subst ec
  subst ed
  obtain ⟨ha, _⟩ := I1.pin (a, oe) (List.mem_append_left _ List.mem_cons_self)
  obtain ⟨vs, hd⟩ := hf
  have hx : ObjOk X.prog X.w H1 s1.heap dd (.xd fs) := I1.hok dd _ ea
  obtain ⟨mA, hns, hr⟩ := hx
  obtain ⟨od, ho, hl⟩ := lookIn_ns hns
  obtain ⟨u, hu, ru⟩ := RelO.some_of (v := v) (o := mA n) (by rw [← l]; exact hr n)
  have J : PySem.W.InstAt s1.heap a oe C (some od) := ⟨ha, hz.1, by unfold PySem.W.notCls; rw [hd] <;> rfl, by rw [hz.2]; exact ho⟩
  exact HandSPX.exc_get I1.kIn J T.ga T.gg T.exC (PySem.W.findObj_own T.hdC hno rfl (by rw [hl, hu])) (handed_of ru) ⟨v, H1, I1.tok _, ru, q⟩
end Kx
set_option Elab.async false
set_option linter.all false
set_option maxRecDepth 100000
set_option maxHeartbeats 4000000
namespace Kx
open PySem PySem.Spec PyProof.Rows L2
section
variable {K : PySem.W.Frag} {σ : L2.St} {H : Hp} {Q : VK} {QB : Bool → Hp → Prop} {QA : List V → Hp → Prop} {D : Ends} {E : XK} {W : WX} {ta tb tc te : TE} {tr : TA} {c u : TT} {t t2 : TS} {g : TG} {gs : TGs} {r r' : R2} {x y v : V} {xs vs : List V} {i j : Int} {n : Nat} {b k : Bool} {s z : Str} {sp : Sp} {p q a d : Addr} {wi : TI}
/-! expressions -/
theorem w_var {n : Nat} (h : σ[n]? = some (some v)) (q : Q v H) : tVar n σ H Q := ⟨v, h, q⟩
theorem w_c (q : Q v H) : tC v σ H Q := q
theorem w_op (q : ta σ H fun x H1 => tb σ H1 fun y H2 => r x y H2 Q) : tOp r ta tb σ H Q := q
theorem w_un {r : V → Hp → VK → Prop} (q : ta σ H fun x H1 => r x H1 Q) : tUn r ta σ H Q := q
theorem w_cons (q : ta σ H fun x H1 => tr σ H1 fun xs H2 => QA (x :: xs) H2) : tCons ta tr σ H QA := q
theorem w_nil (q : QA [] H) : tNil σ H QA := q
theorem w_kn (q : tr σ H fun vs H1 => sp vs H1 Q E00) : tKn sp tr σ H Q := q
theorem w_kx (q : tr σ H fun vs H1 => sp vs H1 Q fun cls d H' => W cls d σ H') : tKx sp W tr σ H Q := q
theorem w_kk {g : {α : Type} → List α → List α} (q : tr σ H fun vs H1 => sp (g vs) H1 Q fun cls d H' => W cls d σ H') : tKk sp g W tr σ H Q := q
theorem w_cb {r : List V → Hp → VK → Prop} (q : tr σ H fun vs H1 => r vs H1 Q) : tCB r tr σ H Q := q
theorem w_chain (q : ta σ H fun x H1 => tb σ H1 fun y H2 => r x y H2 fun z H3 => ∃ k, z = .bl k ∧ (if k = true then tc σ H3 fun w' H4 => r' y w' H4 Q else Q (.bl false) H3)) : tChain r r' ta tb tc σ H Q := q
theorem w_andV (q : ta σ H fun x H1 => ∃ c, x = .bl c ∧ if c = true then tb σ H1 Q else Q (.bl false) H1) : tAndV ta tb σ H Q := q
theorem w_orV (q : ta σ H fun x H1 => ∃ c, x = .bl c ∧ if c = true then Q (.bl true) H1 else tb σ H1 Q) : tOrV ta tb σ H Q := q
theorem w_notV (q : ta σ H fun x H1 => ∃ c, x = .bl c ∧ Q (.bl (!c)) H1) : tNotV ta σ H Q := q
theorem w_ifx (q : c σ H fun b H1 => if b = true then ta σ H1 Q else tb σ H1 Q) : tIf c ta tb σ H Q := q
theorem w_tup (q : tr σ H fun xs H1 => xs.length ≤ sizeLine ∧ ∀ p, H1 p = none → Q (.ref p) (upd H1 p (.tup xs))) : tTup tr σ H Q := q
theorem w_lst (q : tr σ H fun xs H1 => xs.length ≤ sizeLine ∧ ∀ p, H1 p = none → Q (.ref p) (upd H1 p (.lst xs))) : tLst tr σ H Q := q
theorem w_tupE {F : Addr → Prop} (h : xs.length ≤ 1000) (q : ∀ p, H p = none → F p) : xs.length ≤ sizeLine ∧ ∀ p, H p = none → F p := ⟨Nat.le_trans h (by decide), q⟩
/-! tests -/
theorem w_test (q : te σ H fun x H' => ∃ k, x = .bl k ∧ QB k H') : tTest te σ H QB := q
theorem w_tr (q : te σ H fun x H' => ∃ k, TruV K x H' k ∧ QB k H') : tTr K te σ H QB := q
theorem w_and (q : c σ H fun b H1 => if b = true then u σ H1 QB else QB false H1) : tAnd c u σ H QB := q
theorem w_or (q : c σ H fun b H1 => if b = true then QB true H1 else u σ H1 QB) : tOr c u σ H QB := q
theorem w_not (q : c σ H fun b H1 => QB (!b) H1) : tNot c σ H QB := q
theorem w_yes (q : QB true H) : tYes σ H QB := q
theorem w_exb {P : Bool → Prop} (q : P b) : ∃ c, V.bl b = V.bl c ∧ P c := ⟨b, rfl, q⟩
theorem w_tru_bl {P : Bool → Prop} (q : P b) : ∃ k, TruV K (.bl b) H k ∧ P k := ⟨b, rfl, q⟩
theorem w_tru_int {P : Bool → Prop} (q : P (i != 0)) : ∃ k, TruV K (.int i) H k ∧ P k := ⟨_, rfl, q⟩
theorem w_tru_non {P : Bool → Prop} (q : P false) : ∃ k, TruV K .non H k ∧ P k := ⟨_, rfl, q⟩
theorem w_ite_t {c : Prop} [Decidable c] {A B : Prop} (h : c) (q : A) : if c then A else B := by rw [if_pos h]; exact q
theorem w_ite_f {c : Prop} [Decidable c] {A B : Prop} (h : ¬ c) (q : B) : if c then A else B := by rw [if_neg h]; exact q
theorem w_bt {A B : Prop} (h : b = true) (q : A) : if b = true then A else B := by rw [if_pos h]; exact q
theorem w_bf {A B : Prop} (h : b = false) (q : B) : if b = true then A else B := by rw [if_neg (by rw [h]; exact Bool.false_ne_true)]; exact q
theorem w_b2 {A B : Prop} (q1 : b = true → A) (q2 : b = false → B) : if b = true then A else B := by
  cases b
  · rw [if_neg Bool.false_ne_true]; exact q2 rfl
  · rw [if_pos rfl]; exact q1 rfl
/-! statements -/
theorem w_seq (q : t { D with nx := t2 D } σ H) : tSeq t t2 D σ H := q
theorem w_asg (q : te σ H fun x H1 => g x σ H1 D.nx) : tAsg te g D σ H := q
theorem w_name {Q : L2.St → Hp → Prop} {n : Nat} (q : Q (σ.set n (some v)) H) : gName n v σ H Q := q
theorem w_ret (q : te σ H D.rt) : tRet te D σ H := q
theorem w_retN (q : D.rt .non H) : tRetN D σ H := q
theorem w_drop (q : te σ H fun _ H1 => D.nx σ H1) : tDrop te D σ H := q
theorem w_if (q : c σ H fun b H1 => if b = true then t D σ H1 else t2 D σ H1) : tIfS c t t2 D σ H := q
theorem w_next (q : D.nx σ H) : tNext D σ H := q
theorem w_brk (q : D.bk σ H) : tBreak D σ H := q
theorem w_cont (q : D.ct σ H) : tCont D σ H := q
theorem w_par {n m : Nat} (q : tr σ H fun vs H1 => ∃ v w, vs = [v, w] ∧ D.nx ((σ.set n (some v)).set m (some w)) H1) : tPar n m tr D σ H := q
theorem w_par2 {P : V → V → Prop} (q : P x y) : ∃ v w, [x, y] = [v, w] ∧ P v w := ⟨x, y, rfl, q⟩
theorem w_par3 {n m l : Nat} (q : tr σ H fun vs H1 => ∃ u v w, vs = [u, v, w] ∧ D.nx (((σ.set n (some u)).set m (some v)).set l (some w)) H1) : tPar3 n m l tr D σ H := q
theorem w_par33 {P : V → V → V → Prop} {z : V} (q : P x y z) : ∃ u v w, [x, y, z] = [u, v, w] ∧ P u v w := ⟨x, y, z, rfl, q⟩
theorem w_aug {n : Nat} {ti : TIp} (h : σ[n]? = some (some x)) (q : te σ H fun y H1 => ti x y H1 fun z H2 => D.nx (σ.set n (some z)) H2) : tAug n te ti D σ H := ⟨x, h, q⟩
theorem w_raise {C : Addr} (q : tMkDue C tr σ H fun cls d H' => W cls d σ H') : tRaiseDue C W tr D σ H := q
theorem w_mkdue {C : Addr} {QX : XK} (q : tr σ H fun vs H1 => ∃ v, vs = [v] ∧ ∀ d, H1 d = none → QX (.ref C) (some d) (upd H1 d (.xd [(("given" : Str), v)]))) : tMkDue C tr σ H QX := q
theorem w_one {P : V → Prop} (q : P x) : ∃ v, [x] = [v] ∧ P v := ⟨x, rfl, q⟩
theorem w_gtup {Q : L2.St → Hp → Prop} {n : Nat} (h : SqT K H a xs) (hn : xs.length = n) (q : gs xs σ H Q) : gSq K n gs (.ref a) σ H Q := .inl ⟨a, xs, rfl, h, hn, q⟩
theorem w_glst {Q : L2.St → Hp → Prop} {n : Nat} (h : SqL K H a xs) (hn : xs.length = n) (q : gs xs σ H Q) : gSq K n gs (.ref a) σ H Q := .inr ⟨a, xs, rfl, h, hn, q⟩
theorem w_gcons {Q : L2.St → Hp → Prop} (q : g x σ H fun σ' H' => gs xs σ' H' Q) : gCons g gs (x :: xs) σ H Q := ⟨x, xs, rfl, q⟩
theorem w_gnil {Q : L2.St → Hp → Prop} (q : Q σ H) : gNil [] σ H Q := ⟨rfl, q⟩
theorem w_bm {T : String} {rr : V → List V → Hp → VK → Prop} (q : te σ H fun x H1 => tyV K T x H1 ∧ tr σ H1 fun xs H2 => rr x xs H2 Q) : tBM K T rr te tr σ H Q := q
theorem w_tyl {P : Prop} (h : SqL K H a xs) (q : P) : tyV K "list" (.ref a) H ∧ P := ⟨.inl ⟨rfl, _, h⟩, q⟩
theorem w_append {l : Addr} (h : H l = some (.lst xs)) (hn : xs.length < 1000000) (q : Q .non (upd H l (.lst (xs ++ [y])))) : rAppend (.ref l) [y] H Q := ⟨l, xs, y, rfl, rfl, h, Nat.lt_of_lt_of_le hn (by decide), q⟩
theorem w_for (q : wi σ H fun J H1 => ∃ W : Nat → Nat → L2.St → Hp → Prop, (∃ m, W 0 m σ H1) ∧ ∀ i m σ H, W i m σ H → ((J.stop i H ∧ D.nx σ H) ∨ (J.go i H ∧ ∃ N : L2.St → Hp → Prop, (∀ σ' H', N σ' H' → ∃ m', m' < m ∧ W (i + 1) m' σ' H') ∧ ∀ x H', J.yld i H x H' → g x σ H' fun σ2 H2 => t { D with nx := N, ct := N, bk := D.nx } σ2 H2))) : tFor wi g t D σ H := q
theorem w_rng1 {R : It → Hp → Prop} (q : tr σ H fun vs H1 => ∃ j : Int, vs = [.int j] ∧ -(2 ^ 62) ≤ j ∧ j < 2 ^ 62 ∧ R (Itr 0 j.toNat) H1) : iRng1 tr σ H R := q
theorem w_rng2 {R : It → Hp → Prop} (q : tr σ H fun vs H1 => ∃ i j : Int, vs = [.int i, .int j] ∧ (-(2 ^ 62) ≤ i ∧ i < 2 ^ 62 ∧ -(2 ^ 62) ≤ j ∧ j < 2 ^ 62) ∧ R (Itr i (j - i).toNat) H1) : iRng2 tr σ H R := q
theorem w_rng1e {P : Int → Prop} (h1 : -(2 ^ 62) ≤ i) (h2 : i < 2 ^ 62) (q : P i) : ∃ j : Int, [V.int i] = [.int j] ∧ -(2 ^ 62) ≤ j ∧ j < 2 ^ 62 ∧ P j := ⟨i, rfl, h1, h2, q⟩
theorem w_rng2e {P : Int → Int → Prop} (h : -(2 ^ 62) ≤ i ∧ i < 2 ^ 62 ∧ -(2 ^ 62) ≤ j ∧ j < 2 ^ 62) (q : P i j) : ∃ i' j' : Int, [V.int i, V.int j] = [.int i', .int j'] ∧ (-(2 ^ 62) ≤ i' ∧ i' < 2 ^ 62 ∧ -(2 ^ 62) ≤ j' ∧ j' < 2 ^ 62) ∧ P i' j' := ⟨i, j, rfl, h, q⟩
/-! operators by their operands -/
theorem w_add_ii (q : Q (.int (i + j)) H) : uAdd K (.int i) (.int j) H Q := .inl ⟨_, _, rfl, rfl, q⟩
theorem w_add_ll (h1 : H p = some (.lst xs)) (h2 : H a = some (.lst vs)) (hn : xs.length + vs.length ≤ 1000000) (q : ∀ p, H p = none → Q (.ref p) (upd H p (.lst (xs ++ vs)))) : uAdd K (.ref p) (.ref a) H Q :=
  .inr (.inl ⟨p, a, xs, vs, rfl, rfl, h1, h2, Nat.le_trans hn (by decide), q⟩)
theorem w_add_ss (hn : s.length + z.length ≤ 1000000) (q : Q (.str (s ++ z)) H) : uAdd K (.str s) (.str z) H Q := .inr (.inr (.inr (.inl ⟨_, _, rfl, rfl, Nat.le_trans hn (by decide), q⟩)))
theorem w_sub_ii (q : Q (.int (i - j)) H) : uSub (.int i) (.int j) H Q := ⟨_, _, rfl, rfl, q⟩
theorem w_mul_ii (h : i.natAbs < 2 ^ 500000) (h2 : j.natAbs < 2 ^ 400000) (q : Q (.int (i * j)) H) : uMul (.int i) (.int j) H Q := .inl ⟨_, _, rfl, rfl, wide_mul h h2 (by decide) (by decide) (by decide), q⟩
theorem w_mul_b (h : -1000000000000000000000000000000 < i ∧ i < 1000000000000000000000000000000) (h2 : -1000000000000000000000000000000 < j ∧ j < 1000000000000000000000000000000) (q : Q (.int (i * j)) H) : uMul (.int i) (.int j) H Q := by
  refine .inl ⟨_, _, rfl, rfl, wide_mul (a := 200) (b := 200) ?_ ?_ (by decide) (by decide) (by decide), q⟩
  · have : (1000000000000000000000000000000 : Nat) < 2 ^ 200 := by decide
    omega
  · have : (1000000000000000000000000000000 : Nat) < 2 ^ 200 := by decide
    omega
theorem w_mul_li (h1 : H p = some (.lst xs)) (h2 : 0 ≤ j) (h3 : j < 1000) (h4 : xs.length ≤ 1000) (q : ∀ q, H q = none → Q (.ref q) (upd H q (.lst ((List.replicate j.toNat xs).flatten)))) : uMul (.ref p) (.int j) H Q := by
  refine .inr ⟨p, j, xs, rfl, rfl, h1, by omega, by omega, ?_, q⟩
  have : xs.length * j.toNat ≤ 1000 * 1000 := Nat.mul_le_mul h4 (by omega)
  exact Nat.le_trans this (by decide)
theorem w_fdv_ii (h : 0 < j) (h2 : j < 1000000000000000000000000000000) (q : Q (.int (i / j)) H) : uFdv (.int i) (.int j) H Q := by
  refine ⟨_, _, rfl, rfl, wide_div h (b := 200) ?_ (by decide) (by decide), q⟩
  have : (1000000000000000000000000000000 : Nat) < 2 ^ 200 := by decide
  omega
theorem w_mod_ii (h : 0 < j) (q : Q (.int (i % j)) H) : uMod (.int i) (.int j) H Q := ⟨_, _, rfl, rfl, h, q⟩
theorem w_pow_ii (h : 0 ≤ j ∧ j ≤ 1000000 ∧ i.natAbs < 2 ^ 64) (q : Q (.int (i ^ j.toNat)) H) : uPow (.int i) (.int j) H Q := ⟨_, _, rfl, rfl, h, q⟩
theorem w_neg_i (q : Q (.int (-i)) H) : uNeg (.int i) H Q := ⟨_, rfl, q⟩
theorem w_lt_ii (q : Q (.bl (decide (i < j))) H) : uLt K (.int i) (.int j) H Q := .inl ⟨_, _, rfl, rfl, q⟩
theorem w_le_ii (q : Q (.bl (decide (i ≤ j))) H) : uLe (.int i) (.int j) H Q := ⟨_, _, rfl, rfl, q⟩
theorem w_gt_ii (q : Q (.bl (decide (j < i))) H) : uGt (.int i) (.int j) H Q := ⟨_, _, rfl, rfl, q⟩
theorem w_ge_ii (q : Q (.bl (decide (j ≤ i))) H) : uGe (.int i) (.int j) H Q := ⟨_, _, rfl, rfl, q⟩
theorem dec_ii : decide (V.int i = V.int j) = decide (i = j) := by
  by_cases h : i = j
  · rw [h]; simp
  · rw [decide_eq_false h, decide_eq_false (fun e => h (V.int.inj e))]
theorem dec_ss : decide (V.str s = V.str z) = decide (s = z) := by
  by_cases h : s = z
  · rw [h]; simp
  · rw [decide_eq_false h, decide_eq_false (fun e => h (V.str.inj e))]
theorem dec_bb {b c : Bool} : decide (V.bl b = V.bl c) = decide (b = c) := by
  by_cases h : b = c
  · rw [h]; simp
  · rw [decide_eq_false h, decide_eq_false (fun e => h (V.bl.inj e))]
theorem w_eq_ii (q : Q (.bl (decide (i = j))) H) : uEq K (.int i) (.int j) H Q := .inl ⟨rfl, by rw [dec_ii]; exact q⟩
theorem w_ne_ii (q : Q (.bl (!decide (i = j))) H) : uNe K (.int i) (.int j) H Q := .inl ⟨rfl, by rw [dec_ii]; exact q⟩
theorem w_eq_ss (q : Q (.bl (decide (s = z))) H) : uEq K (.str s) (.str z) H Q := .inl ⟨rfl, by rw [dec_ss]; exact q⟩
theorem w_ne_ss (q : Q (.bl (!decide (s = z))) H) : uNe K (.str s) (.str z) H Q := .inl ⟨rfl, by rw [dec_ss]; exact q⟩
theorem w_eq_bb {b c : Bool} (q : Q (.bl (decide (b = c))) H) : uEq K (.bl b) (.bl c) H Q := .inl ⟨rfl, by rw [dec_bb]; exact q⟩
theorem w_ne_bb {b c : Bool} (q : Q (.bl (!decide (b = c))) H) : uNe K (.bl b) (.bl c) H Q := .inl ⟨rfl, by rw [dec_bb]; exact q⟩
theorem w_eq_d {d e : PyData} (h1 : Dp K H x d) (h2 : Dp K H y e) (s1 : SeqAt.shaped d = true) (s2 : SeqAt.shaped e = true) (q : Q (.bl (PyData.eqv d e)) H) : uEq K x y H Q := .inr ⟨d, e, h1, h2, s1, s2, q⟩
theorem w_ne_d {d e : PyData} (h1 : Dp K H x d) (h2 : Dp K H y e) (s1 : SeqAt.shaped d = true) (s2 : SeqAt.shaped e = true) (q : Q (.bl (!PyData.eqv d e)) H) : uNe K x y H Q := .inr ⟨d, e, h1, h2, s1, s2, q⟩
theorem w_is_n (q : Q (.bl (decide (x = .non))) H) : uIs x .non H Q := .inl ⟨rfl, q⟩
theorem w_isn_n (q : Q (.bl (!decide (x = .non))) H) : uIsn x .non H Q := .inl ⟨rfl, q⟩
theorem w_is_bb {b c : Bool} (q : Q (.bl (decide (b = c))) H) : uIs (.bl b) (.bl c) H Q := .inr ⟨_, _, rfl, rfl, q⟩
theorem w_isn_bb {b c : Bool} (q : Q (.bl (!decide (b = c))) H) : uIsn (.bl b) (.bl c) H Q := .inr ⟨_, _, rfl, rfl, q⟩
theorem w_in_f (h : SqL K H p xs ∨ SqT K H p xs) (h1 : flatV x = true) (h2 : xs.all flatV = true) (q : Q (.bl (inV x xs)) H) : uIn K x (.ref p) H Q := .inl ⟨p, xs, rfl, h, h1, h2, q⟩
theorem w_nin_f (h : SqL K H p xs ∨ SqT K H p xs) (h1 : flatV x = true) (h2 : xs.all flatV = true) (q : Q (.bl (!inV x xs)) H) : uNin K x (.ref p) H Q := .inl ⟨p, xs, rfl, h, h1, h2, q⟩
theorem w_ixl (h : SqL K H p xs) (e : atI xs i = some v) (q : Q v H) : rIx K (.ref p) (.int i) H Q := .inl ⟨p, xs, i, v, rfl, rfl, h, e, q⟩
theorem w_ixt (h : SqT K H p xs) (e : atI xs i = some v) (q : Q v H) : rIx K (.ref p) (.int i) H Q := .inr (.inl ⟨p, xs, i, v, rfl, rfl, h, e, q⟩)
theorem w_ipadd {P : V → Hp → Prop} (q : P (.int (i + j)) H) : tpAdd (.int i) (.int j) H P := ⟨_, _, rfl, rfl, q⟩
theorem w_ipsub {P : V → Hp → Prop} (q : P (.int (i - j)) H) : tpSub (.int i) (.int j) H P := ⟨_, _, rfl, rfl, q⟩
/-! built-ins -/
theorem w_int_i (q : Q (.int i) H) : uInt [.int i] H Q := .inl ⟨_, rfl, q⟩
theorem w_int_b (q : Q (.int (if k then 1 else 0)) H) : uInt [.bl k] H Q := .inr ⟨_, rfl, q⟩
theorem w_abs (q : Q (.int (if i < 0 then -i else i)) H) : uAbs [.int i] H Q := ⟨_, rfl, q⟩
theorem w_max2 (q : Q (.int (if j > i then j else i)) H) : uMax [.int i, .int j] H Q := ⟨_, _, rfl, q⟩
theorem w_min2 (q : Q (.int (if j < i then j else i)) H) : uMin [.int i, .int j] H Q := ⟨_, _, rfl, q⟩
theorem w_len_l (h : SqL K H p xs) (q : Q (.int (xs.length : Nat)) H) : uLen K [.ref p] H Q := .inl ⟨_, _, rfl, .inl ⟨_, h, rfl⟩, q⟩
theorem w_len_t (h : SqT K H p xs) (q : Q (.int (xs.length : Nat)) H) : uLen K [.ref p] H Q := .inl ⟨_, _, rfl, .inr ⟨_, h, rfl⟩, q⟩
theorem w_len_d {kvs : List (Key × V)} (h : H p = some (.dK kvs)) (q : Q (.int (kvs.length : Nat)) H) : uLen K [.ref p] H Q := .inr (.inl ⟨_, _, rfl, h, q⟩)
theorem w_len_s (h : s.length ≤ 1000000) (q : Q (.int (s.length : Nat)) H) : uLen K [.str s] H Q := .inl ⟨_, _, rfl, ⟨Nat.le_trans h (by decide), rfl⟩, q⟩
theorem w_sum {ns : List Int} (h : SqL K H p (ns.map V.int)) (q : Q (.int ns.sum) H) : uSum K [.ref p] H Q := ⟨p, ns, rfl, h, q⟩
theorem w_isi {T : String} {n : String} (h : TyX K H x (.type T)) (e : kitB T n = some b) (q : Q (.bl b) H) : uIsi K [x, .ty n] H Q := .inl ⟨x, .ty n, .type T, .type n, b, rfl, .ty n, h, kit_ty e, q⟩
theorem w_isi2 {T : String} {n m : String} {b1 b2 : Bool} (ht : H p = some (.tup [.ty n, .ty m])) (h : TyX K H x (.type T)) (e1 : kitB T n = some b1) (e2 : kitB T m = some b2) (q : Q (.bl (b1 || b2)) H) : uIsi K [x, .ref p] H Q := by
  refine .inr ⟨x, p, [.ty n, .ty m], .type T, [.type n, .type m], b1 || b2, rfl, ht, .cons (.ty n) (.cons (.ty m) .nil), h, ?_, q⟩
  cases b1
  · cases b2
    · exact kitAny_cons (kit_ty e1) (fun _ => kitAny_cons (kit_ty e2) (fun _ => kitAny_nil) (by decide)) (by decide)
    · exact kitAny_cons (kit_ty e1) (fun _ => kitAny_cons (kit_ty e2) (fun z => by cases z) (fun _ => rfl)) (by decide)
  · exact kitAny_cons (kit_ty e1) (fun z => by cases z) (fun _ => rfl)
end
/-! heaps -/
theorem ty_l {K : PySem.W.Frag} {H : Hp} {a : Addr} {xs : List V} (h : SqL K H a xs) : TyX K H (.ref a) (.type "list") := by
  rcases h with (h | ⟨o, h⟩) | ⟨o, its, n, h1, h2, _⟩
  · exact .base (.lst h)
  · exact .base (.frz h)
  · exact .kList h1 h2
theorem ty_t {K : PySem.W.Frag} {H : Hp} {a : Addr} {xs : List V} (h : SqT K H a xs) : TyX K H (.ref a) (.type "tuple") := by
  rcases h with (h | ⟨o, h⟩) | ⟨o, its, n, h1, h2, _⟩
  · exact .base (.tup h)
  · exact .fTuple h
  · exact .kTuple h1 h2
theorem l_of {K : PySem.W.Frag} {H : Hp} {a : Addr} {xs : List V} (h : H a = some (.lst xs)) : SqL K H a xs := .inl (.inl h)
theorem t_of {K : PySem.W.Frag} {H : Hp} {a : Addr} {xs : List V} (h : H a = some (.tup xs)) : SqT K H a xs := .inl (.inl h)
theorem up_new {H : Hp} {a p : Addr} {o u : HO} (hp : H p = none) (h : H a = some o) : upd H p u a = some o := (upd_ne (ne_of_none h hp)).trans h
theorem up_other {H : Hp} {a p : Addr} {o u : HO} (hp : a ≠ p) (h : H a = some o) : upd H p u a = some o := (upd_ne hp).trans h
theorem sm_new {H : Hp} {p : Addr} {u : HO} (hp : H p = none) : Same H (upd H p u) := fun _ _ h => up_new hp h
theorem Same.tup {K : PySem.W.Frag} {H H' : Hp} {a : Addr} {xs : List V} (e : Same H H') (h : SqT K H a xs) : SqT K H' a xs := by
  rcases h with (h | ⟨o, h⟩) | h
  · exact .inl (.inl (e _ _ h))
  · exact .inl (.inr ⟨o, e _ _ h⟩)
  · exact .inr h
/-! isinstance by kinds -/
def tys : List String := ["NoneType", "bool", "int", "str", "list", "tuple", "dict"]
def kT (T n : String) : Bool := T == n || (T == "bool" && n == "int")
theorem kb_all : ∀ T ∈ tys, ∀ n ∈ tys, kitB T n = some (kT T n) := by decide +kernel
/-- what a value is, as far as the tests ask -/
inductive Kd (K : PySem.W.Frag) (H : Hp) : V → String → Prop
  | non : Kd K H .non "NoneType"
  | bl (b : Bool) : Kd K H (.bl b) "bool"
  | int (i : Int) : Kd K H (.int i) "int"
  | str (s : Str) : Kd K H (.str s) "str"
  | lst {a : Addr} {xs : List V} (h : SqL K H a xs) : Kd K H (.ref a) "list"
  | tup {a : Addr} {xs : List V} (h : SqT K H a xs) : Kd K H (.ref a) "tuple"
  | dic {a : Addr} {kvs : List (Key × V)} (h : H a = some (.dK kvs)) : Kd K H (.ref a) "dict"
theorem Kd.ty {K : PySem.W.Frag} {H : Hp} {x : V} {T : String} (h : Kd K H x T) : TyX K H x (.type T) := by
  cases h with
  | non => exact .base .non
  | bl b => exact .base (.bl b)
  | int i => exact .base (.int i)
  | str s => exact .base (.str s)
  | lst h => exact ty_l h
  | tup h => exact ty_t h
  | dic h => exact .base (.dK h)
theorem Kd.mem {K : PySem.W.Frag} {H : Hp} {x : V} {T : String} (h : Kd K H x T) : T ∈ tys := by cases h <;> decide
theorem Kd.same {K : PySem.W.Frag} {H H' : Hp} {x : V} {T : String} (e : Same H H') (h : Kd K H x T) : Kd K H' x T := by
  cases h with
  | non => exact .non
  | bl b => exact .bl b
  | int i => exact .int i
  | str s => exact .str s
  | lst h => exact .lst (e.seq h)
  | tup h => exact .tup (Kx.Same.tup e h)
  | dic h => exact .dic (e _ _ h)
section
variable {K : PySem.W.Frag} {H : Hp} {Q : VK} {x : V} {T n m : String} {p : Addr}
theorem w_isk (h : Kd K H x T) (hn : n ∈ tys) (q : Q (.bl (kT T n)) H) : uIsi K [x, .ty n] H Q := w_isi h.ty (kb_all T h.mem n hn) q
theorem w_isk2 (ht : H p = some (.tup [.ty n, .ty m])) (h : Kd K H x T) (hn : n ∈ tys) (hm : m ∈ tys) (q : Q (.bl (kT T n || kT T m)) H) : uIsi K [x, .ref p] H Q := w_isi2 ht h.ty (kb_all T h.mem n hn) (kb_all T h.mem m hm) q
end
theorem wN_le {n : Nat} (h : Nat.ble n 1000 = true) : n ≤ 1000 := Nat.le_of_ble_eq_true h
end Kx
set_option Elab.async false
set_option linter.all false
set_option maxRecDepth 100000
set_option maxHeartbeats 4000000
namespace Kx
open PySem PySem.Spec PyProof.Rows L2
/-! loops -/
section
variable {K : PySem.W.Frag} {c tt : TT} {tb : TS} {D : Ends} {σ : L2.St} {H H1 H2 H4 : Hp} {g : TG} {te : TE} {wi : TI} {vs : List Nat} {Q : VK} {a A : Addr} {xs : List V} {y : V} {i n : Nat}
theorem w_while (Pv : Nat → L2.St → Hp → Prop) (m0 : Nat) (h0 : Pv m0 σ H)
    (hs : ∀ m σ H, Pv m σ H → c σ H fun b H1 => if b = true then ∃ N : L2.St → Hp → Prop, (∀ σ' H', N σ' H' → ∃ m', m' < m ∧ Pv m' σ' H') ∧ tb { D with nx := N, ct := N, bk := D.nx } σ H1 else D.nx σ H1) : tWhile c tb D σ H := ⟨Pv, ⟨m0, h0⟩, hs⟩
theorem w_wN {W : Nat → L2.St → Hp → Prop} {m : Nat} (q : tb { D with nx := fun σ' H' => ∃ m', m' < m ∧ W m' σ' H', ct := fun σ' H' => ∃ m', m' < m ∧ W m' σ' H', bk := D.nx } σ H) :
    ∃ N : L2.St → Hp → Prop, (∀ σ' H', N σ' H' → ∃ m', m' < m ∧ W m' σ' H') ∧ tb { D with nx := N, ct := N, bk := D.nx } σ H := ⟨_, fun _ _ z => z, q⟩
/-- a list for the for: read as a list, as a tuple -/
theorem w_sqL {te : TE} {R : It → Hp → Prop} (q : te σ H fun x H1 => ∃ a, x = .ref a ∧ (∃ xs, SqL K H1 a xs) ∧ R (Itl K a) H1) : iSeq K te σ H R := .inl q
theorem w_sqT {te : TE} {R : It → Hp → Prop} (q : te σ H fun x H1 => ∃ a, x = .ref a ∧ (∃ xs, SqT K H1 a xs) ∧ R (Itt K a) H1) : iSeq K te σ H R := .inr q
theorem w_sqLe {P : Addr → Prop} (h : SqL K H a xs) (q : P a) : ∃ a', V.ref a = .ref a' ∧ (∃ xs, SqL K H a' xs) ∧ P a' := ⟨a, rfl, ⟨_, h⟩, q⟩
theorem w_sqTe {P : Addr → Prop} (h : SqT K H a xs) (q : P a) : ∃ a', V.ref a = .ref a' ∧ (∃ xs, SqT K H a' xs) ∧ P a' := ⟨a, rfl, ⟨_, h⟩, q⟩
/-! comprehensions -/
theorem w_lc (q : wi σ H fun J H1 => ∀ D, H1 D = none → ∃ W : Nat → Nat → Hp → Prop, (∃ m, W 0 m (upd H1 D (.lst []))) ∧ ∀ i m H, W i m H →
  (J.stop i H ∧ Q (.ref D) H) ∨ (J.go i H ∧ ∃ Nx : Hp → Prop, (∀ H', Nx H' → ∃ m', m' < m ∧ W (i + 1) m' H') ∧ ∀ x H', J.yld i H x H' → g x (wipe σ vs) H' fun σ2 H2 => wipe σ2 vs = wipe σ vs ∧ tt σ2 H2 fun b H3 =>
    if b = true then te σ2 H3 fun y H4 => ∃ acc, H4 D = some (.lst acc) ∧ acc.length < sizeLine ∧ Nx (upd H4 D (.lst (acc ++ [y]))) else Nx H3)) : tLc wi g tt te vs σ H Q := q
theorem sm_mut {p : Addr} {o : HO} (e : Same H H1) (h : H p = none) : Same H (upd H1 p o) := fun a u ha => by
  rw [upd_ne (ne_of_none ha h)]
  exact e a u ha
/-- the list at A holds acc i behind i turns; all that stood before stands -/
def LcP (H1 : Hp) (A : Addr) (acc : Nat → List V) : Nat → Hp → Prop := fun i H => Same H1 H ∧ H A = some (.lst (acc i))
theorem LcP.zero {acc : Nat → List V} (h : H1 A = none) (h0 : acc 0 = []) : LcP H1 A acc 0 (upd H1 A (.lst [])) := ⟨sm_new h, by rw [h0]; exact upd_same⟩
theorem LcP.one {acc : Nat → List V} (P : LcP H1 A acc i H) (e : Same H H4) (hA : H1 A = none) (hl : (acc i).length < 1000000) (hy : acc (i + 1) = acc i ++ [y]) :
    ∃ l, H4 A = some (.lst l) ∧ l.length < sizeLine ∧ LcP H1 A acc (i + 1) (upd H4 A (.lst (l ++ [y]))) :=
  ⟨acc i, e _ _ P.2, Nat.lt_of_lt_of_le hl (by decide), sm_mut (Same.trans P.1 e) hA, by rw [hy]; exact upd_same⟩
theorem LcP.no {acc : Nat → List V} (P : LcP H1 A acc i H) (e : Same H H4) (hy : acc (i + 1) = acc i) : LcP H1 A acc (i + 1) H4 := ⟨Same.trans P.1 e, by rw [hy]; exact e _ _ P.2⟩
end
theorem w_wipe {σ : L2.St} {vs : List Nat} {P : Prop} (h : wipe σ vs = wipe σ vs) (q : P) : wipe σ vs = wipe σ vs ∧ P := ⟨h, q⟩
end Kx
set_option Elab.async false
set_option linter.all false
set_option maxRecDepth 100000
set_option maxHeartbeats 4000000
namespace Kx
open PySem PySem.Spec PyProof.Rows L2
section
variable {K : PySem.W.Frag} {σ : L2.St} {H H' : Hp} {Q : VK} {QA : List V → Hp → Prop} {QO : Option Int → Hp → Prop} {D : Ends} {E : XK} {ta tb tc te to ti tv : TE} {tr : TA} {tl th : TO} {x y v : V} {xs vs : List V} {i j : Int} {n : Nat} {b k : Bool} {s z : Str} {p q a d : Addr}
/-! slices -/
theorem w_slc {r : V → Option Int → Option Int → Hp → VK → Prop} (q : te σ H fun x H1 => tl σ H1 fun l H2 => th σ H2 fun u H3 => r x l u H3 Q) : L2.tSl r te tl th σ H Q := q
theorem w_nop (q : QO none H) : tNoPart σ H QO := q
theorem w_part (q : te σ H fun x H1 => ∃ i, x = .int i ∧ QO (some i) H1) : tPart te σ H QO := q
theorem w_exi {P : Int → Prop} (q : P i) : ∃ j, V.int i = .int j ∧ P j := ⟨i, rfl, q⟩
theorem w_slL {lo hi : Option Int} (h : SqL K H a xs) (q : ∀ p, H p = none → Q (.ref p) (upd H p (.lst (cutV xs lo hi)))) : uSl K (.ref a) lo hi H Q := .inl ⟨a, xs, rfl, h, q⟩
theorem cut_int {ns : List Int} {lo hi : Option Int} : ∃ ms : List Int, cutV (ns.map V.int) lo hi = ms.map V.int ∧ ms.length ≤ ns.length := by
  refine ⟨(ns.drop (HT.sIx (ns.map V.int).length 0 lo)).take (HT.sIx (ns.map V.int).length (ns.map V.int).length hi - HT.sIx (ns.map V.int).length 0 lo), ?_, ?_⟩
  · rw [List.map_take, List.map_drop]; rfl
  · rw [List.length_take, List.length_drop]; omega
/-! an index that is known by its bounds alone -/
theorem at_mem (h0 : 0 ≤ i) (h1 : i < xs.length) : ∃ v, atI xs i = some v ∧ v ∈ xs := by
  have e : ((i.toNat : Nat) : Int) = i := by omega
  have hn : i.toNat < xs.length := by omega
  have h := atI_nat (List.getElem?_eq_getElem hn)
  rw [e] at h
  exact ⟨_, h, List.getElem_mem hn⟩
theorem w_ixl_mem (h : SqL K H p xs) (h0 : 0 ≤ i) (h1 : i < xs.length) (q : ∀ v, v ∈ xs → Q v H) : rIx K (.ref p) (.int i) H Q := by
  obtain ⟨v, e, m⟩ := at_mem h0 h1
  exact .inl ⟨p, xs, i, v, rfl, rfl, h, e, q v m⟩
theorem w_ixlc (h : SqL K H p xs) (g : decide (i ≤ 100000) = true) (e : atI xs i = some v) (q : Q v H) : rIx K (.ref p) (.int i) H Q := w_ixl h e q
theorem w_ixtc (h : SqT K H p xs) (g : decide (i ≤ 100000) = true) (e : atI xs i = some v) (q : Q v H) : rIx K (.ref p) (.int i) H Q := w_ixt h e q
/-! setting an item -/
theorem w_gsub {Q : L2.St → Hp → Prop} {t : TSet} (q : to σ H fun o H1 => ti σ H1 fun i H2 => t o i v H2 fun H3 => Q σ H3) : gSub to ti t v σ H Q := q
theorem w_setl {Q : Hp → Prop} {j : Nat} (h : H p = some (.lst xs)) (e : ixN xs.length i = some j) (q : Q (upd H p (.lst (xs.set j v)))) : rSetL (.ref p) (.int i) v H Q := ⟨p, xs, i, j, rfl, rfl, h, e, q⟩
/-! powers of ten -/
theorem w_pow_9 (q : Q (.int 1000000000) H) : uPow (.int 10) (.int 9) H Q := w_pow_ii (by decide) q
theorem w_pow_12 (q : Q (.int 1000000000000) H) : uPow (.int 10) (.int 12) H Q := w_pow_ii (by decide) q
theorem w_pow_13 (q : Q (.int 10000000000000) H) : uPow (.int 10) (.int 13) H Q := w_pow_ii (by decide) q
theorem w_pow_18 (q : Q (.int 1000000000000000000) H) : uPow (.int 10) (.int 18) H Q := w_pow_ii (by decide) q
theorem w_pow_29 (q : Q (.int 100000000000000000000000000000) H) : uPow (.int 10) (.int 29) H Q := w_pow_ii (by decide) q
theorem w_pow_x (h : -10000000000000000000 < i ∧ i < 10000000000000000000) (h2 : 0 ≤ j ∧ j ≤ 1000000) (q : Q (.int (i ^ j.toNat)) H) : uPow (.int i) (.int j) H Q := w_pow_ii ⟨h2.1, h2.2, by omega⟩ q
theorem w_mod_x (h : 0 < j) (q : ∀ r, 0 ≤ r → r < j → r = i % j → Q (.int r) H) : uMod (.int i) (.int j) H Q := w_mod_ii h (q _ (Int.emod_nonneg _ (by omega)) (Int.emod_lt_of_pos _ h) rfl)
/-! dicts -/
theorem w_dput {te1 te2 te3 : TE} (q : te3 σ H fun v H1 => te1 σ H1 fun x H2 => te2 σ H2 fun y H3 => ∃ a H4, x = .ref a ∧ DPut H3 a y v H4 ∧ D.nx σ H4) : sDPut te1 te2 te3 D σ H := q
theorem w_dputS {P : Hp → Prop} {kvs : List (Key × V)} (h : H a = some (.dK kvs)) (hl : kvs.length ≤ 1000) (q : P (upd H a (.dK (putK kvs (.inr s) v)))) : ∃ a' H4, V.ref a = .ref a' ∧ DPut H a' (.str s) v H4 ∧ P H4 :=
  ⟨a, _, rfl, DPut.k (k := .inr s) h (Nat.lt_of_le_of_lt hl (by decide)), q⟩
theorem w_disp {trs : List (TE × TE)} (q : ∀ p, H p = none → tPairs trs σ (upd H p (.dK [])) fun ps H2 => H2 p = some (.dK []) ∧ ∃ kvs : List (Key × V), ps = kvs.map (fun kv => (kV kv.1, kv.2)) ∧ kvs.length ≤ 15 ∧ Q (.ref p) (upd H2 p (.dK (mergeK [] kvs)))) : tDisp trs σ H Q := q
theorem w_disp1 {ks : Str} (q : ∀ p, H p = none → Q (.ref p) (upd (upd H p (.dK [])) p (.dK [(.inr ks, v)]))) : tDisp [(tC (.str ks), tC v)] σ H Q := fun p hp => ⟨upd_same, [(.inr ks, v)], rfl, by simp, q p hp⟩
/-! try, and what the suite asks of the error that it holds -/
variable {W : WX} {tb : WX → TS} {l : List (Value × Option Nat × (Addr → Value → Option Addr → TS))} {cls c : Value} {o : Option Nat} {ts : Addr → Value → Option Addr → TS} {dd : Option Addr} {C : Addr} {fs : List (Str × V)}
theorem w_try (q : tb (wManyA K W D l) D σ H) : tTryM K W tb l D σ H := q
theorem w_hit (e : PySem.W.exmOne K cls c = some true) (q : ∀ a, H a = none → ts a cls dd (dAs o D) (sAs o σ a) H) : wManyA K W D ((c, o, ts) :: l) cls dd σ H := ⟨true, e, fun _ => q, fun z => (by cases z)⟩
theorem w_miss (e : PySem.W.exmOne K cls c = some false) (q : wManyA K W D l cls dd σ H) : wManyA K W D ((c, o, ts) :: l) cls dd σ H := ⟨false, e, fun z => (by cases z), fun _ => q⟩
theorem w_xg {f : Str} (q : te σ H fun x H1 => x = .ref a ∧ ∃ (C dd : Addr) (fs : List (Str × V)) (v : V), cls = .ref C ∧ XfC K C ∧ PySem.W.findIn K (.ref C) f = some none ∧ some d = some dd ∧ H1 dd = some (.xd fs) ∧ fs.lookup f = some v ∧ Q v H1) : tXg K a cls (some d) f te σ H Q := q
theorem w_xge {f : Str} {P : V → Prop} (T : XfC K C) (hn : PySem.W.findIn K (.ref C) f = some none) (h : H d = some (.xd [(f, v)])) (q : P v) :
    V.ref a = .ref a ∧ ∃ (C' dd : Addr) (fs : List (Str × V)) (v : V), Value.ref C = .ref C' ∧ XfC K C' ∧ PySem.W.findIn K (.ref C') f = some none ∧ some d = some dd ∧ H dd = some (.xd fs) ∧ fs.lookup f = some v ∧ P v :=
  ⟨rfl, C, d, _, v, rfl, T, hn, rfl, h, by simp [List.lookup], q⟩
theorem w_isx {X : Addr} (T : ExcX K C) (e : PySem.W.kitOne K (.ref C) (.ref X) = some b) (h : H d = some (.xd fs)) (q : Q (.bl b) H) : rIsX K (.ref C) (some d) a [.ref a, .ref X] H Q := ⟨C, d, fs, .ref X, .ref X, b, rfl, T, rfl, h, rfl, .own X, e, q⟩
end
/-- the package's errors of these names, as the module lays them -/
structure ExT (K : PySem.W.Frag) (ns : List Str) (base : Str) : Prop where
  ex : ∀ c ∈ ns, ∀ c' ∈ ns, PySem.W.exmOne K (.ref (He.ga K c)) (.ref (He.ga K c')) = some (c == c')
  xf : ∀ c ∈ ns, XfC K (He.ga K c)
  fg : ∀ c ∈ ns, PySem.W.findIn K (.ref (He.ga K c)) "given" = some none
  xx : ∀ c ∈ ns, ExcX K (He.ga K c)
  kd : ∀ c ∈ ns, PySem.W.kitOne K (.ref (He.ga K c)) (.ref (He.ga K base)) = some true
end Kx
set_option Elab.async false
set_option linter.all false
set_option maxRecDepth 100000
set_option maxHeartbeats 4000000
namespace Kx
open PySem PySem.Spec PyProof.Rows L2
section
variable {K : PySem.W.Frag} {σ : L2.St} {H H' : Hp} {Q : VK} {D : Ends} {E : XK} {x y v : V} {xs vs : List V} {i j lo hi : Int} {n : Nat} {b k : Bool} {p q a d : Addr}
theorem w_max2r (q : ∀ r, i ≤ r → j ≤ r → (r = i ∨ r = j) → Q (.int r) H) : uMax [.int i, .int j] H Q := by
  refine w_max2 ?_
  by_cases h : j > i
  · rw [if_pos h]; exact q j (by omega) (by omega) (.inr rfl)
  · rw [if_neg h]; exact q i (by omega) (by omega) (.inl rfl)
theorem w_min2r (q : ∀ r, r ≤ i → r ≤ j → (r = i ∨ r = j) → Q (.int r) H) : uMin [.int i, .int j] H Q := by
  refine w_min2 ?_
  by_cases h : j < i
  · rw [if_pos h]; exact q j (by omega) (by omega) (.inr rfl)
  · rw [if_neg h]; exact q i (by omega) (by omega) (.inl rfl)
/-- an index known by its bounds, into ints known by theirs -/
theorem w_ixl_int (lo hi : Int) (n : Nat) (h : SqL K H p xs) (hn : xs.length = n) (h0 : 0 ≤ i) (h1 : i < n) (hr : ∀ v ∈ xs, ∃ j, v = .int j ∧ lo ≤ j ∧ j ≤ hi) (q : ∀ j, lo ≤ j → j ≤ hi → Q (.int j) H) : rIx K (.ref p) (.int i) H Q :=
  w_ixl_mem h h0 (by rw [hn]; exact h1) fun v hv => by
    obtain ⟨j, rfl, j0, j1⟩ := hr v hv
    exact q j j0 j1
/-- .. into any values -/
theorem w_ixl_v (n : Nat) (h : SqL K H p xs) (hn : xs.length = n) (h0 : 0 ≤ i) (h1 : i < n) (q : ∀ v ∈ xs, Q v H) : rIx K (.ref p) (.int i) H Q := w_ixl_mem h h0 (by rw [hn]; exact h1) q
theorem rg_nil : ∀ v ∈ ([] : List V), ∃ j, v = .int j ∧ lo ≤ j ∧ j ≤ hi := fun _ h => by cases h
theorem rg_cons (h0 : lo ≤ i) (h1 : i ≤ hi) (h : ∀ v ∈ xs, ∃ j, v = .int j ∧ lo ≤ j ∧ j ≤ hi) : ∀ v ∈ V.int i :: xs, ∃ j, v = .int j ∧ lo ≤ j ∧ j ≤ hi := fun v hv => by
  rcases List.mem_cons.mp hv with rfl | hv
  · exact ⟨i, rfl, h0, h1⟩
  · exact h v hv
theorem fm_nil {P : V → Prop} : ∀ v ∈ ([] : List V), P v := fun _ h => by cases h
theorem fm_cons {P : V → Prop} (h : P x) (r : ∀ v ∈ xs, P v) : ∀ v ∈ x :: xs, P v := fun v hv => by
  rcases List.mem_cons.mp hv with rfl | hv
  · exact h
  · exact r v hv
theorem upd_upd {o o' : HO} : upd (upd H p o) p o' = upd H p o' := by
  funext a
  by_cases e : a = p
  · subst e; rw [upd_same, upd_same]
  · rw [upd_ne e, upd_ne e, upd_ne e]
theorem w_disp1n {ks : Str} (q : ∀ p, H p = none → Q (.ref p) (upd H p (.dK [(.inr ks, v)]))) : tDisp [(tC (.str ks), tC v)] σ H Q := w_disp1 fun p hp => by rw [upd_upd]; exact q p hp
/-! making an object, the heap behind it with a name of its own -/
def kTup (Q : VK) (xs : List V) (H : Hp) : Prop := xs.length ≤ sizeLine ∧ ∀ p, H p = none → Q (.ref p) (upd H p (.tup xs))
def kLst (Q : VK) (xs : List V) (H : Hp) : Prop := xs.length ≤ sizeLine ∧ ∀ p, H p = none → Q (.ref p) (upd H p (.lst xs))
theorem n_tup {tr : TA} (q : tr σ H (kTup Q)) : tTup tr σ H Q := q
theorem n_lst {tr : TA} (q : tr σ H (kLst Q)) : tLst tr σ H Q := q
theorem n_ktup (h : Nat.ble xs.length 1000 = true) (q : ∀ p H', H p = none → Same H H' → H' p = some (.tup xs) → Q (.ref p) H') : kTup Q xs H := ⟨Nat.le_trans (Nat.le_of_ble_eq_true h) (by decide), fun p hp => q p _ hp (sm_new hp) upd_same⟩
theorem n_klst (h : Nat.ble xs.length 1000 = true) (q : ∀ p H', H p = none → Same H H' → H' p = some (.lst xs) → Q (.ref p) H') : kLst Q xs H := ⟨Nat.le_trans (Nat.le_of_ble_eq_true h) (by decide), fun p hp => q p _ hp (sm_new hp) upd_same⟩
theorem n_add_ll (h1 : H p = some (.lst xs)) (h2 : H a = some (.lst vs)) (hn : Nat.ble (xs.length + vs.length) 1000 = true) (q : ∀ p H', H p = none → Same H H' → H' p = some (.lst (xs ++ vs)) → Q (.ref p) H') : uAdd K (.ref p) (.ref a) H Q :=
  w_add_ll h1 h2 (Nat.le_trans (Nat.le_of_ble_eq_true hn) (by decide)) fun p hp => q p _ hp (sm_new hp) upd_same
theorem n_slL {lo hi : Option Int} (h : SqL K H a xs) (q : ∀ p H', H p = none → Same H H' → H' p = some (.lst (cutV xs lo hi)) → Q (.ref p) H') : uSl K (.ref a) lo hi H Q := w_slL h fun p hp => q p _ hp (sm_new hp) upd_same
theorem n_disp1 {ks : Str} (q : ∀ p H', H p = none → Same H H' → H' p = some (.dK [(.inr ks, v)]) → Q (.ref p) H') : tDisp [(tC (.str ks), tC v)] σ H Q := w_disp1n fun p hp => q p _ hp (sm_new hp) upd_same
/-! an item, the length: by the object that stands there -/
def ixO : HO → Int → Option V
  | .lst xs, i => atI xs i
  | .tup xs, i => atI xs i
  | _, _ => none
theorem n_ix {o : HO} (g : decide (i ≤ 100000) = true) (h : H p = some o) (e : ixO o i = some v) (q : Q v H) : rIx K (.ref p) (.int i) H Q := by
  cases o with
  | lst xs => exact w_ixl (l_of h) e q
  | tup xs => exact w_ixt (t_of h) e q
  | _ => cases e
theorem n_ixl (g : decide (i ≤ 100000) = true) (h : SqL K H p xs) (e : atI xs i = some v) (q : Q v H) : rIx K (.ref p) (.int i) H Q := w_ixl h e q
theorem n_ixt (g : decide (i ≤ 100000) = true) (h : SqT K H p xs) (e : atI xs i = some v) (q : Q v H) : rIx K (.ref p) (.int i) H Q := w_ixt h e q
def lenO : HO → Option Nat
  | .lst xs => some xs.length
  | .tup xs => some xs.length
  | .dK kvs => some kvs.length
  | _ => none
theorem n_len {o : HO} {n : Nat} (h : H p = some o) (e : lenO o = some n) (q : Q (.int (n : Nat)) H) : uLen K [.ref p] H Q := by
  cases o with
  | lst xs => cases e; exact w_len_l (l_of h) q
  | tup xs => cases e; exact w_len_t (t_of h) q
  | dK kvs => cases e; exact w_len_d h q
  | _ => cases e
def itsO : HO → Option (List V)
  | .lst xs => some xs
  | .tup xs => some xs
  | _ => none
theorem n_gsq {Q : L2.St → Hp → Prop} {n : Nat} {gs : TGs} {o : HO} (h : H a = some o) (e : itsO o = some xs) (hn : xs.length = n) (q : gs xs σ H Q) : gSq K n gs (.ref a) σ H Q := by
  cases o with
  | lst xs => cases e; exact w_glst (l_of h) hn q
  | tup xs => cases e; exact w_gtup (t_of h) hn q
  | _ => cases e
theorem n_ne_same (q : Q (.bl false) H) {s : Str} : uNe K (.str s) (.str s) H Q := w_ne_ss (by simpa using q)
theorem n_eq_same (q : Q (.bl true) H) {s : Str} : uEq K (.str s) (.str s) H Q := w_eq_ss (by simpa using q)
theorem bN_le {a b : Nat} (h : Nat.ble a b = true) : a ≤ b := Nat.le_of_ble_eq_true h
end
end Kx
set_option linter.all false
set_option maxRecDepth 100000
set_option maxHeartbeats 2000000
namespace My
/-! ## days and dates, in plain Lean -/
def leap (y : Int) : Bool := decide (y % 4 = 0) && (!decide (y % 100 = 0) || decide (y % 400 = 0))
def lp (y : Int) : Int := if leap y = true then 1 else 0
/-- the day on which a year begins -/
def yb (y : Int) : Int := 365 * (y - 2000) + (y - 2000 + 3) / 4 - (y - 2000 + 99) / 100 + (y - 2000 + 399) / 400
def mtab (m : Int) : Int := if m = 2 then 28 else if m = 4 ∨ m = 6 ∨ m = 9 ∨ m = 11 then 30 else 31
def mlen (y m : Int) : Int := mtab m + (if m = 2 then lp y else 0)
/-- the days of the year ahead of a month -/
def ahead (y : Int) : Nat → Int
  | 0 => 0
  | n + 1 => ahead y n + mlen y (n + 1)
def mb (y m : Int) : Int := yb y + ahead y (m - 1).toNat
theorem lp_eq (y : Int) : lp y = if (y % 4 = 0 ∧ (¬ y % 100 = 0 ∨ y % 400 = 0)) then 1 else 0 := by
  unfold lp leap
  simp
theorem lp_01 (y : Int) : lp y = 0 ∨ lp y = 1 := by
  unfold lp
  split <;> simp
theorem yb_succ (y : Int) : yb (y + 1) = yb y + 365 + lp y := by
  rw [lp_eq]
  unfold yb
  split <;> omega
theorem yb_lt {y z : Int} (h : y < z) : yb y + 365 ≤ yb z := by
  unfold yb
  omega
theorem yb_400 (y : Int) : yb (y + 400) = yb y + 146097 := by
  unfold yb
  omega
theorem lp_400 (y : Int) : lp (y + 400) = lp y := by
  rw [lp_eq, lp_eq]
  have : (y + 400) % 4 = y % 4 := by omega
  have : (y + 400) % 100 = y % 100 := by omega
  have : (y + 400) % 400 = y % 400 := by omega
  simp [*]
theorem mlen_le (y m : Int) : 28 ≤ mlen y m ∧ mlen y m ≤ 31 := by
  have := lp_01 y
  unfold mlen mtab
  split <;> (try split) <;> omega
theorem ahead_12 (y : Int) : ahead y 12 = 365 + lp y := by
  unfold ahead ahead ahead ahead ahead ahead ahead ahead ahead ahead ahead ahead ahead
  unfold mlen mtab
  simp
  omega
theorem ahead_mono (y : Int) : ∀ {a b : Nat}, a ≤ b → ahead y a ≤ ahead y b
  | a, 0, h => by have : a = 0 := by omega
                  rw [this]; exact Int.le_refl _
  | a, b + 1, h => by
    by_cases e : a = b + 1
    · rw [e]; exact Int.le_refl _
    · have := ahead_mono y (a := a) (b := b) (by omega)
      have := (mlen_le y (b + 1)).1
      show ahead y a ≤ ahead y b + mlen y ((b : Int) + 1)
      omega
/-- y, m, d is the date of the day n -/
structure IsD (n y m d : Int) : Prop where
  m1 : 1 ≤ m
  m2 : m ≤ 12
  d1 : 1 ≤ d
  d2 : d ≤ mlen y m
  eq : mb y m + d - 1 = n
theorem mb_next (y m : Int) (h : 1 ≤ m) : mb y (m + 1) = mb y m + mlen y m := by
  unfold mb
  have e : (m + 1 - 1).toNat = (m - 1).toNat + 1 := by omega
  rw [e]
  show yb y + (ahead y (m - 1).toNat + mlen y (((m - 1).toNat : Int) + 1)) = _
  have : (((m - 1).toNat : Int) + 1) = m := by omega
  rw [this]
  omega
theorem mb_one (y : Int) : mb y 1 = yb y := by
  unfold mb
  show yb y + ahead y 0 = yb y
  unfold ahead
  omega
theorem mb_13 (y : Int) : mb y 13 = yb (y + 1) := by
  rw [yb_succ]
  unfold mb
  show yb y + ahead y 12 = _
  rw [ahead_12]
  omega
theorem mb_mono {y a b : Int} (h1 : 1 ≤ a) (h : a ≤ b) : mb y a ≤ mb y b := by
  unfold mb
  have := ahead_mono y (a := (a - 1).toNat) (b := (b - 1).toNat) (by omega)
  omega
theorem IsD.year {n y m d : Int} (h : IsD n y m d) : yb y ≤ n ∧ n < yb (y + 1) := by
  have h1 := mb_mono (y := y) (a := 1) (b := m) (by omega) h.m1
  have h2 := mb_mono (y := y) (a := m + 1) (b := 13) (by have := h.m1; omega) (by have := h.m2; omega)
  rw [mb_one] at h1
  rw [mb_13, mb_next y m h.m1] at h2
  have := h.eq
  have := h.d1
  have := h.d2
  omega
theorem IsD.uniq {n y m d y' m' d' : Int} (h : IsD n y m d) (h' : IsD n y' m' d') : y = y' ∧ m = m' ∧ d = d' := by
  have a := h.year
  have a' := h'.year
  have ey : y = y' := by
    rcases Int.lt_trichotomy y y' with z | z | z
    · have := yb_lt (y := y + 1) (z := y' + 1) (by omega)
      by_cases e : y + 1 = y'
      · rw [e] at a; omega
      · have := yb_lt (y := y + 1) (z := y') (by omega)
        omega
    · exact z
    · by_cases e : y' + 1 = y
      · rw [e] at a'; omega
      · have := yb_lt (y := y' + 1) (z := y) (by omega)
        omega
  subst ey
  have em : m = m' := by
    have e1 := h.eq
    have e2 := h'.eq
    have b1 := h.d1
    have b2 := h.d2
    have b3 := h'.d1
    have b4 := h'.d2
    have c1 := h.m1
    have c3 := h'.m1
    rcases Int.lt_trichotomy m m' with z | z | z
    · have := mb_mono (y := y) (a := m + 1) (b := m') (by omega) (by omega)
      rw [mb_next y m c1] at this
      omega
    · exact z
    · have := mb_mono (y := y) (a := m' + 1) (b := m) (by omega) (by omega)
      rw [mb_next y m' c3] at this
      omega
  subst em
  have e1 := h.eq
  have e2 := h'.eq
  exact ⟨rfl, rfl, by omega⟩
/-- the next day's date -/
def nextD (y m d : Int) : Int × Int × Int := if d < mlen y m then (y, m, d + 1) else if m < 12 then (y, m + 1, 1) else (y + 1, 1, 1)
theorem IsD.next {n y m d : Int} (h : IsD n y m d) : IsD (n + 1) (nextD y m d).1 (nextD y m d).2.1 (nextD y m d).2.2 := by
  have e := h.eq
  have b1 := h.d1
  have b2 := h.d2
  have c1 := h.m1
  have c2 := h.m2
  unfold nextD
  by_cases q : d < mlen y m
  · rw [if_pos q]
    exact ⟨c1, c2, by show 1 ≤ d + 1; omega, by show d + 1 ≤ mlen y m; omega, by show mb y m + (d + 1) - 1 = n + 1; omega⟩
  · rw [if_neg q]
    by_cases r : m < 12
    · rw [if_pos r]
      have := mlen_le y (m + 1)
      refine ⟨by show 1 ≤ m + 1; omega, by show m + 1 ≤ 12; omega, by show (1 : Int) ≤ 1; omega, by show 1 ≤ mlen y (m + 1); omega, ?_⟩
      show mb y (m + 1) + 1 - 1 = n + 1
      rw [mb_next y m c1]
      omega
    · rw [if_neg r]
      have := mlen_le (y + 1) 1
      refine ⟨by show (1 : Int) ≤ 1; omega, by show (1 : Int) ≤ 12; omega, by show (1 : Int) ≤ 1; omega, by show 1 ≤ mlen (y + 1) 1; omega, ?_⟩
      show mb (y + 1) 1 + 1 - 1 = n + 1
      have e12 : m = 12 := by omega
      subst e12
      have := mb_next y 12 (by omega)
      rw [show (12 : Int) + 1 = 13 from rfl, mb_13] at this
      rw [mb_one]
      omega
theorem mlen_400 (y m : Int) : mlen (y + 400) m = mlen y m := by
  unfold mlen
  rw [lp_400]
theorem ahead_400 (y : Int) : ∀ n, ahead (y + 400) n = ahead y n
  | 0 => rfl
  | n + 1 => by
    unfold ahead
    rw [ahead_400 y n, mlen_400]
theorem mb_400 (y m : Int) : mb (y + 400) m = mb y m + 146097 := by
  unfold mb
  rw [yb_400, ahead_400]
  omega
theorem IsD.add400 {n y m d : Int} (h : IsD n y m d) : IsD (n + 146097) (y + 400) m d :=
  ⟨h.m1, h.m2, h.d1, by rw [mlen_400]; exact h.d2, by rw [mb_400]; have := h.eq; omega⟩
end My
set_option linter.all false
set_option maxRecDepth 100000
namespace My
open PySem PySem.Spec PyProof.Rows L2 Kx
def whole (x : V) : Bool := match x with
  | .int _ => true
  | _ => false
def betw (x : V) (lo hi : Int) : Bool := match x with
  | .int i => decide (lo ≤ i) && decide (i ≤ hi)
  | _ => false
/-- the box of draws: never mind what it holds, but how many draws it counts at most -/
def BoxAt (H : Hp) (b : Addr) (c : Int) : Prop := ∃ (n m c0 : Int) (bo : Bool), H b = some (.lst [.int n, .bl bo, .int m, .int c0]) ∧ 0 ≤ n ∧ 0 ≤ m ∧ m < 2147483629 ∧ 0 ≤ c0 ∧ c0 ≤ c
def notBox : HO → Bool
  | .lst [.int _, .bl _, .int _, .int _] => false
  | _ => true
/-- all but boxes of draws stands as it stood -/
def Ks (H H' : Hp) : Prop := ∀ a o, H a = some o → ∃ o', H' a = some o' ∧ (notBox o = true → o' = o)
/-- the error of the package's class x, with its value -/
def Er (K : PySem.W.Frag) (E : XK) (H : Hp) (c : Str) (x : V) : Prop := ∀ d, H d = none → E (.ref (He.ga K c)) (some d) (upd H d (.xd [(("given" : Str), x)]))
def MOST : Int := 1000000000000
def dateOk : List V → Bool
  | [a, b, c] => betw a 2000 MOST && (betw b 1 12 && (match a, b, c with
    | .int y, .int m, .int d => decide (1 ≤ d) && (decide (d ≤ mlen y m) && decide (mb y m + d - 1 ≤ MOST))
    | _, _, _ => false))
  | _ => false
def sca : V → Bool
  | .non => true
  | .bl _ => true
  | .int _ => true
  | .str _ => true
  | _ => false
/-- a value that a test may be asked of: a tuple of plain ones, or no tuple -/
inductive Va (K : PySem.W.Frag) (H : Hp) : V → Prop
  | tup {a : Addr} {xs : List V} (h : SqT K H a xs) (hs : xs.all sca = true) : Va K H (.ref a)
  | other {x : V} {T : String} (h : Kd K H x T) (hT : T ≠ "tuple") : Va K H x
def sp_is_whole (K : PySem.W.Frag) : Sp := fun vs H Q _ => ∃ x T, vs = [x] ∧ Kd K H x T ∧ Q (.bl (whole x)) H
def sp_is_between (K : PySem.W.Frag) : Sp := fun vs H Q _ => ∃ x T lo hi, vs = [x, .int lo, .int hi] ∧ Kd K H x T ∧ Q (.bl (betw x lo hi)) H
def sp_is_day (K : PySem.W.Frag) : Sp := fun vs H Q _ => ∃ x T, vs = [x] ∧ Kd K H x T ∧ Q (.bl (betw x 0 MOST)) H
def sp_is_tuple_of (K : PySem.W.Frag) : Sp := fun vs H Q _ => ∃ x n, vs = [x, .int n] ∧ ((∃ a xs, x = .ref a ∧ SqT K H a xs ∧ Q (.bl (decide ((xs.length : Int) = n))) H) ∨ ∃ T, Kd K H x T ∧ T ≠ "tuple" ∧ Q (.bl false) H)
def sp_is_leap_year (K : PySem.W.Frag) : Sp := fun vs H Q _ => ∃ y, vs = [.int y] ∧ Q (.bl (leap y)) H
def sp_length_of (K : PySem.W.Frag) : Sp := fun vs H Q _ => ∃ y m, vs = [.int y, .int m] ∧ 1 ≤ m ∧ m ≤ 12 ∧ Q (.int (mlen y m)) H
def sp_check_year (K : PySem.W.Frag) : Sp := fun vs H Q E => ∃ x T, vs = [x] ∧ Kd K H x T ∧ (betw x 2000 2700000000 = true → Q .non H) ∧ (betw x 2000 2700000000 = false → Er K E H "InvalidYear" x)
def sp_check_month (K : PySem.W.Frag) : Sp := fun vs H Q E => ∃ x T, vs = [x] ∧ Kd K H x T ∧ (betw x 1 12 = true → Q .non H) ∧ (betw x 1 12 = false → Er K E H "InvalidMonth" x)
def sp_check_day (K : PySem.W.Frag) : Sp := fun vs H Q E => ∃ x T, vs = [x] ∧ Kd K H x T ∧ (betw x 0 MOST = true → Q .non H) ∧ (betw x 0 MOST = false → Er K E H "InvalidDay" x)
def sp_is_leap (K : PySem.W.Frag) : Sp := fun vs H Q E => ∃ x T, vs = [x] ∧ Kd K H x T ∧ (∀ y, x = .int y → betw x 2000 2700000000 = true → Q (.bl (leap y)) H) ∧ (betw x 2000 2700000000 = false → Er K E H "InvalidYear" x)
def sp_month_length (K : PySem.W.Frag) : Sp := fun vs H Q E => ∃ x T z U, vs = [x, z] ∧ Kd K H x T ∧ Kd K H z U ∧ (∀ y m, x = .int y → z = .int m → betw x 2000 2700000000 = true → betw z 1 12 = true → Q (.int (mlen y m)) H) ∧
  (betw x 2000 2700000000 = false → Er K E H "InvalidYear" x) ∧ (betw x 2000 2700000000 = true → betw z 1 12 = false → Er K E H "InvalidMonth" z)
def sp_year_begin (K : PySem.W.Frag) : Sp := fun vs H Q _ => ∃ y, vs = [.int y] ∧ -1000000000000000 < y ∧ y < 1000000000000000 ∧ Q (.int (yb y)) H
def sp_month_begin (K : PySem.W.Frag) : Sp := fun vs H Q _ => ∃ y m, vs = [.int y, .int m] ∧ 1 ≤ m ∧ m ≤ 12 ∧ -1000000000000000 < y ∧ y < 1000000000000000 ∧ ∀ H', Same H H' → Q (.int (mb y m)) H'
def sp_year_of (K : PySem.W.Frag) : Sp := fun vs H Q _ => ∃ n, vs = [.int n] ∧ 0 ≤ n ∧ n < 100000000000000 ∧ ∀ y, yb y ≤ n → n < yb (y + 1) → Q (.int y) H
/-- a new date -/
def NewDate (H : Hp) (Q : VK) (n : Int) : Prop := ∀ y m d p H', IsD n y m d → Same H H' → H' p = some (.tup [.int y, .int m, .int d]) → Q (.ref p) H'
def sp_date_at (K : PySem.W.Frag) : Sp := fun vs H Q _ => ∃ n, vs = [.int n] ∧ 0 ≤ n ∧ n < 100000000000000 ∧ NewDate H Q n
def sp_date_of (K : PySem.W.Frag) : Sp := fun vs H Q E => ∃ x T, vs = [x] ∧ Kd K H x T ∧ (∀ n, x = .int n → betw x 0 MOST = true → NewDate H Q n) ∧ (betw x 0 MOST = false → Er K E H "InvalidDay" x)
def sp_is_date (K : PySem.W.Frag) : Sp := fun vs H Q _ => ∃ x, vs = [x] ∧ ((∃ a xs, x = .ref a ∧ SqT K H a xs ∧ xs.all sca = true ∧ ∀ H', Same H H' → Q (.bl (dateOk xs)) H') ∨ ∃ T, Kd K H x T ∧ T ≠ "tuple" ∧ Q (.bl false) H)
def sp_day_of (K : PySem.W.Frag) : Sp := fun vs H Q E => ∃ x, vs = [x] ∧ ((∃ a xs, x = .ref a ∧ SqT K H a xs ∧ xs.all sca = true ∧
    (dateOk xs = false → ∀ H', Same H H' → Er K E H' "InvalidDate" x) ∧ (∀ y m d, xs = [.int y, .int m, .int d] → dateOk xs = true → ∀ H', Same H H' → Q (.int (mb y m + d - 1)) H')) ∨
  ∃ T, Kd K H x T ∧ T ≠ "tuple" ∧ Er K E H "InvalidDate" x)
/-! the law's own -/
def sp__law_cell (K : PySem.W.Frag) : Sp := fun vs H Q _ => ∃ (a : Addr) (ns : List Int) (k : Int), vs = [.ref a, .int k] ∧ SqL K H a (ns.map V.int) ∧ ns.length ≤ 63 ∧ 0 ≤ k ∧ k ≤ 1000 ∧ ∀ i H', Same H H' → Q (.int i) H'
def sp__law_box (K : PySem.W.Frag) : Sp := fun vs H Q _ => ∃ g, vs = [.int g] ∧ ∀ b H', Same H H' → BoxAt H' b 0 → Q (.ref b) H'
def sp__law_take (K : PySem.W.Frag) : Sp := fun vs H Q _ => ∃ b c many, vs = [.ref b, .int many] ∧ BoxAt H b c ∧ c < 1000000000 ∧ 0 < many ∧ many < 1000000000000000000000000000000 ∧ ∀ r H', 0 ≤ r → r < many → Ks H H' → BoxAt H' b (c + 1) → Q (.int r) H'
def sp__law_leap (K : PySem.W.Frag) : Sp := fun vs H Q _ => ∃ y, vs = [.int y] ∧ Q (.bl (leap y)) H
def sp__law_length (K : PySem.W.Frag) : Sp := fun vs H Q _ => ∃ y m, vs = [.int y, .int m] ∧ 1 ≤ m ∧ m ≤ 12 ∧ ∀ H', Same H H' → Q (.int (mlen y m)) H'
def sp__law_date (K : PySem.W.Frag) : Sp := fun vs H Q _ => ∃ n, vs = [.int n] ∧ 0 ≤ n ∧ n < 100000000000000 ∧ NewDate H Q n
def sp__law_next (K : PySem.W.Frag) : Sp := fun vs H Q _ => ∃ a y m d, vs = [.ref a] ∧ SqT K H a [.int y, .int m, .int d] ∧ 1 ≤ m ∧ m ≤ 12 ∧
  ∀ p H', Same H H' → H p = none → H' p = some (.tup [.int (nextD y m d).1, .int (nextD y m d).2.1, .int (nextD y m d).2.2]) → Q (.ref p) H'
/-! data of bounded depth and width -/
mutual
def okD : Nat → PyData → Prop
  | n, .list ds => ∃ m, n = m + 1 ∧ ds.length ≤ 100000 ∧ okAll m ds
  | n, .tuple ds => ∃ m, n = m + 1 ∧ ds.length ≤ 100000 ∧ okAll m ds
  | _, .none => True
  | _, .bool _ => True
  | _, .int _ => True
  | _, .str _ => True
  | _, .dict _ => False
def okAll : Nat → List PyData → Prop
  | _, [] => True
  | n, d :: ds => okD n d ∧ okAll n ds
end
def sp_same (K : PySem.W.Frag) (n : Nat) : Sp := fun vs H Q _ => ∃ x y d, vs = [x, y] ∧ Dp K H x d ∧ Dp K H y d ∧ okD n d ∧ ∀ H', Same H H' → Q (.bl true) H'
def sp__law_same (K : PySem.W.Frag) : Sp := sp_same K 8
/-- all but a stands as it stood -/
def But (a : Addr) (H H' : Hp) : Prop := ∀ b o, b ≠ a → H b = some o → H' b = some o
/-- a value that the law lets grow: its own list, its own dict; or plain data -/
inductive Gv (K : PySem.W.Frag) (H : Hp) : V → Prop
  | lst {a : Addr} {xs : List V} (h : H a = some (.lst xs)) (hn : xs.length ≤ 1000) : Gv K H (.ref a)
  | dic {a : Addr} {kvs : List (Key × V)} (h : H a = some (.dK kvs)) (hn : kvs.length ≤ 1000) (hg : valV kvs (.inr "grown") = none) : Gv K H (.ref a)
  | tup {a : Addr} {xs : List V} (h : SqT K H a xs) (hs : xs.all sca = true) (hn : xs.length ≤ 1000) : Gv K H (.ref a)
  | sc {x : V} (h : sca x = true) : Gv K H x
/-- what may have grown: nothing, or the value itself -/
def Grw (x : V) (H H' : Hp) : Prop := Same H H' ∨ ∃ a, x = .ref a ∧ But a H H' ∧ ((∃ xs, H a = some (.lst xs) ∧ H' a = some (.lst (xs ++ [.str "grown"]))) ∨ ∃ kvs, H a = some (.dK kvs) ∧ H' a = some (.dK (putK kvs (.inr "grown") (.int 1))))
def sp__law_very (K : PySem.W.Frag) : Sp := fun vs H Q _ => ∃ x, vs = [x, x] ∧ Gv K H x ∧ ∀ H', Grw x H H' → Q (.bl true) H'
/-- a new list is handed back -/
def Ans (H : Hp) (Q : VK) (xs : List V) : Prop := ∀ l H', Same H H' → H' l = some (.lst xs) → Q (.ref l) H'
/-- a value that is asked in vain -/
inductive Ob (H : Hp) : V → Prop
  | sc {x : V} (h : sca x = true) : Ob H x
  | lst {a : Addr} {xs : List V} (h : H a = some (.lst xs)) (hn : xs.length ≤ 10) (hb : notBox (.lst xs) = true) : Ob H (.ref a)
  | tup {a : Addr} {xs : List V} (h : H a = some (.tup xs)) (hs : xs.all sca = true) (hn : xs.length ≤ 10) : Ob H (.ref a)
  | dic {a : Addr} (h : H a = some (.dK [(.inr "a", .int 1)])) : Ob H (.ref a)
/-- made since H -/
def Fresh (H : Hp) (v : V) : Prop := ∀ a, v = .ref a → H a = none
def sp__law_no_number (K : PySem.W.Frag) : Sp := fun vs H Q _ => ∃ b c lo hi, vs = [.ref b, .int lo, .int hi] ∧ BoxAt H b c ∧ c < 900000000 ∧ -(10 ^ 20) < lo ∧ hi < 10 ^ 20 ∧ ∀ v H', Ks H H' → BoxAt H' b (c + 2) → Ob H' v → betw v lo hi = false → Fresh H v → Q v H'
end My
set_option linter.all false
set_option maxRecDepth 100000
set_option maxHeartbeats 2000000
namespace My
open PySem PySem.Spec PyProof.Rows L2 Kx
variable {K : PySem.W.Frag}
abbrev D0 (Q : VK) : Ends := { nx := fun _ H' => Q .non H', rt := Q }
theorem betw_int {x : V} {lo hi : Int} (c : betw x lo hi = true) : ∃ i, x = .int i ∧ lo ≤ i ∧ i ≤ hi := by
  cases x with
  | int i => exact ⟨i, rfl, by simpa [betw] using c⟩
  | _ => cases c
theorem ahead_sum (y : Int) : ∀ n, ((List.range n).map fun (i : Nat) => mlen y (1 + (i : Int))).sum = ahead y n
  | 0 => rfl
  | n + 1 => by
    rw [List.range_succ, List.map_append, List.sum_append, ahead_sum y n]
    show ahead y n + (mlen y (1 + (n : Int)) + 0) = ahead y n + mlen y ((n : Int) + 1)
    have : (1 + (n : Int)) = (n : Int) + 1 := by omega
    rw [this]
    omega
theorem yb_start {n : Int} (h : 0 ≤ n) : yb (2000 + n / 146097 * 400 + n % 146097 / 366) ≤ n := by
  unfold yb
  omega
theorem NewDate.fin {H H1 : Hp} {Q : VK} {n y m d : Int} {p : Addr} (q : NewDate H Q n) (h : IsD n y m d) (e : Same H H1) (hp : H1 p = none) : Q (.ref p) (upd H1 p (.tup [.int y, .int m, .int d])) := q y m d p _ h (Same.trans e (sm_new hp)) upd_same
theorem yb_bd {y n : Int} (h : yb y ≤ n) (h0 : 0 ≤ n) (h2 : n < 100000000000000) : y < 1000000000000 := by
  unfold yb at h
  omega
theorem yb_bd0 {y n : Int} (h : n < yb (y + 1)) (h0 : 0 ≤ n) : 2000 ≤ y := by
  unfold yb at h
  omega
theorem Kd.sca {H : Hp} {x : V} (h : sca x = true) : ∃ T, Kd K H x T ∧ T ≠ "tuple" := by
  cases x with
  | non => exact ⟨_, .non, by decide⟩
  | bl b => exact ⟨_, .bl b, by decide⟩
  | int i => exact ⟨_, .int i, by decide⟩
  | str s => exact ⟨_, .str s, by decide⟩
  | _ => cases h
/-! heaps but for boxes -/
theorem ks_get {H H' : Hp} {a : Addr} {o : HO} (e : Ks H H') (h : H a = some o) (n : notBox o = true) : H' a = some o := by
  obtain ⟨o', h', k⟩ := e a o h
  rw [h', k n]
theorem ks_tup {K : PySem.W.Frag} {H H' : Hp} {a : Addr} {xs : List V} (e : Ks H H') (h : SqT K H a xs) : SqT K H' a xs := by
  rcases h with (h | ⟨o, h⟩) | h
  · exact .inl (.inl (ks_get e h rfl))
  · exact .inl (.inr ⟨o, ks_get e h rfl⟩)
  · exact .inr h
theorem Ks.refl (H : Hp) : Ks H H := fun _ o h => ⟨o, h, fun _ => rfl⟩
theorem Ks.of {H H' : Hp} (e : Same H H') : Ks H H' := fun a o h => ⟨o, e a o h, fun _ => rfl⟩
theorem Ks.trans {H1 H2 H3 : Hp} (e : Ks H1 H2) (f : Ks H2 H3) : Ks H1 H3 := fun a o h => by
  obtain ⟨o', h', k⟩ := e a o h
  obtain ⟨o2, h2, k2⟩ := f a o' h'
  refine ⟨o2, h2, fun n => ?_⟩
  have := k n
  subst this
  exact k2 n
theorem Ks.fresh {H H' : Hp} {p : Addr} (e : Ks H H') (hp : H' p = none) : H p = none := by
  cases h : H p with
  | none => rfl
  | some o =>
    obtain ⟨o', h', _⟩ := e p o h
    rw [hp] at h'
    cases h'
theorem Ks.box {H : Hp} {b : Addr} {n m c : Int} {bo : Bool} {o : HO} (h : H b = some (.lst [.int n, .bl bo, .int m, .int c])) : Ks H (upd H b o) := fun a u hu => by
  by_cases e : a = b
  · subst e
    rw [h] at hu
    cases hu
    exact ⟨o, upd_same, fun z => by cases z⟩
  · exact ⟨u, by rw [upd_ne e]; exact hu, fun _ => rfl⟩
theorem notBox_int : ∀ ns : List Int, notBox (.lst (ns.map V.int)) = true
  | [] => rfl
  | [_] => rfl
  | _ :: _ :: _ => rfl
theorem ks_ints {K : PySem.W.Frag} {H H' : Hp} {a : Addr} {ns : List Int} (e : Ks H H') (h : SqL K H a (ns.map V.int)) : SqL K H' a (ns.map V.int) := by
  rcases h with (h | ⟨o, h⟩) | h
  · exact .inl (.inl (ks_get e h (notBox_int ns)))
  · exact .inl (.inr ⟨o, ks_get e h rfl⟩)
  · exact .inr h
theorem BoxAt.same {H H' : Hp} {b : Addr} {c : Int} (e : Same H H') (h : BoxAt H b c) : BoxAt H' b c := by
  obtain ⟨n, m, c0, bo, h, r⟩ := h
  exact ⟨n, m, c0, bo, e _ _ h, r⟩
theorem BoxAt.new {H : Hp} {b p : Addr} {c : Int} {o : HO} (hp : H p = none) (h : BoxAt H b c) : BoxAt (upd H p o) b c := h.same (sm_new hp)
theorem sm_fresh {H H' : Hp} {p : Addr} (e : Same H H') (hp : H' p = none) : H p = none := by
  cases h : H p with
  | none => rfl
  | some o => rw [e p o h] at hp; cases hp
/-! data that stands -/
mutual
theorem Dp.same {H H' : Hp} (e : Same H H') : ∀ {x : V} {d : PyData}, Dp K H x d → Dp K H' x d
  | _, _, .non => .non
  | _, _, .bl b => .bl b
  | _, _, .int i => .int i
  | _, _, .str s => .str s
  | _, _, .lst h r => .lst (e.seq h) (DpAll.same e r)
  | _, _, .tup h r => .tup (Kx.Same.tup e h) (DpAll.same e r)
theorem DpAll.same {H H' : Hp} (e : Same H H') : ∀ {xs : List V} {ds : List PyData}, DpAll K H xs ds → DpAll K H' xs ds
  | _, _, .nil => .nil
  | _, _, .cons h r => .cons (Dp.same e h) (DpAll.same e r)
end
theorem DpAll.len {H : Hp} : ∀ {xs : List V} {ds : List PyData}, DpAll K H xs ds → xs.length = ds.length
  | _, _, .nil => rfl
  | _, _, .cons h r => congrArg (· + 1) (DpAll.len r)
theorem DpAll.get {H : Hp} : ∀ {xs : List V} {ds : List PyData}, DpAll K H xs ds → ∀ i, i < ds.length → ∃ x d, xs[i]? = some x ∧ ds[i]? = some d ∧ Dp K H x d
  | _, _, .cons h r, 0, _ => ⟨_, _, rfl, rfl, h⟩
  | _, _, .cons h r, i + 1, hi => by
    obtain ⟨x, d, e1, e2, k⟩ := DpAll.get r i (Nat.lt_of_succ_lt_succ hi)
    exact ⟨x, d, e1, e2, k⟩
theorem okAll.get : ∀ {n : Nat} {ds : List PyData}, okAll n ds → ∀ {i : Nat} {d : PyData}, ds[i]? = some d → okD n d
  | _, _ :: _, h, 0, _, e => by cases e; exact h.1
  | _, _ :: _, h, i + 1, _, e => okAll.get h.2 e
theorem sca_dp {H : Hp} (n : Nat) : ∀ {x : V}, sca x = true → ∃ d, Dp K H x d ∧ okD n d
  | .non, _ => ⟨.none, .non, by simp [okD]⟩
  | .bl b, _ => ⟨.bool b, .bl b, by simp [okD]⟩
  | .int i, _ => ⟨.int i, .int i, by simp [okD]⟩
  | .str s, _ => ⟨.str s, .str s, by simp [okD]⟩
theorem scas_dp {H : Hp} (n : Nat) : ∀ {xs : List V}, xs.all sca = true → ∃ ds, DpAll K H xs ds ∧ okAll n ds
  | [], _ => ⟨[], .nil, by simp [okAll]⟩
  | x :: xs, h => by
    rw [List.all_cons, Bool.and_eq_true] at h
    obtain ⟨d, k, o⟩ := sca_dp (K := K) (H := H) n h.1
    obtain ⟨ds, ks, os⟩ := scas_dp (H := H) n h.2
    exact ⟨d :: ds, .cons k ks, by simp only [okAll]; exact ⟨o, os⟩⟩
theorem But.upd {H : Hp} {a : Addr} {o : HO} : But a H (upd H a o) := fun b u n h => by rw [upd_ne n]; exact h
theorem put_new {κ : Type} [DecidableEq κ] {kvs : List (κ × V)} {k : κ} {v : V} (h : valV kvs k = none) : putK kvs k v = kvs ++ [(k, v)] := by
  unfold putK
  rw [if_neg]
  rw [valV_any, h]
  simp
theorem BoxAt.mono {H : Hp} {b : Addr} {c c' : Int} (h : BoxAt H b c) (l : c ≤ c') : BoxAt H b c' := by
  obtain ⟨n, m, c0, bo, h, r1, r2, r3, r4, r5⟩ := h
  exact ⟨n, m, c0, bo, h, r1, r2, r3, r4, by omega⟩
theorem betw_t {i lo hi : Int} (h0 : lo ≤ i) (h1 : i ≤ hi) : betw (.int i) lo hi = true := by
  show (decide (lo ≤ i) && decide (i ≤ hi)) = true
  rw [decide_eq_true h0, decide_eq_true h1]; rfl
theorem dateOk_of {n y m d : Int} (h : IsD n y m d) (h0 : 0 ≤ n) (h1 : n ≤ 1000000000000) : dateOk [.int y, .int m, .int d] = true := by
  have a := h.year
  have y1 := yb_bd a.1 h0 (by omega)
  have y0 := yb_bd0 a.2 h0
  have e := h.eq
  have c1 := h.m1
  have c2 := h.m2
  have c3 := h.d1
  have c4 := h.d2
  have hM : MOST = 1000000000000 := rfl
  have b1 : betw (.int y) 2000 MOST = true := betw_t (by omega) (by omega)
  have b2 : betw (.int m) 1 12 = true := betw_t (by omega) (by omega)
  have e3 : mb y m + d - 1 ≤ MOST := by omega
  simp only [dateOk]
  rw [b1, b2, decide_eq_true c3, decide_eq_true c4, decide_eq_true e3]
  rfl
theorem fresh_of {H H' : Hp} {p : Addr} (hp : H' p = none) (e : Ks H H') : Fresh H (.ref p) := fun a h => by
  cases h
  exact e.fresh hp
theorem fresh_sc {H : Hp} {v : V} (h : sca v = true) : Fresh H v := fun a e => by
  subst e
  cases h
theorem betw_f {i lo hi : Int} (h : i < lo ∨ hi < i) : betw (.int i) lo hi = false := by
  cases e : betw (.int i) lo hi with
  | false => rfl
  | true =>
    obtain ⟨j, e2, h1, h2⟩ := betw_int e
    cases e2
    omega
theorem dateOk_f {y m d : Int} (h : y < 2000 ∨ 1000000000000 < y ∨ m < 1 ∨ 12 < m ∨ d < 1 ∨ mlen y m < d ∨ 1000000000000 < mb y m + d - 1) : dateOk [.int y, .int m, .int d] = false := by
  cases e : dateOk [.int y, .int m, .int d] with
  | false => rfl
  | true =>
    simp only [dateOk, Bool.and_eq_true] at e
    obtain ⟨e1, e2, e3, e4, e5⟩ := e
    obtain ⟨_, h1, e1, f1⟩ := betw_int e1
    cases h1
    obtain ⟨_, h1, e2, f2⟩ := betw_int e2
    cases h1
    have e3 := of_decide_eq_true e3
    have e4 := of_decide_eq_true e4
    have e5 := of_decide_eq_true e5
    have hM : MOST = 1000000000000 := rfl
    omega
/-- asked as a date, it is refused -/
structure NoD (H H' : Hp) (v : V) : Prop where
  ob : Ob H' v
  no : ∀ a xs, v = .ref a → H' a = some (.tup xs) → dateOk xs = false
  fr : Fresh H v
theorem NoD.sca {H H' : Hp} {v : V} (h : My.sca v = true) : NoD H H' v := ⟨.sc h, fun a xs e => (by subst e; cases h), fresh_sc h⟩
theorem NoD.tup {H H1 H' : Hp} {p : Addr} {xs : List V} (hp : H1 p = none) (e : Ks H H1) (h : H' p = some (.tup xs)) (hs : xs.all My.sca = true) (hn : xs.length ≤ 10) (hd : dateOk xs = false) : NoD H H' (.ref p) :=
  ⟨.tup h hs hn, fun a ys e h' => (by cases e; rw [h] at h'; cases h'; exact hd), fresh_of hp e⟩
theorem NoD.lst {H H1 H' : Hp} {p : Addr} {xs : List V} (hp : H1 p = none) (e : Ks H H1) (h : H' p = some (.lst xs)) (hn : xs.length ≤ 10) (hb : notBox (.lst xs) = true) : NoD H H' (.ref p) :=
  ⟨.lst h hn hb, fun a ys e h' => (by cases e; rw [h] at h'; cases h'), fresh_of hp e⟩
theorem NoD.dic {H H1 H' : Hp} {p : Addr} (hp : H1 p = none) (e : Ks H H1) (h : H' p = some (.dK [(.inr "a", .int 1)])) : NoD H H' (.ref p) :=
  ⟨.dic h, fun a ys e h' => (by cases e; rw [h] at h'; cases h'), fresh_of hp e⟩

theorem dateOk_b2 {y d : Int} {b : Bool} : dateOk [.int y, .bl b, .int d] = false := by simp [dateOk, betw]
theorem dateOk_s2 {y d : Int} {b : Str} : dateOk [.int y, .str b, .int d] = false := by simp [dateOk, betw]
theorem dateOk_b3 {y d : Int} {b : Bool} : dateOk [.int y, .int d, .bl b] = false := by simp [dateOk, betw]
theorem dateOk_n3 {y d : Int} : dateOk [.int y, .int d, .non] = false := by simp [dateOk, betw]
theorem mlen_29 (k : Int) (k0 : 0 ≤ k) : mlen (2001 + 4 * k) 2 = 28 := by
  have e : mlen (2001 + 4 * k) 2 = 28 + lp (2001 + 4 * k) := rfl
  rw [e, lp_eq, if_neg (by omega)]
  rfl
theorem dateOk_29 {k : Int} (h : 0 ≤ k) : dateOk [.int (2001 + 4 * k), .int 2, .int 29] = false := dateOk_f (by have := mlen_29 k h; omega)
theorem notBox_len {xs : List V} (h : Nat.beq xs.length 4 = false) : notBox (.lst xs) = true := by
  match xs, h with
  | [], _ => rfl
  | [_], _ => unfold notBox; split <;> simp_all
  | [_, _], _ => unfold notBox; split <;> simp_all
  | [_, _, _], _ => unfold notBox; split <;> simp_all
  | _ :: _ :: _ :: _ :: _ :: _, _ => unfold notBox; split <;> simp_all
theorem Ob.kd {H : Hp} {v : V} (h : Ob H v) : ∃ T, Kd K H v T := by
  cases h with
  | sc h => obtain ⟨T, k, _⟩ := Kd.sca (K := K) (H := H) h; exact ⟨T, k⟩
  | lst h _ _ => exact ⟨_, .lst (l_of h)⟩
  | tup h _ _ => exact ⟨_, .tup (t_of h)⟩
  | dic h => exact ⟨_, .dic h⟩
theorem Ob.gv {H : Hp} {v : V} (h : Ob H v) : Gv K H v := by
  cases h with
  | sc h => exact .sc h
  | lst h hn _ => exact .lst h (Nat.le_trans hn (by decide))
  | tup h hs hn => exact .tup (t_of h) hs (Nat.le_trans hn (by decide))
  | dic h => exact .dic h (by decide) (by decide)
/-- what v names stands -/
def Std (H0 H : Hp) (v : V) : Prop := ∀ a o, v = .ref a → H0 a = some o → H a = some o
theorem Ob.std {H0 H : Hp} {v : V} (h : Ob H0 v) (e : Std H0 H v) : Ob H v := by
  cases h with
  | sc h => exact .sc h
  | lst h hn hb => exact .lst (e _ _ rfl h) hn hb
  | tup h hs hn => exact .tup (e _ _ rfl h) hs hn
  | dic h => exact .dic (e _ _ rfl h)
theorem Ob.same {H H' : Hp} {v : V} (e : Same H H') (h : Ob H v) : Ob H' v := h.std fun a o _ ha => e a o ha
theorem Ob.ks {H H' : Hp} {v : V} (e : Ks H H') (h : Ob H v) : Ob H' v := by
  cases h with
  | sc h => exact .sc h
  | lst h hn hb => exact .lst (ks_get e h hb) hn hb
  | tup h hs hn => exact .tup (ks_get e h rfl) hs hn
  | dic h => exact .dic (ks_get e h rfl)
/-- one row of what is asked in vain; t: the value that the error carries -/
structure Rw where
  r : Addr
  w : Str
  one : V
  more : V
  e : Str
  n : Int
  t : V
/-- .. and no date -/
structure Nd (H : Hp) (v : V) : Prop where
  ob : Ob H v
  no : ∀ a xs, v = .ref a → H a = some (.tup xs) → dateOk xs = false
theorem Nd.std {H0 H : Hp} {v : V} (g : Nd H0 v) (e : Std H0 H v) : Nd H v := ⟨g.ob.std e, fun a xs ev h' => by
  obtain ⟨ob, no⟩ := g
  cases ob with
  | sc h => subst ev; cases h
  | lst h _ _ => cases ev; rw [e _ _ rfl h] at h'; cases h'
  | tup h _ _ => cases ev; rw [e _ _ rfl h] at h'; cases h'; exact no _ _ rfl h
  | dic h => cases ev; rw [e _ _ rfl h] at h'; cases h'⟩
theorem Nd.same {H H' : Hp} {v : V} (e : Same H H') (h : Nd H v) : Nd H' v := h.std fun a o _ ha => e a o ha
theorem Nd.ks {H H' : Hp} {v : V} (e : Ks H H') (g : Nd H v) : Nd H' v := g.std fun a o ev ha => by
  obtain ⟨ob, no⟩ := g
  cases ob with
  | sc h => subst ev; cases h
  | lst h hn hb => cases ev; rw [ha] at h; cases h; exact ks_get e ha hb
  | tup h hs hn => cases ev; rw [ha] at h; cases h; exact ks_get e ha rfl
  | dic h => cases ev; rw [ha] at h; cases h; exact ks_get e ha rfl
/-- two names are not of one object -/
def Df (u v : V) : Prop := ∀ a, u = .ref a → v ≠ .ref a
theorem Df.symm {u v : V} (h : Df u v) : Df v u := fun a e e2 => h a e2 e
theorem df_sc {u v : V} (h : sca v = true) : Df u v := fun a _ e => by subst e; cases h
theorem df_vv {H : Hp} {u v : V} (fr : Fresh H u) (ob : Ob H v) : Df u v := fun a e e2 => by
  have := fr a e
  subst e2
  cases ob with
  | sc h => cases h
  | lst h _ _ => rw [h] at this; cases this
  | tup h _ _ => rw [h] at this; cases this
  | dic h => rw [h] at this; cases this
theorem df_vr {H : Hp} {u : V} {r : Addr} {o : HO} (fr : Fresh H u) (h : H r = some o) : Df u (.ref r) := fun a e e2 => by
  have := fr a e
  cases e2
  rw [h] at this
  cases this
theorem df_rv {H : Hp} {v : V} {r : Addr} (hp : H r = none) (ob : Ob H v) : Df v (.ref r) := fun a e e2 => by
  cases e2
  subst e
  cases ob with
  | sc h => cases h
  | lst h _ _ => rw [h] at hp; cases hp
  | tup h _ _ => rw [h] at hp; cases hp
  | dic h => rw [h] at hp; cases hp
/-- but for the list at L, all stands -/
def Off (L : Addr) (H H0 : Hp) : Prop := ∀ a o, a ≠ L → H a = some o → H0 a = some o
theorem Df.ne {v : V} {L a : Addr} (d : Df v (.ref L)) (e : v = .ref a) : a ≠ L := fun z => d a e (by rw [z])
theorem Ob.off {H H0 : Hp} {L : Addr} {v : V} (h : Ob H v) (d : Df v (.ref L)) (e : Off L H H0) : Ob H0 v := h.std fun a o ev ha => e a o (d.ne ev) ha
theorem Nd.off {H H0 : Hp} {L : Addr} {v : V} (h : Nd H v) (d : Df v (.ref L)) (e : Off L H H0) : Nd H0 v := h.std fun a o ev ha => e a o (d.ne ev) ha
theorem Fresh.back {H H' : Hp} {v : V} (f : Fresh H' v) (e : Ks H H') : Fresh H v := fun a ev => e.fresh (f a ev)
theorem pw_get {α : Type} {R : α → α → Prop} : ∀ {l : List α}, l.Pairwise R → ∀ {i j : Nat} {x y : α}, j < i → l[j]? = some x → l[i]? = some y → R x y
  | _ :: _, .cons h _, i + 1, 0, x, y, _, hx, hy => by
    cases hx
    exact h y (List.mem_of_getElem? hy)
  | _ :: _, .cons _ r, i + 1, j + 1, x, y, hj, hx, hy => pw_get r (Nat.lt_of_succ_lt_succ hj) hx hy
/-- what stands behind i rows -/
def Bt (rows : List Rw) (i : Nat) (H0 H : Hp) : Prop := ∀ a o, (∀ j x, j < i → rows[j]? = some x → x.t ≠ .ref a) → H0 a = some o → H a = some o
theorem Bt.std {rows : List Rw} {i : Nat} {H0 H : Hp} {v : V} (e : Bt rows i H0 H) (d : ∀ j x, j < i → rows[j]? = some x → Df x.t v) : Std H0 H v := fun a o ev h => e a o (fun j x hj hx z => d j x hj hx a z ev) h
theorem Bt.one {rows : List Rw} {i : Nat} {H0 H H1 H2 : Hp} {x : Rw} (e : Bt rows i H0 H) (s : Same H H1) (hx : rows[i]? = some x) (g : Grw x.t H1 H2) : Bt rows (i + 1) H0 H2 := fun a o ha h => by
  have h1 := s a o (e a o (fun j y hj hy => ha j y (Nat.lt_succ_of_lt hj) hy) h)
  rcases g with g | ⟨a', et, b, _⟩
  · exact g a o h1
  · exact b a o (fun z => ha i x (Nat.lt_succ_self i) hx (by rw [et, z])) h1
theorem Ks.off {H H1 H0 : Hp} {L : Addr} (e : Ks H H1) (hL : H L = none) (st : Off L H1 H0) : Ks H H0 := fun a o h => by
  obtain ⟨o', h', k⟩ := e a o h
  exact ⟨o', st a o' (ne_of_none h hL) h', k⟩
theorem Ks.bt {rows : List Rw} {i : Nat} {H H0 H1 : Hp} (e : Ks H H0) (bt : Bt rows i H0 H1) (fr : ∀ x ∈ rows, Fresh H x.t) : Ks H H1 := fun a o h => by
  obtain ⟨o', h', k⟩ := e a o h
  exact ⟨o', bt a o' (fun j x _ hx z => by have := fr x (List.mem_of_getElem? hx) a z; rw [h] at this; cases this) h', k⟩
end My
set_option Elab.async false
set_option linter.all false
set_option maxRecDepth 100000
set_option maxHeartbeats 4000000
/-! the written part's facts: own tests -/
namespace PySem
namespace DueE
open PySem.W PySem.Calls PyProof.Rows PySem.HandSPX
def dueInitB (file : Str) (D fI : Addr) (K : Frag) : Bool := match K.lookup fI with
  | some ⟨_, _, .func fd, _⟩ => (match fd.closure, fd.defaults, fd.code with
    | [(_, cc)], .ref TD, .ref cda => (match K.lookup TD with
        | some ⟨_, _, .seq xs _, _⟩ => (match xs.toList with
          | [_] => true
          | _ => false)
        | _ => false) && (codeIn K (.ref cda) "DueError.__init__" && ((match K.lookup cda with
        | some ⟨_, _, .fields vs, _⟩ => (match vs[2]? with
          | some (Value.str f _) => file == f
          | _ => false)
        | _ => false) && ((match K.lookup cc with
        | some ⟨_, _, .cell (some (.ref D')), _⟩ => D' == D
        | _ => false) && (clsIn K D).isSome)))
    | _, _, _ => false)
  | _ => false
/-- a function object, its cells' places left out -/
def fnC (K : Frag) (p : Str × Option Str) : He.FnW := match K.lookup (He.fAd K p) with
  | some ⟨_, _, .func fd, _⟩ => some (fd.name, fd.qualname, fd.params, fd.body, fd.scope, fd.globals, fd.closure.map (fun c => (c.1, 0)), fd.builtins)
  | _ => none
def iFn (p1 p2 p3 q1 q2 q3 q4 q5 q6 r1 r2 r3 r4 : Pos) : He.FnW := some (PySem.Str.ofString "__init__", PySem.Str.ofString "DueError.__init__", iA p1 p2 p3, FuncBody.stmts (iB q1 q2 q3 q4 q5 q6 r1 r2 r3 r4), iS, mainGlobals, [(PySem.Str.ofString "__class__", 0)], builtinsNs)
theorem init_ok {P : Program} {K : Frag} {p1 p2 p3 q1 q2 q3 q4 q5 q6 r1 r2 r3 r4 : Pos} (hf : fnC K ("DueError", some "__init__") = iFn p1 p2 p3 q1 q2 q3 q4 q5 q6 r1 r2 r3 r4)
    (hl : (q3.endLine == q5.line) = true) (hb : dueInitB P.main.file (He.ga K "DueError") (He.ma K (He.ga K "DueError") "__init__") K = true) (htop : (P.main.scope.names.lookup ("super" : Str)).isSome = false)
    (hs : He.eqO (nsIn K mainGlobals "super") (some none) = true) (hst : He.eqO (nsIn K cStatics "thirdparty.any") (some none) = true) : InitTxt P K (He.ga K "DueError") (He.ma K (He.ga K "DueError") "__init__") := by
  refine ⟨?_, htop, He.eqO_ok hs, He.eqO_ok hst⟩
  have hf : (match K.lookup (He.ma K (He.ga K "DueError") "__init__") with
    | some ⟨_, _, .func fd, _⟩ => some (fd.name, fd.qualname, fd.params, fd.body, fd.scope, fd.globals, fd.closure.map (fun c => (c.1, 0)), fd.builtins)
    | _ => (none : He.FnW)) = some (PySem.Str.ofString "__init__", PySem.Str.ofString "DueError.__init__", iA p1 p2 p3, FuncBody.stmts (iB q1 q2 q3 q4 q5 q6 r1 r2 r3 r4), iS, mainGlobals, [(PySem.Str.ofString "__class__", 0)], builtinsNs) := hf
  generalize He.ma K (He.ga K "DueError") "__init__" = fI at *
  generalize He.ga K "DueError" = D at *
  unfold dueInitB at hb
  cases e : K.lookup fI with
  | none => rw [e] at hb; cases hb
  | some o =>
    obtain ⟨oc, od, dt, osl⟩ := o
    cases dt with
    | func fd =>
      rw [e] at hb hf
      dsimp only at hb hf
      obtain ⟨name, qual, params, body, scope, gl, cl, dV, kV, doc, pm, an, code, ct, blt⟩ := fd
      have hf := Option.some.inj hf
      simp only [Prod.mk.injEq] at hf
      obtain ⟨rfl, rfl, rfl, rfl, rfl, rfl, hcl, rfl⟩ := hf
      split at hb
      · rename_i nm cc TD cda hc hd hco
        dsimp only at hc hd hco hcl
        subst hc hd hco
        simp only [List.map_cons, List.map_nil, List.cons.injEq, Prod.mk.injEq, and_true] at hcl
        subst hcl
        rw [Bool.and_eq_true, Bool.and_eq_true, Bool.and_eq_true, Bool.and_eq_true] at hb
        obtain ⟨h1, h2, h3, h4, h5⟩ := hb
        split at h1
        · rename_i t1 t2 xs n t3 hT
          split at h1
          · rename_i itD hx
            split at h3
            · rename_i ccl cdd vs ccs hcd
              split at h3
              · rename_i file tf hv
                split at h4
                · rename_i c1 c2 D' c3 hcc
                  have hD : D' = D := beq_iff_eq.mp h4
                  subst hD
                  obtain ⟨cdD, hcl⟩ := Option.isSome_iff_exists.mp h5
                  have hxs : xs = #[itD] := by
                    obtain ⟨l⟩ := xs
                    simp only at hx
                    rw [hx]
                  subst hxs
                  exact ⟨cc, cda, TD, _, itD, n, oc, od, kV, doc, pm, an, ct, osl, p1, p2, p3, q1, q2, q3, q4, q5, q6, r1, r2, r3, r4, ccl, cdd, ccs, vs, file, tf, _, _, _, cdD, rfl, hT, rfl, h2, hcd, hv, h3, hl, hcc, hcl⟩
                · cases h4
              · cases h3
            · cases h3
          · cases h1
        · cases h1
      · cases hb
    | _ => rw [e] at hb; cases hb
def dueClsB (D C fI : Addr) (K : Frag) : Bool := (match K.lookup C with
  | some ⟨.type "type", _, .cls cd, sl⟩ => (match cd.mro, sl.toList with
    | .ref C' :: bm, [_, _, _, _, some (.builtin n), _] => C' == C && (n == "ValueError.__new__" && (!cd.hasDel && (cd.hasDict && refsVE bm)))
    | _, _ => false)
  | _ => false) && (decide (ks_superIn K C D "__init__" = some (some (.builtin "ValueError.__init__"))) && (decide (mroIn K C (.ref D) = some true) && (decide (subIn K (.ref C) (.type "ValueError") = some true) &&
  (He.eqO (findIn K (.ref C) "__setattr__") (some (some (.builtin "object.__setattr__"))) && (He.eqO (findIn K (.ref C) "given") (some none) && (He.eqO (findIn K (.ref C) "__init__") (some (some (.ref fI))) &&
  (decide (typeIn K (.ref fI) = some (.type "function")) && (keepIn K (.ref C) && (decide (subIn K (.ref C) (.type "BaseException") = some true) && decide (typeIn K (.ref C) = some (.type "type")))))))))))
theorem cls_ok {K : Frag} {D C fI : Addr} (h : dueClsB D C fI K = true) : ClsTxt K D C fI := by
  unfold dueClsB at h
  obtain ⟨h0, h⟩ := Bool.and_eq_true_iff.mp h
  obtain ⟨h1, h⟩ := Bool.and_eq_true_iff.mp h
  obtain ⟨h2, h⟩ := Bool.and_eq_true_iff.mp h
  obtain ⟨h3, h⟩ := Bool.and_eq_true_iff.mp h
  obtain ⟨h4, h⟩ := Bool.and_eq_true_iff.mp h
  obtain ⟨h5, h⟩ := Bool.and_eq_true_iff.mp h
  obtain ⟨h6, h⟩ := Bool.and_eq_true_iff.mp h
  obtain ⟨h7, h⟩ := Bool.and_eq_true_iff.mp h
  obtain ⟨h8, h⟩ := Bool.and_eq_true_iff.mp h
  obtain ⟨h9, h⟩ := Bool.and_eq_true_iff.mp h
  refine ⟨?_, of_decide_eq_true h1, of_decide_eq_true h2, of_decide_eq_true h3, He.eqO_ok h4, He.eqO_ok h5, He.eqO_ok h6, of_decide_eq_true h7, h8, of_decide_eq_true h9, of_decide_eq_true h⟩
  split at h0
  · rename_i dd cd sl ho
    split at h0
    · rename_i C' bm k0 k1 k2 k3 n k5 hm hs
      obtain ⟨g1, g⟩ := Bool.and_eq_true_iff.mp h0
      obtain ⟨g2, g⟩ := Bool.and_eq_true_iff.mp g
      obtain ⟨g3, g⟩ := Bool.and_eq_true_iff.mp g
      obtain ⟨g4, g5⟩ := Bool.and_eq_true_iff.mp g
      have g1 := beq_iff_eq.mp g1
      have g2 := beq_iff_eq.mp g2
      rw [Bool.not_eq_true'] at g3
      subst g1 g2
      obtain ⟨nm, bs, mro, ns, qn, hd, sn, sub, ab, col, del⟩ := cd
      dsimp only at hm g3 g4
      subst hm g3 g4
      have hsl : sl = #[k0, k1, k2, k3, some (.builtin "ValueError.__new__"), k5] := by
        obtain ⟨l⟩ := sl
        simp only at hs
        rw [hs]
      subst hsl
      exact ⟨nm, qn, ns, bs, bm, sn, sub, ab, col, dd, k0, k1, k2, k3, k5, ho, g5⟩
    · cases h0
  · cases h0
end DueE
end PySem
namespace Kx
open PySem PySem.Spec PyProof.Rows L2
def excXB (D : Addr) (K : PySem.W.Frag) : Bool := (PySem.W.clsIn K D).isSome && (He.eqO (PySem.W.findIn K (.ref D) "__getattribute__") (some (some (.builtin "BaseException.__getattribute__"))) && (He.eqO (PySem.W.findIn K (.ref D) "__getattr__") (some none) &&
  (decide (PySem.W.subIn K (.ref D) (.type "BaseException") = some true) && (He.eqO (PySem.W.findIn K (.ref D) "__class__") (some (some (.builtin "object.__class__"))) && (He.eqO (PySem.W.specialIn K (.builtin "object.__class__") "__get__") (some (some (.builtin "getset_descriptor.__get__"))) &&
  (decide (PySem.W.takesIn K (.builtin "object.__class__") = some true) && decide (PySem.W.mroIn K D (.type "object") = some true)))))))
theorem excX_ok {K : PySem.W.Frag} {D : Addr} (h : excXB D K = true) : ExcX K D := by
  unfold excXB at h
  obtain ⟨h0, h⟩ := Bool.and_eq_true_iff.mp h
  obtain ⟨h1, h⟩ := Bool.and_eq_true_iff.mp h
  obtain ⟨h2, h⟩ := Bool.and_eq_true_iff.mp h
  obtain ⟨h3, h⟩ := Bool.and_eq_true_iff.mp h
  obtain ⟨h4, h⟩ := Bool.and_eq_true_iff.mp h
  obtain ⟨h5, h⟩ := Bool.and_eq_true_iff.mp h
  obtain ⟨h6, h⟩ := Bool.and_eq_true_iff.mp h
  exact ⟨h0, He.eqO_ok h1, He.eqO_ok h2, of_decide_eq_true h3, He.eqO_ok h4, He.eqO_ok h5, of_decide_eq_true h6, of_decide_eq_true h⟩
/-- the package's errors of these names -/
def extB (ns : List Str) (base : Str) (K : PySem.W.Frag) : Bool := ns.all fun c => (ns.all fun c' => decide (PySem.W.exmOne K (.ref (He.ga K c)) (.ref (He.ga K c')) = some (c == c'))) && (xfB K (He.ga K c) && (He.eqO (PySem.W.findIn K (.ref (He.ga K c)) "given") (some none) &&
  (excXB (He.ga K c) K && decide (PySem.W.kitOne K (.ref (He.ga K c)) (.ref (He.ga K base)) = some true))))
theorem ext_ok {K : PySem.W.Frag} {ns : List Str} {base : Str} (h : extB ns base K = true) : ExT K ns base := by
  have h := List.all_eq_true.mp h
  refine ⟨fun c hc c' hc' => ?_, fun c hc => ?_, fun c hc => ?_, fun c hc => ?_, fun c hc => ?_⟩
  all_goals
    obtain ⟨h0, h1⟩ := Bool.and_eq_true_iff.mp (h c hc)
    obtain ⟨h1, h2⟩ := Bool.and_eq_true_iff.mp h1
    obtain ⟨h2, h3⟩ := Bool.and_eq_true_iff.mp h2
    obtain ⟨h3, h4⟩ := Bool.and_eq_true_iff.mp h3
  · exact of_decide_eq_true (List.all_eq_true.mp h0 c' hc')
  · exact xfB_ok h1
  · exact He.eqO_ok h2
  · exact excX_ok h3
  · exact of_decide_eq_true h4
/-! the Hook: tests, defs, function objects with a cell -/
abbrev Fx : Type := PySem.W.Frag → Bool
abbrev Pn : Type := Str × Option Str
def obsM (fs : List Fx) (fn : List He.DefD) (fc : List (Pn × He.FnW)) (K : PySem.W.Frag) : He.AlD := ((fs.all fun f => f K) && fn.all fun d => d.ok K, (fn.map fun d => He.fnW K d.at_) ++ fc.map fun p => PySem.DueE.fnC K p.1)
def valM (fn : List He.DefD) (fc : List (Pn × He.FnW)) : He.AlD := (true, fn.map He.DefD.val ++ fc.map (·.2))
def SaysM (fs : List Fx) (fn : List He.DefD) (fc : List (Pn × He.FnW)) (K : PySem.W.Frag) : Prop := obsM fs fn fc K = valM fn fc
def frM (g : Addr → Option Obj) (n : Nat) : PySem.W.Frag := He.frG g (cStatics :: He.asD g n)
def obsMG (n : Nat) (fs : List Fx) (fn : List He.DefD) (fc : List (Pn × He.FnW)) (g : Addr → Option Obj) : He.AlD := obsM fs fn fc (frM g n)
def hookM (n : Nat) (fs : List Fx) (fn : List He.DefD) (fc : List (Pn × He.FnW)) : PySem.W.Hook where
  α := He.AlD
  obs := fun s => obsMG n fs fn fc s.heap.get?
  val := fun _ => valM fn fc
  says := fun _ h => ∃ K : PySem.W.Frag, K.In h ∧ SaysM fs fn fc K
  of := fun _ _ e => ⟨_, He.frG_in, e⟩
  keeps := fun _ _ _ ⟨K, hK, c⟩ k => ⟨K, PySem.W.Frag.In.keeps hK k, c⟩
theorem obsMG_eq {n : Nat} {fs : List Fx} {fn : List He.DefD} {fc : List (Pn × He.FnW)} {g : Addr → Option Obj} {s : Shared} (h : ∀ a, g a = s.heap.get? a) : obsMG n fs fn fc g = (hookM n fs fn fc).obs s := by
  have e : g = s.heap.get? := funext h
  rw [e] <;> rfl
section
variable {fs : List Fx} {fn : List He.DefD} {fc : List (Pn × He.FnW)} {K : PySem.W.Frag}
theorem SaysM.fact (c : SaysM fs fn fc K) (i : Nat) {f : Fx} (h : fs[i]? = some f := by rfl) : f K = true := by
  have c1 := (Bool.and_eq_true_iff.mp (show ((fs.all fun f => f K) && fn.all fun d => d.ok K) = true from congrArg (fun z : He.AlD => z.1) c)).1
  exact List.all_eq_true.mp c1 f (List.mem_of_getElem? h)
theorem SaysM.lists (c : SaysM fs fn fc K) : (fn.map fun d => He.fnW K d.at_) = fn.map He.DefD.val ∧ (fc.map fun p => PySem.DueE.fnC K p.1) = fc.map (·.2) :=
  List.append_inj (congrArg (fun z : He.AlD => z.2) c) (by simp)
theorem map_at {α β : Type} {f g : α → β} : ∀ {l : List α}, l.map f = l.map g → ∀ {i : Nat} {x : α}, l[i]? = some x → f x = g x
  | _ :: _, e, 0, x, h => by
    cases h
    exact (List.cons.inj e).1
  | _ :: _, e, i + 1, x, h => map_at (List.cons.inj e).2 h
theorem SaysM.def_ (c : SaysM fs fn fc K) (i : Nat) {d : He.DefD} (h : fn[i]? = some d := by rfl) : ∃ fd, FunD K d.name d.qual d.params d.body d.scope (d.dvs K) (d.kws K) (He.fAd K d.at_) fd := by
  have c2 := (Bool.and_eq_true_iff.mp (show ((fs.all fun f => f K) && fn.all fun d => d.ok K) = true from congrArg (fun z : He.AlD => z.1) c)).2
  exact He.DefD.funD (map_at c.lists.1 h) (List.all_eq_true.mp c2 d (List.mem_of_getElem? h))
theorem SaysM.cell (c : SaysM fs fn fc K) (i : Nat) {p : Pn × He.FnW} (h : fc[i]? = some p := by rfl) : PySem.DueE.fnC K p.1 = p.2 := map_at c.lists.2 h
end
/-! a def behind its name -/
section
variable {P : Program} {w : World} {K : PySem.W.Frag} {mg : Str → Option Value} {base : Heap} {x qual : Str} {params : Arguments} {body : List Stmt} {scope : Scope} {kws : List (Str × V)} {f : Addr} {fd : FuncData} {k : Nat} {ps ks : List Str} {sp : Sp} {g : {α : Type} → List α → List α}
theorem FunD.bindsW (F : FunD K x qual params body scope [] kws f fd)
    (h : ∀ (kV doc pm : Value) (an : Option Addr) (cdv ct : Value) (ws : List Value), (g ws).length = ps.length → bindArgs (PySem.W.fnOf x qual params body scope .none kV doc pm an cdv ct) ⟨[], ks.zip ws⟩ = pure (ps.zip (g ws))) (s : Shared) (ws : List Value) (hl : (g ws).length = ps.length) : BindsTo s fd ⟨[], ks.zip ws⟩ (ps.zip (g ws)) := by
  obtain ⟨oc, od, dV, kV, doc, pm, an, cdv, ct, osl, rfl, lk, hcd, hD, hK⟩ := F.ex
  rcases hD with ⟨_, rfl⟩ | ⟨e, _⟩
  · exact .of_eq (h kV doc pm an cdv ct ws hl)
  · exact absurd rfl e
theorem Kn.of {y : Str} (F : FunD K x qual params body scope [] kws f fd) (ok : FnOk P w K mg base (L2.CX P w) k f fd ps sp) (hm : mg y = some (.ref f)) (b : Binds K fd ps []) : Kn P w K mg base k y ps sp := ⟨f, fd, ok, hm, F.kp, b⟩
theorem Kk.of {y : Str} (F : FunD K x qual params body scope [] kws f fd) (ok : FnOk P w K mg base (L2.CX P w) k f fd ps sp) (hm : mg y = some (.ref f))
    (h : ∀ (kV doc pm : Value) (an : Option Addr) (cdv ct : Value) (ws : List Value), (g ws).length = ps.length → bindArgs (PySem.W.fnOf x qual params body scope .none kV doc pm an cdv ct) ⟨[], ks.zip ws⟩ = pure (ps.zip (g ws)))
    (hg : ∀ {zs : List V} {ws : List Value}, Vals zs ws → Vals (g zs) (g ws)) : Kk P w K mg base k y ps ks g sp := ⟨f, fd, ok, hm, F.kp, fun s ws _ hl => FunD.bindsW F h s ws hl, hg⟩
end
/-- the law's end, where calls may let errors out -/
theorem walk_ofX {l : PySem.W.OpenLaw} {n k : Nat} {q : Program} {loose : List Str} {XP : (Str → Option Value) → Heap → Prop} {YP : World → Heap → Prop} {d : DefRec} {x : Str}
    (hn : l.most = some n) (hn2 : n ≤ sizeLine) (hdf : d.params.defaults = []) (hr : Room k callerA)
    (F : ∀ (w : World) (mg : Str → Option Value) (fa : Addr) (h : Heap), YP w h → h.Ns mainGlobals mg → mg d.name = some (.ref fa) →
      ∃ (K : PySem.W.Frag) (fd : FuncData) (sp : Sp), K.In h ∧ (∀ (s : Shared) (u : Value), BindsTo s fd ⟨[u], []⟩ [(x, u)]) ∧
        (∀ (H : Hp) (a : Addr) (ns : List Int), ns.length ≤ n → Only H → SqL K H a (ns.map V.int) → sp [.ref a] H (fun v _ => v = .bl true) fun _ _ _ => False) ∧
        ∀ base : Heap, K.In base → base.Ns mainGlobals mg → FnOk l.prog w K mg base (L2.CX l.prog w) k fa fd [x] sp) :
    PySem.W.WalkO q loose XP YP l.row.toRowW d [] (fun f vs => PySem.call f vs) := by
  refine Att.attach_call hn hdf fun w s₀ s₁ mg mb fa o pm cd doc a vs ns G Y ho hd hcd hmg hobj hints hlen hg => ?_
  obtain ⟨K, fd, sp, KX, hb, hsp, hF⟩ := F w mg fa _ Y G.T.g hmg
  exact law_call KX G.T.g G.T.b G.T.builtins G.T.nolimit hg hobj hints (Nat.le_trans hlen hn2) hr hF hb (fun H hO hS => hsp H a ns hlen hO hS) fun H e s' c => by
    obtain ⟨_, _, _, _, _, _, _, _, _, _, _, _, z⟩ := c
    exact z
end Kx
set_option linter.all false
set_option maxRecDepth 100000
namespace My
open PySem PySem.Spec PyProof.Rows L2 Kx
def sp_number_in_year (K : PySem.W.Frag) : Sp := fun vs H Q E => ∃ x T, vs = [x] ∧ Kd K H x T ∧ (∀ n, x = .int n → betw x 0 MOST = true → ∀ y H', yb y ≤ n → n < yb (y + 1) → Same H H' → Q (.int (n - yb y + 1)) H') ∧ (betw x 0 MOST = false → Er K E H "InvalidDay" x)
/-- the four places of a number among so many -/
def plc (d l : Int) : List V := [.int d, .int (d - l - 1), .int ((d - 1) / 7 + 1), .int (-((l - d) / 7) - 1)]
def sp_places_at (K : PySem.W.Frag) : Sp := fun vs H Q _ => ∃ d l, vs = [.int d, .int l] ∧ -1000000 < d ∧ d < 1000000 ∧ -1000000 < l ∧ l < 1000000 ∧ ∀ p H', Same H H' → H' p = some (.tup (plc d l)) → Q (.ref p) H'
def sp_places_in_month (K : PySem.W.Frag) : Sp := fun vs H Q E => ∃ x T, vs = [x] ∧ Kd K H x T ∧ (∀ n, x = .int n → betw x 0 MOST = true → ∀ y m d p H', IsD n y m d → Same H H' → H' p = some (.tup (plc d (mlen y m))) → Q (.ref p) H') ∧ (betw x 0 MOST = false → Er K E H "InvalidDay" x)
/-- the day some months later: none ahead of the first day of all -/
def inMon (y m d c : Int) : Option Int := if 12 * y + m - 1 + c < 24000 then none else
  some (mb ((12 * y + m - 1 + c) / 12) ((12 * y + m - 1 + c) % 12 + 1) + (if mlen ((12 * y + m - 1 + c) / 12) ((12 * y + m - 1 + c) % 12 + 1) < d then mlen ((12 * y + m - 1 + c) / 12) ((12 * y + m - 1 + c) % 12 + 1) else d) - 1)
/-- .. none beyond the last one either -/
def later (y m d c : Int) : Option Int := match inMon y m d c with
  | none => none
  | some r => if r ≤ MOST then some r else none
def oV : Option Int → V
  | none => .non
  | some r => .int r
def sp_day_in_months (K : PySem.W.Frag) : Sp := fun vs H Q _ => ∃ n c, vs = [.int n, .int c] ∧ 0 ≤ n ∧ n ≤ 1000000000000 ∧ -1000000 < c ∧ c < 1000000 ∧ ∀ y m d H', IsD n y m d → Same H H' → Q (oV (inMon y m d c)) H'
def sp_months_later (K : PySem.W.Frag) : Sp := fun vs H Q E => ∃ x T z U, vs = [x, z] ∧ Kd K H x T ∧ Kd K H z U ∧
  (∀ n c, x = .int n → z = .int c → betw x 0 MOST = true → betw z (-100000) 100000 = true → ∀ y m d, IsD n y m d → (∀ r H', later y m d c = some r → Same H H' → Q (.int r) H') ∧ (∀ H', later y m d c = none → Same H H' → Er K E H' "InvalidCount" z)) ∧
  (betw x 0 MOST = false → Er K E H "InvalidDay" x) ∧ (betw x 0 MOST = true → betw z (-100000) 100000 = false → Er K E H "InvalidCount" z)
def sp__law_ask (K : PySem.W.Frag) : Sp := fun vs H Q _ => ∃ (w : Str) (x z : V) (nm : Bool), vs = [.str w, x, z, .bl nm] ∧
 ((w = "year" ∧ ∃ T, Kd K H x T ∧ (∀ n, x = .int n → betw x 0 MOST = true → ∀ y, yb y ≤ n → n < yb (y + 1) → Ans H Q [.str "told", .int (n - yb y + 1)]) ∧ (betw x 0 MOST = false → Ans H Q [.str "day", x, .bl true])) ∨
  (w = "month" ∧ ∃ T, Kd K H x T ∧ (∀ n, x = .int n → betw x 0 MOST = true → ∀ y m d p l H', IsD n y m d → Same H H' → H' p = some (.tup (plc d (mlen y m))) → H' l = some (.lst [.str "told", .ref p]) → Q (.ref l) H') ∧ (betw x 0 MOST = false → Ans H Q [.str "day", x, .bl true])) ∨
  (w = "later" ∧ ∃ T U, Kd K H x T ∧ Kd K H z U ∧ (∀ n c, x = .int n → z = .int c → betw x 0 MOST = true → betw z (-100000) 100000 = true → ∀ y m d, IsD n y m d →
      (∀ r, later y m d c = some r → Ans H Q [.str "told", .int r]) ∧ (later y m d c = none → Ans H Q [.str "count", z, .bl true])) ∧
    (betw x 0 MOST = false → Ans H Q [.str "day", x, .bl true]) ∧ (betw x 0 MOST = true → betw z (-100000) 100000 = false → Ans H Q [.str "count", z, .bl true])))
def sp__law_day_of (K : PySem.W.Frag) : Sp := fun vs H Q _ => ∃ a y m d, vs = [.ref a] ∧ SqT K H a [.int y, .int m, .int d] ∧ 2000 ≤ y ∧ y < 10000000000000 ∧ 1 ≤ m ∧ m ≤ 12 ∧ ∀ H', Same H H' → Q (.int (mb y m + d - 1)) H'
def sp__law_in_months (K : PySem.W.Frag) : Sp := fun vs H Q _ => ∃ a y m d c, vs = [.ref a, .int c] ∧ SqT K H a [.int y, .int m, .int d] ∧ 2000 ≤ y ∧ y < 1000000000000 ∧ 1 ≤ m ∧ m ≤ 12 ∧ -1000000 < c ∧ c < 1000000 ∧ ∀ H', Same H H' → Q (oV (later y m d c)) H'
def sp__law_day (K : PySem.W.Frag) : Sp := fun vs H Q _ => ∃ b c, vs = [.ref b] ∧ BoxAt H b c ∧ c < 800000000 ∧ ∀ n H', 0 ≤ n → n ≤ 1000000000000 → Ks H H' → BoxAt H' b (c + 12) → Q (.int n) H'
def sp__law_told (K : PySem.W.Frag) : Sp := fun vs H Q _ => ∃ w x z due d nm, vs = [.str w, x, z, due, .bl nm] ∧ okD 8 d ∧ Dp K H due d ∧
  (∀ H1 b, Same H H1 → ∀ Q' : VK, (∀ v l H', Same H1 H' → Dp K H' v d → H' l = some (.lst [.str "told", v]) → Q' (.ref l) H') → sp__law_ask K [.str w, x, z, .bl b] H1 Q' E00) ∧ ∀ H', Same H H' → Q (.bl true) H'
def sp__law_places_right (K : PySem.W.Frag) : Sp := fun vs H Q _ => ∃ n nm, vs = [.int n, .bl nm] ∧ 0 ≤ n ∧ n ≤ 1000000000000 ∧ ∀ H', Same H H' → Q (.bl true) H'
def sp__law_months_right (K : PySem.W.Frag) : Sp := fun vs H Q _ => ∃ b c n nm, vs = [.ref b, .int n, .bl nm] ∧ BoxAt H b c ∧ c < 800000000 ∧ 0 ≤ n ∧ n ≤ 1000000000000 ∧ ∀ H', Ks H H' → BoxAt H' b (c + 20) → Q (.bl true) H'
def sp__law_refused (K : PySem.W.Frag) : Sp := fun vs H Q _ => ∃ b c n nm, vs = [.ref b, .int n, .bl nm] ∧ BoxAt H b c ∧ c < 800000000 ∧ 0 ≤ n ∧ n ≤ 1000000000000 ∧ ∀ H', Ks H H' → Q (.bl true) H'
def sp_law (K : PySem.W.Frag) : Sp := fun vs H Q _ => ∃ (a : Addr) (ns : List Int), vs = [.ref a] ∧ SqL K H a (ns.map V.int) ∧ ns.length ≤ 63 ∧ ∀ H', Q (.bl true) H'
end My
set_option Elab.async false
set_option linter.all false
set_option maxRecDepth 100000
set_option maxHeartbeats 4000000
namespace My
open PySem PySem.Spec PyProof.Rows L2 Kx
def top (i : Nat) : Stmt := PySem.Challenge.pw_dueagain_k03_places_in_years_and_months.main.body.getD i (.Pass ⟨0, 0, 0, 0⟩)
structure Tx (P : Program) (K : PySem.W.Frag) (mg : Str → Option Value) : Prop where
  n_abs : mg "abs" = none
  n_bool : mg "bool" = none
  n_dict : mg "dict" = none
  n_int : mg "int" = none
  n_isinstance : mg "isinstance" = none
  n_len : mg "len" = none
  n_list : mg "list" = none
  n_max : mg "max" = none
  n_min : mg "min" = none
  n_range : mg "range" = none
  n_str : mg "str" = none
  n_sum : mg "sum" = none
  n_super : mg "super" = none
  n_tuple : mg "tuple" = none
  c_FEBRUARY : ∃ u, mg "FEBRUARY" = some u ∧ RelV (.int 2) u
  c_FIRST_YEAR : ∃ u, mg "FIRST_YEAR" = some u ∧ RelV (.int 2000) u
  r_LENGTHS : ∃ u, mg "LENGTHS" = some u ∧ RelV (.ref (He.ga K "LENGTHS")) u
  c_LONG_DAYS : ∃ u, mg "LONG_DAYS" = some u ∧ RelV (.int 146097) u
  c_LONG_YEARS : ∃ u, mg "LONG_YEARS" = some u ∧ RelV (.int 400) u
  c_MOST_DAY : ∃ u, mg "MOST_DAY" = some u ∧ RelV (.int 1000000000000) u
  c_MOST_MONTHS : ∃ u, mg "MOST_MONTHS" = some u ∧ RelV (.int 100000) u
  r_DueError : ∃ u, mg "DueError" = some u ∧ RelV (.ref (He.ga K "DueError")) u
  g_DueError : mg "DueError" = some (.ref (He.ga K "DueError"))
  x_DueError : PySem.DueE.ClsTxt K (He.ga K "DueError") (He.ga K "DueError") (He.ma K (He.ga K "DueError") "__init__")
  r_InvalidCount : ∃ u, mg "InvalidCount" = some u ∧ RelV (.ref (He.ga K "InvalidCount")) u
  g_InvalidCount : mg "InvalidCount" = some (.ref (He.ga K "InvalidCount"))
  x_InvalidCount : PySem.DueE.ClsTxt K (He.ga K "DueError") (He.ga K "InvalidCount") (He.ma K (He.ga K "DueError") "__init__")
  r_InvalidDay : ∃ u, mg "InvalidDay" = some u ∧ RelV (.ref (He.ga K "InvalidDay")) u
  g_InvalidDay : mg "InvalidDay" = some (.ref (He.ga K "InvalidDay"))
  x_InvalidDay : PySem.DueE.ClsTxt K (He.ga K "DueError") (He.ga K "InvalidDay") (He.ma K (He.ga K "DueError") "__init__")
  due : PySem.DueE.InitTxt P K (He.ga K "DueError") (He.ma K (He.ga K "DueError") "__init__")
theorem Tx.nm_DueError {X : Cx} (T : Tx X.prog X.K X.mg) (hg : Gl X "DueError" := by rfl) : Names X "DueError" (.ref (He.ga X.K "DueError")) := ⟨hg, by decide, .inl T.g_DueError⟩
theorem Tx.nm_InvalidCount {X : Cx} (T : Tx X.prog X.K X.mg) (hg : Gl X "InvalidCount" := by rfl) : Names X "InvalidCount" (.ref (He.ga X.K "InvalidCount")) := ⟨hg, by decide, .inl T.g_InvalidCount⟩
theorem Tx.nm_InvalidDay {X : Cx} (T : Tx X.prog X.K X.mg) (hg : Gl X "InvalidDay" := by rfl) : Names X "InvalidDay" (.ref (He.ga X.K "InvalidDay")) := ⟨hg, by decide, .inl T.g_InvalidDay⟩
def g_months_later_count_day : {α : Type} → List α → List α := fun l => match l with
  | [x0, x1] => [x1, x0]
  | _ => []
def g_number_in_year_day : {α : Type} → List α → List α := fun l => match l with
  | [x0] => [x0]
  | _ => []
def g_places_in_month_day : {α : Type} → List α → List α := fun l => match l with
  | [x0] => [x0]
  | _ => []
/-! is_whole: 0 value -/
abbrev s_is_whole : Stmt := top 6
abbrev N_is_whole : List Str := ["value"]
theorem sc_is_whole : FnScope ["value"] ["value"] (defScope s_is_whole) := ⟨rfl, rfl, rfl, by decide +kernel, rfl, by decide +kernel, by decide +kernel⟩
abbrev t_is_whole (K : PySem.W.Frag) (E : XK) : TS :=
  tRet (tAndV (tCB (uIsi K) (tCons (tVar 0) (tCons (tC (.ty "int")) tNil))) (tNotV (tCB (uIsi K) (tCons (tVar 0) (tCons (tC (.ty "bool")) tNil)))))
theorem d_is_whole {P : Program} {w : World} {K : PySem.W.Frag} {mg : Str → Option Value} {base : Heap} (T : Tx P K mg) 
    {f : Addr} {cdv : Value} {A : Around} {outer : List Env} {s : Shared} {H : Hp} {E : XK} (hr : Room 2 (A.deeper (envOfC "is_whole" (defScope s_is_whole) s.heap.objs.size f cdv))) :
    PSs (cxOf (L2.CX P w) P w K mg base ["value"] "is_whole" (defScope s_is_whole) f cdv A outer s H E) (defBody s_is_whole) (t_is_whole K E) := by
  have nd := sc_is_whole.nd
  have hu0 := hu0_of hr
  have hu1 := hu_of hr
  have hu64 := hu64_of hr
  have hu65 := hu65_of hr
  exact pss_one (ps_ret (pe_and (pe_callB c_isi (by rfl) T.n_isinstance (by decide +kernel) (pa_cons (pv 0) (pa_cons (pe_ty (by rfl) T.n_int (by decide +kernel)) pa_nil))) (pe_one (pe_not (pe_callB c_isi (by rfl) T.n_isinstance (by decide +kernel) (pa_cons (pv 0) (pa_cons (pe_ty (by rfl) T.n_bool (by decide +kernel)) pa_nil)))))))
/-! is_between: 0 value, 1 least, 2 most -/
abbrev s_is_between : Stmt := top 7
abbrev N_is_between : List Str := ["value", "least", "most"]
theorem sc_is_between : FnScope ["value", "least", "most"] ["value", "least", "most"] (defScope s_is_between) := ⟨rfl, rfl, rfl, by decide +kernel, rfl, by decide +kernel, by decide +kernel⟩
abbrev t_is_between (K : PySem.W.Frag) (E : XK) : TS :=
  tRet (tAndV (tKn (sp_is_whole K) (tCons (tVar 0) tNil)) (tChain uLe uLe (tVar 1) (tVar 0) (tVar 2)))
theorem d_is_between {P : Program} {w : World} {K : PySem.W.Frag} {mg : Str → Option Value} {base : Heap} (T : Tx P K mg) (c_is_whole : Kn P w K mg base 3 "is_whole" ["value"] (sp_is_whole K))
    {f : Addr} {cdv : Value} {A : Around} {outer : List Env} {s : Shared} {H : Hp} {E : XK} (hr : Room 3 (A.deeper (envOfC "is_between" (defScope s_is_between) s.heap.objs.size f cdv))) :
    PSs (cxOf (L2.CX P w) P w K mg base ["value", "least", "most"] "is_between" (defScope s_is_between) f cdv A outer s H E) (defBody s_is_between) (t_is_between K E) := by
  have nd := sc_is_between.nd
  have hu0 := hu0_of hr
  have hu1 := hu_of hr
  have hu64 := hu64_of hr
  have hu65 := hu65_of hr
  exact pss_one (ps_ret (pe_and (pe_kn c_is_whole hr (by decide) (by rfl) (pa_cons (pv 0) pa_nil)) (pe_one (pe_chain u_le u_le (pv 1) (pv 0) (pv 2)))))
/-! is_day: 0 value -/
abbrev s_is_day : Stmt := top 8
abbrev N_is_day : List Str := ["value"]
theorem sc_is_day : FnScope ["value"] ["value"] (defScope s_is_day) := ⟨rfl, rfl, rfl, by decide +kernel, rfl, by decide +kernel, by decide +kernel⟩
abbrev t_is_day (K : PySem.W.Frag) (E : XK) : TS :=
  tRet (tKn (sp_is_between K) (tCons (tVar 0) (tCons (tC (.int 0)) (tCons (tC (.int 1000000000000)) tNil))))
theorem d_is_day {P : Program} {w : World} {K : PySem.W.Frag} {mg : Str → Option Value} {base : Heap} (T : Tx P K mg) (c_is_between : Kn P w K mg base 4 "is_between" ["value", "least", "most"] (sp_is_between K))
    {f : Addr} {cdv : Value} {A : Around} {outer : List Env} {s : Shared} {H : Hp} {E : XK} (hr : Room 4 (A.deeper (envOfC "is_day" (defScope s_is_day) s.heap.objs.size f cdv))) :
    PSs (cxOf (L2.CX P w) P w K mg base ["value"] "is_day" (defScope s_is_day) f cdv A outer s H E) (defBody s_is_day) (t_is_day K E) := by
  have nd := sc_is_day.nd
  have hu0 := hu0_of hr
  have hu1 := hu_of hr
  have hu64 := hu64_of hr
  have hu65 := hu65_of hr
  exact pss_one (ps_ret (pe_kn c_is_between hr (by decide) (by rfl) (pa_cons (pv 0) (pa_cons pe_int (pa_cons (pe_cst (by rfl) T.c_MOST_DAY) pa_nil)))))
/-! is_leap_year: 0 year -/
abbrev s_is_leap_year : Stmt := top 15
abbrev N_is_leap_year : List Str := ["year"]
theorem sc_is_leap_year : FnScope ["year"] ["year"] (defScope s_is_leap_year) := ⟨rfl, rfl, rfl, by decide +kernel, rfl, by decide +kernel, by decide +kernel⟩
abbrev t_is_leap_year (K : PySem.W.Frag) (E : XK) : TS :=
  tRet (tAndV (tOp (uEq K) (tOp uMod (tVar 0) (tC (.int 4))) (tC (.int 0))) (tOrV (tOp (uNe K) (tOp uMod (tVar 0) (tC (.int 100))) (tC (.int 0))) (tOp (uEq K) (tOp uMod (tVar 0) (tC (.int 400))) (tC (.int 0)))))
theorem d_is_leap_year {P : Program} {w : World} {K : PySem.W.Frag} {mg : Str → Option Value} {base : Heap} (T : Tx P K mg) 
    {f : Addr} {cdv : Value} {A : Around} {outer : List Env} {s : Shared} {H : Hp} {E : XK} (hr : Room 2 (A.deeper (envOfC "is_leap_year" (defScope s_is_leap_year) s.heap.objs.size f cdv))) :
    PSs (cxOf (L2.CX P w) P w K mg base ["year"] "is_leap_year" (defScope s_is_leap_year) f cdv A outer s H E) (defBody s_is_leap_year) (t_is_leap_year K E) := by
  have nd := sc_is_leap_year.nd
  have hu0 := hu0_of hr
  have hu1 := hu_of hr
  have hu64 := hu64_of hr
  have hu65 := hu65_of hr
  exact pss_one (ps_ret (pe_and (pe_cmpR (u_eq hu64) (pe_op u_mod (pv 0) pe_int) pe_int (nomark _)) (pe_one (pe_or (pe_cmpR (u_ne hu64) (pe_op u_mod (pv 0) pe_int) pe_int (nomark _)) (pe_one (pe_cmpR (u_eq hu64) (pe_op u_mod (pv 0) (pe_cst (by rfl) T.c_LONG_YEARS)) pe_int (nomark _)))))))
/-! length_of: 0 year, 1 month -/
abbrev s_length_of : Stmt := top 16
abbrev N_length_of : List Str := ["year", "month"]
theorem sc_length_of : FnScope ["year", "month"] ["year", "month"] (defScope s_length_of) := ⟨rfl, rfl, rfl, by decide +kernel, rfl, by decide +kernel, by decide +kernel⟩
abbrev t_length_of (K : PySem.W.Frag) (E : XK) : TS :=
  tRet (tOp (uAdd K) (tOp (rIx K) (tC (.ref (He.ga K "LENGTHS"))) (tOp uSub (tVar 1) (tC (.int 1)))) (tCB uInt (tCons (tAndV (tOp (uEq K) (tVar 1) (tC (.int 2))) (tKn (sp_is_leap_year K) (tCons (tVar 0) tNil))) tNil)))
theorem d_length_of {P : Program} {w : World} {K : PySem.W.Frag} {mg : Str → Option Value} {base : Heap} (T : Tx P K mg) (c_is_leap_year : Kn P w K mg base 3 "is_leap_year" ["year"] (sp_is_leap_year K))
    {f : Addr} {cdv : Value} {A : Around} {outer : List Env} {s : Shared} {H : Hp} {E : XK} (hr : Room 3 (A.deeper (envOfC "length_of" (defScope s_length_of) s.heap.objs.size f cdv))) :
    PSs (cxOf (L2.CX P w) P w K mg base ["year", "month"] "length_of" (defScope s_length_of) f cdv A outer s H E) (defBody s_length_of) (t_length_of K E) := by
  have nd := sc_length_of.nd
  have hu0 := hu0_of hr
  have hu1 := hu_of hr
  have hu64 := hu64_of hr
  have hu65 := hu65_of hr
  exact pss_one (ps_ret (pe_op u_add (pe_ix ix_seq (pe_cst (by rfl) T.r_LENGTHS) (pe_op u_sub (pv 1) pe_int) (fun _ _ => rfl)) (pe_callTy c_int (by rfl) T.n_int (by decide +kernel) (pa_cons (pe_and (pe_cmpR (u_eq hu64) (pv 1) (pe_cst (by rfl) T.c_FEBRUARY) (nomark _)) (pe_one (pe_kn c_is_leap_year hr (by decide) (by rfl) (pa_cons (pv 0) pa_nil)))) pa_nil))))
/-! check_day: 0 day -/
abbrev s_check_day : Stmt := top 17
abbrev N_check_day : List Str := ["day"]
theorem sc_check_day : FnScope ["day"] ["day"] (defScope s_check_day) := ⟨rfl, rfl, rfl, by decide +kernel, rfl, by decide +kernel, by decide +kernel⟩
abbrev t_check_day (K : PySem.W.Frag) (E : XK) : TS :=
  tIfS (tNot (tTr K (tKn (sp_is_day K) (tCons (tVar 0) tNil)))) (tRaiseDue (He.ga K "InvalidDay") (W0 E) (tCons (tVar 0) tNil)) tNext
theorem d_check_day {P : Program} {w : World} {K : PySem.W.Frag} {mg : Str → Option Value} {base : Heap} (T : Tx P K mg) (c_is_day : Kn P w K mg base 5 "is_day" ["value"] (sp_is_day K))
    {f : Addr} {cdv : Value} {A : Around} {outer : List Env} {s : Shared} {H : Hp} {E : XK} (hr : Room 5 (A.deeper (envOfC "check_day" (defScope s_check_day) s.heap.objs.size f cdv))) :
    PSs (cxOf (L2.CX P w) P w K mg base ["day"] "check_day" (defScope s_check_day) f cdv A outer s H E) (defBody s_check_day) (t_check_day K E) := by
  have nd := sc_check_day.nd
  have hu0 := hu0_of hr
  have hu1 := hu_of hr
  have hu64 := hu64_of hr
  have hu65 := hu65_of hr
  exact pss_one (ps_if (pt_not (pt_tr (pe_kn c_is_day hr (by decide) (by rfl) (pa_cons (pv 0) pa_nil)) (by intro _; rfl))) (pss_one (ps_raiseDue rfl T.due T.x_InvalidDay hr T.g_InvalidDay T.n_super (takes_of rfl rfl rfl rfl) (pa_cons (pv 0) pa_nil))) pss_nil)
/-! year_begin: 0 year, 1 past -/
abbrev s_year_begin : Stmt := top 18
abbrev N_year_begin : List Str := ["year", "past"]
theorem sc_year_begin : FnScope ["year", "past"] ["year"] (defScope s_year_begin) := ⟨rfl, rfl, rfl, by decide +kernel, rfl, by decide +kernel, by decide +kernel⟩
abbrev t_year_begin (K : PySem.W.Frag) (E : XK) : TS :=
  tSeq (tAsg (tOp uSub (tVar 0) (tC (.int 2000))) (gName 1))
    (tRet (tOp (uAdd K) (tOp uSub (tOp (uAdd K) (tOp uMul (tC (.int 365)) (tVar 1)) (tOp uFdv (tOp (uAdd K) (tVar 1) (tC (.int 3))) (tC (.int 4)))) (tOp uFdv (tOp (uAdd K) (tVar 1) (tC (.int 99))) (tC (.int 100)))) (tOp uFdv (tOp (uAdd K) (tVar 1) (tC (.int 399))) (tC (.int 400)))))
theorem d_year_begin {P : Program} {w : World} {K : PySem.W.Frag} {mg : Str → Option Value} {base : Heap} (T : Tx P K mg) 
    {f : Addr} {cdv : Value} {A : Around} {outer : List Env} {s : Shared} {H : Hp} {E : XK} (hr : Room 2 (A.deeper (envOfC "year_begin" (defScope s_year_begin) s.heap.objs.size f cdv))) :
    PSs (cxOf (L2.CX P w) P w K mg base ["year", "past"] "year_begin" (defScope s_year_begin) f cdv A outer s H E) (defBody s_year_begin) (t_year_begin K E) := by
  have nd := sc_year_begin.nd
  have hu0 := hu0_of hr
  have hu1 := hu_of hr
  have hu64 := hu64_of hr
  have hu65 := hu65_of hr
  exact pss_cons (ps_asg (pe_op u_sub (pv 0) (pe_cst (by rfl) T.c_FIRST_YEAR)) (pg_name (i := 1) nd rfl (Or.inl rfl)))
      (pss_one (ps_ret (pe_op u_add (pe_op u_sub (pe_op u_add (pe_op u_mul pe_int (pv 1)) (pe_op u_fdv (pe_op u_add (pv 1) pe_int) pe_int)) (pe_op u_fdv (pe_op u_add (pv 1) pe_int) pe_int)) (pe_op u_fdv (pe_op u_add (pv 1) pe_int) (pe_cst (by rfl) T.c_LONG_YEARS)))))
/-! month_begin: 0 year, 1 month, 2 ahead -/
abbrev s_month_begin : Stmt := top 19
abbrev N_month_begin : List Str := ["year", "month", "ahead"]
theorem sc_month_begin : FnScope ["year", "month", "ahead"] ["year", "month"] (defScope s_month_begin) := ⟨rfl, rfl, rfl, by decide +kernel, rfl, by decide +kernel, by decide +kernel⟩
abbrev t_month_begin (K : PySem.W.Frag) (E : XK) : TS :=
  tRet (tOp (uAdd K) (tKn (sp_year_begin K) (tCons (tVar 0) tNil)) (tCB (uSum K) (tCons (tLc (iRng2 (tCons (tC (.int 1)) (tCons (tVar 1) tNil))) (gName 2) tYes (tKn (sp_length_of K) (tCons (tVar 0) (tCons (tVar 2) tNil))) [2]) tNil)))
theorem d_month_begin {P : Program} {w : World} {K : PySem.W.Frag} {mg : Str → Option Value} {base : Heap} (T : Tx P K mg) (c_length_of : Kn P w K mg base 4 "length_of" ["year", "month"] (sp_length_of K))
    (c_year_begin : Kn P w K mg base 3 "year_begin" ["year"] (sp_year_begin K))
    {f : Addr} {cdv : Value} {A : Around} {outer : List Env} {s : Shared} {H : Hp} {E : XK} (hr : Room 4 (A.deeper (envOfC "month_begin" (defScope s_month_begin) s.heap.objs.size f cdv))) :
    PSs (cxOf (L2.CX P w) P w K mg base ["year", "month", "ahead"] "month_begin" (defScope s_month_begin) f cdv A outer s H E) (defBody s_month_begin) (t_month_begin K E) := by
  have nd := sc_month_begin.nd
  have hu0 := hu0_of hr
  have hu1 := hu_of hr
  have hu64 := hu64_of hr
  have hu65 := hu65_of hr
  exact pss_one (ps_ret (pe_op u_add (pe_kn c_year_begin hr (by decide) (by rfl) (pa_cons (pv 0) pa_nil)) (pe_callB (c_sum rfl) (by rfl) T.n_sum (by decide +kernel) (pa_cons (pe_lc (own := [("ahead", 2)]) rfl nd (pi_range2 (by rfl) T.n_range (pa_cons pe_int (pa_cons (pv 1) pa_nil))) (blkOk_by (N := ["year", "month", "ahead"]) (sc := defScope s_month_begin) (own := [("ahead", 2)]) (by decide +kernel)) (fun _ _ _ _ _ => pg_name (i := 2) nd rfl (Or.inl rfl)) (fun _ _ _ _ _ => pts_nil) (fun _ _ _ _ _ => pe_kn c_length_of hr (by decide) (by rfl) (pa_cons (pv 0) (pa_cons (pv 2) pa_nil)))) pa_nil))))
/-! year_of: 0 day, 1 year -/
abbrev s_year_of : Stmt := top 20
abbrev N_year_of : List Str := ["day", "year"]
theorem sc_year_of : FnScope ["day", "year"] ["day"] (defScope s_year_of) := ⟨rfl, rfl, rfl, by decide +kernel, rfl, by decide +kernel, by decide +kernel⟩
abbrev t_year_of (K : PySem.W.Frag) (E : XK) : TS :=
  tSeq (tAsg (tOp (uAdd K) (tOp (uAdd K) (tC (.int 2000)) (tOp uMul (tOp uFdv (tVar 0) (tC (.int 146097))) (tC (.int 400)))) (tOp uFdv (tOp uMod (tVar 0) (tC (.int 146097))) (tC (.int 366)))) (gName 1))
    (tSeq (tWhile (tTest (tOp uLe (tKn (sp_year_begin K) (tCons (tOp (uAdd K) (tVar 1) (tC (.int 1))) tNil)) (tVar 0))) (tAug 1 (tC (.int 1)) tpAdd))
    (tRet (tVar 1)))
theorem d_year_of {P : Program} {w : World} {K : PySem.W.Frag} {mg : Str → Option Value} {base : Heap} (T : Tx P K mg) (c_year_begin : Kn P w K mg base 3 "year_begin" ["year"] (sp_year_begin K))
    {f : Addr} {cdv : Value} {A : Around} {outer : List Env} {s : Shared} {H : Hp} {E : XK} (hr : Room 3 (A.deeper (envOfC "year_of" (defScope s_year_of) s.heap.objs.size f cdv))) :
    PSs (cxOf (L2.CX P w) P w K mg base ["day", "year"] "year_of" (defScope s_year_of) f cdv A outer s H E) (defBody s_year_of) (t_year_of K E) := by
  have nd := sc_year_of.nd
  have hu0 := hu0_of hr
  have hu1 := hu_of hr
  have hu64 := hu64_of hr
  have hu65 := hu65_of hr
  exact pss_cons (ps_asg (pe_op u_add (pe_op u_add (pe_cst (by rfl) T.c_FIRST_YEAR) (pe_op u_mul (pe_op u_fdv (pv 0) (pe_cst (by rfl) T.c_LONG_DAYS)) (pe_cst (by rfl) T.c_LONG_YEARS))) (pe_op u_fdv (pe_op u_mod (pv 0) (pe_cst (by rfl) T.c_LONG_DAYS)) pe_int)) (pg_name (i := 1) nd rfl (Or.inl rfl)))
      (pss_cons (ps_while (passes_of rfl) (pt_cmpR u_le (pe_kn c_year_begin hr (by decide) (by rfl) (pa_cons (pe_op u_add (pv 1) pe_int) pa_nil)) (pv 0) (nomark _)) (pss_one (ps_aug (i := 1) nd rfl (Or.inl rfl) pe_int ip_add)))
      (pss_one (ps_ret (pv 1))))
/-! date_at: 0 day, 1 year, 2 month, 3 left -/
abbrev s_date_at : Stmt := top 21
abbrev N_date_at : List Str := ["day", "year", "month", "left"]
theorem sc_date_at : FnScope ["day", "year", "month", "left"] ["day"] (defScope s_date_at) := ⟨rfl, rfl, rfl, by decide +kernel, rfl, by decide +kernel, by decide +kernel⟩
abbrev t_date_at (K : PySem.W.Frag) (E : XK) : TS :=
  tSeq (tPar 1 2 (tCons (tKn (sp_year_of K) (tCons (tVar 0) tNil)) (tCons (tC (.int 1)) tNil)))
    (tSeq (tAsg (tOp uSub (tVar 0) (tKn (sp_year_begin K) (tCons (tVar 1) tNil))) (gName 3))
    (tSeq (tWhile (tTest (tOp uGe (tVar 3) (tKn (sp_length_of K) (tCons (tVar 1) (tCons (tVar 2) tNil))))) (tSeq (tAug 3 (tKn (sp_length_of K) (tCons (tVar 1) (tCons (tVar 2) tNil))) tpSub)
    (tAug 2 (tC (.int 1)) tpAdd)))
    (tRet (tTup (tCons (tVar 1) (tCons (tVar 2) (tCons (tOp (uAdd K) (tVar 3) (tC (.int 1))) tNil)))))))
theorem d_date_at {P : Program} {w : World} {K : PySem.W.Frag} {mg : Str → Option Value} {base : Heap} (T : Tx P K mg) (c_length_of : Kn P w K mg base 4 "length_of" ["year", "month"] (sp_length_of K))
    (c_year_begin : Kn P w K mg base 3 "year_begin" ["year"] (sp_year_begin K))
    (c_year_of : Kn P w K mg base 4 "year_of" ["day"] (sp_year_of K))
    {f : Addr} {cdv : Value} {A : Around} {outer : List Env} {s : Shared} {H : Hp} {E : XK} (hr : Room 4 (A.deeper (envOfC "date_at" (defScope s_date_at) s.heap.objs.size f cdv))) :
    PSs (cxOf (L2.CX P w) P w K mg base ["day", "year", "month", "left"] "date_at" (defScope s_date_at) f cdv A outer s H E) (defBody s_date_at) (t_date_at K E) := by
  have nd := sc_date_at.nd
  have hu0 := hu0_of hr
  have hu1 := hu_of hr
  have hu64 := hu64_of hr
  have hu65 := hu65_of hr
  exact pss_cons (ps_par rfl nd rfl rfl (by decide) rfl rfl (pa_cons (pe_kn c_year_of hr (by decide) (by rfl) (pa_cons (pv 0) pa_nil)) (pa_cons pe_int pa_nil)) (by rfl))
      (pss_cons (ps_asg (pe_op u_sub (pv 0) (pe_kn c_year_begin hr (by decide) (by rfl) (pa_cons (pv 1) pa_nil))) (pg_name (i := 3) nd rfl (Or.inl rfl)))
      (pss_cons (ps_while (passes_of rfl) (pt_cmpR u_ge (pv 3) (pe_kn c_length_of hr (by decide) (by rfl) (pa_cons (pv 1) (pa_cons (pv 2) pa_nil))) (nomark _)) (pss_cons (ps_aug (i := 3) nd rfl (Or.inl rfl) (pe_kn c_length_of hr (by decide) (by rfl) (pa_cons (pv 1) (pa_cons (pv 2) pa_nil))) ip_sub)
      (pss_one (ps_aug (i := 2) nd rfl (Or.inl rfl) pe_int ip_add))))
      (pss_one (ps_ret (pe_tup (pa_cons (pv 1) (pa_cons (pv 2) (pa_cons (pe_op u_add (pv 3) pe_int) pa_nil))))))))
/-! number_in_year: 0 day -/
abbrev s_number_in_year : Stmt := top 24
abbrev N_number_in_year : List Str := ["day"]
theorem sc_number_in_year : FnScope ["day"] ["day"] (defScope s_number_in_year) := ⟨rfl, rfl, rfl, by decide +kernel, rfl, by decide +kernel, by decide +kernel⟩
abbrev t_number_in_year (K : PySem.W.Frag) (E : XK) : TS :=
  tSeq (tDrop (tKx (sp_check_day K) (W0 E) (tCons (tVar 0) tNil)))
    (tRet (tOp (uAdd K) (tOp uSub (tVar 0) (tKn (sp_year_begin K) (tCons (tOp (rIx K) (tKn (sp_date_at K) (tCons (tVar 0) tNil)) (tC (.int 0))) tNil))) (tC (.int 1))))
theorem d_number_in_year {P : Program} {w : World} {K : PySem.W.Frag} {mg : Str → Option Value} {base : Heap} (T : Tx P K mg) (c_check_day : Kn P w K mg base 6 "check_day" ["day"] (sp_check_day K))
    (c_date_at : Kn P w K mg base 5 "date_at" ["day"] (sp_date_at K))
    (c_year_begin : Kn P w K mg base 3 "year_begin" ["year"] (sp_year_begin K))
    {f : Addr} {cdv : Value} {A : Around} {outer : List Env} {s : Shared} {H : Hp} {E : XK} (hr : Room 6 (A.deeper (envOfC "number_in_year" (defScope s_number_in_year) s.heap.objs.size f cdv))) :
    PSs (cxOf (L2.CX P w) P w K mg base ["day"] "number_in_year" (defScope s_number_in_year) f cdv A outer s H E) (defBody s_number_in_year) (t_number_in_year K E) := by
  have nd := sc_number_in_year.nd
  have hu0 := hu0_of hr
  have hu1 := hu_of hr
  have hu64 := hu64_of hr
  have hu65 := hu65_of hr
  exact pss_cons (ps_expr (pe_kx c_check_day hr (by decide) (takes_of rfl rfl rfl rfl) (by rfl) (pa_cons (pv 0) pa_nil)))
      (pss_one (ps_ret (pe_op u_add (pe_op u_sub (pv 0) (pe_kn c_year_begin hr (by decide) (by rfl) (pa_cons (pe_ix ix_seq (pe_kn c_date_at hr (by decide) (by rfl) (pa_cons (pv 0) pa_nil)) pe_int (fun _ _ => rfl)) pa_nil))) pe_int)))
/-! places_at: 0 number, 1 length -/
abbrev s_places_at : Stmt := top 25
abbrev N_places_at : List Str := ["number", "length"]
theorem sc_places_at : FnScope ["number", "length"] ["number", "length"] (defScope s_places_at) := ⟨rfl, rfl, rfl, by decide +kernel, rfl, by decide +kernel, by decide +kernel⟩
abbrev t_places_at (K : PySem.W.Frag) (E : XK) : TS :=
  tRet (tTup (tCons (tVar 0) (tCons (tOp uSub (tOp uSub (tVar 0) (tVar 1)) (tC (.int 1))) (tCons (tOp (uAdd K) (tOp uFdv (tOp uSub (tVar 0) (tC (.int 1))) (tC (.int 7))) (tC (.int 1))) (tCons (tOp uSub (tUn uNeg (tOp uFdv (tOp uSub (tVar 1) (tVar 0)) (tC (.int 7)))) (tC (.int 1))) tNil)))))
theorem d_places_at {P : Program} {w : World} {K : PySem.W.Frag} {mg : Str → Option Value} {base : Heap} (T : Tx P K mg) 
    {f : Addr} {cdv : Value} {A : Around} {outer : List Env} {s : Shared} {H : Hp} {E : XK} (hr : Room 2 (A.deeper (envOfC "places_at" (defScope s_places_at) s.heap.objs.size f cdv))) :
    PSs (cxOf (L2.CX P w) P w K mg base ["number", "length"] "places_at" (defScope s_places_at) f cdv A outer s H E) (defBody s_places_at) (t_places_at K E) := by
  have nd := sc_places_at.nd
  have hu0 := hu0_of hr
  have hu1 := hu_of hr
  have hu64 := hu64_of hr
  have hu65 := hu65_of hr
  exact pss_one (ps_ret (pe_tup (pa_cons (pv 0) (pa_cons (pe_op u_sub (pe_op u_sub (pv 0) (pv 1)) pe_int) (pa_cons (pe_op u_add (pe_op u_fdv (pe_op u_sub (pv 0) pe_int) pe_int) pe_int) (pa_cons (pe_op u_sub (pe_un u_neg (pe_op u_fdv (pe_op u_sub (pv 1) (pv 0)) pe_int)) pe_int) pa_nil))))))
/-! places_in_month: 0 day, 1 year, 2 month, 3 number -/
abbrev s_places_in_month : Stmt := top 26
abbrev N_places_in_month : List Str := ["day", "year", "month", "number"]
theorem sc_places_in_month : FnScope ["day", "year", "month", "number"] ["day"] (defScope s_places_in_month) := ⟨rfl, rfl, rfl, by decide +kernel, rfl, by decide +kernel, by decide +kernel⟩
abbrev t_places_in_month (K : PySem.W.Frag) (E : XK) : TS :=
  tSeq (tDrop (tKx (sp_check_day K) (W0 E) (tCons (tVar 0) tNil)))
    (tSeq (tAsg (tKn (sp_date_at K) (tCons (tVar 0) tNil)) (gSq K 3 (gCons (gName 1) (gCons (gName 2) (gCons (gName 3) gNil)))))
    (tRet (tKn (sp_places_at K) (tCons (tVar 3) (tCons (tKn (sp_length_of K) (tCons (tVar 1) (tCons (tVar 2) tNil))) tNil)))))
theorem d_places_in_month {P : Program} {w : World} {K : PySem.W.Frag} {mg : Str → Option Value} {base : Heap} (T : Tx P K mg) (c_check_day : Kn P w K mg base 6 "check_day" ["day"] (sp_check_day K))
    (c_date_at : Kn P w K mg base 5 "date_at" ["day"] (sp_date_at K))
    (c_length_of : Kn P w K mg base 4 "length_of" ["year", "month"] (sp_length_of K))
    (c_places_at : Kn P w K mg base 3 "places_at" ["number", "length"] (sp_places_at K))
    {f : Addr} {cdv : Value} {A : Around} {outer : List Env} {s : Shared} {H : Hp} {E : XK} (hr : Room 6 (A.deeper (envOfC "places_in_month" (defScope s_places_in_month) s.heap.objs.size f cdv))) :
    PSs (cxOf (L2.CX P w) P w K mg base ["day", "year", "month", "number"] "places_in_month" (defScope s_places_in_month) f cdv A outer s H E) (defBody s_places_in_month) (t_places_in_month K E) := by
  have nd := sc_places_in_month.nd
  have hu0 := hu0_of hr
  have hu1 := hu_of hr
  have hu64 := hu64_of hr
  have hu65 := hu65_of hr
  exact pss_cons (ps_expr (pe_kx c_check_day hr (by decide) (takes_of rfl rfl rfl rfl) (by rfl) (pa_cons (pv 0) pa_nil)))
      (pss_cons (ps_asg (pe_kn c_date_at hr (by decide) (by rfl) (pa_cons (pv 0) pa_nil)) (pg_sq rfl (pgs_cons (pg_name (i := 1) nd rfl (Or.inl rfl)) (pgs_cons (pg_name (i := 2) nd rfl (Or.inl rfl)) (pgs_cons (pg_name (i := 3) nd rfl (Or.inl rfl)) pgs_nil)))))
      (pss_one (ps_ret (pe_kn c_places_at hr (by decide) (by rfl) (pa_cons (pv 3) (pa_cons (pe_kn c_length_of hr (by decide) (by rfl) (pa_cons (pv 1) (pa_cons (pv 2) pa_nil))) pa_nil))))))
/-! day_in_months: 0 day, 1 count, 2 year, 3 month, 4 number, 5 months, 6 later, 7 place -/
abbrev s_day_in_months : Stmt := top 27
abbrev N_day_in_months : List Str := ["day", "count", "year", "month", "number", "months", "later", "place"]
theorem sc_day_in_months : FnScope ["day", "count", "year", "month", "number", "months", "later", "place"] ["day", "count"] (defScope s_day_in_months) := ⟨rfl, rfl, rfl, by decide +kernel, rfl, by decide +kernel, by decide +kernel⟩
abbrev t_day_in_months (K : PySem.W.Frag) (E : XK) : TS :=
  tSeq (tAsg (tKn (sp_date_at K) (tCons (tVar 0) tNil)) (gSq K 3 (gCons (gName 2) (gCons (gName 3) (gCons (gName 4) gNil)))))
    (tSeq (tAsg (tOp (uAdd K) (tOp uSub (tOp (uAdd K) (tOp uMul (tC (.int 12)) (tVar 2)) (tVar 3)) (tC (.int 1))) (tVar 1)) (gName 5))
    (tSeq (tIfS (tTest (tOp (uLt K) (tVar 5) (tOp uMul (tC (.int 12)) (tC (.int 2000))))) (tRet (tC .non)) tNext)
    (tSeq (tPar 6 7 (tCons (tOp uFdv (tVar 5) (tC (.int 12))) (tCons (tOp (uAdd K) (tOp uMod (tVar 5) (tC (.int 12))) (tC (.int 1))) tNil)))
    (tRet (tOp uSub (tOp (uAdd K) (tKn (sp_month_begin K) (tCons (tVar 6) (tCons (tVar 7) tNil))) (tCB uMin (tCons (tVar 4) (tCons (tKn (sp_length_of K) (tCons (tVar 6) (tCons (tVar 7) tNil))) tNil)))) (tC (.int 1)))))))
theorem d_day_in_months {P : Program} {w : World} {K : PySem.W.Frag} {mg : Str → Option Value} {base : Heap} (T : Tx P K mg) (c_date_at : Kn P w K mg base 5 "date_at" ["day"] (sp_date_at K))
    (c_length_of : Kn P w K mg base 4 "length_of" ["year", "month"] (sp_length_of K))
    (c_month_begin : Kn P w K mg base 5 "month_begin" ["year", "month"] (sp_month_begin K))
    {f : Addr} {cdv : Value} {A : Around} {outer : List Env} {s : Shared} {H : Hp} {E : XK} (hr : Room 5 (A.deeper (envOfC "day_in_months" (defScope s_day_in_months) s.heap.objs.size f cdv))) :
    PSs (cxOf (L2.CX P w) P w K mg base ["day", "count", "year", "month", "number", "months", "later", "place"] "day_in_months" (defScope s_day_in_months) f cdv A outer s H E) (defBody s_day_in_months) (t_day_in_months K E) := by
  have nd := sc_day_in_months.nd
  have hu0 := hu0_of hr
  have hu1 := hu_of hr
  have hu64 := hu64_of hr
  have hu65 := hu65_of hr
  exact pss_cons (ps_asg (pe_kn c_date_at hr (by decide) (by rfl) (pa_cons (pv 0) pa_nil)) (pg_sq rfl (pgs_cons (pg_name (i := 2) nd rfl (Or.inl rfl)) (pgs_cons (pg_name (i := 3) nd rfl (Or.inl rfl)) (pgs_cons (pg_name (i := 4) nd rfl (Or.inl rfl)) pgs_nil)))))
      (pss_cons (ps_asg (pe_op u_add (pe_op u_sub (pe_op u_add (pe_op u_mul pe_int (pv 2)) (pv 3)) pe_int) (pv 1)) (pg_name (i := 5) nd rfl (Or.inl rfl)))
      (pss_cons (ps_if (pt_cmpR (u_lt hu0) (pv 5) (pe_op u_mul pe_int (pe_cst (by rfl) T.c_FIRST_YEAR)) (nomark _)) (pss_one (ps_ret pe_non)) pss_nil)
      (pss_cons (ps_par rfl nd rfl rfl (by decide) rfl rfl (pa_cons (pe_op u_fdv (pv 5) pe_int) (pa_cons (pe_op u_add (pe_op u_mod (pv 5) pe_int) pe_int) pa_nil)) (by rfl))
      (pss_one (ps_ret (pe_op u_sub (pe_op u_add (pe_kn c_month_begin hr (by decide) (by rfl) (pa_cons (pv 6) (pa_cons (pv 7) pa_nil))) (pe_callB (c_min rfl) (by rfl) T.n_min (by decide +kernel) (pa_cons (pv 4) (pa_cons (pe_kn c_length_of hr (by decide) (by rfl) (pa_cons (pv 6) (pa_cons (pv 7) pa_nil))) pa_nil)))) pe_int))))))
/-! months_later: 0 day, 1 count, 2 found -/
abbrev s_months_later : Stmt := top 28
abbrev N_months_later : List Str := ["day", "count", "found"]
theorem sc_months_later : FnScope ["day", "count", "found"] ["day", "count"] (defScope s_months_later) := ⟨rfl, rfl, rfl, by decide +kernel, rfl, by decide +kernel, by decide +kernel⟩
abbrev t_months_later (K : PySem.W.Frag) (E : XK) : TS :=
  tSeq (tDrop (tKx (sp_check_day K) (W0 E) (tCons (tVar 0) tNil)))
    (tSeq (tIfS (tNot (tTr K (tKn (sp_is_between K) (tCons (tVar 1) (tCons (tUn uNeg (tC (.int 100000))) (tCons (tC (.int 100000)) tNil)))))) (tRaiseDue (He.ga K "InvalidCount") (W0 E) (tCons (tVar 1) tNil)) tNext)
    (tSeq (tAsg (tKn (sp_day_in_months K) (tCons (tVar 0) (tCons (tVar 1) tNil))) (gName 2))
    (tSeq (tIfS (tOr (tTest (tOp uIs (tVar 2) (tC .non))) (tTest (tOp uGt (tVar 2) (tC (.int 1000000000000))))) (tRaiseDue (He.ga K "InvalidCount") (W0 E) (tCons (tVar 1) tNil)) tNext)
    (tRet (tVar 2)))))
theorem d_months_later {P : Program} {w : World} {K : PySem.W.Frag} {mg : Str → Option Value} {base : Heap} (T : Tx P K mg) (c_check_day : Kn P w K mg base 6 "check_day" ["day"] (sp_check_day K))
    (c_day_in_months : Kn P w K mg base 6 "day_in_months" ["day", "count"] (sp_day_in_months K))
    (c_is_between : Kn P w K mg base 4 "is_between" ["value", "least", "most"] (sp_is_between K))
    {f : Addr} {cdv : Value} {A : Around} {outer : List Env} {s : Shared} {H : Hp} {E : XK} (hr : Room 6 (A.deeper (envOfC "months_later" (defScope s_months_later) s.heap.objs.size f cdv))) :
    PSs (cxOf (L2.CX P w) P w K mg base ["day", "count", "found"] "months_later" (defScope s_months_later) f cdv A outer s H E) (defBody s_months_later) (t_months_later K E) := by
  have nd := sc_months_later.nd
  have hu0 := hu0_of hr
  have hu1 := hu_of hr
  have hu64 := hu64_of hr
  have hu65 := hu65_of hr
  exact pss_cons (ps_expr (pe_kx c_check_day hr (by decide) (takes_of rfl rfl rfl rfl) (by rfl) (pa_cons (pv 0) pa_nil)))
      (pss_cons (ps_if (pt_not (pt_tr (pe_kn c_is_between hr (by decide) (by rfl) (pa_cons (pv 1) (pa_cons (pe_un u_neg (pe_cst (by rfl) T.c_MOST_MONTHS)) (pa_cons (pe_cst (by rfl) T.c_MOST_MONTHS) pa_nil)))) (by intro _; rfl))) (pss_one (ps_raiseDue rfl T.due T.x_InvalidCount hr T.g_InvalidCount T.n_super (takes_of rfl rfl rfl rfl) (pa_cons (pv 1) pa_nil))) pss_nil)
      (pss_cons (ps_asg (pe_kn c_day_in_months hr (by decide) (by rfl) (pa_cons (pv 0) (pa_cons (pv 1) pa_nil))) (pg_name (i := 2) nd rfl (Or.inl rfl)))
      (pss_cons (ps_if (PW.pt (pw_or (pt_cmpR u_is (pv 2) pe_non (nomark _)) (pw_or1 (pt_cmpR u_gt (pv 2) (pe_cst (by rfl) T.c_MOST_DAY) (nomark _))))) (pss_one (ps_raiseDue rfl T.due T.x_InvalidCount hr T.g_InvalidCount T.n_super (takes_of rfl rfl rfl rfl) (pa_cons (pv 1) pa_nil))) pss_nil)
      (pss_one (ps_ret (pv 2))))))
/-! _law_cell: 0 script, 1 k -/
abbrev s__law_cell : Stmt := top 30
abbrev N__law_cell : List Str := ["script", "k"]
theorem sc__law_cell : FnScope ["script", "k"] ["script", "k"] (defScope s__law_cell) := ⟨rfl, rfl, rfl, by decide +kernel, rfl, by decide +kernel, by decide +kernel⟩
abbrev t__law_cell (K : PySem.W.Frag) (E : XK) : TS :=
  tRet (tIf (tTest (tOp (uLt K) (tVar 1) (tCB (uLen K) (tCons (tVar 0) tNil)))) (tOp (rIx K) (tVar 0) (tVar 1)) (tOp (uAdd K) (tOp uMul (tC (.int 6469)) (tVar 1)) (tOp uMod (tCB uInt (tCons (tCB (uSum K) (tCons (tSl (uSl K) (tVar 0) tNoPart (tPart (tC (.int 1)))) tNil)) tNil)) (tC (.int 1000033)))))
theorem d__law_cell {P : Program} {w : World} {K : PySem.W.Frag} {mg : Str → Option Value} {base : Heap} (T : Tx P K mg) 
    {f : Addr} {cdv : Value} {A : Around} {outer : List Env} {s : Shared} {H : Hp} {E : XK} (hr : Room 2 (A.deeper (envOfC "_law_cell" (defScope s__law_cell) s.heap.objs.size f cdv))) :
    PSs (cxOf (L2.CX P w) P w K mg base ["script", "k"] "_law_cell" (defScope s__law_cell) f cdv A outer s H E) (defBody s__law_cell) (t__law_cell K E) := by
  have nd := sc__law_cell.nd
  have hu0 := hu0_of hr
  have hu1 := hu_of hr
  have hu64 := hu64_of hr
  have hu65 := hu65_of hr
  exact pss_one (ps_ret (pe_ifExp (pt_cmpR (u_lt hu0) (pv 1) (pe_callB c_len (by rfl) T.n_len (by decide +kernel) (pa_cons (pv 0) pa_nil)) (nomark _)) (pe_ix ix_seq (pv 0) (pv 1) (fun _ _ => rfl)) (pe_op u_add (pe_op u_mul pe_int (pv 1)) (pe_op u_mod (pe_callTy c_int (by rfl) T.n_int (by decide +kernel) (pa_cons (pe_callB (c_sum rfl) (by rfl) T.n_sum (by decide +kernel) (pa_cons (pe_slice u_sl (pv 0) po_none (po_some pe_int)) pa_nil)) pa_nil)) pe_int))))
/-! _law_box: 0 great -/
abbrev s__law_box : Stmt := top 31
abbrev N__law_box : List Str := ["great"]
theorem sc__law_box : FnScope ["great"] ["great"] (defScope s__law_box) := ⟨rfl, rfl, rfl, by decide +kernel, rfl, by decide +kernel, by decide +kernel⟩
abbrev t__law_box (K : PySem.W.Frag) (E : XK) : TS :=
  tRet (tLst (tCons (tCB uAbs (tCons (tVar 0) tNil)) (tCons (tOp uGe (tCB uAbs (tCons (tVar 0) tNil)) (tOp uPow (tC (.int 10)) (tC (.int 18)))) (tCons (tOp uMod (tCB uInt (tCons (tCB uAbs (tCons (tVar 0) tNil)) tNil)) (tC (.int 2147483629))) (tCons (tC (.int 0)) tNil)))))
theorem d__law_box {P : Program} {w : World} {K : PySem.W.Frag} {mg : Str → Option Value} {base : Heap} (T : Tx P K mg) 
    {f : Addr} {cdv : Value} {A : Around} {outer : List Env} {s : Shared} {H : Hp} {E : XK} (hr : Room 2 (A.deeper (envOfC "_law_box" (defScope s__law_box) s.heap.objs.size f cdv))) :
    PSs (cxOf (L2.CX P w) P w K mg base ["great"] "_law_box" (defScope s__law_box) f cdv A outer s H E) (defBody s__law_box) (t__law_box K E) := by
  have nd := sc__law_box.nd
  have hu0 := hu0_of hr
  have hu1 := hu_of hr
  have hu64 := hu64_of hr
  have hu65 := hu65_of hr
  exact pss_one (ps_ret (pe_lst (pa_cons (pe_callB c_abs (by rfl) T.n_abs (by decide +kernel) (pa_cons (pv 0) pa_nil)) (pa_cons (pe_cmpR u_ge (pe_callB c_abs (by rfl) T.n_abs (by decide +kernel) (pa_cons (pv 0) pa_nil)) (pe_op u_pow pe_int pe_int) (nomark _)) (pa_cons (pe_op u_mod (pe_callTy c_int (by rfl) T.n_int (by decide +kernel) (pa_cons (pe_callB c_abs (by rfl) T.n_abs (by decide +kernel) (pa_cons (pv 0) pa_nil)) pa_nil)) pe_int) (pa_cons pe_int pa_nil))))))
/-! _law_take: 0 box, 1 many, 2 digit, 3 mixed -/
abbrev s__law_take : Stmt := top 32
abbrev N__law_take : List Str := ["box", "many", "digit", "mixed"]
theorem sc__law_take : FnScope ["box", "many", "digit", "mixed"] ["box", "many"] (defScope s__law_take) := ⟨rfl, rfl, rfl, by decide +kernel, rfl, by decide +kernel, by decide +kernel⟩
abbrev t__law_take (K : PySem.W.Frag) (E : XK) : TS :=
  tSeq (tIfS (tAnd (tTr K (tOp (rIx K) (tVar 0) (tC (.int 1)))) (tTest (tOp uGt (tOp (rIx K) (tVar 0) (tC (.int 0))) (tC (.int 0))))) (tSeq (tAsg (tOp uMod (tCB uInt (tCons (tOp (rIx K) (tVar 0) (tC (.int 0))) tNil)) (tVar 1)) (gName 2))
    (tSeq (tAsg (tOp uFdv (tOp (rIx K) (tVar 0) (tC (.int 0))) (tVar 1)) (gSub (tVar 0) (tC (.int 0)) rSetL))
    (tRet (tVar 2)))) tNext)
    (tSeq (tAsg (tOp (uAdd K) (tOp (rIx K) (tVar 0) (tC (.int 3))) (tC (.int 1))) (gSub (tVar 0) (tC (.int 3)) rSetL))
    (tSeq (tAsg (tOp uMod (tCB uInt (tCons (tOp uPow (tOp (uAdd K) (tOp (uAdd K) (tOp (rIx K) (tVar 0) (tC (.int 2))) (tOp uMul (tC (.int 15486971)) (tOp (rIx K) (tVar 0) (tC (.int 3))))) (tC (.int 179425579))) (tC (.int 5))) tNil)) (tC (.int 2147483647))) (gName 3))
    (tRet (tOp uMod (tCB uInt (tCons (tOp uFdv (tOp uMod (tCB uInt (tCons (tOp uPow (tOp (uAdd K) (tOp uMul (tVar 3) (tC (.int 48271))) (tOp uMul (tC (.int 105269)) (tOp (rIx K) (tVar 0) (tC (.int 3))))) (tC (.int 3))) tNil)) (tC (.int 2147483587))) (tC (.int 64))) tNil)) (tVar 1)))))
theorem d__law_take {P : Program} {w : World} {K : PySem.W.Frag} {mg : Str → Option Value} {base : Heap} (T : Tx P K mg) 
    {f : Addr} {cdv : Value} {A : Around} {outer : List Env} {s : Shared} {H : Hp} {E : XK} (hr : Room 2 (A.deeper (envOfC "_law_take" (defScope s__law_take) s.heap.objs.size f cdv))) :
    PSs (cxOf (L2.CX P w) P w K mg base ["box", "many", "digit", "mixed"] "_law_take" (defScope s__law_take) f cdv A outer s H E) (defBody s__law_take) (t__law_take K E) := by
  have nd := sc__law_take.nd
  have hu0 := hu0_of hr
  have hu1 := hu_of hr
  have hu64 := hu64_of hr
  have hu65 := hu65_of hr
  exact pss_cons (ps_if (PW.pt (pw_and (pt_tr (pe_ix ix_seq (pv 0) pe_int (fun _ _ => rfl)) (by intro _; rfl)) (pw_and1 (pt_cmpR u_gt (pe_ix ix_seq (pv 0) pe_int (fun _ _ => rfl)) pe_int (nomark _))))) (pss_cons (ps_asg (pe_op u_mod (pe_callTy c_int (by rfl) T.n_int (by decide +kernel) (pa_cons (pe_ix ix_seq (pv 0) pe_int (fun _ _ => rfl)) pa_nil)) (pv 1)) (pg_name (i := 2) nd rfl (Or.inl rfl)))
      (pss_cons (ps_asg (pe_op u_fdv (pe_ix ix_seq (pv 0) pe_int (fun _ _ => rfl)) (pv 1)) (pg_sub (pv 0) pe_int set_list))
      (pss_one (ps_ret (pv 2))))) pss_nil)
      (pss_cons (ps_asg (pe_op u_add (pe_ix ix_seq (pv 0) pe_int (fun _ _ => rfl)) pe_int) (pg_sub (pv 0) pe_int set_list))
      (pss_cons (ps_asg (pe_op u_mod (pe_callTy c_int (by rfl) T.n_int (by decide +kernel) (pa_cons (pe_op u_pow (pe_op u_add (pe_op u_add (pe_ix ix_seq (pv 0) pe_int (fun _ _ => rfl)) (pe_op u_mul pe_int (pe_ix ix_seq (pv 0) pe_int (fun _ _ => rfl)))) pe_int) pe_int) pa_nil)) pe_int) (pg_name (i := 3) nd rfl (Or.inl rfl)))
      (pss_one (ps_ret (pe_op u_mod (pe_callTy c_int (by rfl) T.n_int (by decide +kernel) (pa_cons (pe_op u_fdv (pe_op u_mod (pe_callTy c_int (by rfl) T.n_int (by decide +kernel) (pa_cons (pe_op u_pow (pe_op u_add (pe_op u_mul (pv 3) pe_int) (pe_op u_mul pe_int (pe_ix ix_seq (pv 0) pe_int (fun _ _ => rfl)))) pe_int) pa_nil)) pe_int) pe_int) pa_nil)) (pv 1))))))
/-! _law_same: 0 told, 1 due, 2 k -/
abbrev s__law_same : Stmt := top 33
abbrev N__law_same : List Str := ["told", "due", "k"]
theorem sc__law_same : FnScope ["told", "due", "k"] ["told", "due"] (defScope s__law_same) := ⟨rfl, rfl, rfl, by decide +kernel, rfl, by decide +kernel, by decide +kernel⟩
abbrev t__law_same (K : PySem.W.Frag) (spr : Sp) (E : XK) : TS :=
  tSeq (tIfS (tOr (tTest (tOp uIs (tVar 1) (tC .non))) (tTr K (tCB (uIsi K) (tCons (tVar 1) (tCons (tC (.ty "bool")) tNil))))) (tRet (tIf (tTest (tOp uIs (tVar 1) (tC .non))) (tOp uIs (tVar 0) (tC .non)) (tAndV (tCB (uIsi K) (tCons (tVar 0) (tCons (tC (.ty "bool")) tNil))) (tOp (uEq K) (tOp uIs (tVar 0) (tC (.bl true))) (tOp uIs (tVar 1) (tC (.bl true))))))) tNext)
    (tSeq (tIfS (tTr K (tCB (uIsi K) (tCons (tVar 1) (tCons (tC (.ty "int")) tNil)))) (tRet (tAndV (tCB (uIsi K) (tCons (tVar 0) (tCons (tC (.ty "int")) tNil))) (tAndV (tNotV (tCB (uIsi K) (tCons (tVar 0) (tCons (tC (.ty "bool")) tNil)))) (tOp (uEq K) (tVar 0) (tVar 1))))) tNext)
    (tSeq (tIfS (tTr K (tCB (uIsi K) (tCons (tVar 1) (tCons (tC (.ty "str")) tNil)))) (tRet (tAndV (tCB (uIsi K) (tCons (tVar 0) (tCons (tC (.ty "str")) tNil))) (tOp (uEq K) (tVar 0) (tVar 1)))) tNext)
    (tSeq (tIfS (tOr (tTest (tOp (uNe K) (tCB (uIsi K) (tCons (tVar 0) (tCons (tC (.ty "list")) tNil))) (tCB (uIsi K) (tCons (tVar 1) (tCons (tC (.ty "list")) tNil))))) (tTest (tOp (uNe K) (tCB (uIsi K) (tCons (tVar 0) (tCons (tC (.ty "tuple")) tNil))) (tCB (uIsi K) (tCons (tVar 1) (tCons (tC (.ty "tuple")) tNil)))))) (tRet (tC (.bl false))) tNext)
    (tRet (tAndV (tOp (uEq K) (tCB (uLen K) (tCons (tVar 0) tNil)) (tCB (uLen K) (tCons (tVar 1) tNil))) (tOp (uEq K) (tLc (iRng1 (tCons (tCB (uLen K) (tCons (tVar 1) tNil)) tNil)) (gName 2) (tNot (tTr K (tKn spr (tCons (tOp (rIx K) (tVar 0) (tVar 2)) (tCons (tOp (rIx K) (tVar 1) (tVar 2)) tNil))))) (tVar 2) [2]) (tLst tNil)))))))
theorem d__law_same {P : Program} {w : World} {K : PySem.W.Frag} {mg : Str → Option Value} {base : Heap} (T : Tx P K mg) {kr : Nat} {spr : Sp} (c__law_same : Kn P w K mg base kr "_law_same" ["told", "due"] spr)
    {k : Nat} (hkr : kr ≤ k) (h4 : 4 ≤ k)
    {f : Addr} {cdv : Value} {A : Around} {outer : List Env} {s : Shared} {H : Hp} {E : XK} (hr : Room k (A.deeper (envOfC "_law_same" (defScope s__law_same) s.heap.objs.size f cdv))) :
    PSs (cxOf (L2.CX P w) P w K mg base ["told", "due", "k"] "_law_same" (defScope s__law_same) f cdv A outer s H E) (defBody s__law_same) (t__law_same K spr E) := by
  have nd := sc__law_same.nd
  have hu0 := hu0_of hr
  have hu1 := hu_of hr
  have hu64 := hu64_of hr
  have hu65 := hu65_of hr
  exact pss_cons (ps_if (PW.pt (pw_or (pt_cmpR u_is (pv 1) pe_non (nomark _)) (pw_or1 (pt_tr (pe_callB c_isi (by rfl) T.n_isinstance (by decide +kernel) (pa_cons (pv 1) (pa_cons (pe_ty (by rfl) T.n_bool (by decide +kernel)) pa_nil))) (by intro _; rfl))))) (pss_one (ps_ret (pe_ifExp (pt_cmpR u_is (pv 1) pe_non (nomark _)) (pe_cmpR u_is (pv 0) pe_non (nomark _)) (pe_and (pe_callB c_isi (by rfl) T.n_isinstance (by decide +kernel) (pa_cons (pv 0) (pa_cons (pe_ty (by rfl) T.n_bool (by decide +kernel)) pa_nil))) (pe_one (pe_cmpR (u_eq hu64) (pe_cmpR u_is (pv 0) pe_bl (nomark _)) (pe_cmpR u_is (pv 1) pe_bl (nomark _)) (nomark _))))))) pss_nil)
      (pss_cons (ps_if (pt_tr (pe_callB c_isi (by rfl) T.n_isinstance (by decide +kernel) (pa_cons (pv 1) (pa_cons (pe_ty (by rfl) T.n_int (by decide +kernel)) pa_nil))) (by intro _; rfl)) (pss_one (ps_ret (pe_and (pe_callB c_isi (by rfl) T.n_isinstance (by decide +kernel) (pa_cons (pv 0) (pa_cons (pe_ty (by rfl) T.n_int (by decide +kernel)) pa_nil))) (pe_and (pe_not (pe_callB c_isi (by rfl) T.n_isinstance (by decide +kernel) (pa_cons (pv 0) (pa_cons (pe_ty (by rfl) T.n_bool (by decide +kernel)) pa_nil)))) (pe_one (pe_cmpR (u_eq hu64) (pv 0) (pv 1) (nomark _))))))) pss_nil)
      (pss_cons (ps_if (pt_tr (pe_callB c_isi (by rfl) T.n_isinstance (by decide +kernel) (pa_cons (pv 1) (pa_cons (pe_ty (by rfl) T.n_str (by decide +kernel)) pa_nil))) (by intro _; rfl)) (pss_one (ps_ret (pe_and (pe_callB c_isi (by rfl) T.n_isinstance (by decide +kernel) (pa_cons (pv 0) (pa_cons (pe_ty (by rfl) T.n_str (by decide +kernel)) pa_nil))) (pe_one (pe_cmpR (u_eq hu64) (pv 0) (pv 1) (nomark _)))))) pss_nil)
      (pss_cons (ps_if (PW.pt (pw_or (pt_cmpR (u_ne hu64) (pe_callB c_isi (by rfl) T.n_isinstance (by decide +kernel) (pa_cons (pv 0) (pa_cons (pe_ty (by rfl) T.n_list (by decide +kernel)) pa_nil))) (pe_callB c_isi (by rfl) T.n_isinstance (by decide +kernel) (pa_cons (pv 1) (pa_cons (pe_ty (by rfl) T.n_list (by decide +kernel)) pa_nil))) (nomark _)) (pw_or1 (pt_cmpR (u_ne hu64) (pe_callB c_isi (by rfl) T.n_isinstance (by decide +kernel) (pa_cons (pv 0) (pa_cons (pe_ty (by rfl) T.n_tuple (by decide +kernel)) pa_nil))) (pe_callB c_isi (by rfl) T.n_isinstance (by decide +kernel) (pa_cons (pv 1) (pa_cons (pe_ty (by rfl) T.n_tuple (by decide +kernel)) pa_nil))) (nomark _))))) (pss_one (ps_ret pe_bl)) pss_nil)
      (pss_one (ps_ret (pe_and (pe_cmpR (u_eq hu64) (pe_callB c_len (by rfl) T.n_len (by decide +kernel) (pa_cons (pv 0) pa_nil)) (pe_callB c_len (by rfl) T.n_len (by decide +kernel) (pa_cons (pv 1) pa_nil)) (nomark _)) (pe_one (pe_cmpR (u_eq hu64) (pe_lc (own := [("k", 2)]) rfl nd (pi_range1 (by rfl) T.n_range (pa_cons (pe_callB c_len (by rfl) T.n_len (by decide +kernel) (pa_cons (pv 1) pa_nil)) pa_nil)) (blkOk_by (N := ["told", "due", "k"]) (sc := defScope s__law_same) (own := [("k", 2)]) (by decide +kernel)) (fun _ _ _ _ _ => pg_name (i := 2) nd rfl (Or.inl rfl)) (fun _ _ _ _ _ => pts_one (pt_not (pt_tr (pe_kn c__law_same hr hkr (by rfl) (pa_cons (pe_ix ix_seq (pv 0) (pv 2) (fun _ _ => rfl)) (pa_cons (pe_ix ix_seq (pv 1) (pv 2) (fun _ _ => rfl)) pa_nil))) (by intro _; rfl)))) (fun _ _ _ _ _ => pv 2)) (pe_lst pa_nil) (nomark _)))))))))
/-! _law_very: 0 given, 1 value, 2 size -/
abbrev s__law_very : Stmt := top 34
abbrev N__law_very : List Str := ["given", "value", "size"]
theorem sc__law_very : FnScope ["given", "value", "size"] ["given", "value"] (defScope s__law_very) := ⟨rfl, rfl, rfl, by decide +kernel, rfl, by decide +kernel, by decide +kernel⟩
abbrev t__law_very (K : PySem.W.Frag) (E : XK) : TS :=
  tSeq (tIfS (tTr K (tCB (uIsi K) (tCons (tVar 1) (tCons (tTup (tCons (tC (.ty "list")) (tCons (tC (.ty "dict")) tNil))) tNil)))) (tSeq (tIfS (tOr (tTest (tOp (uNe K) (tCB (uIsi K) (tCons (tVar 0) (tCons (tC (.ty "list")) tNil))) (tCB (uIsi K) (tCons (tVar 1) (tCons (tC (.ty "list")) tNil))))) (tTest (tOp (uNe K) (tCB (uIsi K) (tCons (tVar 0) (tCons (tC (.ty "dict")) tNil))) (tCB (uIsi K) (tCons (tVar 1) (tCons (tC (.ty "dict")) tNil)))))) (tRet (tC (.bl false))) tNext)
    (tSeq (tAsg (tCB (uLen K) (tCons (tVar 1) tNil)) (gName 2))
    (tSeq (tIfS (tTr K (tCB (uIsi K) (tCons (tVar 1) (tCons (tC (.ty "list")) tNil)))) (tDrop (tBM K "list" rAppend (tVar 1) (tCons (tC (.str "grown")) tNil))) (sDPut (tVar 1) (tC (.str "grown")) (tC (.int 1))))
    (tRet (tAndV (tOp (uEq K) (tCB (uLen K) (tCons (tVar 0) tNil)) (tOp (uAdd K) (tVar 2) (tC (.int 1)))) (tOp (uEq K) (tCB (uLen K) (tCons (tVar 1) tNil)) (tOp (uAdd K) (tVar 2) (tC (.int 1))))))))) tNext)
    (tRet (tKn (sp__law_same K) (tCons (tVar 0) (tCons (tVar 1) tNil))))
theorem d__law_very {P : Program} {w : World} {K : PySem.W.Frag} {mg : Str → Option Value} {base : Heap} (T : Tx P K mg) (c__law_same : Kn P w K mg base 40 "_law_same" ["told", "due"] (sp__law_same K))
    {f : Addr} {cdv : Value} {A : Around} {outer : List Env} {s : Shared} {H : Hp} {E : XK} (hr : Room 40 (A.deeper (envOfC "_law_very" (defScope s__law_very) s.heap.objs.size f cdv))) :
    PSs (cxOf (L2.CX P w) P w K mg base ["given", "value", "size"] "_law_very" (defScope s__law_very) f cdv A outer s H E) (defBody s__law_very) (t__law_very K E) := by
  have nd := sc__law_very.nd
  have hu0 := hu0_of hr
  have hu1 := hu_of hr
  have hu64 := hu64_of hr
  have hu65 := hu65_of hr
  exact pss_cons (ps_if (pt_tr (pe_callB c_isi (by rfl) T.n_isinstance (by decide +kernel) (pa_cons (pv 1) (pa_cons (pe_tup (pa_cons (pe_ty (by rfl) T.n_list (by decide +kernel)) (pa_cons (pe_ty (by rfl) T.n_dict (by decide +kernel)) pa_nil))) pa_nil))) (by intro _; rfl)) (pss_cons (ps_if (PW.pt (pw_or (pt_cmpR (u_ne hu64) (pe_callB c_isi (by rfl) T.n_isinstance (by decide +kernel) (pa_cons (pv 0) (pa_cons (pe_ty (by rfl) T.n_list (by decide +kernel)) pa_nil))) (pe_callB c_isi (by rfl) T.n_isinstance (by decide +kernel) (pa_cons (pv 1) (pa_cons (pe_ty (by rfl) T.n_list (by decide +kernel)) pa_nil))) (nomark _)) (pw_or1 (pt_cmpR (u_ne hu64) (pe_callB c_isi (by rfl) T.n_isinstance (by decide +kernel) (pa_cons (pv 0) (pa_cons (pe_ty (by rfl) T.n_dict (by decide +kernel)) pa_nil))) (pe_callB c_isi (by rfl) T.n_isinstance (by decide +kernel) (pa_cons (pv 1) (pa_cons (pe_ty (by rfl) T.n_dict (by decide +kernel)) pa_nil))) (nomark _))))) (pss_one (ps_ret pe_bl)) pss_nil)
      (pss_cons (ps_asg (pe_callB c_len (by rfl) T.n_len (by decide +kernel) (pa_cons (pv 1) pa_nil)) (pg_name (i := 2) nd rfl (Or.inl rfl)))
      (pss_cons (ps_if (pt_tr (pe_callB c_isi (by rfl) T.n_isinstance (by decide +kernel) (pa_cons (pv 1) (pa_cons (pe_ty (by rfl) T.n_list (by decide +kernel)) pa_nil))) (by intro _; rfl)) (pss_one (ps_expr (pe_bm PySem.F.plainAttrs_list PySem.F.slot_list_append PySem.F.type_list_append mt_append (pv 1) (pa_cons pe_str pa_nil)))) (pss_one (ps_dput hu1 (pv 1) pe_str pe_int rfl)))
      (pss_one (ps_ret (pe_and (pe_cmpR (u_eq hu64) (pe_callB c_len (by rfl) T.n_len (by decide +kernel) (pa_cons (pv 0) pa_nil)) (pe_op u_add (pv 2) pe_int) (nomark _)) (pe_one (pe_cmpR (u_eq hu64) (pe_callB c_len (by rfl) T.n_len (by decide +kernel) (pa_cons (pv 1) pa_nil)) (pe_op u_add (pv 2) pe_int) (nomark _))))))))) pss_nil)
      (pss_one (ps_ret (pe_kn c__law_same hr (by decide) (by rfl) (pa_cons (pv 0) (pa_cons (pv 1) pa_nil)))))
/-! _law_leap: 0 year -/
abbrev s__law_leap : Stmt := top 35
abbrev N__law_leap : List Str := ["year"]
theorem sc__law_leap : FnScope ["year"] ["year"] (defScope s__law_leap) := ⟨rfl, rfl, rfl, by decide +kernel, rfl, by decide +kernel, by decide +kernel⟩
abbrev t__law_leap (K : PySem.W.Frag) (E : XK) : TS :=
  tRet (tOrV (tOp (uEq K) (tOp uMod (tCB uInt (tCons (tVar 0) tNil)) (tC (.int 400))) (tC (.int 0))) (tAndV (tOp (uEq K) (tOp uMod (tCB uInt (tCons (tVar 0) tNil)) (tC (.int 4))) (tC (.int 0))) (tOp (uNe K) (tOp uMod (tCB uInt (tCons (tVar 0) tNil)) (tC (.int 100))) (tC (.int 0)))))
theorem d__law_leap {P : Program} {w : World} {K : PySem.W.Frag} {mg : Str → Option Value} {base : Heap} (T : Tx P K mg) 
    {f : Addr} {cdv : Value} {A : Around} {outer : List Env} {s : Shared} {H : Hp} {E : XK} (hr : Room 2 (A.deeper (envOfC "_law_leap" (defScope s__law_leap) s.heap.objs.size f cdv))) :
    PSs (cxOf (L2.CX P w) P w K mg base ["year"] "_law_leap" (defScope s__law_leap) f cdv A outer s H E) (defBody s__law_leap) (t__law_leap K E) := by
  have nd := sc__law_leap.nd
  have hu0 := hu0_of hr
  have hu1 := hu_of hr
  have hu64 := hu64_of hr
  have hu65 := hu65_of hr
  exact pss_one (ps_ret (pe_or (pe_cmpR (u_eq hu64) (pe_op u_mod (pe_callTy c_int (by rfl) T.n_int (by decide +kernel) (pa_cons (pv 0) pa_nil)) pe_int) pe_int (nomark _)) (pe_one (pe_and (pe_cmpR (u_eq hu64) (pe_op u_mod (pe_callTy c_int (by rfl) T.n_int (by decide +kernel) (pa_cons (pv 0) pa_nil)) pe_int) pe_int (nomark _)) (pe_one (pe_cmpR (u_ne hu64) (pe_op u_mod (pe_callTy c_int (by rfl) T.n_int (by decide +kernel) (pa_cons (pv 0) pa_nil)) pe_int) pe_int (nomark _)))))))
/-! _law_length: 0 year, 1 month -/
abbrev s__law_length : Stmt := top 36
abbrev N__law_length : List Str := ["year", "month"]
theorem sc__law_length : FnScope ["year", "month"] ["year", "month"] (defScope s__law_length) := ⟨rfl, rfl, rfl, by decide +kernel, rfl, by decide +kernel, by decide +kernel⟩
abbrev t__law_length (K : PySem.W.Frag) (E : XK) : TS :=
  tRet (tOp (rIx K) (tLst (tCons (tC (.int 31)) (tCons (tIf (tTr K (tKn (sp__law_leap K) (tCons (tVar 0) tNil))) (tC (.int 29)) (tC (.int 28))) (tCons (tC (.int 31)) (tCons (tC (.int 30)) (tCons (tC (.int 31)) (tCons (tC (.int 30)) (tCons (tC (.int 31)) (tCons (tC (.int 31)) (tCons (tC (.int 30)) (tCons (tC (.int 31)) (tCons (tC (.int 30)) (tCons (tC (.int 31)) tNil))))))))))))) (tOp uSub (tVar 1) (tC (.int 1))))
theorem d__law_length {P : Program} {w : World} {K : PySem.W.Frag} {mg : Str → Option Value} {base : Heap} (T : Tx P K mg) (c__law_leap : Kn P w K mg base 3 "_law_leap" ["year"] (sp__law_leap K))
    {f : Addr} {cdv : Value} {A : Around} {outer : List Env} {s : Shared} {H : Hp} {E : XK} (hr : Room 3 (A.deeper (envOfC "_law_length" (defScope s__law_length) s.heap.objs.size f cdv))) :
    PSs (cxOf (L2.CX P w) P w K mg base ["year", "month"] "_law_length" (defScope s__law_length) f cdv A outer s H E) (defBody s__law_length) (t__law_length K E) := by
  have nd := sc__law_length.nd
  have hu0 := hu0_of hr
  have hu1 := hu_of hr
  have hu64 := hu64_of hr
  have hu65 := hu65_of hr
  exact pss_one (ps_ret (pe_ix ix_seq (pe_lst (pa_cons pe_int (pa_cons (pe_ifExp (pt_tr (pe_kn c__law_leap hr (by decide) (by rfl) (pa_cons (pv 0) pa_nil)) (by intro _; rfl)) pe_int pe_int) (pa_cons pe_int (pa_cons pe_int (pa_cons pe_int (pa_cons pe_int (pa_cons pe_int (pa_cons pe_int (pa_cons pe_int (pa_cons pe_int (pa_cons pe_int (pa_cons pe_int pa_nil))))))))))))) (pe_op u_sub (pv 1) pe_int) (fun _ _ => rfl)))
/-! _law_date: 0 day, 1 year, 2 left, 3 month -/
abbrev s__law_date : Stmt := top 37
abbrev N__law_date : List Str := ["day", "year", "left", "month"]
theorem sc__law_date : FnScope ["day", "year", "left", "month"] ["day"] (defScope s__law_date) := ⟨rfl, rfl, rfl, by decide +kernel, rfl, by decide +kernel, by decide +kernel⟩
abbrev t__law_date (K : PySem.W.Frag) (E : XK) : TS :=
  tSeq (tPar 1 2 (tCons (tOp (uAdd K) (tC (.int 2000)) (tOp uMul (tC (.int 400)) (tOp uFdv (tVar 0) (tC (.int 146097))))) (tCons (tOp uMod (tCB uInt (tCons (tVar 0) tNil)) (tC (.int 146097))) tNil)))
    (tSeq (tWhile (tTest (tOp uGe (tVar 2) (tOp (uAdd K) (tC (.int 365)) (tCB uInt (tCons (tKn (sp__law_leap K) (tCons (tVar 1) tNil)) tNil))))) (tSeq (tAsg (tOp uSub (tOp uSub (tVar 2) (tC (.int 365))) (tCB uInt (tCons (tKn (sp__law_leap K) (tCons (tVar 1) tNil)) tNil))) (gName 2))
    (tAsg (tOp (uAdd K) (tVar 1) (tC (.int 1))) (gName 1))))
    (tSeq (tAsg (tC (.int 1)) (gName 3))
    (tSeq (tWhile (tTest (tOp uGe (tVar 2) (tKn (sp__law_length K) (tCons (tVar 1) (tCons (tVar 3) tNil))))) (tSeq (tAsg (tOp uSub (tVar 2) (tKn (sp__law_length K) (tCons (tVar 1) (tCons (tVar 3) tNil)))) (gName 2))
    (tAsg (tOp (uAdd K) (tVar 3) (tC (.int 1))) (gName 3))))
    (tRet (tTup (tCons (tVar 1) (tCons (tVar 3) (tCons (tOp (uAdd K) (tVar 2) (tC (.int 1))) tNil))))))))
theorem d__law_date {P : Program} {w : World} {K : PySem.W.Frag} {mg : Str → Option Value} {base : Heap} (T : Tx P K mg) (c__law_leap : Kn P w K mg base 3 "_law_leap" ["year"] (sp__law_leap K))
    (c__law_length : Kn P w K mg base 4 "_law_length" ["year", "month"] (sp__law_length K))
    {f : Addr} {cdv : Value} {A : Around} {outer : List Env} {s : Shared} {H : Hp} {E : XK} (hr : Room 4 (A.deeper (envOfC "_law_date" (defScope s__law_date) s.heap.objs.size f cdv))) :
    PSs (cxOf (L2.CX P w) P w K mg base ["day", "year", "left", "month"] "_law_date" (defScope s__law_date) f cdv A outer s H E) (defBody s__law_date) (t__law_date K E) := by
  have nd := sc__law_date.nd
  have hu0 := hu0_of hr
  have hu1 := hu_of hr
  have hu64 := hu64_of hr
  have hu65 := hu65_of hr
  exact pss_cons (ps_par rfl nd rfl rfl (by decide) rfl rfl (pa_cons (pe_op u_add pe_int (pe_op u_mul pe_int (pe_op u_fdv (pv 0) pe_int))) (pa_cons (pe_op u_mod (pe_callTy c_int (by rfl) T.n_int (by decide +kernel) (pa_cons (pv 0) pa_nil)) pe_int) pa_nil)) (by rfl))
      (pss_cons (ps_while (passes_of rfl) (pt_cmpR u_ge (pv 2) (pe_op u_add pe_int (pe_callTy c_int (by rfl) T.n_int (by decide +kernel) (pa_cons (pe_kn c__law_leap hr (by decide) (by rfl) (pa_cons (pv 1) pa_nil)) pa_nil))) (nomark _)) (pss_cons (ps_asg (pe_op u_sub (pe_op u_sub (pv 2) pe_int) (pe_callTy c_int (by rfl) T.n_int (by decide +kernel) (pa_cons (pe_kn c__law_leap hr (by decide) (by rfl) (pa_cons (pv 1) pa_nil)) pa_nil))) (pg_name (i := 2) nd rfl (Or.inl rfl)))
      (pss_one (ps_asg (pe_op u_add (pv 1) pe_int) (pg_name (i := 1) nd rfl (Or.inl rfl))))))
      (pss_cons (ps_asg pe_int (pg_name (i := 3) nd rfl (Or.inl rfl)))
      (pss_cons (ps_while (passes_of rfl) (pt_cmpR u_ge (pv 2) (pe_kn c__law_length hr (by decide) (by rfl) (pa_cons (pv 1) (pa_cons (pv 3) pa_nil))) (nomark _)) (pss_cons (ps_asg (pe_op u_sub (pv 2) (pe_kn c__law_length hr (by decide) (by rfl) (pa_cons (pv 1) (pa_cons (pv 3) pa_nil)))) (pg_name (i := 2) nd rfl (Or.inl rfl)))
      (pss_one (ps_asg (pe_op u_add (pv 3) pe_int) (pg_name (i := 3) nd rfl (Or.inl rfl))))))
      (pss_one (ps_ret (pe_tup (pa_cons (pv 1) (pa_cons (pv 3) (pa_cons (pe_op u_add (pv 2) pe_int) pa_nil)))))))))
/-! _law_next: 0 date, 1 year, 2 month, 3 number -/
abbrev s__law_next : Stmt := top 38
abbrev N__law_next : List Str := ["date", "year", "month", "number"]
theorem sc__law_next : FnScope ["date", "year", "month", "number"] ["date"] (defScope s__law_next) := ⟨rfl, rfl, rfl, by decide +kernel, rfl, by decide +kernel, by decide +kernel⟩
abbrev t__law_next (K : PySem.W.Frag) (E : XK) : TS :=
  tSeq (tAsg (tVar 0) (gSq K 3 (gCons (gName 1) (gCons (gName 2) (gCons (gName 3) gNil)))))
    (tSeq (tIfS (tTest (tOp (uLt K) (tVar 3) (tKn (sp__law_length K) (tCons (tVar 1) (tCons (tVar 2) tNil))))) (tRet (tTup (tCons (tVar 1) (tCons (tVar 2) (tCons (tOp (uAdd K) (tVar 3) (tC (.int 1))) tNil))))) tNext)
    (tRet (tIf (tTest (tOp (uLt K) (tVar 2) (tC (.int 12)))) (tTup (tCons (tVar 1) (tCons (tOp (uAdd K) (tVar 2) (tC (.int 1))) (tCons (tC (.int 1)) tNil)))) (tTup (tCons (tOp (uAdd K) (tVar 1) (tC (.int 1))) (tCons (tC (.int 1)) (tCons (tC (.int 1)) tNil)))))))
theorem d__law_next {P : Program} {w : World} {K : PySem.W.Frag} {mg : Str → Option Value} {base : Heap} (T : Tx P K mg) (c__law_length : Kn P w K mg base 4 "_law_length" ["year", "month"] (sp__law_length K))
    {f : Addr} {cdv : Value} {A : Around} {outer : List Env} {s : Shared} {H : Hp} {E : XK} (hr : Room 4 (A.deeper (envOfC "_law_next" (defScope s__law_next) s.heap.objs.size f cdv))) :
    PSs (cxOf (L2.CX P w) P w K mg base ["date", "year", "month", "number"] "_law_next" (defScope s__law_next) f cdv A outer s H E) (defBody s__law_next) (t__law_next K E) := by
  have nd := sc__law_next.nd
  have hu0 := hu0_of hr
  have hu1 := hu_of hr
  have hu64 := hu64_of hr
  have hu65 := hu65_of hr
  exact pss_cons (ps_asg (pv 0) (pg_sq rfl (pgs_cons (pg_name (i := 1) nd rfl (Or.inl rfl)) (pgs_cons (pg_name (i := 2) nd rfl (Or.inl rfl)) (pgs_cons (pg_name (i := 3) nd rfl (Or.inl rfl)) pgs_nil)))))
      (pss_cons (ps_if (pt_cmpR (u_lt hu0) (pv 3) (pe_kn c__law_length hr (by decide) (by rfl) (pa_cons (pv 1) (pa_cons (pv 2) pa_nil))) (nomark _)) (pss_one (ps_ret (pe_tup (pa_cons (pv 1) (pa_cons (pv 2) (pa_cons (pe_op u_add (pv 3) pe_int) pa_nil)))))) pss_nil)
      (pss_one (ps_ret (pe_ifExp (pt_cmpR (u_lt hu0) (pv 2) pe_int (nomark _)) (pe_tup (pa_cons (pv 1) (pa_cons (pe_op u_add (pv 2) pe_int) (pa_cons pe_int pa_nil)))) (pe_tup (pa_cons (pe_op u_add (pv 1) pe_int) (pa_cons pe_int (pa_cons pe_int pa_nil))))))))
/-! _law_ask: 0 word, 1 day, 2 count, 3 named, 4 e -/
abbrev s__law_ask : Stmt := top 39
abbrev N__law_ask : List Str := ["word", "day", "count", "named", "e"]
theorem sc__law_ask : FnScope ["word", "day", "count", "named", "e"] ["word", "day", "count", "named"] (defScope s__law_ask) := ⟨rfl, rfl, rfl, by decide +kernel, rfl, by decide +kernel, by decide +kernel⟩
abbrev t__law_ask (K : PySem.W.Frag) (E : XK) : TS :=
  tTryM K (W0 E) (fun W => tSeq (tIfS (tTest (tOp (uEq K) (tVar 0) (tC (.str "year")))) (tRet (tLst (tCons (tC (.str "told")) (tCons (tIf (tTr K (tVar 3)) (tKk (sp_number_in_year K) g_number_in_year_day W (tCons (tVar 1) tNil)) (tKx (sp_number_in_year K) W (tCons (tVar 1) tNil))) tNil)))) tNext)
    (tSeq (tIfS (tTest (tOp (uEq K) (tVar 0) (tC (.str "month")))) (tRet (tLst (tCons (tC (.str "told")) (tCons (tIf (tTr K (tVar 3)) (tKk (sp_places_in_month K) g_places_in_month_day W (tCons (tVar 1) tNil)) (tKx (sp_places_in_month K) W (tCons (tVar 1) tNil))) tNil)))) tNext)
    (tRet (tLst (tCons (tC (.str "told")) (tCons (tIf (tTr K (tVar 3)) (tKk (sp_months_later K) g_months_later_count_day W (tCons (tVar 2) (tCons (tVar 1) tNil))) (tKx (sp_months_later K) W (tCons (tVar 1) (tCons (tVar 2) tNil)))) tNil)))))) [(.ref (He.ga K "InvalidDay"), some 4, (fun a cls d => tRet (tLst (tCons (tC (.str "day")) (tCons (tXg K a cls d "given" (tVar 4)) (tCons (tCB (rIsX K cls d a) (tCons (tVar 4) (tCons (tC (.ref (He.ga K "DueError"))) tNil))) tNil)))))),
   (.ref (He.ga K "InvalidCount"), some 4, (fun a cls d => tRet (tLst (tCons (tC (.str "count")) (tCons (tXg K a cls d "given" (tVar 4)) (tCons (tCB (rIsX K cls d a) (tCons (tVar 4) (tCons (tC (.ref (He.ga K "DueError"))) tNil))) tNil))))))]
theorem d__law_ask {P : Program} {w : World} {K : PySem.W.Frag} {mg : Str → Option Value} {base : Heap} (T : Tx P K mg) (c_months_later : Kn P w K mg base 7 "months_later" ["day", "count"] (sp_months_later K))
    (c_number_in_year : Kn P w K mg base 7 "number_in_year" ["day"] (sp_number_in_year K))
    (c_places_in_month : Kn P w K mg base 7 "places_in_month" ["day"] (sp_places_in_month K))
    (k_months_later_count_day : Kk P w K mg base 7 "months_later" ["day", "count"] ["count", "day"] g_months_later_count_day (sp_months_later K))
    (k_number_in_year_day : Kk P w K mg base 7 "number_in_year" ["day"] ["day"] g_number_in_year_day (sp_number_in_year K))
    (k_places_in_month_day : Kk P w K mg base 7 "places_in_month" ["day"] ["day"] g_places_in_month_day (sp_places_in_month K))
    {f : Addr} {cdv : Value} {A : Around} {outer : List Env} {s : Shared} {H : Hp} {E : XK} (hr : Room 7 (A.deeper (envOfC "_law_ask" (defScope s__law_ask) s.heap.objs.size f cdv))) :
    PSs (cxOf (L2.CX P w) P w K mg base ["word", "day", "count", "named", "e"] "_law_ask" (defScope s__law_ask) f cdv A outer s H E) (defBody s__law_ask) (t__law_ask K E) := by
  have nd := sc__law_ask.nd
  have hu0 := hu0_of hr
  have hu1 := hu_of hr
  have hu64 := hu64_of hr
  have hu65 := hu65_of hr
  exact pss_one (ps_try_manyA (Wout := (W0 E)) (tb := fun W => tSeq (tIfS (tTest (tOp (uEq K) (tVar 0) (tC (.str "year")))) (tRet (tLst (tCons (tC (.str "told")) (tCons (tIf (tTr K (tVar 3)) (tKk (sp_number_in_year K) g_number_in_year_day W (tCons (tVar 1) tNil)) (tKx (sp_number_in_year K) W (tCons (tVar 1) tNil))) tNil)))) tNext)
    (tSeq (tIfS (tTest (tOp (uEq K) (tVar 0) (tC (.str "month")))) (tRet (tLst (tCons (tC (.str "told")) (tCons (tIf (tTr K (tVar 3)) (tKk (sp_places_in_month K) g_places_in_month_day W (tCons (tVar 1) tNil)) (tKx (sp_places_in_month K) W (tCons (tVar 1) tNil))) tNil)))) tNext)
    (tRet (tLst (tCons (tC (.str "told")) (tCons (tIf (tTr K (tVar 3)) (tKk (sp_months_later K) g_months_later_count_day W (tCons (tVar 2) (tCons (tVar 1) tNil))) (tKx (sp_months_later K) W (tCons (tVar 1) (tCons (tVar 2) tNil)))) tNil)))))) rfl rfl (takes_of rfl rfl rfl rfl) (fun W pn xe tk po => pss_cons (ps_if (pt_cmpR (u_eq hu64) (pv 0) pe_str (nomark _)) (pss_one (ps_ret (pe_lst (pa_cons pe_str (pa_cons (pe_ifExp (pt_tr (pv 3) (by intro _; rfl)) (pe_kk k_number_in_year_day hr (by decide) tk (by rfl) (pk_cons (pv 1) pk_nil)) (pe_kx c_number_in_year hr (by decide) tk (by rfl) (pa_cons (pv 1) pa_nil))) pa_nil))))) pss_nil)
      (pss_cons (ps_if (pt_cmpR (u_eq hu64) (pv 0) pe_str (nomark _)) (pss_one (ps_ret (pe_lst (pa_cons pe_str (pa_cons (pe_ifExp (pt_tr (pv 3) (by intro _; rfl)) (pe_kk k_places_in_month_day hr (by decide) tk (by rfl) (pk_cons (pv 1) pk_nil)) (pe_kx c_places_in_month hr (by decide) tk (by rfl) (pa_cons (pv 1) pa_nil))) pa_nil))))) pss_nil)
      (pss_one (ps_ret (pe_lst (pa_cons pe_str (pa_cons (pe_ifExp (pt_tr (pv 3) (by intro _; rfl)) (pe_kk k_months_later_count_day hr (by decide) tk (by rfl) (pk_cons (pv 2) (pk_cons (pv 1) pk_nil))) (pe_kx c_months_later hr (by decide) tk (by rfl) (pa_cons (pv 1) (pa_cons (pv 2) pa_nil)))) pa_nil)))))))
   (HdsA.named nd rfl rfl T.nm_InvalidDay (ts := (fun a cls d => tRet (tLst (tCons (tC (.str "day")) (tCons (tXg K a cls d "given" (tVar 4)) (tCons (tCB (rIsX K cls d a) (tCons (tVar 4) (tCons (tC (.ref (He.ga K "DueError"))) tNil))) tNil)))))) (fun a oe cls d pn hz hf => pss_one (ps_ret (pe_lst (pa_cons pe_str (pa_cons (pe_xg hz hf (pv 4)) (pa_cons (pe_callB (call_isX hz hf) (by rfl) T.n_isinstance (by decide +kernel) (pa_cons (pv 4) (pa_cons (pe_cst (by rfl) T.r_DueError) pa_nil))) pa_nil))))))
   (HdsA.named nd rfl rfl T.nm_InvalidCount (ts := (fun a cls d => tRet (tLst (tCons (tC (.str "count")) (tCons (tXg K a cls d "given" (tVar 4)) (tCons (tCB (rIsX K cls d a) (tCons (tVar 4) (tCons (tC (.ref (He.ga K "DueError"))) tNil))) tNil)))))) (fun a oe cls d pn hz hf => pss_one (ps_ret (pe_lst (pa_cons pe_str (pa_cons (pe_xg hz hf (pv 4)) (pa_cons (pe_callB (call_isX hz hf) (by rfl) T.n_isinstance (by decide +kernel) (pa_cons (pv 4) (pa_cons (pe_cst (by rfl) T.r_DueError) pa_nil))) pa_nil))))))
   (HdsA.nil))))
/-! _law_day_of: 0 date, 1 past, 2 day, 3 one -/
abbrev s__law_day_of : Stmt := top 40
abbrev N__law_day_of : List Str := ["date", "past", "day", "one"]
theorem sc__law_day_of : FnScope ["date", "past", "day", "one"] ["date"] (defScope s__law_day_of) := ⟨rfl, rfl, rfl, by decide +kernel, rfl, by decide +kernel, by decide +kernel⟩
abbrev t__law_day_of (K : PySem.W.Frag) (E : XK) : TS :=
  tSeq (tPar 1 2 (tCons (tOp uSub (tOp (rIx K) (tVar 0) (tC (.int 0))) (tC (.int 2000))) (tCons (tOp uSub (tOp (rIx K) (tVar 0) (tC (.int 2))) (tC (.int 1))) tNil)))
    (tSeq (tFor (iRng1 (tCons (tOp uMod (tCB uInt (tCons (tVar 1) tNil)) (tC (.int 400))) tNil)) (gName 3) (tAsg (tOp (uAdd K) (tOp (uAdd K) (tVar 2) (tC (.int 365))) (tCB uInt (tCons (tKn (sp__law_leap K) (tCons (tVar 3) tNil)) tNil))) (gName 2)))
    (tRet (tOp (uAdd K) (tOp (uAdd K) (tOp uMul (tC (.int 146097)) (tOp uFdv (tVar 1) (tC (.int 400)))) (tVar 2)) (tCB (uSum K) (tCons (tLc (iRng2 (tCons (tC (.int 1)) (tCons (tOp (rIx K) (tVar 0) (tC (.int 1))) tNil))) (gName 3) tYes (tKn (sp__law_length K) (tCons (tOp (rIx K) (tVar 0) (tC (.int 0))) (tCons (tVar 3) tNil))) [3]) tNil)))))
theorem d__law_day_of {P : Program} {w : World} {K : PySem.W.Frag} {mg : Str → Option Value} {base : Heap} (T : Tx P K mg) (c__law_leap : Kn P w K mg base 3 "_law_leap" ["year"] (sp__law_leap K))
    (c__law_length : Kn P w K mg base 4 "_law_length" ["year", "month"] (sp__law_length K))
    {f : Addr} {cdv : Value} {A : Around} {outer : List Env} {s : Shared} {H : Hp} {E : XK} (hr : Room 4 (A.deeper (envOfC "_law_day_of" (defScope s__law_day_of) s.heap.objs.size f cdv))) :
    PSs (cxOf (L2.CX P w) P w K mg base ["date", "past", "day", "one"] "_law_day_of" (defScope s__law_day_of) f cdv A outer s H E) (defBody s__law_day_of) (t__law_day_of K E) := by
  have nd := sc__law_day_of.nd
  have hu0 := hu0_of hr
  have hu1 := hu_of hr
  have hu64 := hu64_of hr
  have hu65 := hu65_of hr
  exact pss_cons (ps_par rfl nd rfl rfl (by decide) rfl rfl (pa_cons (pe_op u_sub (pe_ix ix_seq (pv 0) pe_int (fun _ _ => rfl)) pe_int) (pa_cons (pe_op u_sub (pe_ix ix_seq (pv 0) pe_int (fun _ _ => rfl)) pe_int) pa_nil)) (by rfl))
      (pss_cons (ps_for (passes_of rfl) rfl (pi_range1 (by rfl) T.n_range (pa_cons (pe_op u_mod (pe_callTy c_int (by rfl) T.n_int (by decide +kernel) (pa_cons (pv 1) pa_nil)) pe_int) pa_nil)) (pg_name (i := 3) nd rfl (Or.inl rfl)) (pss_one (ps_asg (pe_op u_add (pe_op u_add (pv 2) pe_int) (pe_callTy c_int (by rfl) T.n_int (by decide +kernel) (pa_cons (pe_kn c__law_leap hr (by decide) (by rfl) (pa_cons (pv 3) pa_nil)) pa_nil))) (pg_name (i := 2) nd rfl (Or.inl rfl)))))
      (pss_one (ps_ret (pe_op u_add (pe_op u_add (pe_op u_mul pe_int (pe_op u_fdv (pv 1) pe_int)) (pv 2)) (pe_callB (c_sum rfl) (by rfl) T.n_sum (by decide +kernel) (pa_cons (pe_lc (own := [("one", 3)]) rfl nd (pi_range2 (by rfl) T.n_range (pa_cons pe_int (pa_cons (pe_ix ix_seq (pv 0) pe_int (fun _ _ => rfl)) pa_nil))) (blkOk_by (N := ["date", "past", "day", "one"]) (sc := defScope s__law_day_of) (own := [("one", 3)]) (by decide +kernel)) (fun _ _ _ _ _ => pg_name (i := 3) nd rfl (Or.inl rfl)) (fun _ _ _ _ _ => pts_nil) (fun _ _ _ _ _ => pe_kn c__law_length hr (by decide) (by rfl) (pa_cons (pe_ix ix_seq (pv 0) pe_int (fun _ _ => rfl)) (pa_cons (pv 3) pa_nil)))) pa_nil))))))
/-! _law_in_months: 0 date, 1 count, 2 months, 3 year, 4 month, 5 day -/
abbrev s__law_in_months : Stmt := top 41
abbrev N__law_in_months : List Str := ["date", "count", "months", "year", "month", "day"]
theorem sc__law_in_months : FnScope ["date", "count", "months", "year", "month", "day"] ["date", "count"] (defScope s__law_in_months) := ⟨rfl, rfl, rfl, by decide +kernel, rfl, by decide +kernel, by decide +kernel⟩
abbrev t__law_in_months (K : PySem.W.Frag) (E : XK) : TS :=
  tSeq (tAsg (tOp (uAdd K) (tOp uSub (tOp (uAdd K) (tOp uMul (tC (.int 12)) (tOp (rIx K) (tVar 0) (tC (.int 0)))) (tOp (rIx K) (tVar 0) (tC (.int 1)))) (tC (.int 1))) (tVar 1)) (gName 2))
    (tSeq (tPar 3 4 (tCons (tOp uFdv (tVar 2) (tC (.int 12))) (tCons (tOp (uAdd K) (tOp uMod (tCB uInt (tCons (tVar 2) tNil)) (tC (.int 12))) (tC (.int 1))) tNil)))
    (tSeq (tIfS (tTest (tOp (uLt K) (tVar 3) (tC (.int 2000)))) (tRet (tC .non)) tNext)
    (tSeq (tAsg (tKn (sp__law_day_of K) (tCons (tTup (tCons (tVar 3) (tCons (tVar 4) (tCons (tCB uMin (tCons (tOp (rIx K) (tVar 0) (tC (.int 2))) (tCons (tKn (sp__law_length K) (tCons (tVar 3) (tCons (tVar 4) tNil))) tNil))) tNil)))) tNil)) (gName 5))
    (tRet (tIf (tTest (tOp uLe (tVar 5) (tOp uPow (tC (.int 10)) (tC (.int 12))))) (tVar 5) (tC .non))))))
theorem d__law_in_months {P : Program} {w : World} {K : PySem.W.Frag} {mg : Str → Option Value} {base : Heap} (T : Tx P K mg) (c__law_day_of : Kn P w K mg base 5 "_law_day_of" ["date"] (sp__law_day_of K))
    (c__law_length : Kn P w K mg base 4 "_law_length" ["year", "month"] (sp__law_length K))
    {f : Addr} {cdv : Value} {A : Around} {outer : List Env} {s : Shared} {H : Hp} {E : XK} (hr : Room 5 (A.deeper (envOfC "_law_in_months" (defScope s__law_in_months) s.heap.objs.size f cdv))) :
    PSs (cxOf (L2.CX P w) P w K mg base ["date", "count", "months", "year", "month", "day"] "_law_in_months" (defScope s__law_in_months) f cdv A outer s H E) (defBody s__law_in_months) (t__law_in_months K E) := by
  have nd := sc__law_in_months.nd
  have hu0 := hu0_of hr
  have hu1 := hu_of hr
  have hu64 := hu64_of hr
  have hu65 := hu65_of hr
  exact pss_cons (ps_asg (pe_op u_add (pe_op u_sub (pe_op u_add (pe_op u_mul pe_int (pe_ix ix_seq (pv 0) pe_int (fun _ _ => rfl))) (pe_ix ix_seq (pv 0) pe_int (fun _ _ => rfl))) pe_int) (pv 1)) (pg_name (i := 2) nd rfl (Or.inl rfl)))
      (pss_cons (ps_par rfl nd rfl rfl (by decide) rfl rfl (pa_cons (pe_op u_fdv (pv 2) pe_int) (pa_cons (pe_op u_add (pe_op u_mod (pe_callTy c_int (by rfl) T.n_int (by decide +kernel) (pa_cons (pv 2) pa_nil)) pe_int) pe_int) pa_nil)) (by rfl))
      (pss_cons (ps_if (pt_cmpR (u_lt hu0) (pv 3) pe_int (nomark _)) (pss_one (ps_ret pe_non)) pss_nil)
      (pss_cons (ps_asg (pe_kn c__law_day_of hr (by decide) (by rfl) (pa_cons (pe_tup (pa_cons (pv 3) (pa_cons (pv 4) (pa_cons (pe_callB (c_min rfl) (by rfl) T.n_min (by decide +kernel) (pa_cons (pe_ix ix_seq (pv 0) pe_int (fun _ _ => rfl)) (pa_cons (pe_kn c__law_length hr (by decide) (by rfl) (pa_cons (pv 3) (pa_cons (pv 4) pa_nil))) pa_nil))) pa_nil)))) pa_nil)) (pg_name (i := 5) nd rfl (Or.inl rfl)))
      (pss_one (ps_ret (pe_ifExp (pt_cmpR u_le (pv 5) (pe_op u_pow pe_int pe_int) (nomark _)) (pv 5) pe_non))))))
/-! _law_day: 0 box, 1 way, 2 year, 3 month, 4 number -/
abbrev s__law_day : Stmt := top 42
abbrev N__law_day : List Str := ["box", "way", "year", "month", "number"]
theorem sc__law_day : FnScope ["box", "way", "year", "month", "number"] ["box"] (defScope s__law_day) := ⟨rfl, rfl, rfl, by decide +kernel, rfl, by decide +kernel, by decide +kernel⟩
abbrev t__law_day (K : PySem.W.Frag) (E : XK) : TS :=
  tSeq (tAsg (tKn (sp__law_take K) (tCons (tVar 0) (tCons (tC (.int 8)) tNil))) (gName 1))
    (tSeq (tIfS (tTest (tOp (uEq K) (tVar 1) (tC (.int 0)))) (tRet (tOp (rIx K) (tLst (tCons (tC (.int 0)) (tCons (tOp uPow (tC (.int 10)) (tC (.int 12))) (tCons (tOp uSub (tOp uPow (tC (.int 10)) (tC (.int 12))) (tKn (sp__law_take K) (tCons (tVar 0) (tCons (tC (.int 400)) tNil)))) (tCons (tKn (sp__law_take K) (tCons (tVar 0) (tCons (tC (.int 70)) tNil))) tNil))))) (tKn (sp__law_take K) (tCons (tVar 0) (tCons (tC (.int 4)) tNil))))) tNext)
    (tSeq (tIfS (tTest (tOp (uEq K) (tVar 1) (tC (.int 1)))) (tRet (tKn (sp__law_take K) (tCons (tVar 0) (tCons (tOp uPow (tC (.int 10)) (tC (.int 12))) tNil)))) tNext)
    (tSeq (tPar 2 3 (tCons (tOp (uAdd K) (tC (.int 2000)) (tOp (rIx K) (tLst (tCons (tKn (sp__law_take K) (tCons (tVar 0) (tCons (tC (.int 30)) tNil))) (tCons (tKn (sp__law_take K) (tCons (tVar 0) (tCons (tC (.int 420)) tNil))) (tCons (tKn (sp__law_take K) (tCons (tVar 0) (tCons (tOp uPow (tC (.int 10)) (tC (.int 9))) tNil))) tNil)))) (tKn (sp__law_take K) (tCons (tVar 0) (tCons (tC (.int 3)) tNil))))) (tCons (tOp (uAdd K) (tC (.int 1)) (tKn (sp__law_take K) (tCons (tVar 0) (tCons (tC (.int 12)) tNil)))) tNil)))
    (tSeq (tAsg (tOp (rIx K) (tLst (tCons (tC (.int 1)) (tCons (tKn (sp__law_length K) (tCons (tVar 2) (tCons (tVar 3) tNil))) (tCons (tC (.int 15)) (tCons (tCB uMin (tCons (tC (.int 29)) (tCons (tKn (sp__law_length K) (tCons (tVar 2) (tCons (tVar 3) tNil))) tNil))) (tCons (tOp (uAdd K) (tC (.int 1)) (tKn (sp__law_take K) (tCons (tVar 0) (tCons (tC (.int 28)) tNil)))) tNil)))))) (tKn (sp__law_take K) (tCons (tVar 0) (tCons (tC (.int 5)) tNil)))) (gName 4))
    (tRet (tKn (sp__law_day_of K) (tCons (tTup (tCons (tVar 2) (tCons (tVar 3) (tCons (tVar 4) tNil)))) tNil)))))))
theorem d__law_day {P : Program} {w : World} {K : PySem.W.Frag} {mg : Str → Option Value} {base : Heap} (T : Tx P K mg) (c__law_day_of : Kn P w K mg base 5 "_law_day_of" ["date"] (sp__law_day_of K))
    (c__law_length : Kn P w K mg base 4 "_law_length" ["year", "month"] (sp__law_length K))
    (c__law_take : Kn P w K mg base 3 "_law_take" ["box", "many"] (sp__law_take K))
    {f : Addr} {cdv : Value} {A : Around} {outer : List Env} {s : Shared} {H : Hp} {E : XK} (hr : Room 5 (A.deeper (envOfC "_law_day" (defScope s__law_day) s.heap.objs.size f cdv))) :
    PSs (cxOf (L2.CX P w) P w K mg base ["box", "way", "year", "month", "number"] "_law_day" (defScope s__law_day) f cdv A outer s H E) (defBody s__law_day) (t__law_day K E) := by
  have nd := sc__law_day.nd
  have hu0 := hu0_of hr
  have hu1 := hu_of hr
  have hu64 := hu64_of hr
  have hu65 := hu65_of hr
  exact pss_cons (ps_asg (pe_kn c__law_take hr (by decide) (by rfl) (pa_cons (pv 0) (pa_cons pe_int pa_nil))) (pg_name (i := 1) nd rfl (Or.inl rfl)))
      (pss_cons (ps_if (pt_cmpR (u_eq hu64) (pv 1) pe_int (nomark _)) (pss_one (ps_ret (pe_ix ix_seq (pe_lst (pa_cons pe_int (pa_cons (pe_op u_pow pe_int pe_int) (pa_cons (pe_op u_sub (pe_op u_pow pe_int pe_int) (pe_kn c__law_take hr (by decide) (by rfl) (pa_cons (pv 0) (pa_cons pe_int pa_nil)))) (pa_cons (pe_kn c__law_take hr (by decide) (by rfl) (pa_cons (pv 0) (pa_cons pe_int pa_nil))) pa_nil))))) (pe_kn c__law_take hr (by decide) (by rfl) (pa_cons (pv 0) (pa_cons pe_int pa_nil))) (fun _ _ => rfl)))) pss_nil)
      (pss_cons (ps_if (pt_cmpR (u_eq hu64) (pv 1) pe_int (nomark _)) (pss_one (ps_ret (pe_kn c__law_take hr (by decide) (by rfl) (pa_cons (pv 0) (pa_cons (pe_op u_pow pe_int pe_int) pa_nil))))) pss_nil)
      (pss_cons (ps_par rfl nd rfl rfl (by decide) rfl rfl (pa_cons (pe_op u_add pe_int (pe_ix ix_seq (pe_lst (pa_cons (pe_kn c__law_take hr (by decide) (by rfl) (pa_cons (pv 0) (pa_cons pe_int pa_nil))) (pa_cons (pe_kn c__law_take hr (by decide) (by rfl) (pa_cons (pv 0) (pa_cons pe_int pa_nil))) (pa_cons (pe_kn c__law_take hr (by decide) (by rfl) (pa_cons (pv 0) (pa_cons (pe_op u_pow pe_int pe_int) pa_nil))) pa_nil)))) (pe_kn c__law_take hr (by decide) (by rfl) (pa_cons (pv 0) (pa_cons pe_int pa_nil))) (fun _ _ => rfl))) (pa_cons (pe_op u_add pe_int (pe_kn c__law_take hr (by decide) (by rfl) (pa_cons (pv 0) (pa_cons pe_int pa_nil)))) pa_nil)) (by rfl))
      (pss_cons (ps_asg (pe_ix ix_seq (pe_lst (pa_cons pe_int (pa_cons (pe_kn c__law_length hr (by decide) (by rfl) (pa_cons (pv 2) (pa_cons (pv 3) pa_nil))) (pa_cons pe_int (pa_cons (pe_callB (c_min rfl) (by rfl) T.n_min (by decide +kernel) (pa_cons pe_int (pa_cons (pe_kn c__law_length hr (by decide) (by rfl) (pa_cons (pv 2) (pa_cons (pv 3) pa_nil))) pa_nil))) (pa_cons (pe_op u_add pe_int (pe_kn c__law_take hr (by decide) (by rfl) (pa_cons (pv 0) (pa_cons pe_int pa_nil)))) pa_nil)))))) (pe_kn c__law_take hr (by decide) (by rfl) (pa_cons (pv 0) (pa_cons pe_int pa_nil))) (fun _ _ => rfl)) (pg_name (i := 4) nd rfl (Or.inl rfl)))
      (pss_one (ps_ret (pe_kn c__law_day_of hr (by decide) (by rfl) (pa_cons (pe_tup (pa_cons (pv 2) (pa_cons (pv 3) (pa_cons (pv 4) pa_nil)))) pa_nil))))))))
/-! _law_told: 0 word, 1 day, 2 count, 3 due, 4 named, 5 way, 6 told -/
abbrev s__law_told : Stmt := top 43
abbrev N__law_told : List Str := ["word", "day", "count", "due", "named", "way", "told"]
theorem sc__law_told : FnScope ["word", "day", "count", "due", "named", "way", "told"] ["word", "day", "count", "due", "named"] (defScope s__law_told) := ⟨rfl, rfl, rfl, by decide +kernel, rfl, by decide +kernel, by decide +kernel⟩
abbrev t__law_told (K : PySem.W.Frag) (E : XK) : TS :=
  tSeq (tFor (iSeq K (tLst (tCons (tVar 4) (tCons (tNotV (tVar 4)) tNil)))) (gName 5) (tSeq (tAsg (tKn (sp__law_ask K) (tCons (tVar 0) (tCons (tVar 1) (tCons (tVar 2) (tCons (tVar 5) tNil))))) (gName 6))
    (tIfS (tOr (tTest (tOp (uNe K) (tOp (rIx K) (tVar 6) (tC (.int 0))) (tC (.str "told")))) (tNot (tTr K (tKn (sp__law_same K) (tCons (tOp (rIx K) (tVar 6) (tC (.int 1))) (tCons (tVar 3) tNil)))))) (tRet (tC (.bl false))) tNext)))
    (tRet (tC (.bl true)))
theorem d__law_told {P : Program} {w : World} {K : PySem.W.Frag} {mg : Str → Option Value} {base : Heap} (T : Tx P K mg) (c__law_ask : Kn P w K mg base 8 "_law_ask" ["word", "day", "count", "named"] (sp__law_ask K))
    (c__law_same : Kn P w K mg base 40 "_law_same" ["told", "due"] (sp__law_same K))
    {f : Addr} {cdv : Value} {A : Around} {outer : List Env} {s : Shared} {H : Hp} {E : XK} (hr : Room 40 (A.deeper (envOfC "_law_told" (defScope s__law_told) s.heap.objs.size f cdv))) :
    PSs (cxOf (L2.CX P w) P w K mg base ["word", "day", "count", "due", "named", "way", "told"] "_law_told" (defScope s__law_told) f cdv A outer s H E) (defBody s__law_told) (t__law_told K E) := by
  have nd := sc__law_told.nd
  have hu0 := hu0_of hr
  have hu1 := hu_of hr
  have hu64 := hu64_of hr
  have hu65 := hu65_of hr
  exact pss_cons (ps_for (passes_of rfl) rfl (pi_seq (pe_lst (pa_cons (pv 4) (pa_cons (pe_not (pv 4)) pa_nil)))) (pg_name (i := 5) nd rfl (Or.inl rfl)) (pss_cons (ps_asg (pe_kn c__law_ask hr (by decide) (by rfl) (pa_cons (pv 0) (pa_cons (pv 1) (pa_cons (pv 2) (pa_cons (pv 5) pa_nil))))) (pg_name (i := 6) nd rfl (Or.inl rfl)))
      (pss_one (ps_if (PW.pt (pw_or (pt_cmpR (u_ne hu64) (pe_ix ix_seq (pv 6) pe_int (fun _ _ => rfl)) pe_str (nomark _)) (pw_or1 (pt_not (pt_tr (pe_kn c__law_same hr (by decide) (by rfl) (pa_cons (pe_ix ix_seq (pv 6) pe_int (fun _ _ => rfl)) (pa_cons (pv 3) pa_nil))) (by intro _; rfl)))))) (pss_one (ps_ret pe_bl)) pss_nil))))
      (pss_one (ps_ret pe_bl))
/-! _law_places_right: 0 day, 1 named, 2 date, 3 length, 4 first, 5 alike, 6 nth, 7 due, 8 one -/
abbrev s__law_places_right : Stmt := top 44
abbrev N__law_places_right : List Str := ["day", "named", "date", "length", "first", "alike", "nth", "due", "one"]
theorem sc__law_places_right : FnScope ["day", "named", "date", "length", "first", "alike", "nth", "due", "one"] ["day", "named"] (defScope s__law_places_right) := ⟨rfl, rfl, rfl, by decide +kernel, rfl, by decide +kernel, by decide +kernel⟩
abbrev t__law_places_right (K : PySem.W.Frag) (E : XK) : TS :=
  tSeq (tAsg (tKn (sp__law_date K) (tCons (tVar 0) tNil)) (gName 2))
    (tSeq (tPar 3 4 (tCons (tKn (sp__law_length K) (tCons (tOp (rIx K) (tVar 2) (tC (.int 0))) (tCons (tOp (rIx K) (tVar 2) (tC (.int 1))) tNil))) (tCons (tOp (uAdd K) (tOp uSub (tVar 0) (tOp (rIx K) (tVar 2) (tC (.int 2)))) (tC (.int 1))) tNil)))
    (tSeq (tAsg (tLc (iRng2 (tCons (tVar 4) (tCons (tOp (uAdd K) (tVar 4) (tVar 3)) tNil))) (gName 8) (tTest (tOp (uEq K) (tOp uMod (tCB uInt (tCons (tOp uSub (tVar 8) (tVar 0)) tNil)) (tC (.int 7))) (tC (.int 0)))) (tVar 8) [8]) (gName 5))
    (tSeq (tAsg (tCB (uLen K) (tCons (tLc (iSeq K (tVar 5)) (gName 8) (tTest (tOp uLe (tVar 8) (tVar 0))) (tVar 8) [8]) tNil)) (gName 6))
    (tSeq (tAsg (tTup (tCons (tOp (rIx K) (tVar 2) (tC (.int 2))) (tCons (tOp uSub (tOp uSub (tOp (rIx K) (tVar 2) (tC (.int 2))) (tVar 3)) (tC (.int 1))) (tCons (tVar 6) (tCons (tOp uSub (tOp uSub (tVar 6) (tCB (uLen K) (tCons (tVar 5) tNil))) (tC (.int 1))) tNil))))) (gName 7))
    (tSeq (tIfS (tNot (tTr K (tKn (sp__law_told K) (tCons (tC (.str "month")) (tCons (tVar 0) (tCons (tC .non) (tCons (tVar 7) (tCons (tVar 1) tNil)))))))) (tRet (tC (.bl false))) tNext)
    (tRet (tKn (sp__law_told K) (tCons (tC (.str "year")) (tCons (tVar 0) (tCons (tC .non) (tCons (tOp (uAdd K) (tOp uSub (tVar 0) (tKn (sp__law_day_of K) (tCons (tTup (tCons (tOp (rIx K) (tVar 2) (tC (.int 0))) (tCons (tC (.int 1)) (tCons (tC (.int 1)) tNil)))) tNil))) (tC (.int 1))) (tCons (tNotV (tVar 1)) tNil))))))))))))
theorem d__law_places_right {P : Program} {w : World} {K : PySem.W.Frag} {mg : Str → Option Value} {base : Heap} (T : Tx P K mg) (c__law_date : Kn P w K mg base 5 "_law_date" ["day"] (sp__law_date K))
    (c__law_day_of : Kn P w K mg base 5 "_law_day_of" ["date"] (sp__law_day_of K))
    (c__law_length : Kn P w K mg base 4 "_law_length" ["year", "month"] (sp__law_length K))
    (c__law_told : Kn P w K mg base 41 "_law_told" ["word", "day", "count", "due", "named"] (sp__law_told K))
    {f : Addr} {cdv : Value} {A : Around} {outer : List Env} {s : Shared} {H : Hp} {E : XK} (hr : Room 41 (A.deeper (envOfC "_law_places_right" (defScope s__law_places_right) s.heap.objs.size f cdv))) :
    PSs (cxOf (L2.CX P w) P w K mg base ["day", "named", "date", "length", "first", "alike", "nth", "due", "one"] "_law_places_right" (defScope s__law_places_right) f cdv A outer s H E) (defBody s__law_places_right) (t__law_places_right K E) := by
  have nd := sc__law_places_right.nd
  have hu0 := hu0_of hr
  have hu1 := hu_of hr
  have hu64 := hu64_of hr
  have hu65 := hu65_of hr
  exact pss_cons (ps_asg (pe_kn c__law_date hr (by decide) (by rfl) (pa_cons (pv 0) pa_nil)) (pg_name (i := 2) nd rfl (Or.inl rfl)))
      (pss_cons (ps_par rfl nd rfl rfl (by decide) rfl rfl (pa_cons (pe_kn c__law_length hr (by decide) (by rfl) (pa_cons (pe_ix ix_seq (pv 2) pe_int (fun _ _ => rfl)) (pa_cons (pe_ix ix_seq (pv 2) pe_int (fun _ _ => rfl)) pa_nil))) (pa_cons (pe_op u_add (pe_op u_sub (pv 0) (pe_ix ix_seq (pv 2) pe_int (fun _ _ => rfl))) pe_int) pa_nil)) (by rfl))
      (pss_cons (ps_setLc (i := 5) (own := [("one", 8)]) rfl nd rfl rfl (sw_true rfl rfl rfl (by decide +kernel)) (pi_range2 (by rfl) T.n_range (pa_cons (pv 4) (pa_cons (pe_op u_add (pv 4) (pv 3)) pa_nil))) (blkOk_by (N := ["day", "named", "date", "length", "first", "alike", "nth", "due", "one"]) (sc := defScope s__law_places_right) (own := [("one", 8)]) (by decide +kernel)) (fun _ _ _ _ _ => pg_name (i := 8) nd rfl (Or.inl rfl)) (fun _ _ _ _ _ => pts_one (pt_cmpR (u_eq hu64) (pe_op u_mod (pe_callTy c_int (by rfl) T.n_int (by decide +kernel) (pa_cons (pe_op u_sub (pv 8) (pv 0)) pa_nil)) pe_int) pe_int (nomark _))) (fun _ _ _ _ _ => pv 8))
      (pss_cons (ps_asg (pe_callB c_len (by rfl) T.n_len (by decide +kernel) (pa_cons (pe_lc (own := [("one", 8)]) rfl nd (pi_seq (pv 5)) (blkOk_by (N := ["day", "named", "date", "length", "first", "alike", "nth", "due", "one"]) (sc := defScope s__law_places_right) (own := [("one", 8)]) (by decide +kernel)) (fun _ _ _ _ _ => pg_name (i := 8) nd rfl (Or.inl rfl)) (fun _ _ _ _ _ => pts_one (pt_cmpR u_le (pv 8) (pv 0) (nomark _))) (fun _ _ _ _ _ => pv 8)) pa_nil)) (pg_name (i := 6) nd rfl (Or.inl rfl)))
      (pss_cons (ps_asg (pe_tup (pa_cons (pe_ix ix_seq (pv 2) pe_int (fun _ _ => rfl)) (pa_cons (pe_op u_sub (pe_op u_sub (pe_ix ix_seq (pv 2) pe_int (fun _ _ => rfl)) (pv 3)) pe_int) (pa_cons (pv 6) (pa_cons (pe_op u_sub (pe_op u_sub (pv 6) (pe_callB c_len (by rfl) T.n_len (by decide +kernel) (pa_cons (pv 5) pa_nil))) pe_int) pa_nil))))) (pg_name (i := 7) nd rfl (Or.inl rfl)))
      (pss_cons (ps_if (pt_not (pt_tr (pe_kn c__law_told hr (by decide) (by rfl) (pa_cons pe_str (pa_cons (pv 0) (pa_cons pe_non (pa_cons (pv 7) (pa_cons (pv 1) pa_nil)))))) (by intro _; rfl))) (pss_one (ps_ret pe_bl)) pss_nil)
      (pss_one (ps_ret (pe_kn c__law_told hr (by decide) (by rfl) (pa_cons pe_str (pa_cons (pv 0) (pa_cons pe_non (pa_cons (pe_op u_add (pe_op u_sub (pv 0) (pe_kn c__law_day_of hr (by decide) (by rfl) (pa_cons (pe_tup (pa_cons (pe_ix ix_seq (pv 2) pe_int (fun _ _ => rfl)) (pa_cons pe_int (pa_cons pe_int pa_nil)))) pa_nil))) pe_int) (pa_cons (pe_not (pv 1)) pa_nil)))))))))))))
/-! _law_months_right: 0 box, 1 day, 2 named, 3 date, 4 back, 5 counts, 6 count, 7 due, 8 told, 9 turn -/
abbrev s__law_months_right : Stmt := top 45
abbrev N__law_months_right : List Str := ["box", "day", "named", "date", "back", "counts", "count", "due", "told", "turn"]
theorem sc__law_months_right : FnScope ["box", "day", "named", "date", "back", "counts", "count", "due", "told", "turn"] ["box", "day", "named"] (defScope s__law_months_right) := ⟨rfl, rfl, rfl, by decide +kernel, rfl, by decide +kernel, by decide +kernel⟩
abbrev t__law_months_right (K : PySem.W.Frag) (E : XK) : TS :=
  tSeq (tAsg (tKn (sp__law_date K) (tCons (tVar 1) tNil)) (gName 3))
    (tSeq (tAsg (tOp uSub (tOp (uAdd K) (tOp uMul (tC (.int 12)) (tOp uSub (tOp (rIx K) (tVar 3) (tC (.int 0))) (tC (.int 2000)))) (tOp (rIx K) (tVar 3) (tC (.int 1)))) (tC (.int 1))) (gName 4))
    (tSeq (tAsg (tLst (tCons (tC (.int 0)) (tCons (tC (.int 1)) (tCons (tUn uNeg (tC (.int 1))) (tCons (tC (.int 12)) (tCons (tUn uNeg (tC (.int 12))) (tCons (tC (.int 4800)) (tCons (tOp uSub (tKn (sp__law_take K) (tCons (tVar 0) (tCons (tC (.int 60)) tNil))) (tC (.int 30))) (tCons (tOp uSub (tKn (sp__law_take K) (tCons (tVar 0) (tCons (tC (.int 200001)) tNil))) (tC (.int 100000))) tNil))))))))) (gName 5))
    (tSeq (tAsg (tOp (uAdd K) (tVar 5) (tLst (tCons (tUn uNeg (tCB uMin (tCons (tVar 4) (tCons (tC (.int 100000)) tNil)))) (tCons (tUn uNeg (tCB uMin (tCons (tOp (uAdd K) (tVar 4) (tC (.int 1))) (tCons (tC (.int 100000)) tNil)))) (tCons (tC (.int 100000)) (tCons (tUn uNeg (tC (.int 100000))) tNil)))))) (gName 5))
    (tSeq (tFor (iSeq K (tLc (iRng1 (tCons (tC (.int 5)) tNil)) (gName 9) tYes (tOp (rIx K) (tVar 5) (tKn (sp__law_take K) (tCons (tVar 0) (tCons (tC (.int 12)) tNil)))) [9])) (gName 6) (tSeq (tAsg (tKn (sp__law_in_months K) (tCons (tVar 3) (tCons (tVar 6) tNil))) (gName 7))
    (tIfS (tTest (tOp uIs (tVar 7) (tC .non))) (tSeq (tAsg (tKn (sp__law_ask K) (tCons (tC (.str "later")) (tCons (tVar 1) (tCons (tVar 6) (tCons (tVar 2) tNil))))) (gName 8))
    (tIfS (tOr (tTest (tOp (uNe K) (tOp (rIx K) (tVar 8) (tC (.int 0))) (tC (.str "count")))) (tOr (tTest (tOp uIsn (tOp (rIx K) (tVar 8) (tC (.int 2))) (tC (.bl true)))) (tNot (tTr K (tKn (sp__law_same K) (tCons (tOp (rIx K) (tVar 8) (tC (.int 1))) (tCons (tVar 6) tNil))))))) (tRet (tC (.bl false))) tNext)) (tIfS (tNot (tTr K (tKn (sp__law_told K) (tCons (tC (.str "later")) (tCons (tVar 1) (tCons (tVar 6) (tCons (tVar 7) (tCons (tVar 2) tNil)))))))) (tRet (tC (.bl false))) (tIfS (tAnd (tTest (tOp (uEq K) (tOp (rIx K) (tKn (sp__law_date K) (tCons (tVar 7) tNil)) (tC (.int 2))) (tOp (rIx K) (tVar 3) (tC (.int 2))))) (tNot (tTr K (tKn (sp__law_told K) (tCons (tC (.str "later")) (tCons (tVar 7) (tCons (tUn uNeg (tVar 6)) (tCons (tVar 1) (tCons (tNotV (tVar 2)) tNil))))))))) (tRet (tC (.bl false))) tNext)))))
    (tRet (tC (.bl true)))))))
theorem d__law_months_right {P : Program} {w : World} {K : PySem.W.Frag} {mg : Str → Option Value} {base : Heap} (T : Tx P K mg) (c__law_ask : Kn P w K mg base 8 "_law_ask" ["word", "day", "count", "named"] (sp__law_ask K))
    (c__law_date : Kn P w K mg base 5 "_law_date" ["day"] (sp__law_date K))
    (c__law_in_months : Kn P w K mg base 6 "_law_in_months" ["date", "count"] (sp__law_in_months K))
    (c__law_same : Kn P w K mg base 40 "_law_same" ["told", "due"] (sp__law_same K))
    (c__law_take : Kn P w K mg base 3 "_law_take" ["box", "many"] (sp__law_take K))
    (c__law_told : Kn P w K mg base 41 "_law_told" ["word", "day", "count", "due", "named"] (sp__law_told K))
    {f : Addr} {cdv : Value} {A : Around} {outer : List Env} {s : Shared} {H : Hp} {E : XK} (hr : Room 41 (A.deeper (envOfC "_law_months_right" (defScope s__law_months_right) s.heap.objs.size f cdv))) :
    PSs (cxOf (L2.CX P w) P w K mg base ["box", "day", "named", "date", "back", "counts", "count", "due", "told", "turn"] "_law_months_right" (defScope s__law_months_right) f cdv A outer s H E) (defBody s__law_months_right) (t__law_months_right K E) := by
  have nd := sc__law_months_right.nd
  have hu0 := hu0_of hr
  have hu1 := hu_of hr
  have hu64 := hu64_of hr
  have hu65 := hu65_of hr
  exact pss_cons (ps_asg (pe_kn c__law_date hr (by decide) (by rfl) (pa_cons (pv 1) pa_nil)) (pg_name (i := 3) nd rfl (Or.inl rfl)))
      (pss_cons (ps_asg (pe_op u_sub (pe_op u_add (pe_op u_mul pe_int (pe_op u_sub (pe_ix ix_seq (pv 3) pe_int (fun _ _ => rfl)) pe_int)) (pe_ix ix_seq (pv 3) pe_int (fun _ _ => rfl))) pe_int) (pg_name (i := 4) nd rfl (Or.inl rfl)))
      (pss_cons (ps_asg (pe_lst (pa_cons pe_int (pa_cons pe_int (pa_cons (pe_un u_neg pe_int) (pa_cons pe_int (pa_cons (pe_un u_neg pe_int) (pa_cons pe_int (pa_cons (pe_op u_sub (pe_kn c__law_take hr (by decide) (by rfl) (pa_cons (pv 0) (pa_cons pe_int pa_nil))) pe_int) (pa_cons (pe_op u_sub (pe_kn c__law_take hr (by decide) (by rfl) (pa_cons (pv 0) (pa_cons pe_int pa_nil))) pe_int) pa_nil))))))))) (pg_name (i := 5) nd rfl (Or.inr rfl)))
      (pss_cons (ps_asg (pe_op u_add (pv 5) (pe_lst (pa_cons (pe_un u_neg (pe_callB (c_min rfl) (by rfl) T.n_min (by decide +kernel) (pa_cons (pv 4) (pa_cons pe_int pa_nil)))) (pa_cons (pe_un u_neg (pe_callB (c_min rfl) (by rfl) T.n_min (by decide +kernel) (pa_cons (pe_op u_add (pv 4) pe_int) (pa_cons pe_int pa_nil)))) (pa_cons pe_int (pa_cons (pe_un u_neg pe_int) pa_nil)))))) (pg_name (i := 5) nd rfl (Or.inr rfl)))
      (pss_cons (ps_for (passes_of rfl) rfl (pi_seq (pe_lc (own := [("turn", 9)]) rfl nd (pi_range1 (by rfl) T.n_range (pa_cons pe_int pa_nil)) (blkOk_by (N := ["box", "day", "named", "date", "back", "counts", "count", "due", "told", "turn"]) (sc := defScope s__law_months_right) (own := [("turn", 9)]) (by decide +kernel)) (fun _ _ _ _ _ => pg_name (i := 9) nd rfl (Or.inl rfl)) (fun _ _ _ _ _ => pts_nil) (fun _ _ _ _ _ => pe_ix ix_seq (pv 5) (pe_kn c__law_take hr (by decide) (by rfl) (pa_cons (pv 0) (pa_cons pe_int pa_nil))) (fun _ _ => rfl)))) (pg_name (i := 6) nd rfl (Or.inl rfl)) (pss_cons (ps_asg (pe_kn c__law_in_months hr (by decide) (by rfl) (pa_cons (pv 3) (pa_cons (pv 6) pa_nil))) (pg_name (i := 7) nd rfl (Or.inl rfl)))
      (pss_one (ps_if (pt_cmpR u_is (pv 7) pe_non (nomark _)) (pss_cons (ps_asg (pe_kn c__law_ask hr (by decide) (by rfl) (pa_cons pe_str (pa_cons (pv 1) (pa_cons (pv 6) (pa_cons (pv 2) pa_nil))))) (pg_name (i := 8) nd rfl (Or.inl rfl)))
      (pss_one (ps_if (PW.pt (pw_or (pt_cmpR (u_ne hu64) (pe_ix ix_seq (pv 8) pe_int (fun _ _ => rfl)) pe_str (nomark _)) (pw_or (pt_cmpR u_isn (pe_ix ix_seq (pv 8) pe_int (fun _ _ => rfl)) pe_bl (nomark _)) (pw_or1 (pt_not (pt_tr (pe_kn c__law_same hr (by decide) (by rfl) (pa_cons (pe_ix ix_seq (pv 8) pe_int (fun _ _ => rfl)) (pa_cons (pv 6) pa_nil))) (by intro _; rfl))))))) (pss_one (ps_ret pe_bl)) pss_nil))) (pss_one (ps_if (pt_not (pt_tr (pe_kn c__law_told hr (by decide) (by rfl) (pa_cons pe_str (pa_cons (pv 1) (pa_cons (pv 6) (pa_cons (pv 7) (pa_cons (pv 2) pa_nil)))))) (by intro _; rfl))) (pss_one (ps_ret pe_bl)) (pss_one (ps_if (PW.pt (pw_and (pt_cmpR (u_eq hu64) (pe_ix ix_seq (pe_kn c__law_date hr (by decide) (by rfl) (pa_cons (pv 7) pa_nil)) pe_int (fun _ _ => rfl)) (pe_ix ix_seq (pv 3) pe_int (fun _ _ => rfl)) (nomark _)) (pw_and1 (pt_not (pt_tr (pe_kn c__law_told hr (by decide) (by rfl) (pa_cons pe_str (pa_cons (pv 7) (pa_cons (pe_un u_neg (pv 6)) (pa_cons (pv 1) (pa_cons (pe_not (pv 2)) pa_nil)))))) (by intro _; rfl)))))) (pss_one (ps_ret pe_bl)) pss_nil))))))))
      (pss_one (ps_ret pe_bl))))))
/-! _law_no_number: 0 box, 1 low, 2 high, 3 odd -/
abbrev s__law_no_number : Stmt := top 46
abbrev N__law_no_number : List Str := ["box", "low", "high", "odd"]
theorem sc__law_no_number : FnScope ["box", "low", "high", "odd"] ["box", "low", "high"] (defScope s__law_no_number) := ⟨rfl, rfl, rfl, by decide +kernel, rfl, by decide +kernel, by decide +kernel⟩
abbrev t__law_no_number (K : PySem.W.Frag) (E : XK) : TS :=
  tSeq (tAsg (tLst (tCons (tOp uSub (tVar 1) (tC (.int 1))) (tCons (tOp (uAdd K) (tVar 2) (tC (.int 1))) (tCons (tC .non) (tCons (tC (.bl true)) (tCons (tC (.str "5")) (tCons (tLst (tCons (tC (.int 5)) tNil)) (tCons (tTup (tCons (tC (.int 5)) tNil)) (tCons (tDisp ((tC (.str "a"), tC (.int 1)) :: ([]))) (tCons (tOp uPow (tC (.int 10)) (tC (.int 29))) (tCons (tUn uNeg (tOp uPow (tC (.int 10)) (tC (.int 29)))) tNil))))))))))) (gName 3))
    (tRet (tOp (rIx K) (tVar 3) (tKn (sp__law_take K) (tCons (tVar 0) (tCons (tC (.int 10)) tNil)))))
theorem d__law_no_number {P : Program} {w : World} {K : PySem.W.Frag} {mg : Str → Option Value} {base : Heap} (T : Tx P K mg) (c__law_take : Kn P w K mg base 3 "_law_take" ["box", "many"] (sp__law_take K))
    {f : Addr} {cdv : Value} {A : Around} {outer : List Env} {s : Shared} {H : Hp} {E : XK} (hr : Room 3 (A.deeper (envOfC "_law_no_number" (defScope s__law_no_number) s.heap.objs.size f cdv))) :
    PSs (cxOf (L2.CX P w) P w K mg base ["box", "low", "high", "odd"] "_law_no_number" (defScope s__law_no_number) f cdv A outer s H E) (defBody s__law_no_number) (t__law_no_number K E) := by
  have nd := sc__law_no_number.nd
  have hu0 := hu0_of hr
  have hu1 := hu_of hr
  have hu64 := hu64_of hr
  have hu65 := hu65_of hr
  exact pss_cons (ps_asg (pe_lst (pa_cons (pe_op u_sub (pv 1) pe_int) (pa_cons (pe_op u_add (pv 2) pe_int) (pa_cons pe_non (pa_cons pe_bl (pa_cons pe_str (pa_cons (pe_lst (pa_cons pe_int pa_nil)) (pa_cons (pe_tup (pa_cons pe_int pa_nil)) (pa_cons (pe_disp (pps_cons pe_str pe_int pps_nil) (by rfl) (by rfl) (fun z => by cases z) (by decide)) (pa_cons (pe_op u_pow pe_int pe_int) (pa_cons (pe_un u_neg (pe_op u_pow pe_int pe_int)) pa_nil))))))))))) (pg_name (i := 3) nd rfl (Or.inl rfl)))
      (pss_one (ps_ret (pe_ix ix_seq (pv 3) (pe_kn c__law_take hr (by decide) (by rfl) (pa_cons (pv 0) (pa_cons pe_int pa_nil))) (fun _ _ => rfl))))
/-! _law_refused: 0 box, 1 day, 2 named, 3 turn, 4 count, 5 asked, 6 word, 7 one, 8 more, 9 error, 10 at, 11 told -/
abbrev s__law_refused : Stmt := top 47
abbrev N__law_refused : List Str := ["box", "day", "named", "turn", "count", "asked", "word", "one", "more", "error", "at", "told"]
theorem sc__law_refused : FnScope ["box", "day", "named", "turn", "count", "asked", "word", "one", "more", "error", "at", "told"] ["box", "day", "named"] (defScope s__law_refused) := ⟨rfl, rfl, rfl, by decide +kernel, rfl, by decide +kernel, by decide +kernel⟩
abbrev t__law_refused (K : PySem.W.Frag) (E : XK) : TS :=
  tSeq (tFor (iRng1 (tCons (tC (.int 3)) tNil)) (gName 3) (tSeq (tAsg (tKn (sp__law_no_number K) (tCons (tVar 0) (tCons (tUn uNeg (tC (.int 100000))) (tCons (tC (.int 100000)) tNil)))) (gName 4))
    (tSeq (tAsg (tLst (tCons (tLst (tCons (tC (.str "year")) (tCons (tKn (sp__law_no_number K) (tCons (tVar 0) (tCons (tC (.int 0)) (tCons (tOp uPow (tC (.int 10)) (tC (.int 12))) tNil)))) (tCons (tC .non) (tCons (tC (.str "day")) (tCons (tC (.int 0)) tNil)))))) (tCons (tLst (tCons (tC (.str "month")) (tCons (tKn (sp__law_no_number K) (tCons (tVar 0) (tCons (tC (.int 0)) (tCons (tOp uPow (tC (.int 10)) (tC (.int 12))) tNil)))) (tCons (tC .non) (tCons (tC (.str "day")) (tCons (tC (.int 0)) tNil)))))) tNil))) (gName 5))
    (tSeq (tAsg (tOp (uAdd K) (tVar 5) (tLst (tCons (tLst (tCons (tC (.str "later")) (tCons (tKn (sp__law_no_number K) (tCons (tVar 0) (tCons (tC (.int 0)) (tCons (tOp uPow (tC (.int 10)) (tC (.int 12))) tNil)))) (tCons (tOp (rIx K) (tLst (tCons (tC (.int 0)) (tCons (tC (.str "1")) tNil))) (tKn (sp__law_take K) (tCons (tVar 0) (tCons (tC (.int 2)) tNil)))) (tCons (tC (.str "day")) (tCons (tC (.int 0)) tNil)))))) (tCons (tLst (tCons (tC (.str "later")) (tCons (tVar 1) (tCons (tVar 4) (tCons (tC (.str "count")) (tCons (tC (.int 1)) tNil)))))) tNil)))) (gName 5))
    (tFor (iSeq K (tVar 5)) (gSq K 5 (gCons (gName 6) (gCons (gName 7) (gCons (gName 8) (gCons (gName 9) (gCons (gName 10) gNil)))))) (tSeq (tAsg (tKn (sp__law_ask K) (tCons (tVar 6) (tCons (tVar 7) (tCons (tVar 8) (tCons (tIf (tTest (tOp (uEq K) (tVar 3) (tC (.int 0)))) (tVar 2) (tNotV (tVar 2))) tNil))))) (gName 11))
    (tIfS (tOr (tTest (tOp (uNe K) (tOp (rIx K) (tVar 11) (tC (.int 0))) (tVar 9))) (tOr (tTest (tOp uIsn (tOp (rIx K) (tVar 11) (tC (.int 2))) (tC (.bl true)))) (tNot (tTr K (tKn (sp__law_very K) (tCons (tOp (rIx K) (tVar 11) (tC (.int 1))) (tCons (tOp (rIx K) (tLst (tCons (tVar 7) (tCons (tVar 8) tNil))) (tVar 10)) tNil))))))) (tRet (tC (.bl false))) tNext)))))))
    (tRet (tC (.bl true)))
theorem d__law_refused {P : Program} {w : World} {K : PySem.W.Frag} {mg : Str → Option Value} {base : Heap} (T : Tx P K mg) (c__law_ask : Kn P w K mg base 8 "_law_ask" ["word", "day", "count", "named"] (sp__law_ask K))
    (c__law_no_number : Kn P w K mg base 4 "_law_no_number" ["box", "low", "high"] (sp__law_no_number K))
    (c__law_take : Kn P w K mg base 3 "_law_take" ["box", "many"] (sp__law_take K))
    (c__law_very : Kn P w K mg base 41 "_law_very" ["given", "value"] (sp__law_very K))
    {f : Addr} {cdv : Value} {A : Around} {outer : List Env} {s : Shared} {H : Hp} {E : XK} (hr : Room 41 (A.deeper (envOfC "_law_refused" (defScope s__law_refused) s.heap.objs.size f cdv))) :
    PSs (cxOf (L2.CX P w) P w K mg base ["box", "day", "named", "turn", "count", "asked", "word", "one", "more", "error", "at", "told"] "_law_refused" (defScope s__law_refused) f cdv A outer s H E) (defBody s__law_refused) (t__law_refused K E) := by
  have nd := sc__law_refused.nd
  have hu0 := hu0_of hr
  have hu1 := hu_of hr
  have hu64 := hu64_of hr
  have hu65 := hu65_of hr
  exact pss_cons (ps_for (passes_of rfl) rfl (pi_range1 (by rfl) T.n_range (pa_cons pe_int pa_nil)) (pg_name (i := 3) nd rfl (Or.inl rfl)) (pss_cons (ps_asg (pe_kn c__law_no_number hr (by decide) (by rfl) (pa_cons (pv 0) (pa_cons (pe_un u_neg pe_int) (pa_cons pe_int pa_nil)))) (pg_name (i := 4) nd rfl (Or.inl rfl)))
      (pss_cons (ps_asg (pe_lst (pa_cons (pe_lst (pa_cons pe_str (pa_cons (pe_kn c__law_no_number hr (by decide) (by rfl) (pa_cons (pv 0) (pa_cons pe_int (pa_cons (pe_op u_pow pe_int pe_int) pa_nil)))) (pa_cons pe_non (pa_cons pe_str (pa_cons pe_int pa_nil)))))) (pa_cons (pe_lst (pa_cons pe_str (pa_cons (pe_kn c__law_no_number hr (by decide) (by rfl) (pa_cons (pv 0) (pa_cons pe_int (pa_cons (pe_op u_pow pe_int pe_int) pa_nil)))) (pa_cons pe_non (pa_cons pe_str (pa_cons pe_int pa_nil)))))) pa_nil))) (pg_name (i := 5) nd rfl (Or.inl rfl)))
      (pss_cons (ps_asg (pe_op u_add (pv 5) (pe_lst (pa_cons (pe_lst (pa_cons pe_str (pa_cons (pe_kn c__law_no_number hr (by decide) (by rfl) (pa_cons (pv 0) (pa_cons pe_int (pa_cons (pe_op u_pow pe_int pe_int) pa_nil)))) (pa_cons (pe_ix ix_seq (pe_lst (pa_cons pe_int (pa_cons pe_str pa_nil))) (pe_kn c__law_take hr (by decide) (by rfl) (pa_cons (pv 0) (pa_cons pe_int pa_nil))) (fun _ _ => rfl)) (pa_cons pe_str (pa_cons pe_int pa_nil)))))) (pa_cons (pe_lst (pa_cons pe_str (pa_cons (pv 1) (pa_cons (pv 4) (pa_cons pe_str (pa_cons pe_int pa_nil)))))) pa_nil)))) (pg_name (i := 5) nd rfl (Or.inl rfl)))
      (pss_one (ps_for (passes_of rfl) rfl (pi_seq (pv 5)) (pg_sq rfl (pgs_cons (pg_name (i := 6) nd rfl (Or.inl rfl)) (pgs_cons (pg_name (i := 7) nd rfl (Or.inl rfl)) (pgs_cons (pg_name (i := 8) nd rfl (Or.inl rfl)) (pgs_cons (pg_name (i := 9) nd rfl (Or.inl rfl)) (pgs_cons (pg_name (i := 10) nd rfl (Or.inl rfl)) pgs_nil)))))) (pss_cons (ps_asg (pe_kn c__law_ask hr (by decide) (by rfl) (pa_cons (pv 6) (pa_cons (pv 7) (pa_cons (pv 8) (pa_cons (pe_ifExp (pt_cmpR (u_eq hu64) (pv 3) pe_int (nomark _)) (pv 2) (pe_not (pv 2))) pa_nil))))) (pg_name (i := 11) nd rfl (Or.inl rfl)))
      (pss_one (ps_if (PW.pt (pw_or (pt_cmpR (u_ne hu64) (pe_ix ix_seq (pv 11) pe_int (fun _ _ => rfl)) (pv 9) (nomark _)) (pw_or (pt_cmpR u_isn (pe_ix ix_seq (pv 11) pe_int (fun _ _ => rfl)) pe_bl (nomark _)) (pw_or1 (pt_not (pt_tr (pe_kn c__law_very hr (by decide) (by rfl) (pa_cons (pe_ix ix_seq (pv 11) pe_int (fun _ _ => rfl)) (pa_cons (pe_ix ix_seq (pe_lst (pa_cons (pv 7) (pa_cons (pv 8) pa_nil))) (pv 10) (fun _ _ => rfl)) pa_nil))) (by intro _; rfl))))))) (pss_one (ps_ret pe_bl)) pss_nil)))))))))
      (pss_one (ps_ret pe_bl))
/-! law: 0 script, 1 k, 2 box, 3 named, 4 turn, 5 day, 6 one -/
abbrev s_law : Stmt := top 48
abbrev N_law : List Str := ["script", "k", "box", "named", "turn", "day", "one"]
theorem sc_law : FnScope ["script", "k", "box", "named", "turn", "day", "one"] ["script"] (defScope s_law) := ⟨rfl, rfl, rfl, by decide +kernel, rfl, by decide +kernel, by decide +kernel⟩
abbrev t_law (K : PySem.W.Frag) (E : XK) : TS :=
  tSeq (tFor (iRng1 (tCons (tCB uMax (tCons (tC (.int 1)) (tCons (tCB uMin (tCons (tC (.int 3)) (tCons (tCB (uLen K) (tCons (tVar 0) tNil)) tNil))) tNil))) tNil)) (gName 1) (tSeq (tAsg (tKn (sp__law_box K) (tCons (tKn (sp__law_cell K) (tCons (tVar 0) (tCons (tVar 1) tNil))) tNil)) (gName 2))
    (tSeq (tAsg (tOp (uEq K) (tKn (sp__law_take K) (tCons (tVar 2) (tCons (tC (.int 2)) tNil))) (tC (.int 0))) (gName 3))
    (tSeq (tFor (iRng1 (tCons (tC (.int 5)) tNil)) (gName 4) (tSeq (tAsg (tKn (sp__law_day K) (tCons (tVar 2) tNil)) (gName 5))
    (tSeq (tFor (iRng2 (tCons (tCB uMax (tCons (tC (.int 0)) (tCons (tOp uSub (tVar 5) (tC (.int 1))) tNil))) (tCons (tCB uMin (tCons (tOp (uAdd K) (tVar 5) (tC (.int 2))) (tCons (tOp (uAdd K) (tOp uPow (tC (.int 10)) (tC (.int 12))) (tC (.int 1))) tNil))) tNil))) (gName 6) (tIfS (tNot (tTr K (tKn (sp__law_places_right K) (tCons (tVar 6) (tCons (tVar 3) tNil))))) (tRet (tC (.bl false))) tNext))
    (tIfS (tNot (tTr K (tKn (sp__law_months_right K) (tCons (tVar 2) (tCons (tVar 5) (tCons (tNotV (tVar 3)) tNil)))))) (tRet (tC (.bl false))) tNext))))
    (tIfS (tNot (tTr K (tKn (sp__law_refused K) (tCons (tVar 2) (tCons (tKn (sp__law_day K) (tCons (tVar 2) tNil)) (tCons (tVar 3) tNil)))))) (tRet (tC (.bl false))) tNext)))))
    (tRet (tC (.bl true)))
theorem d_law {P : Program} {w : World} {K : PySem.W.Frag} {mg : Str → Option Value} {base : Heap} (T : Tx P K mg) (c__law_box : Kn P w K mg base 3 "_law_box" ["great"] (sp__law_box K))
    (c__law_cell : Kn P w K mg base 3 "_law_cell" ["script", "k"] (sp__law_cell K))
    (c__law_day : Kn P w K mg base 6 "_law_day" ["box"] (sp__law_day K))
    (c__law_months_right : Kn P w K mg base 42 "_law_months_right" ["box", "day", "named"] (sp__law_months_right K))
    (c__law_places_right : Kn P w K mg base 42 "_law_places_right" ["day", "named"] (sp__law_places_right K))
    (c__law_refused : Kn P w K mg base 42 "_law_refused" ["box", "day", "named"] (sp__law_refused K))
    (c__law_take : Kn P w K mg base 3 "_law_take" ["box", "many"] (sp__law_take K))
    {f : Addr} {cdv : Value} {A : Around} {outer : List Env} {s : Shared} {H : Hp} {E : XK} (hr : Room 42 (A.deeper (envOfC "law" (defScope s_law) s.heap.objs.size f cdv))) :
    PSs (cxOf (L2.CX P w) P w K mg base ["script", "k", "box", "named", "turn", "day", "one"] "law" (defScope s_law) f cdv A outer s H E) (defBody s_law) (t_law K E) := by
  have nd := sc_law.nd
  have hu0 := hu0_of hr
  have hu1 := hu_of hr
  have hu64 := hu64_of hr
  have hu65 := hu65_of hr
  exact pss_cons (ps_for (passes_of rfl) rfl (pi_range1 (by rfl) T.n_range (pa_cons (pe_callB (c_max rfl) (by rfl) T.n_max (by decide +kernel) (pa_cons pe_int (pa_cons (pe_callB (c_min rfl) (by rfl) T.n_min (by decide +kernel) (pa_cons pe_int (pa_cons (pe_callB c_len (by rfl) T.n_len (by decide +kernel) (pa_cons (pv 0) pa_nil)) pa_nil))) pa_nil))) pa_nil)) (pg_name (i := 1) nd rfl (Or.inl rfl)) (pss_cons (ps_asg (pe_kn c__law_box hr (by decide) (by rfl) (pa_cons (pe_kn c__law_cell hr (by decide) (by rfl) (pa_cons (pv 0) (pa_cons (pv 1) pa_nil))) pa_nil)) (pg_name (i := 2) nd rfl (Or.inl rfl)))
      (pss_cons (ps_asg (pe_cmpR (u_eq hu64) (pe_kn c__law_take hr (by decide) (by rfl) (pa_cons (pv 2) (pa_cons pe_int pa_nil))) pe_int (nomark _)) (pg_name (i := 3) nd rfl (Or.inl rfl)))
      (pss_cons (ps_for (passes_of rfl) rfl (pi_range1 (by rfl) T.n_range (pa_cons pe_int pa_nil)) (pg_name (i := 4) nd rfl (Or.inl rfl)) (pss_cons (ps_asg (pe_kn c__law_day hr (by decide) (by rfl) (pa_cons (pv 2) pa_nil)) (pg_name (i := 5) nd rfl (Or.inl rfl)))
      (pss_cons (ps_for (passes_of rfl) rfl (pi_range2 (by rfl) T.n_range (pa_cons (pe_callB (c_max rfl) (by rfl) T.n_max (by decide +kernel) (pa_cons pe_int (pa_cons (pe_op u_sub (pv 5) pe_int) pa_nil))) (pa_cons (pe_callB (c_min rfl) (by rfl) T.n_min (by decide +kernel) (pa_cons (pe_op u_add (pv 5) pe_int) (pa_cons (pe_op u_add (pe_op u_pow pe_int pe_int) pe_int) pa_nil))) pa_nil))) (pg_name (i := 6) nd rfl (Or.inl rfl)) (pss_one (ps_if (pt_not (pt_tr (pe_kn c__law_places_right hr (by decide) (by rfl) (pa_cons (pv 6) (pa_cons (pv 3) pa_nil))) (by intro _; rfl))) (pss_one (ps_ret pe_bl)) pss_nil)))
      (pss_one (ps_if (pt_not (pt_tr (pe_kn c__law_months_right hr (by decide) (by rfl) (pa_cons (pv 2) (pa_cons (pv 5) (pa_cons (pe_not (pv 3)) pa_nil)))) (by intro _; rfl))) (pss_one (ps_ret pe_bl)) pss_nil)))))
      (pss_one (ps_if (pt_not (pt_tr (pe_kn c__law_refused hr (by decide) (by rfl) (pa_cons (pv 2) (pa_cons (pe_kn c__law_day hr (by decide) (by rfl) (pa_cons (pv 2) pa_nil)) (pa_cons (pv 3) pa_nil)))) (by intro _; rfl))) (pss_one (ps_ret pe_bl)) pss_nil))))))
      (pss_one (ps_ret pe_bl))
end My
set_option linter.all false
set_option maxRecDepth 100000
set_option maxHeartbeats 4000000
namespace My
open PySem PySem.Spec PyProof.Rows L2 Kx
local macro_rules | `(tactic| walk_at "lk") => `(tactic| first | assumption | ((with_reducible show upd _ _ _ _ = _); (first | exact upd_same | (exact up_new (by assumption) (by walk_at "lk")) | (exact up_other (by assumption) (by walk_at "lk")))) | (exact (by assumption : Same _ _) _ _ (by walk_at "lk")) | (exact ks_get (by assumption) (by walk_at "lk") (by rfl)))
local macro_rules | `(tactic| walk_at "sl") => `(tactic| first | assumption | (exact l_of (by walk_at "lk")) | (exact Same.seq (by assumption) (by walk_at "sl")) | ((with_reducible show SqL _ (upd _ _ _) _ _); (exact Same.seq (sm_new (by assumption)) (by walk_at "sl"))))
local macro_rules | `(tactic| walk_at "st") => `(tactic| first | assumption | (exact t_of (by walk_at "lk")) | (exact Kx.Same.tup (by assumption) (by walk_at "st")) | ((with_reducible show SqT _ (upd _ _ _) _ _); (exact Kx.Same.tup (sm_new (by assumption)) (by walk_at "st"))) | (exact ks_tup (by assumption) (by walk_at "st")))
local macro_rules | `(tactic| walk_at "kd") => `(tactic| first | assumption | exact .non | exact .bl _ | exact .int _ | exact .str _ | (exact .lst (by walk_at "sl")) | (exact .tup (by walk_at "st")) | (exact .dic (by walk_at "lk")) | (exact Kd.same (by assumption) (by walk_at "kd")) | ((with_reducible show Kd _ (upd _ _ _) _ _); (exact Kd.same (sm_new (by assumption)) (by walk_at "kd"))))
local macro_rules | `(tactic| walk_at "tt") => `(tactic| first | rfl | assumption | decide +kernel | (simp only [decide_eq_true_eq, Bool.not_eq_true', decide_eq_false_iff_not, Bool.and_eq_true, Bool.or_eq_true]; omega))
local macro_rules | `(tactic| walk_at "ff") => `(tactic| first | rfl | assumption | decide +kernel | (simp only [decide_eq_true_eq, Bool.not_eq_false', decide_eq_false_iff_not, Bool.and_eq_false_imp, Bool.or_eq_false_iff]; omega))
local macro_rules | `(tactic| walk_at "hc") => `(tactic| fail)
local macro_rules | `(tactic| walk_at "hif") => `(tactic| ((with_reducible refine w_b2 ?_ ?_) <;> intro))
local macro_rules | `(tactic| walk_at "hs1") => `(tactic| first
  | (with_reducible refine w_seq ?_)
  | (with_reducible refine w_asg ?_)
  | ((with_reducible refine' w_var ?k1 ?_); (case k1 => exact rfl))
  | (with_reducible refine w_c ?_)
  | (with_reducible refine w_op ?_)
  | (with_reducible refine w_cons ?_)
  | (with_reducible refine w_nil ?_)
  | (with_reducible refine w_name ?_)
  | (with_reducible refine w_kn ?_)
  | (with_reducible refine w_kx ?_)
  | (with_reducible refine w_kk ?_)
  | (with_reducible refine w_cb ?_)
  | (with_reducible refine w_if ?_)
  | (with_reducible refine w_test ?_)
  | (with_reducible refine w_exb ?_)
  | (with_reducible refine iteT ?_)
  | (with_reducible refine iteF ?_)
  | ((with_reducible refine w_bt ?_ ?_); (first | rfl | decide +kernel))
  | ((with_reducible refine w_bf ?_ ?_); (first | rfl | decide +kernel))
  | ((with_reducible refine w_bt ?_ ?_); (walk_at "tt"))
  | ((with_reducible refine w_bf ?_ ?_); (walk_at "ff"))
  | (with_reducible refine w_ret ?_)
  | (with_reducible refine w_retN ?_)
  | (with_reducible refine w_drop ?_)
  | (with_reducible refine w_next ?_)
  | (with_reducible refine w_brk ?_)
  | (with_reducible refine w_cont ?_)
  | (with_reducible refine w_and ?_)
  | (with_reducible refine w_or ?_)
  | (with_reducible refine w_not ?_)
  | (with_reducible refine w_tr ?_)
  | (with_reducible refine w_yes ?_)
  | (with_reducible refine w_tru_bl ?_)
  | (with_reducible refine w_tru_int ?_)
  | (with_reducible refine w_tru_non ?_)
  | (with_reducible refine w_andV ?_)
  | (with_reducible refine w_orV ?_)
  | (with_reducible refine w_notV ?_)
  | (with_reducible refine w_ifx ?_)
  | (with_reducible refine w_chain ?_)
  | (with_reducible refine w_un ?_)
  | (with_reducible refine w_tup ?_)
  | (with_reducible refine w_lst ?_)
  | ((with_reducible refine w_tupE (wN_le rfl) ?_); intro _ _)
  | (with_reducible refine w_par ?_)
  | (with_reducible refine w_par2 ?_)
  | (with_reducible refine w_par3 ?_)
  | (with_reducible refine w_par33 ?_)
  | ((with_reducible refine' w_aug ?k1 ?_); (case k1 => exact rfl))
  | (with_reducible refine w_raise ?_)
  | (with_reducible refine w_mkdue ?_)
  | (with_reducible refine w_one ?_)
  | ((with_reducible show gSq _ _ _ (V.ref _) _ _ _); (first | (refine w_gtup (by walk_at "st") (by exact rfl) ?_) | (refine w_glst (by walk_at "sl") (by exact rfl) ?_)))
  | (with_reducible refine w_gcons ?_)
  | (with_reducible refine w_gnil ?_)
  | (with_reducible refine w_bm ?_)
  | ((with_reducible show tyV _ "list" (V.ref _) _ ∧ _); (refine w_tyl (by walk_at "sl") ?_))
  | (with_reducible refine w_for ?_)
  | (with_reducible refine w_rng1 ?_)
  | (with_reducible refine w_rng2 ?_)
  | (with_reducible refine w_add_ii ?_)
  | (with_reducible refine w_sub_ii ?_)
  | ((with_reducible refine w_fdv_ii ?_ ?_ ?_); (first | decide | omega); (first | decide | omega))
  | ((with_reducible refine w_mul_b ?_ ?_ ?_); (refine ⟨?_, ?_⟩ <;> omega); (refine ⟨?_, ?_⟩ <;> omega))
  | ((with_reducible refine w_mod_ii ?_ ?_); (first | decide | omega))
  | (with_reducible refine w_neg_i ?_)
  | (with_reducible refine w_lt_ii ?_)
  | (with_reducible refine w_le_ii ?_)
  | (with_reducible refine w_gt_ii ?_)
  | (with_reducible refine w_ge_ii ?_)
  | (with_reducible refine w_eq_ii ?_)
  | (with_reducible refine w_ne_ii ?_)
  | (with_reducible refine w_eq_ss ?_)
  | (with_reducible refine w_ne_ss ?_)
  | (with_reducible refine w_eq_bb ?_)
  | (with_reducible refine w_ne_bb ?_)
  | (with_reducible refine w_is_n ?_)
  | (with_reducible refine w_isn_n ?_)
  | (with_reducible refine w_is_bb ?_)
  | (with_reducible refine w_isn_bb ?_)
  | ((with_reducible show rIx _ (V.ref _) (V.int _) _ _); (first | (refine w_ixlc (by walk_at "sl") (by decide) (by exact rfl) ?_) | (refine w_ixtc (by walk_at "st") (by decide) (by exact rfl) ?_)))
  | (with_reducible refine w_ipadd ?_)
  | (with_reducible refine w_ipsub ?_)
  | (with_reducible refine w_int_i ?_)
  | (with_reducible refine w_int_b ?_)
  | (with_reducible refine w_abs ?_)
  | ((with_reducible refine w_max2r ?_); intro _ _ _ _)
  | ((with_reducible refine w_min2r ?_); intro _ _ _ _)
  | ((with_reducible show uLen _ [V.ref _] _ _); (first | (refine w_len_l (by walk_at "sl") ?_) | (refine w_len_t (by walk_at "st") ?_) | (refine w_len_d (by walk_at "lk") ?_)))
  | ((with_reducible show uIsi _ [_, V.ty _] _ _); (refine w_isk (by walk_at "kd") (by decide) ?_))
  | ((with_reducible show uIsi _ [_, V.ref _] _ _); (refine w_isk2 (by walk_at "lk") (by walk_at "kd") (by decide) (by decide) ?_))
  | (with_reducible refine w_wN ?_)
  | (with_reducible refine w_lc ?_)
  | ((with_reducible refine' w_rng2e ?k1 ?_); (case k1 => (refine ⟨?_, ?_, ?_, ?_⟩ <;> omega)))
  | ((with_reducible refine' w_rng1e ?k1 ?k2 ?_); (case k1 => omega); (case k2 => omega))
  | ((with_reducible show ∃ a', V.ref _ = .ref a' ∧ (∃ xs, SqL _ _ a' xs) ∧ _); (refine w_sqLe (by walk_at "sl") ?_))
  | ((with_reducible show ∃ a', V.ref _ = .ref a' ∧ (∃ xs, SqT _ _ a' xs) ∧ _); (refine w_sqTe (by walk_at "st") ?_))
  | (with_reducible refine w_slc ?_)
  | (with_reducible refine w_nop ?_)
  | (with_reducible refine w_part ?_)
  | (with_reducible refine w_exi ?_)
  | ((with_reducible show uSl _ (V.ref _) _ _ _ _); (refine w_slL (by walk_at "sl") ?_); intro _ _)
  | (with_reducible refine w_gsub ?_)
  | ((with_reducible show rSetL (V.ref _) (V.int _) _ _ _); (refine w_setl (by walk_at "lk") (by exact rfl) ?_))
  | (with_reducible refine w_pow_9 ?_)
  | (with_reducible refine w_pow_12 ?_)
  | (with_reducible refine w_pow_13 ?_)
  | (with_reducible refine w_pow_18 ?_)
  | (with_reducible refine w_pow_29 ?_)
  | ((with_reducible refine w_disp1n ?_); intro _ _)
  | (with_reducible refine w_dput ?_)
  | ((with_reducible show rAppend (V.ref _) [_] _ _); (refine w_append (by walk_at "lk") (by first | omega | (exact Nat.lt_of_le_of_lt (wN_le rfl) (by decide))) ?_))
  | ((with_reducible show ∃ a' H4, V.ref _ = .ref a' ∧ DPut _ a' (V.str _) _ H4 ∧ _); (refine w_dputS (by walk_at "lk") (by first | omega | exact wN_le rfl) ?_))
  | (with_reducible refine w_try ?_)
  | ((with_reducible show wManyA _ _ _ _ (.ref (He.ga _ _)) _ _ _); (first | ((refine w_hit (ExT.ex (by assumption) _ (by decide) _ (by decide)) ?_); intro _ _) | (refine w_miss (ExT.ex (by assumption) _ (by decide) _ (by decide)) ?_)))
  | (with_reducible refine w_xg ?_)
  | ((with_reducible show V.ref _ = .ref _ ∧ ∃ _ _ _ _, Value.ref (He.ga _ _) = _ ∧ _); (refine w_xge (ExT.xf (by assumption) _ (by decide)) (ExT.fg (by assumption) _ (by decide)) (by walk_at "lk") ?_))
  | ((with_reducible show rIsX _ (.ref (He.ga _ _)) _ _ _ _ _); (refine w_isx (ExT.xx (by assumption) _ (by decide)) (ExT.kd (by assumption) _ (by decide)) (by walk_at "lk") ?_))
  | ((with_reducible show uAdd _ (V.ref _) (V.ref _) _ _); (refine w_add_ll (by walk_at "lk") (by walk_at "lk") (bN_le rfl) ?_); intro _ _)
  | ((with_reducible show iSeq _ (tLst _) _ _ _); (refine w_sqL ?_))
  | ((with_reducible show iSeq _ (tTup _) _ _ _); (refine w_sqT ?_))
  | (refine ⟨(rfl : wipe _ _ = wipe _ _), ?_⟩)
  | (walk_at "hc"))
local macro_rules | `(tactic| walk_at "hs") => `(tactic| repeat' (walk_at "hs1"))

local macro_rules | `(tactic| walk_at "rg") => `(tactic| repeat' (first | exact rg_nil | (refine rg_cons (by omega) (by omega) ?_)))
local macro_rules | `(tactic| walk_at "sm") => `(tactic| first | exact Same.refl _ | assumption | ((with_reducible show Same _ (upd _ _ _)); (refine Same.trans ?_ (sm_new (by assumption))); walk_at "sm") | ((refine Same.trans ?_ (by assumption)); walk_at "sm"))
local macro_rules | `(tactic| walk_at "bx") => `(tactic| first | assumption | ((with_reducible show BoxAt (upd _ _ _) _ _); (exact BoxAt.new (by assumption) (by walk_at "bx"))) | (exact BoxAt.same (by assumption) (by walk_at "bx")))
local macro_rules | `(tactic| walk_at "ks") => `(tactic| first | exact Ks.refl _ | assumption | ((with_reducible show Ks _ (upd _ _ _)); (refine Ks.trans ?_ (Ks.of (sm_new (by assumption))); walk_at "ks")) | (refine Ks.trans ?_ (by assumption); walk_at "ks") | (refine Ks.trans ?_ (Ks.of (by assumption)); walk_at "ks"))
local macro_rules | `(tactic| walk_at "ob") => `(tactic| first | assumption | exact .sc rfl | (exact Ob.same (by assumption) (by walk_at "ob")) | (exact Ob.ks (by assumption) (by walk_at "ob")))
local macro_rules | `(tactic| walk_at "nd") => `(tactic| first | assumption | (exact Nd.same (by assumption) (by walk_at "nd")) | (exact Nd.ks (by assumption) (by walk_at "nd")))
local macro_rules | `(tactic| walk_at "df") => `(tactic| first | assumption | exact df_sc rfl | (exact df_vr (by assumption) (by walk_at "lk")) | (exact df_rv (by assumption) (by walk_at "ob")) | (exact df_vv (by assumption) (by walk_at "ob")) | (exact Df.symm (df_vv (by assumption) (by walk_at "ob"))))
variable {K : PySem.W.Frag}
theorem p_is_whole (vs : List V) (H : Hp) (Q : VK) (E : XK) (h : sp_is_whole K vs H Q E) : t_is_whole K E (D0 Q) (start N_is_whole vs) H := by
  obtain ⟨x, T, rfl, hk, q⟩ := h
  cases hk <;> walk_at "hs" <;> exact q
/-! the calls' uses -/
theorem u_is_whole {H : Hp} {Q : VK} {E : XK} {x : V} {T : String} (h : Kd K H x T) (q : Q (.bl (whole x)) H) : sp_is_whole K [x] H Q E := ⟨x, T, rfl, h, q⟩
local macro_rules | `(tactic| walk_at "hc") => `(tactic| (with_reducible show sp_is_whole _ _ _ _ _); (refine u_is_whole (by walk_at "kd") ?_))
theorem p_is_between (vs : List V) (H : Hp) (Q : VK) (E : XK) (h : sp_is_between K vs H Q E) : t_is_between K E (D0 Q) (start N_is_between vs) H := by
  obtain ⟨x, T, lo, hi, rfl, hk, q⟩ := h
  cases hk <;> walk_at "hs" 
  case int i =>
    refine w_b2 (fun c1 => ?_) (fun c1 => ?_) <;> walk_at "hs"
    · simpa [betw, c1] using q
    · simpa [betw, c1] using q
  all_goals exact q
theorem u_is_between {H : Hp} {Q : VK} {E : XK} {x : V} {T : String} {lo hi : Int} (h : Kd K H x T) (q : Q (.bl (betw x lo hi)) H) : sp_is_between K [x, .int lo, .int hi] H Q E := ⟨x, T, lo, hi, rfl, h, q⟩
local macro_rules | `(tactic| walk_at "hc") => `(tactic| (with_reducible show sp_is_between _ _ _ _ _); (refine u_is_between (by walk_at "kd") ?_))
theorem p_is_day (vs : List V) (H : Hp) (Q : VK) (E : XK) (h : sp_is_day K vs H Q E) : t_is_day K E (D0 Q) (start N_is_day vs) H := by
  obtain ⟨x, T, rfl, hk, q⟩ := h
  walk_at "hs"
  exact q
theorem u_is_day {H : Hp} {Q : VK} {E : XK} {x : V} {T : String} (h : Kd K H x T) (q : Q (.bl (betw x 0 MOST)) H) : sp_is_day K [x] H Q E := ⟨x, T, rfl, h, q⟩
local macro_rules | `(tactic| walk_at "hc") => `(tactic| (with_reducible show sp_is_day _ _ _ _ _); (refine u_is_day (by walk_at "kd") ?_))
theorem p_is_leap_year (vs : List V) (H : Hp) (Q : VK) (E : XK) (h : sp_is_leap_year K vs H Q E) : t_is_leap_year K E (D0 Q) (start N_is_leap_year vs) H := by
  obtain ⟨y, rfl, q⟩ := h
  walk_at "hs"
  refine w_b2 (fun c1 => ?_) (fun c1 => ?_) <;> walk_at "hs"
  · refine w_b2 (fun c2 => ?_) (fun c2 => ?_) <;> walk_at "hs"
    · simpa [leap, c1, c2] using q
    · simpa [leap, c1, c2] using q
  · simpa [leap, c1] using q
theorem u_is_leap_year {H : Hp} {Q : VK} {E : XK} {y : Int} (q : Q (.bl (leap y)) H) : sp_is_leap_year K [.int y] H Q E := ⟨y, rfl, q⟩
local macro_rules | `(tactic| walk_at "hc") => `(tactic| (with_reducible refine u_is_leap_year ?_))
theorem p_length_of (hL : ∀ H, SqT K H (He.ga K "LENGTHS") ([31, 28, 31, 30, 31, 30, 31, 31, 30, 31, 30, 31].map V.int)) (vs : List V) (H : Hp) (Q : VK) (E : XK) (h : sp_length_of K vs H Q E) : t_length_of K E (D0 Q) (start N_length_of vs) H := by
  obtain ⟨y, m, rfl, h1, h2, q⟩ := h
  have hL := hL H
  have et : atI ([31, 28, 31, 30, 31, 30, 31, 31, 30, 31, 30, 31].map V.int) (m - 1) = some (.int (mtab m)) := by
    obtain ⟨n, e, hn⟩ : ∃ n : Nat, m = (n : Int) + 1 ∧ n < 12 := ⟨(m - 1).toNat, by omega, by omega⟩
    subst e
    have : ((n : Int) + 1 - 1) = (n : Int) := by omega
    rw [this]
    refine atI_nat ?_
    match n, hn with
    | 0, _ => rfl
    | 1, _ => rfl
    | 2, _ => rfl
    | 3, _ => rfl
    | 4, _ => rfl
    | 5, _ => rfl
    | 6, _ => rfl
    | 7, _ => rfl
    | 8, _ => rfl
    | 9, _ => rfl
    | 10, _ => rfl
    | 11, _ => rfl
  walk_at "hs"
  refine w_ixt hL et ?_
  walk_at "hs"
  refine w_b2 (fun c1 => ?_) (fun c1 => ?_) <;> walk_at "hs"
  · have e : m = 2 := by simpa using c1
    have : mlen y m = mtab m + (if leap y = true then 1 else 0) := by unfold mlen lp; rw [if_pos e]
    rw [this] at q
    exact q
  · have e : ¬ m = 2 := by simpa using c1
    have : mlen y m = mtab m + 0 := by unfold mlen; rw [if_neg e]
    rw [this] at q
    exact q
theorem u_length_of {H : Hp} {Q : VK} {E : XK} {y m : Int} (h1 : 1 ≤ m) (h2 : m ≤ 12) (q : Q (.int (mlen y m)) H) : sp_length_of K [.int y, .int m] H Q E := ⟨y, m, rfl, h1, h2, q⟩
local macro_rules | `(tactic| walk_at "hc") => `(tactic| (with_reducible refine' u_length_of ?k1 ?k2 ?_); (case k1 => omega); (case k2 => omega))
theorem p_check_day (vs : List V) (H : Hp) (Q : VK) (E : XK) (h : sp_check_day K vs H Q E) : t_check_day K E (D0 Q) (start N_check_day vs) H := by
  obtain ⟨x, T, rfl, hk, q1, q2⟩ := h
  walk_at "hs"
  cases c : betw x 0 MOST <;> walk_at "hs"
  · exact q2 c
  · exact q1 c
theorem p_year_begin (vs : List V) (H : Hp) (Q : VK) (E : XK) (h : sp_year_begin K vs H Q E) : t_year_begin K E (D0 Q) (start N_year_begin vs) H := by
  obtain ⟨y, rfl, h1, h2, q⟩ := h
  walk_at "hs"
  exact q
theorem u_year_begin {H : Hp} {Q : VK} {E : XK} {y : Int} (h1 : -1000000000000000 < y) (h2 : y < 1000000000000000) (q : Q (.int (yb y)) H) : sp_year_begin K [.int y] H Q E := ⟨y, rfl, h1, h2, q⟩
local macro_rules | `(tactic| walk_at "hc") => `(tactic| (with_reducible refine' u_year_begin ?k1 ?k2 ?_); (case k1 => omega); (case k2 => omega))
theorem p_month_begin (vs : List V) (H : Hp) (Q : VK) (E : XK) (h : sp_month_begin K vs H Q E) : t_month_begin K E (D0 Q) (start N_month_begin vs) H := by
  obtain ⟨y, m, rfl, h1, h2, h3, h4, q⟩ := h
  walk_at "hs"
  intro D hD
  refine lc_range (lo := 1) (n := (m - 1).toNat) (LcP H D fun i => ((List.range i).map fun (j : Nat) => mlen y (1 + (j : Int))).map V.int) (LcP.zero hD rfl) ?_ ?_
  · intro i H' hi P
    walk_at "hs"
    refine LcP.one P (Same.refl _) hD ?_ ?_
    · simp; omega
    · simp [List.range_succ]
  · intro H' P
    walk_at "hs"
    refine w_sum (l_of P.2) ?_
    walk_at "hs"
    rw [ahead_sum]
    exact q _ P.1
theorem u_month_begin {H : Hp} {Q : VK} {E : XK} {y m : Int} (h1 : 1 ≤ m) (h2 : m ≤ 12) (h3 : -1000000000000000 < y) (h4 : y < 1000000000000000) (q : ∀ H', Same H H' → Q (.int (mb y m)) H') : sp_month_begin K [.int y, .int m] H Q E := ⟨y, m, rfl, h1, h2, h3, h4, q⟩
local macro_rules | `(tactic| walk_at "hc") => `(tactic| (with_reducible refine' u_month_begin ?k1 ?k2 ?k3 ?k4 ?_); (case k1 => omega); (case k2 => omega); (case k3 => omega); (case k4 => omega); intro _ _)
theorem p_year_of (vs : List V) (H : Hp) (Q : VK) (E : XK) (h : sp_year_of K vs H Q E) : t_year_of K E (D0 Q) (start N_year_of vs) H := by
  obtain ⟨n, rfl, h1, h2, q⟩ := h
  walk_at "hs"
  refine w_while (fun m σ H1 => ∃ y, σ = [some (.int n), some (.int y)] ∧ H1 = H ∧ yb y ≤ n ∧ 1000 ≤ y ∧ m = (n - yb y).toNat) _ ⟨_, rfl, rfl, yb_start h1, by omega, rfl⟩ ?_
  rintro m σ H1 ⟨y, rfl, rfl, hy, hy1, rfl⟩
  have hy2 : y < 100000000000000 := by unfold yb at hy; omega
  walk_at "hs"
  have e := yb_succ y
  have e2 := lp_01 y
  refine w_b2 (fun c => ?_) (fun c => ?_) <;> walk_at "hs"
  · have c' : yb (y + 1) ≤ n := by simpa using c
    exact ⟨_, by omega, _, rfl, rfl, c', by omega, rfl⟩
  · have c' : n < yb (y + 1) := by simpa using c
    exact q y hy c'
theorem u_year_of {H : Hp} {Q : VK} {E : XK} {n : Int} (h1 : 0 ≤ n) (h2 : n < 100000000000000) (q : ∀ y, yb y ≤ n → n < yb (y + 1) → Q (.int y) H) : sp_year_of K [.int n] H Q E := ⟨n, rfl, h1, h2, q⟩
theorem p_date_at (vs : List V) (H : Hp) (Q : VK) (E : XK) (h : sp_date_at K vs H Q E) : t_date_at K E (D0 Q) (start N_date_at vs) H := by
  obtain ⟨n, rfl, h1, h2, q⟩ := h
  walk_at "hs"
  refine u_year_of h1 h2 fun y y1 y2 => ?_
  have y3 := yb_bd y1 h1 h2
  have y4 := yb_bd0 y2 h1
  walk_at "hs"
  refine w_while (fun k σ H1 => ∃ m l, σ = [some (.int n), some (.int y), some (.int m), some (.int l)] ∧ H1 = H ∧ 1 ≤ m ∧ m ≤ 12 ∧ 0 ≤ l ∧ mb y m + l = n ∧ k = (12 - m).toNat) _ ⟨1, n - yb y, rfl, rfl, by omega, by omega, by omega, by rw [mb_one]; omega, rfl⟩ ?_
  rintro k σ H1 ⟨m, l, rfl, rfl, m1, m2, l1, e, rfl⟩
  walk_at "hs"
  refine w_b2 (fun c => ?_) (fun c => ?_) <;> walk_at "hs"
  · have c' : mlen y m ≤ l := by simpa using c
    have e2 := mb_next y m m1
    have m3 : m < 12 := by
      by_cases z : m < 12
      · exact z
      · have : m = 12 := by omega
        subst this
        rw [show (12 : Int) + 1 = 13 from rfl, mb_13] at e2
        omega
    refine ⟨_, by omega, m + 1, l - mlen y m, rfl, rfl, by omega, by omega, by omega, by omega, rfl⟩
  · have c' : l < mlen y m := by simpa using c
    rename_i p hp
    have hd : IsD n y m (l + 1) := ⟨m1, m2, by omega, by omega, by omega⟩
    exact NewDate.fin q hd (Same.refl _) hp
theorem u_date_at {H : Hp} {Q : VK} {E : XK} {n : Int} (h1 : 0 ≤ n) (h2 : n < 100000000000000) (q : NewDate H Q n) : sp_date_at K [.int n] H Q E := ⟨n, rfl, h1, h2, q⟩
theorem p__law_cell (vs : List V) (H : Hp) (Q : VK) (E : XK) (h : sp__law_cell K vs H Q E) : t__law_cell K E (D0 Q) (start N__law_cell vs) H := by
  obtain ⟨a, ns, k, rfl, hs, hn, h0, h1, q⟩ := h
  walk_at "hs"
  refine w_b2 (fun c => ?_) (fun c => ?_)
  · walk_at "hs"
    refine w_ixl_mem hs h0 (by simpa using c) fun v hv => ?_
    obtain ⟨i, _, rfl⟩ := List.mem_map.mp hv
    exact q i H (Same.refl _)
  · walk_at "hs"
    rename_i p hp
    obtain ⟨ms, e, hm⟩ := cut_int (ns := ns) (lo := none) (hi := some 1)
    refine w_sum (l_of (by rw [e]; exact upd_same)) ?_
    walk_at "hs"
    exact q _ _ (sm_new hp)
theorem u__law_cell {H : Hp} {Q : VK} {E : XK} {a : Addr} {ns : List Int} {k : Int} (hs : SqL K H a (ns.map V.int)) (hn : ns.length ≤ 63) (h0 : 0 ≤ k) (h1 : k ≤ 1000) (q : ∀ i H', Same H H' → Q (.int i) H') : sp__law_cell K [.ref a, .int k] H Q E := ⟨a, ns, k, rfl, hs, hn, h0, h1, q⟩
theorem p__law_box (vs : List V) (H : Hp) (Q : VK) (E : XK) (h : sp__law_box K vs H Q E) : t__law_box K E (D0 Q) (start N__law_box vs) H := by
  obtain ⟨g, rfl, q⟩ := h
  walk_at "hs"
  rename_i p hp
  exact q p _ (sm_new hp) ⟨_, _, _, _, upd_same, by split <;> omega, by omega, by omega, by omega, by omega⟩
theorem u__law_box {H : Hp} {Q : VK} {E : XK} {g : Int} (q : ∀ b H', Same H H' → BoxAt H' b 0 → Q (.ref b) H') : sp__law_box K [.int g] H Q E := ⟨g, rfl, q⟩
theorem p__law_take (vs : List V) (H : Hp) (Q : VK) (E : XK) (h : sp__law_take K vs H Q E) : t__law_take K E (D0 Q) (start N__law_take vs) H := by
  obtain ⟨b, c, many, rfl, ⟨n, m, c0, bo, hb, b1, b2, b3, b4, b5⟩, hc, m0, m1, q⟩ := h
  have hks : ∀ o, Ks H (upd H b o) := fun o => Ks.box hb
  walk_at "hs"
  have more : ∀ σ : L2.St, σ = [some (.ref b), some (.int many), none, none] → (tSeq (tAsg (tOp (uAdd K) (tOp (rIx K) (tVar 0) (tC (.int 3))) (tC (.int 1))) (gSub (tVar 0) (tC (.int 3)) rSetL))
    (tSeq (tAsg (tOp uMod (tCB uInt (tCons (tOp uPow (tOp (uAdd K) (tOp (uAdd K) (tOp (rIx K) (tVar 0) (tC (.int 2))) (tOp uMul (tC (.int 15486971)) (tOp (rIx K) (tVar 0) (tC (.int 3))))) (tC (.int 179425579))) (tC (.int 5))) tNil)) (tC (.int 2147483647))) (gName 3))
    (tRet (tOp uMod (tCB uInt (tCons (tOp uFdv (tOp uMod (tCB uInt (tCons (tOp uPow (tOp (uAdd K) (tOp uMul (tVar 3) (tC (.int 48271))) (tOp uMul (tC (.int 105269)) (tOp (rIx K) (tVar 0) (tC (.int 3))))) (tC (.int 3))) tNil)) (tC (.int 2147483587))) (tC (.int 64))) tNil)) (tVar 1))))) (D0 Q) σ H := by
    rintro σ rfl
    walk_at "hs"
    refine w_pow_x (by omega) (by omega) ?_
    walk_at "hs"
    refine w_pow_x (by omega) (by omega) ?_
    walk_at "hs"
    exact q _ _ (Int.emod_nonneg _ (by omega)) (Int.emod_lt_of_pos _ m0) (hks _) ⟨_, _, _, _, upd_same, b1, b2, b3, by omega, by omega⟩
  refine w_b2 (fun z => ?_) (fun z => ?_)
  · walk_at "hs"
    refine w_b2 (fun z2 => ?_) (fun z2 => ?_)
    · walk_at "hs"
      have z3 : 0 < n := by simpa using z2
      have := Int.ediv_nonneg (a := n) (b := many) (by omega) (by omega)
      exact q _ _ (Int.emod_nonneg _ (by omega)) (Int.emod_lt_of_pos _ m0) (hks _) ⟨_, _, _, _, upd_same, this, b2, b3, by omega, by omega⟩
    · exact more _ rfl
  · exact more _ rfl
theorem u__law_take {H : Hp} {Q : VK} {E : XK} {b : Addr} {c many : Int} (hb : BoxAt H b c) (hc : c < 1000000000) (m0 : 0 < many) (m1 : many < 1000000000000000000000000000000) (q : ∀ r H', 0 ≤ r → r < many → Ks H H' → BoxAt H' b (c + 1) → Q (.int r) H') : sp__law_take K [.ref b, .int many] H Q E := ⟨b, c, many, rfl, hb, hc, m0, m1, q⟩
local macro_rules | `(tactic| walk_at "hc") => `(tactic| (with_reducible show sp__law_take _ _ _ _ _); (refine u__law_take (by walk_at "bx") (by omega) (by omega) (by omega) ?_); intro _ _ _ _ _ _)
theorem p__law_leap (vs : List V) (H : Hp) (Q : VK) (E : XK) (h : sp__law_leap K vs H Q E) : t__law_leap K E (D0 Q) (start N__law_leap vs) H := by
  obtain ⟨y, rfl, q⟩ := h
  walk_at "hs"
  refine w_b2 (fun c1 => ?_) (fun c1 => ?_) <;> walk_at "hs"
  · have e : y % 400 = 0 := by simpa using c1
    have : leap y = true := by unfold leap; simp; omega
    rw [this] at q
    exact q
  · have e : ¬ y % 400 = 0 := by simpa using c1
    refine w_b2 (fun c2 => ?_) (fun c2 => ?_) <;> walk_at "hs"
    · have e2 : y % 4 = 0 := by simpa using c2
      have : leap y = !decide (y % 100 = 0) := by unfold leap; simp [e, e2]
      rw [this] at q
      exact q
    · have e2 : ¬ y % 4 = 0 := by simpa using c2
      have : leap y = false := by unfold leap; simp [e2]
      rw [this] at q
      exact q
theorem u__law_leap {H : Hp} {Q : VK} {E : XK} {y : Int} (q : Q (.bl (leap y)) H) : sp__law_leap K [.int y] H Q E := ⟨y, rfl, q⟩
local macro_rules | `(tactic| walk_at "hc") => `(tactic| (with_reducible refine u__law_leap ?_))
theorem p__law_length (vs : List V) (H : Hp) (Q : VK) (E : XK) (h : sp__law_length K vs H Q E) : t__law_length K E (D0 Q) (start N__law_length vs) H := by
  obtain ⟨y, m, rfl, h1, h2, q⟩ := h
  obtain z : m = 1 ∨ m = 2 ∨ m = 3 ∨ m = 4 ∨ m = 5 ∨ m = 6 ∨ m = 7 ∨ m = 8 ∨ m = 9 ∨ m = 10 ∨ m = 11 ∨ m = 12 := by omega
  have l2 : mlen y 2 = 28 + lp y := rfl
  unfold lp at l2
  walk_at "hs"
  refine w_b2 (fun c => ?_) (fun c => ?_)
  · rw [if_pos c] at l2
    have l3 : mlen y 2 = 29 := l2
    walk_at "hs"
    rcases z with rfl | rfl | rfl | rfl | rfl | rfl | rfl | rfl | rfl | rfl | rfl | rfl <;> walk_at "hs" <;> first | exact q _ (sm_new (by assumption)) | (rw [l3] at q; exact q _ (sm_new (by assumption)))
  · rw [if_neg (by rw [c]; exact Bool.false_ne_true)] at l2
    have l3 : mlen y 2 = 28 := l2
    walk_at "hs"
    rcases z with rfl | rfl | rfl | rfl | rfl | rfl | rfl | rfl | rfl | rfl | rfl | rfl <;> walk_at "hs" <;> first | exact q _ (sm_new (by assumption)) | (rw [l3] at q; exact q _ (sm_new (by assumption)))
theorem u__law_length {H : Hp} {Q : VK} {E : XK} {y m : Int} (h1 : 1 ≤ m) (h2 : m ≤ 12) (q : ∀ H', Same H H' → Q (.int (mlen y m)) H') : sp__law_length K [.int y, .int m] H Q E := ⟨y, m, rfl, h1, h2, q⟩
local macro_rules | `(tactic| walk_at "hc") => `(tactic| (with_reducible show sp__law_length _ _ _ _ _); (refine u__law_length (by omega) (by omega) ?_); intro _ _)
theorem p__law_date (vs : List V) (H : Hp) (Q : VK) (E : XK) (h : sp__law_date K vs H Q E) : t__law_date K E (D0 Q) (start N__law_date vs) H := by
  obtain ⟨n, rfl, h1, h2, q⟩ := h
  walk_at "hs"
  refine w_while (fun k σ H1 => ∃ y r, σ = [some (.int n), some (.int y), some (.int r), none] ∧ H1 = H ∧ 0 ≤ r ∧ yb y + r = n ∧ 2000 ≤ y ∧ k = r.toNat) _ ⟨_, _, rfl, rfl, by omega, by unfold yb; omega, by omega, rfl⟩ ?_
  rintro k σ H1 ⟨y, r, rfl, rfl, r1, e, y1, rfl⟩
  have l := lp_01 y
  have le : lp y = (if leap y = true then 1 else 0) := rfl
  have e1 := yb_succ y
  walk_at "hs"
  refine w_b2 (fun c => ?_) (fun c => ?_) <;> walk_at "hs"
  · have c' : 365 + (if leap y = true then 1 else 0) ≤ r := by simpa using c
    rw [← le] at c'
    rw [← le]
    refine ⟨_, by omega, y + 1, r - 365 - lp y, rfl, rfl, by omega, by omega, by omega, rfl⟩
  · have c' : r < 365 + (if leap y = true then 1 else 0) := by simpa using c
    rw [← le] at c'
    refine w_while (fun k σ H2 => ∃ m r, σ = [some (.int n), some (.int y), some (.int r), some (.int m)] ∧ Same H1 H2 ∧ 1 ≤ m ∧ m ≤ 12 ∧ 0 ≤ r ∧ mb y m + r = n ∧ k = (12 - m).toNat) _ ⟨1, r, rfl, Same.refl _, by omega, by omega, by omega, by rw [mb_one]; omega, rfl⟩ ?_
    rintro k σ H1 ⟨m, r, rfl, eH, m1, m2, l1, e, rfl⟩
    walk_at "hs"
    refine w_b2 (fun c => ?_) (fun c => ?_) <;> walk_at "hs"
    · have c' : mlen y m ≤ r := by simpa using c
      have e2 := mb_next y m m1
      have m3 : m < 12 := by
        by_cases z : m < 12
        · exact z
        · have : m = 12 := by omega
          subst this
          rw [show (12 : Int) + 1 = 13 from rfl, mb_13] at e2
          omega
      rename_i H1 f1 H2 f2
      refine ⟨_, ?_, m + 1, r - mlen y m, rfl, Same.trans eH (Same.trans f1 f2), by omega, by omega, by omega, by omega, rfl⟩
      omega
    · have c' : r < mlen y m := by simpa using c
      rename_i H2 f1 p hp
      have hd : IsD n y m (r + 1) := ⟨m1, m2, by omega, by omega, by omega⟩
      exact NewDate.fin q hd (Same.trans eH f1) hp
theorem u__law_date {H : Hp} {Q : VK} {E : XK} {n : Int} (h1 : 0 ≤ n) (h2 : n < 100000000000000) (q : NewDate H Q n) : sp__law_date K [.int n] H Q E := ⟨n, rfl, h1, h2, q⟩
theorem p__law_next (vs : List V) (H : Hp) (Q : VK) (E : XK) (h : sp__law_next K vs H Q E) : t__law_next K E (D0 Q) (start N__law_next vs) H := by
  obtain ⟨a, y, m, d, rfl, hs, h1, h2, q⟩ := h
  walk_at "hs"
  rename_i H1 f1
  unfold nextD at q
  refine w_b2 (fun c => ?_) (fun c => ?_)
  · have c' : d < mlen y m := by simpa using c
    rw [if_pos c'] at q
    walk_at "hs"
    exact q _ _ (Same.trans f1 (sm_new (by assumption))) (sm_fresh f1 (by assumption)) upd_same
  · have c' : ¬ d < mlen y m := by simpa using c
    rw [if_neg c'] at q
    walk_at "hs"
    refine w_b2 (fun c => ?_) (fun c => ?_)
    · have c' : m < 12 := by simpa using c
      rw [if_pos c'] at q
      walk_at "hs"
      exact q _ _ (Same.trans f1 (sm_new (by assumption))) (sm_fresh f1 (by assumption)) upd_same
    · have c' : ¬ m < 12 := by simpa using c
      rw [if_neg c'] at q
      walk_at "hs"
      exact q _ _ (Same.trans f1 (sm_new (by assumption))) (sm_fresh f1 (by assumption)) upd_same
theorem u__law_next {H : Hp} {Q : VK} {E : XK} {a : Addr} {y m d : Int} (h : SqT K H a [.int y, .int m, .int d]) (h1 : 1 ≤ m) (h2 : m ≤ 12) (q : ∀ p H', Same H H' → H p = none → H' p = some (.tup [.int (nextD y m d).1, .int (nextD y m d).2.1, .int (nextD y m d).2.2]) → Q (.ref p) H') : sp__law_next K [.ref a] H Q E := ⟨a, y, m, d, rfl, h, h1, h2, q⟩
local macro_rules | `(tactic| walk_at "hc") => `(tactic| (with_reducible show sp__law_next _ _ _ _ _); (refine u__law_next (by walk_at "st") (by omega) (by omega) ?_); intro _ _ _ _ _)
/-- what the inner call may be asked -/
def spIn (K : PySem.W.Frag) : Nat → Sp
  | 0 => fun _ _ _ _ => False
  | n + 1 => sp_same K n
theorem u_in {n : Nat} {H : Hp} {Q : VK} {E : XK} {x y : V} {d : PyData} {ds : List PyData} (h : ∃ m, n = m + 1 ∧ ds.length ≤ 100000 ∧ okAll m ds) {i : Nat} (hi : ds[i]? = some d) (h1 : Dp K H x d) (h2 : Dp K H y d) (q : ∀ H', Same H H' → Q (.bl true) H') : spIn K n [x, y] H Q E := by
  obtain ⟨m, rfl, _, o⟩ := h
  exact ⟨x, y, d, rfl, h1, h2, okAll.get o hi, q⟩
theorem p__law_same (n : Nat) (vs : List V) (H : Hp) (Q : VK) (E : XK) (h : sp_same K n vs H Q E) : t__law_same K (spIn K n) E (D0 Q) (start N__law_same vs) H := by
  obtain ⟨x, y, d, rfl, hx, hy, hd, q⟩ := h
  cases d with
  | none =>
    cases hx; cases hy
    walk_at "hs"
    exact q _ (Same.refl _)
  | bool b =>
    cases hx; cases hy
    walk_at "hs"
    have := q _ (Same.refl _)
    cases b <;> exact this
  | int i =>
    cases hx; cases hy
    walk_at "hs"
    simpa using q _ (Same.refl _)
  | str s =>
    cases hx; cases hy
    walk_at "hs"
    simpa using q _ (Same.refl _)
  | dict kvs => cases hx
  | list ds =>
    cases hx with | @lst a xs _ ha ra =>
    cases hy with | @lst b ys _ hb rb =>
    simp only [okD] at hd
    have hd' := hd
    obtain ⟨m, rfl, hl, ho⟩ := hd
    have l1 := DpAll.len ra
    have l2 := DpAll.len rb
    walk_at "hs"
    intro D hD
    refine lc_range (lo := 0) (n := ys.length) (LcP H D fun _ => []) (LcP.zero hD rfl) ?_ ?_
    · intro i H' hi P
      have P1 := P.1
      obtain ⟨x, d, ex, ed, kx⟩ := DpAll.get ra i (by omega)
      obtain ⟨y, d', ey, ed', ky⟩ := DpAll.get rb i (by omega)
      rw [ed] at ed'
      cases ed'
      have z : (0 : Int) + (i : Int) = (i : Int) := by omega
      walk_at "hs"
      refine w_ixl (P1.seq ha) (by rw [z]; exact atI_nat ex) ?_
      walk_at "hs"
      refine w_ixl (P1.seq hb) (by rw [z]; exact atI_nat ey) ?_
      walk_at "hs"
      refine u_in hd' ed (Dp.same P1 kx) (Dp.same P1 ky) fun H2 f => ?_
      walk_at "hs"
      exact LcP.no P f rfl
    · intro H' P
      walk_at "hs"
      rename_i p hp
      refine w_eq_d (.lst (l_of (up_new hp P.2)) .nil) (.lst (l_of upd_same) .nil) rfl rfl ?_
      exact q _ (Same.trans P.1 (sm_new hp))
  | tuple ds =>
    cases hx with | @tup a xs _ ha ra =>
    cases hy with | @tup b ys _ hb rb =>
    simp only [okD] at hd
    have hd' := hd
    obtain ⟨m, rfl, hl, ho⟩ := hd
    have l1 := DpAll.len ra
    have l2 := DpAll.len rb
    walk_at "hs"
    intro D hD
    refine lc_range (lo := 0) (n := ys.length) (LcP H D fun _ => []) (LcP.zero hD rfl) ?_ ?_
    · intro i H' hi P
      have P1 := P.1
      obtain ⟨x, d, ex, ed, kx⟩ := DpAll.get ra i (by omega)
      obtain ⟨y, d', ey, ed', ky⟩ := DpAll.get rb i (by omega)
      rw [ed] at ed'
      cases ed'
      have z : (0 : Int) + (i : Int) = (i : Int) := by omega
      walk_at "hs"
      refine w_ixt (Kx.Same.tup P1 ha) (by rw [z]; exact atI_nat ex) ?_
      walk_at "hs"
      refine w_ixt (Kx.Same.tup P1 hb) (by rw [z]; exact atI_nat ey) ?_
      walk_at "hs"
      refine u_in hd' ed (Dp.same P1 kx) (Dp.same P1 ky) fun H2 f => ?_
      walk_at "hs"
      exact LcP.no P f rfl
    · intro H' P
      walk_at "hs"
      rename_i p hp
      refine w_eq_d (.lst (l_of (up_new hp P.2)) .nil) (.lst (l_of upd_same) .nil) rfl rfl ?_
      exact q _ (Same.trans P.1 (sm_new hp))
theorem u__law_same {n : Nat} {H : Hp} {Q : VK} {E : XK} {x y : V} {d : PyData} (hx : Dp K H x d) (hy : Dp K H y d) (hd : okD n d) (q : ∀ H', Same H H' → Q (.bl true) H') : sp_same K n [x, y] H Q E := ⟨x, y, d, rfl, hx, hy, hd, q⟩
theorem p__law_very (vs : List V) (H : Hp) (Q : VK) (E : XK) (h : sp__law_very K vs H Q E) : t__law_very K E (D0 Q) (start N__law_very vs) H := by
  obtain ⟨x, rfl, hg, q⟩ := h
  have bt : ∀ {H1 : Hp} {a : Addr} {o : HO}, Same H H1 → But a H (upd H1 a o) := fun e b u n h => by rw [upd_ne n]; exact e _ _ h
  cases hg with
  | @lst a xs h hn =>
    have hput : (xs ++ [V.str "grown"]).length = xs.length + 1 := by simp
    walk_at "hs"
    rw [decide_eq_true (by omega)]
    exact q _ (.inr ⟨a, rfl, bt (sm_new (by assumption)), .inl ⟨xs, h, upd_same⟩⟩)
  | @dic a kvs h hn hg =>
    have hput : (putK kvs (.inr "grown") (.int 1)).length = kvs.length + 1 := by rw [put_new hg]; simp
    walk_at "hs"
    rw [decide_eq_true (by omega)]
    exact q _ (.inr ⟨a, rfl, bt (sm_new (by assumption)), .inr ⟨kvs, h, upd_same⟩⟩)
  | @tup a xs h hs hn =>
    obtain ⟨ds, kd, od⟩ := scas_dp (K := K) (H := H) 7 hs
    have hl := DpAll.len kd
    walk_at "hs"
    rename_i p hp
    have dp := Dp.same (sm_new (u := .tup [V.ty "list", V.ty "dict"]) hp) (.tup h kd)
    exact u__law_same (n := 8) dp dp (by simp only [okD]; exact ⟨7, rfl, by omega, od⟩) fun H' e => q H' (.inl (Same.trans (sm_new hp) e))
  | sc h =>
    obtain ⟨d, kd, od⟩ := sca_dp (K := K) (H := H) 8 h
    have fin : ∀ p, H p = none → sp__law_same K [x, x] (upd H p (.tup [V.ty "list", V.ty "dict"])) (fun v H' => Q v H') E00 := fun p hp => by
      have dp := Dp.same (sm_new (u := .tup [V.ty "list", V.ty "dict"]) hp) kd
      exact u__law_same (n := 8) dp dp od fun H' e => q H' (.inl (Same.trans (sm_new hp) e))
    cases x with
    | non => walk_at "hs"; exact fin _ (by assumption)
    | bl b => walk_at "hs"; exact fin _ (by assumption)
    | int i => walk_at "hs"; exact fin _ (by assumption)
    | str s => walk_at "hs"; exact fin _ (by assumption)
    | _ => cases h
theorem u__law_very {H : Hp} {Q : VK} {E : XK} {x : V} (h : Gv K H x) (q : ∀ H', Grw x H H' → Q (.bl true) H') : sp__law_very K [x, x] H Q E := ⟨x, rfl, h, q⟩
theorem p__law_no_number (vs : List V) (H : Hp) (Q : VK) (E : XK) (h : sp__law_no_number K vs H Q E) : t__law_no_number K E (D0 Q) (start N__law_no_number vs) H := by
  obtain ⟨b, c, lo, hi, rfl, hb, hc, l0, l1, q⟩ := h
  have l0 : -100000000000000000000 < lo := l0
  have l1 : hi < 100000000000000000000 := l1
  walk_at "hs"
  refine w_ixl_v 10 (by walk_at "sl") rfl (by omega) (by omega) ?_
  have hb2 : BoxAt _ b (c + 2) := BoxAt.mono (by assumption) (by omega)
  refine fm_cons (q _ _ (by walk_at "ks") hb2 (.sc rfl) (betw_f (.inl (by omega))) (fresh_sc rfl)) ?_
  refine fm_cons (q _ _ (by walk_at "ks") hb2 (.sc rfl) (betw_f (.inr (by omega))) (fresh_sc rfl)) ?_
  refine fm_cons (q _ _ (by walk_at "ks") hb2 (.sc rfl) rfl (fresh_sc rfl)) ?_
  refine fm_cons (q _ _ (by walk_at "ks") hb2 (.sc rfl) rfl (fresh_sc rfl)) ?_
  refine fm_cons (q _ _ (by walk_at "ks") hb2 (.sc rfl) rfl (fresh_sc rfl)) ?_
  refine fm_cons (q _ _ (by walk_at "ks") hb2 (.lst (by walk_at "lk") (bN_le rfl) rfl) rfl (fresh_of (by assumption) (by walk_at "ks"))) ?_
  refine fm_cons (q _ _ (by walk_at "ks") hb2 (.tup (by walk_at "lk") rfl (bN_le rfl)) rfl (fresh_of (by assumption) (by walk_at "ks"))) ?_
  refine fm_cons (q _ _ (by walk_at "ks") hb2 (.dic (by walk_at "lk")) rfl (fresh_of (by assumption) (by walk_at "ks"))) ?_
  refine fm_cons (q _ _ (by walk_at "ks") hb2 (.sc rfl) (betw_f (.inr (by omega))) (fresh_sc rfl)) ?_
  refine fm_cons (q _ _ (by walk_at "ks") hb2 (.sc rfl) (betw_f (.inl (by omega))) (fresh_sc rfl)) ?_
  exact fm_nil
theorem u__law_no_number {H : Hp} {Q : VK} {E : XK} {b : Addr} {c lo hi : Int} (hb : BoxAt H b c) (hc : c < 900000000) (l0 : -100000000000000000000 < lo) (l1 : hi < 100000000000000000000)
    (q : ∀ v H', Ks H H' → BoxAt H' b (c + 2) → Ob H' v → betw v lo hi = false → Fresh H v → Q v H') : sp__law_no_number K [.ref b, .int lo, .int hi] H Q E := ⟨b, c, lo, hi, rfl, hb, hc, l0, l1, q⟩
local macro_rules | `(tactic| walk_at "hc") => `(tactic| (with_reducible show sp__law_no_number _ _ _ _ _); (refine u__law_no_number (by walk_at "bx") (by omega) (by omega) (by omega) ?_); intro _ _ _ _ _ _ _)
end My
set_option linter.all false
set_option maxRecDepth 100000
set_option maxHeartbeats 2000000
namespace My
open PySem PySem.Spec PyProof.Rows L2 Kx
local macro_rules | `(tactic| walk_at "lk") => `(tactic| first | assumption | ((with_reducible show upd _ _ _ _ = _); (first | exact upd_same | (exact up_new (by assumption) (by walk_at "lk")) | (exact up_other (by assumption) (by walk_at "lk")))) | (exact (by assumption : Same _ _) _ _ (by walk_at "lk")) | (exact ks_get (by assumption) (by walk_at "lk") (by first | rfl | exact notBox_len rfl)))
local macro_rules | `(tactic| walk_at "sl") => `(tactic| first | assumption | (exact l_of (by walk_at "lk")) | (exact Same.seq (by assumption) (by walk_at "sl")) | ((with_reducible show SqL _ (upd _ _ _) _ _); (exact Same.seq (sm_new (by assumption)) (by walk_at "sl"))))
local macro_rules | `(tactic| walk_at "st") => `(tactic| first | assumption | (exact t_of (by walk_at "lk")) | (exact Kx.Same.tup (by assumption) (by walk_at "st")) | ((with_reducible show SqT _ (upd _ _ _) _ _); (exact Kx.Same.tup (sm_new (by assumption)) (by walk_at "st"))) | (exact ks_tup (by assumption) (by walk_at "st")))
local macro_rules | `(tactic| walk_at "kd") => `(tactic| first | assumption | exact .non | exact .bl _ | exact .int _ | exact .str _ | (exact .lst (by walk_at "sl")) | (exact .tup (by walk_at "st")) | (exact .dic (by walk_at "lk")) | (exact Kd.same (by assumption) (by walk_at "kd")) | ((with_reducible show Kd _ (upd _ _ _) _ _); (exact Kd.same (sm_new (by assumption)) (by walk_at "kd"))))
local macro_rules | `(tactic| walk_at "tt") => `(tactic| first | rfl | assumption | decide +kernel | (simp only [decide_eq_true_eq, Bool.not_eq_true', decide_eq_false_iff_not, Bool.and_eq_true, Bool.or_eq_true]; omega))
local macro_rules | `(tactic| walk_at "ff") => `(tactic| first | rfl | assumption | decide +kernel | (simp only [decide_eq_true_eq, Bool.not_eq_false', decide_eq_false_iff_not, Bool.and_eq_false_imp, Bool.or_eq_false_iff]; omega))
local macro_rules | `(tactic| walk_at "hc") => `(tactic| fail)
local macro_rules | `(tactic| walk_at "hif") => `(tactic| ((with_reducible refine w_b2 ?_ ?_) <;> intro))
local macro_rules | `(tactic| walk_at "hs1") => `(tactic| first
  | (with_reducible refine w_seq ?_)
  | (with_reducible refine w_asg ?_)
  | ((with_reducible refine' w_var ?k1 ?_); (case k1 => exact rfl))
  | (with_reducible refine w_c ?_)
  | (with_reducible refine w_op ?_)
  | (with_reducible refine w_cons ?_)
  | (with_reducible refine w_nil ?_)
  | (with_reducible refine w_name ?_)
  | (with_reducible refine w_kn ?_)
  | (with_reducible refine w_kx ?_)
  | (with_reducible refine w_kk ?_)
  | (with_reducible refine w_cb ?_)
  | (with_reducible refine w_if ?_)
  | (with_reducible refine w_test ?_)
  | (with_reducible refine w_exb ?_)
  | (with_reducible refine iteT ?_)
  | (with_reducible refine iteF ?_)
  | ((with_reducible refine w_bt ?_ ?_); (first | rfl | decide +kernel))
  | ((with_reducible refine w_bf ?_ ?_); (first | rfl | decide +kernel))
  | ((with_reducible refine w_bt ?_ ?_); (walk_at "tt"))
  | ((with_reducible refine w_bf ?_ ?_); (walk_at "ff"))
  | (with_reducible refine w_ret ?_)
  | (with_reducible refine w_retN ?_)
  | (with_reducible refine w_drop ?_)
  | (with_reducible refine w_next ?_)
  | (with_reducible refine w_brk ?_)
  | (with_reducible refine w_cont ?_)
  | (with_reducible refine w_and ?_)
  | (with_reducible refine w_or ?_)
  | (with_reducible refine w_not ?_)
  | (with_reducible refine w_tr ?_)
  | (with_reducible refine w_yes ?_)
  | (with_reducible refine w_tru_bl ?_)
  | (with_reducible refine w_tru_int ?_)
  | (with_reducible refine w_tru_non ?_)
  | (with_reducible refine w_andV ?_)
  | (with_reducible refine w_orV ?_)
  | (with_reducible refine w_notV ?_)
  | (with_reducible refine w_ifx ?_)
  | (with_reducible refine w_chain ?_)
  | (with_reducible refine w_un ?_)
  | (with_reducible refine n_tup ?_)
  | (with_reducible refine n_lst ?_)
  | ((with_reducible show kTup _ _ _); (refine n_ktup rfl ?_); intro _ _ _ _ _)
  | ((with_reducible show kLst _ _ _); (refine n_klst rfl ?_); intro _ _ _ _ _)
  | (with_reducible refine w_par ?_)
  | (with_reducible refine w_par2 ?_)
  | (with_reducible refine w_par3 ?_)
  | (with_reducible refine w_par33 ?_)
  | ((with_reducible refine' w_aug ?k1 ?_); (case k1 => exact rfl))
  | (with_reducible refine w_raise ?_)
  | (with_reducible refine w_mkdue ?_)
  | (with_reducible refine w_one ?_)
  | ((with_reducible show gSq _ _ _ (V.ref _) _ _ _); (first | (refine n_gsq (by walk_at "lk") (by exact rfl) (by exact rfl) ?_) | (refine w_gtup (by walk_at "st") (by exact rfl) ?_) | (refine w_glst (by walk_at "sl") (by exact rfl) ?_)))
  | (with_reducible refine w_gcons ?_)
  | (with_reducible refine w_gnil ?_)
  | (with_reducible refine w_bm ?_)
  | ((with_reducible show tyV _ "list" (V.ref _) _ ∧ _); (refine w_tyl (by walk_at "sl") ?_))
  | (with_reducible refine w_for ?_)
  | (with_reducible refine w_rng1 ?_)
  | (with_reducible refine w_rng2 ?_)
  | (with_reducible refine w_add_ii ?_)
  | (with_reducible refine w_sub_ii ?_)
  | ((with_reducible refine w_fdv_ii ?_ ?_ ?_); (first | decide | omega); (first | decide | omega))
  | ((with_reducible refine w_mul_b ?_ ?_ ?_); (refine ⟨?_, ?_⟩ <;> omega); (refine ⟨?_, ?_⟩ <;> omega))
  | ((with_reducible refine w_mod_ii ?_ ?_); (first | decide | omega))
  | (with_reducible refine w_neg_i ?_)
  | (with_reducible refine w_lt_ii ?_)
  | (with_reducible refine w_le_ii ?_)
  | (with_reducible refine w_gt_ii ?_)
  | (with_reducible refine w_ge_ii ?_)
  | (with_reducible refine w_eq_ii ?_)
  | (with_reducible refine w_ne_ii ?_)
  | (with_reducible refine n_eq_same ?_)
  | (with_reducible refine n_ne_same ?_)
  | (with_reducible refine w_eq_ss ?_)
  | (with_reducible refine w_ne_ss ?_)
  | (with_reducible refine w_eq_bb ?_)
  | (with_reducible refine w_ne_bb ?_)
  | (with_reducible refine w_is_n ?_)
  | (with_reducible refine w_isn_n ?_)
  | (with_reducible refine w_is_bb ?_)
  | (with_reducible refine w_isn_bb ?_)
  | ((with_reducible show rIx _ (V.ref _) (V.int _) _ _); (first | (refine n_ix (by decide) (by walk_at "lk") (by exact rfl) ?_) | (refine n_ixl (by decide) (by walk_at "sl") (by exact rfl) ?_) | (refine n_ixt (by decide) (by walk_at "st") (by exact rfl) ?_)))
  | (with_reducible refine w_ipadd ?_)
  | (with_reducible refine w_ipsub ?_)
  | (with_reducible refine w_int_i ?_)
  | (with_reducible refine w_int_b ?_)
  | (with_reducible refine w_abs ?_)
  | ((with_reducible refine w_max2r ?_); intro _ _ _ _)
  | ((with_reducible refine w_min2r ?_); intro _ _ _ _)
  | ((with_reducible show uLen _ [V.ref _] _ _); (first | (refine n_len (by walk_at "lk") (by exact rfl) ?_) | (refine w_len_l (by walk_at "sl") ?_) | (refine w_len_t (by walk_at "st") ?_) | (refine w_len_d (by walk_at "lk") ?_)))
  | ((with_reducible show uIsi _ [_, V.ty _] _ _); (refine w_isk (by walk_at "kd") (by decide) ?_))
  | ((with_reducible show uIsi _ [_, V.ref _] _ _); (refine w_isk2 (by walk_at "lk") (by walk_at "kd") (by decide) (by decide) ?_))
  | (with_reducible refine w_wN ?_)
  | (with_reducible refine w_lc ?_)
  | ((with_reducible refine' w_rng2e ?k1 ?_); (case k1 => (refine ⟨?_, ?_, ?_, ?_⟩ <;> omega)))
  | ((with_reducible refine' w_rng1e ?k1 ?k2 ?_); (case k1 => omega); (case k2 => omega))
  | ((with_reducible show ∃ a', V.ref _ = .ref a' ∧ (∃ xs, SqL _ _ a' xs) ∧ _); (refine w_sqLe (by walk_at "sl") ?_))
  | ((with_reducible show ∃ a', V.ref _ = .ref a' ∧ (∃ xs, SqT _ _ a' xs) ∧ _); (refine w_sqTe (by walk_at "st") ?_))
  | (with_reducible refine w_slc ?_)
  | (with_reducible refine w_nop ?_)
  | (with_reducible refine w_part ?_)
  | (with_reducible refine w_exi ?_)
  | ((with_reducible show uSl _ (V.ref _) _ _ _ _); (refine n_slL (by walk_at "sl") ?_); intro _ _ _ _ _)
  | (with_reducible refine w_gsub ?_)
  | ((with_reducible show rSetL (V.ref _) (V.int _) _ _ _); (refine w_setl (by walk_at "lk") (by exact rfl) ?_))
  | (with_reducible refine w_pow_9 ?_)
  | (with_reducible refine w_pow_12 ?_)
  | (with_reducible refine w_pow_13 ?_)
  | (with_reducible refine w_pow_18 ?_)
  | (with_reducible refine w_pow_29 ?_)
  | ((with_reducible refine n_disp1 ?_); intro _ _ _ _ _)
  | (with_reducible refine w_dput ?_)
  | ((with_reducible show rAppend (V.ref _) [_] _ _); (refine w_append (by walk_at "lk") (by first | omega | (exact Nat.lt_of_le_of_lt (wN_le rfl) (by decide))) ?_))
  | ((with_reducible show ∃ a' H4, V.ref _ = .ref a' ∧ DPut _ a' (V.str _) _ H4 ∧ _); (refine w_dputS (by walk_at "lk") (by first | omega | exact wN_le rfl) ?_))
  | (with_reducible refine w_try ?_)
  | ((with_reducible show wManyA _ _ _ _ (.ref (He.ga _ _)) _ _ _); (first | ((refine w_hit (ExT.ex (by assumption) _ (by decide) _ (by decide)) ?_); intro _ _) | (refine w_miss (ExT.ex (by assumption) _ (by decide) _ (by decide)) ?_)))
  | (with_reducible refine w_xg ?_)
  | ((with_reducible show V.ref _ = .ref _ ∧ ∃ _ _ _ _, Value.ref (He.ga _ _) = _ ∧ _); (refine w_xge (ExT.xf (by assumption) _ (by decide)) (ExT.fg (by assumption) _ (by decide)) (by walk_at "lk") ?_))
  | ((with_reducible show rIsX _ (.ref (He.ga _ _)) _ _ _ _ _); (refine w_isx (ExT.xx (by assumption) _ (by decide)) (ExT.kd (by assumption) _ (by decide)) (by walk_at "lk") ?_))
  | ((with_reducible show uAdd _ (V.ref _) (V.ref _) _ _); (refine n_add_ll (by walk_at "lk") (by walk_at "lk") rfl ?_); intro _ _ _ _ _)
  | ((with_reducible show iSeq _ (tLst _) _ _ _); (refine w_sqL ?_))
  | ((with_reducible show iSeq _ (tTup _) _ _ _); (refine w_sqT ?_))
  | (refine ⟨(rfl : wipe _ _ = wipe _ _), ?_⟩)
  | (walk_at "hc"))
local macro_rules | `(tactic| walk_at "hs") => `(tactic| repeat' (walk_at "hs1"))

local macro_rules | `(tactic| walk_at "rg") => `(tactic| repeat' (first | exact rg_nil | (refine rg_cons (by omega) (by omega) ?_)))
local macro_rules | `(tactic| walk_at "sm") => `(tactic| first | exact Same.refl _ | assumption | ((with_reducible show Same _ (upd _ _ _)); (refine Same.trans ?_ (sm_new (by assumption))); walk_at "sm") | ((refine Same.trans ?_ (by assumption)); walk_at "sm"))
local macro_rules | `(tactic| walk_at "bx") => `(tactic| first | assumption | ((with_reducible show BoxAt (upd _ _ _) _ _); (exact BoxAt.new (by assumption) (by walk_at "bx"))) | (exact BoxAt.same (by assumption) (by walk_at "bx")))
local macro_rules | `(tactic| walk_at "ks") => `(tactic| first | exact Ks.refl _ | assumption | ((with_reducible show Ks _ (upd _ _ _)); (refine Ks.trans ?_ (Ks.of (sm_new (by assumption))); walk_at "ks")) | (refine Ks.trans ?_ (by assumption); walk_at "ks") | (refine Ks.trans ?_ (Ks.of (by assumption)); walk_at "ks"))
local macro_rules | `(tactic| walk_at "ob") => `(tactic| first | assumption | exact .sc rfl | (exact Ob.same (by assumption) (by walk_at "ob")) | (exact Ob.ks (by assumption) (by walk_at "ob")))
local macro_rules | `(tactic| walk_at "nd") => `(tactic| first | assumption | (exact Nd.same (by assumption) (by walk_at "nd")) | (exact Nd.ks (by assumption) (by walk_at "nd")))
local macro_rules | `(tactic| walk_at "df") => `(tactic| first | assumption | exact df_sc rfl | (exact df_vr (by assumption) (by walk_at "lk")) | (exact df_rv (by assumption) (by walk_at "ob")) | (exact df_vv (by assumption) (by walk_at "ob")) | (exact Df.symm (df_vv (by assumption) (by walk_at "ob"))))
local macro_rules | `(tactic| walk_at "hc") => `(tactic| (with_reducible show sp_is_whole _ _ _ _ _); (refine u_is_whole (by walk_at "kd") ?_))
local macro_rules | `(tactic| walk_at "hc") => `(tactic| (with_reducible show sp_is_between _ _ _ _ _); (refine u_is_between (by walk_at "kd") ?_))
local macro_rules | `(tactic| walk_at "hc") => `(tactic| (with_reducible show sp_is_day _ _ _ _ _); (refine u_is_day (by walk_at "kd") ?_))
local macro_rules | `(tactic| walk_at "hc") => `(tactic| (with_reducible refine u_is_leap_year ?_))
local macro_rules | `(tactic| walk_at "hc") => `(tactic| (with_reducible refine' u_length_of ?k1 ?k2 ?_); (case k1 => omega); (case k2 => omega))
local macro_rules | `(tactic| walk_at "hc") => `(tactic| (with_reducible refine' u_year_begin ?k1 ?k2 ?_); (case k1 => omega); (case k2 => omega))
local macro_rules | `(tactic| walk_at "hc") => `(tactic| (with_reducible refine' u_month_begin ?k1 ?k2 ?k3 ?k4 ?_); (case k1 => omega); (case k2 => omega); (case k3 => omega); (case k4 => omega); intro _ _)
local macro_rules | `(tactic| walk_at "hc") => `(tactic| (with_reducible show sp__law_take _ _ _ _ _); (refine u__law_take (by walk_at "bx") (by omega) (by omega) (by omega) ?_); intro _ _ _ _ _ _)
local macro_rules | `(tactic| walk_at "hc") => `(tactic| (with_reducible refine u__law_leap ?_))
local macro_rules | `(tactic| walk_at "hc") => `(tactic| (with_reducible show sp__law_length _ _ _ _ _); (refine u__law_length (by omega) (by omega) ?_); intro _ _)
local macro_rules | `(tactic| walk_at "hc") => `(tactic| (with_reducible show sp__law_next _ _ _ _ _); (refine u__law_next (by walk_at "st") (by omega) (by omega) ?_); intro _ _ _ _ _)
local macro_rules | `(tactic| walk_at "hc") => `(tactic| (with_reducible show sp__law_no_number _ _ _ _ _); (refine u__law_no_number (by walk_at "bx") (by omega) (by omega) (by omega) ?_); intro _ _ _ _ _ _ _)
variable {K : PySem.W.Frag}
theorem u_check_day {H : Hp} {Q : VK} {E : XK} {x : V} {T : String} (hk : Kd K H x T) (q1 : betw x 0 MOST = true → Q .non H) (q2 : betw x 0 MOST = false → Er K E H "InvalidDay" x) : sp_check_day K [x] H Q E := ⟨x, T, rfl, hk, q1, q2⟩
theorem betw_day {n : Int} (c : betw (.int n) 0 MOST = true) : 0 ≤ n ∧ n ≤ 1000000000000 := by
  obtain ⟨i, e, h⟩ := betw_int c
  cases e
  exact h
theorem p_number_in_year (vs : List V) (H : Hp) (Q : VK) (E : XK) (h : sp_number_in_year K vs H Q E) : t_number_in_year K E (D0 Q) (start N_number_in_year vs) H := by
  obtain ⟨x, T, rfl, hk, q1, q2⟩ := h
  walk_at "hs"
  refine u_check_day hk (fun c => ?_) q2
  obtain ⟨n, rfl, _, _⟩ := betw_int c
  obtain ⟨n0, n1⟩ := betw_day c
  walk_at "hs"
  refine u_date_at n0 (by omega) fun y m d p H1 hd e hp => ?_
  have y0 := hd.year
  have y1 := yb_bd y0.1 n0 (by omega)
  have y2 := yb_bd0 y0.2 n0
  walk_at "hs"
  exact q1 n rfl c y H1 y0.1 y0.2 e
theorem p_places_at (vs : List V) (H : Hp) (Q : VK) (E : XK) (h : sp_places_at K vs H Q E) : t_places_at K E (D0 Q) (start N_places_at vs) H := by
  obtain ⟨d, l, rfl, d0, d1, l0, l1, q⟩ := h
  walk_at "hs"
  exact q _ _ (by assumption) (by assumption)
theorem u_places_at {H : Hp} {Q : VK} {E : XK} {d l : Int} (d0 : -1000000 < d) (d1 : d < 1000000) (l0 : -1000000 < l) (l1 : l < 1000000) (q : ∀ p H', Same H H' → H' p = some (.tup (plc d l)) → Q (.ref p) H') : sp_places_at K [.int d, .int l] H Q E := ⟨d, l, rfl, d0, d1, l0, l1, q⟩
theorem p_places_in_month (vs : List V) (H : Hp) (Q : VK) (E : XK) (h : sp_places_in_month K vs H Q E) : t_places_in_month K E (D0 Q) (start N_places_in_month vs) H := by
  obtain ⟨x, T, rfl, hk, q1, q2⟩ := h
  walk_at "hs"
  refine u_check_day hk (fun c => ?_) q2
  obtain ⟨n, rfl, _, _⟩ := betw_int c
  obtain ⟨n0, n1⟩ := betw_day c
  walk_at "hs"
  refine u_date_at n0 (by omega) fun y m d p H1 hd e hp => ?_
  have m1 := hd.m1
  have m2 := hd.m2
  have d1 := hd.d1
  have d2 := hd.d2
  have ml := mlen_le y m
  walk_at "hs"
  refine u_places_at (by omega) (by omega) (by omega) (by omega) fun p2 H2 e2 hp2 => ?_
  exact q1 n rfl c y m d p2 H2 hd (Same.trans e e2) hp2
theorem p_day_in_months (vs : List V) (H : Hp) (Q : VK) (E : XK) (h : sp_day_in_months K vs H Q E) : t_day_in_months K E (D0 Q) (start N_day_in_months vs) H := by
  obtain ⟨n, k, rfl, n0, n1, k0, k1, q⟩ := h
  walk_at "hs"
  refine u_date_at n0 (by omega) fun y m d p H1 hd e hp => ?_
  have m1 := hd.m1
  have m2 := hd.m2
  have d1 := hd.d1
  have y0 := hd.year
  have y1 := yb_bd y0.1 n0 (by omega)
  have y2 := yb_bd0 y0.2 n0
  have q := fun H' => q y m d H' hd
  unfold inMon at q
  walk_at "hs"
  refine w_b2 (fun c => ?_) (fun c => ?_) <;> walk_at "hs"
  · have c' : 12 * y + m - 1 + k < 24000 := of_decide_eq_true c
    rw [if_pos c'] at q
    exact q _ e
  · have c' : ¬ 12 * y + m - 1 + k < 24000 := of_decide_eq_false c
    rw [if_neg c'] at q
    rename_i H2 e2 r r1 r2 r3
    have er : r = (if mlen ((12 * y + m - 1 + k) / 12) ((12 * y + m - 1 + k) % 12 + 1) < d then mlen ((12 * y + m - 1 + k) / 12) ((12 * y + m - 1 + k) % 12 + 1) else d) := by split <;> omega
    rw [er]
    exact q _ (Same.trans e e2)
theorem u_day_in_months {H : Hp} {Q : VK} {E : XK} {n c : Int} (n0 : 0 ≤ n) (n1 : n ≤ 1000000000000) (c0 : -1000000 < c) (c1 : c < 1000000) (q : ∀ y m d H', IsD n y m d → Same H H' → Q (oV (inMon y m d c)) H') : sp_day_in_months K [.int n, .int c] H Q E := ⟨n, c, rfl, n0, n1, c0, c1, q⟩
theorem Er.same {H H' : Hp} {E : XK} {x : V} {c : Str} (h : Er K E H' c x) : Er K E H' c x := h
theorem p_months_later (vs : List V) (H : Hp) (Q : VK) (E : XK) (h : sp_months_later K vs H Q E) : t_months_later K E (D0 Q) (start N_months_later vs) H := by
  obtain ⟨x, T, z, U, rfl, hk, hz, q1, q2, q3⟩ := h
  walk_at "hs"
  refine u_check_day hk (fun c => ?_) q2
  obtain ⟨n, rfl, _, _⟩ := betw_int c
  obtain ⟨n0, n1⟩ := betw_day c
  walk_at "hs"
  cases c2 : betw z (-100000) 100000 <;> walk_at "hs"
  · exact q3 c c2
  · obtain ⟨k, rfl, k0, k1⟩ := betw_int c2
    refine u_day_in_months n0 n1 (by omega) (by omega) fun y m d H1 hd e => ?_
    obtain ⟨g1, g2⟩ := q1 n k rfl rfl c c2 y m d hd
    have hM : MOST = 1000000000000 := rfl
    cases em : inMon y m d k with
    | none =>
      have el : later y m d k = none := by unfold later; rw [em]
      walk_at "hs"
      exact g2 H1 el e
    | some r =>
      dsimp only [oV]
      by_cases hr : r ≤ MOST
      · have el : later y m d k = some r := by unfold later; rw [em]; exact if_pos hr
        walk_at "hs"
        exact g1 r H1 el e
      · have el : later y m d k = none := by unfold later; rw [em]; exact if_neg hr
        walk_at "hs"
        exact g2 H1 el e
theorem p__law_ask (X : ExT K ["InvalidDay", "InvalidCount"] "DueError") (vs : List V) (H : Hp) (Q : VK) (E : XK) (h : sp__law_ask K vs H Q E) : t__law_ask K E (D0 Q) (start N__law_ask vs) H := by
  obtain ⟨w, x, z, nm, rfl, ⟨rfl, T, hk, q1, q2⟩ | ⟨rfl, T, hk, q1, q2⟩ | ⟨rfl, T, U, hk, hz, q1, q2, q3⟩⟩ := h
  · cases nm <;> walk_at "hs"
    · refine ⟨_, _, rfl, hk, fun n e c y H1 y0 y1 f => ?_, fun c => ?_⟩
      · walk_at "hs"
        exact q1 n e c y y0 y1 _ _ (by walk_at "sm") (by assumption)
      · intro d hd
        walk_at "hs"
        exact q2 c _ _ (by walk_at "sm") (by assumption)
    · refine ⟨_, _, rfl, hk, fun n e c y H1 y0 y1 f => ?_, fun c => ?_⟩
      · walk_at "hs"
        exact q1 n e c y y0 y1 _ _ (by walk_at "sm") (by assumption)
      · intro d hd
        walk_at "hs"
        exact q2 c _ _ (by walk_at "sm") (by assumption)
  · cases nm <;> walk_at "hs"
    · refine ⟨_, _, rfl, hk, fun n e c y m d p H1 hd f hp => ?_, fun c => ?_⟩
      · walk_at "hs"
        exact q1 n e c y m d p _ _ hd (by walk_at "sm") (by walk_at "lk") (by assumption)
      · intro d hd
        walk_at "hs"
        exact q2 c _ _ (by walk_at "sm") (by assumption)
    · refine ⟨_, _, rfl, hk, fun n e c y m d p H1 hd f hp => ?_, fun c => ?_⟩
      · walk_at "hs"
        exact q1 n e c y m d p _ _ hd (by walk_at "sm") (by walk_at "lk") (by assumption)
      · intro d hd
        walk_at "hs"
        exact q2 c _ _ (by walk_at "sm") (by assumption)
  · cases nm <;> walk_at "hs"
    · refine ⟨_, _, _, _, rfl, hk, hz, fun n k e e2 c c2 y m d hd => ⟨fun r H1 el f => ?_, fun H1 el f => ?_⟩, fun c => ?_, fun c c2 => ?_⟩
      · walk_at "hs"
        exact (q1 n k e e2 c c2 y m d hd).1 r el _ _ (by walk_at "sm") (by assumption)
      · intro d hd
        walk_at "hs"
        exact (q1 n k e e2 c c2 y m _ (by assumption)).2 el _ _ (by walk_at "sm") (by assumption)
      · intro d hd
        walk_at "hs"
        exact q2 c _ _ (by walk_at "sm") (by assumption)
      · intro d hd
        walk_at "hs"
        exact q3 c c2 _ _ (by walk_at "sm") (by assumption)
    · refine ⟨_, _, _, _, rfl, hk, hz, fun n k e e2 c c2 y m d hd => ⟨fun r H1 el f => ?_, fun H1 el f => ?_⟩, fun c => ?_, fun c c2 => ?_⟩
      · walk_at "hs"
        exact (q1 n k e e2 c c2 y m d hd).1 r el _ _ (by walk_at "sm") (by assumption)
      · intro d hd
        walk_at "hs"
        exact (q1 n k e e2 c c2 y m _ (by assumption)).2 el _ _ (by walk_at "sm") (by assumption)
      · intro d hd
        walk_at "hs"
        exact q2 c _ _ (by walk_at "sm") (by assumption)
      · intro d hd
        walk_at "hs"
        exact q3 c c2 _ _ (by walk_at "sm") (by assumption)
end My
set_option linter.all false
set_option maxRecDepth 100000
set_option maxHeartbeats 2000000
namespace My
open PySem PySem.Spec PyProof.Rows L2 Kx
local macro_rules | `(tactic| walk_at "lk") => `(tactic| first | assumption | ((with_reducible show upd _ _ _ _ = _); (first | exact upd_same | (exact up_new (by assumption) (by walk_at "lk")) | (exact up_other (by assumption) (by walk_at "lk")))) | (exact (by assumption : Same _ _) _ _ (by walk_at "lk")) | (exact ks_get (by assumption) (by walk_at "lk") (by first | rfl | exact notBox_len rfl)))
local macro_rules | `(tactic| walk_at "sl") => `(tactic| first | assumption | (exact l_of (by walk_at "lk")) | (exact Same.seq (by assumption) (by walk_at "sl")) | ((with_reducible show SqL _ (upd _ _ _) _ _); (exact Same.seq (sm_new (by assumption)) (by walk_at "sl"))))
local macro_rules | `(tactic| walk_at "st") => `(tactic| first | assumption | (exact t_of (by walk_at "lk")) | (exact Kx.Same.tup (by assumption) (by walk_at "st")) | ((with_reducible show SqT _ (upd _ _ _) _ _); (exact Kx.Same.tup (sm_new (by assumption)) (by walk_at "st"))) | (exact ks_tup (by assumption) (by walk_at "st")))
local macro_rules | `(tactic| walk_at "kd") => `(tactic| first | assumption | exact .non | exact .bl _ | exact .int _ | exact .str _ | (exact .lst (by walk_at "sl")) | (exact .tup (by walk_at "st")) | (exact .dic (by walk_at "lk")) | (exact Kd.same (by assumption) (by walk_at "kd")) | ((with_reducible show Kd _ (upd _ _ _) _ _); (exact Kd.same (sm_new (by assumption)) (by walk_at "kd"))))
local macro_rules | `(tactic| walk_at "tt") => `(tactic| first | rfl | assumption | decide +kernel | (simp only [decide_eq_true_eq, Bool.not_eq_true', decide_eq_false_iff_not, Bool.and_eq_true, Bool.or_eq_true]; omega))
local macro_rules | `(tactic| walk_at "ff") => `(tactic| first | rfl | assumption | decide +kernel | (simp only [decide_eq_true_eq, Bool.not_eq_false', decide_eq_false_iff_not, Bool.and_eq_false_imp, Bool.or_eq_false_iff]; omega))
local macro_rules | `(tactic| walk_at "hc") => `(tactic| fail)
local macro_rules | `(tactic| walk_at "hif") => `(tactic| ((with_reducible refine w_b2 ?_ ?_) <;> intro))
local macro_rules | `(tactic| walk_at "hs1") => `(tactic| first
  | (with_reducible refine w_seq ?_)
  | (with_reducible refine w_asg ?_)
  | ((with_reducible refine' w_var ?k1 ?_); (case k1 => exact rfl))
  | (with_reducible refine w_c ?_)
  | (with_reducible refine w_op ?_)
  | (with_reducible refine w_cons ?_)
  | (with_reducible refine w_nil ?_)
  | (with_reducible refine w_name ?_)
  | (with_reducible refine w_kn ?_)
  | (with_reducible refine w_kx ?_)
  | (with_reducible refine w_kk ?_)
  | (with_reducible refine w_cb ?_)
  | (with_reducible refine w_if ?_)
  | (with_reducible refine w_test ?_)
  | (with_reducible refine w_exb ?_)
  | (with_reducible refine iteT ?_)
  | (with_reducible refine iteF ?_)
  | ((with_reducible refine w_bt ?_ ?_); (first | rfl | decide +kernel))
  | ((with_reducible refine w_bf ?_ ?_); (first | rfl | decide +kernel))
  | ((with_reducible refine w_bt ?_ ?_); (walk_at "tt"))
  | ((with_reducible refine w_bf ?_ ?_); (walk_at "ff"))
  | (with_reducible refine w_ret ?_)
  | (with_reducible refine w_retN ?_)
  | (with_reducible refine w_drop ?_)
  | (with_reducible refine w_next ?_)
  | (with_reducible refine w_brk ?_)
  | (with_reducible refine w_cont ?_)
  | (with_reducible refine w_and ?_)
  | (with_reducible refine w_or ?_)
  | (with_reducible refine w_not ?_)
  | (with_reducible refine w_tr ?_)
  | (with_reducible refine w_yes ?_)
  | (with_reducible refine w_tru_bl ?_)
  | (with_reducible refine w_tru_int ?_)
  | (with_reducible refine w_tru_non ?_)
  | (with_reducible refine w_andV ?_)
  | (with_reducible refine w_orV ?_)
  | (with_reducible refine w_notV ?_)
  | (with_reducible refine w_ifx ?_)
  | (with_reducible refine w_chain ?_)
  | (with_reducible refine w_un ?_)
  | (with_reducible refine n_tup ?_)
  | (with_reducible refine n_lst ?_)
  | ((with_reducible show kTup _ _ _); (refine n_ktup rfl ?_); intro _ _ _ _ _)
  | ((with_reducible show kLst _ _ _); (refine n_klst rfl ?_); intro _ _ _ _ _)
  | (with_reducible refine w_par ?_)
  | (with_reducible refine w_par2 ?_)
  | (with_reducible refine w_par3 ?_)
  | (with_reducible refine w_par33 ?_)
  | ((with_reducible refine' w_aug ?k1 ?_); (case k1 => exact rfl))
  | (with_reducible refine w_raise ?_)
  | (with_reducible refine w_mkdue ?_)
  | (with_reducible refine w_one ?_)
  | ((with_reducible show gSq _ _ _ (V.ref _) _ _ _); (first | (refine n_gsq (by walk_at "lk") (by exact rfl) (by exact rfl) ?_) | (refine w_gtup (by walk_at "st") (by exact rfl) ?_) | (refine w_glst (by walk_at "sl") (by exact rfl) ?_)))
  | (with_reducible refine w_gcons ?_)
  | (with_reducible refine w_gnil ?_)
  | (with_reducible refine w_bm ?_)
  | ((with_reducible show tyV _ "list" (V.ref _) _ ∧ _); (refine w_tyl (by walk_at "sl") ?_))
  | (with_reducible refine w_for ?_)
  | (with_reducible refine w_rng1 ?_)
  | (with_reducible refine w_rng2 ?_)
  | (with_reducible refine w_add_ii ?_)
  | (with_reducible refine w_sub_ii ?_)
  | ((with_reducible refine w_fdv_ii ?_ ?_ ?_); (first | decide | omega); (first | decide | omega))
  | ((with_reducible refine w_mul_b ?_ ?_ ?_); (refine ⟨?_, ?_⟩ <;> omega); (refine ⟨?_, ?_⟩ <;> omega))
  | ((with_reducible refine w_mod_ii ?_ ?_); (first | decide | omega))
  | (with_reducible refine w_neg_i ?_)
  | (with_reducible refine w_lt_ii ?_)
  | (with_reducible refine w_le_ii ?_)
  | (with_reducible refine w_gt_ii ?_)
  | (with_reducible refine w_ge_ii ?_)
  | (with_reducible refine w_eq_ii ?_)
  | (with_reducible refine w_ne_ii ?_)
  | (with_reducible refine n_eq_same ?_)
  | (with_reducible refine n_ne_same ?_)
  | (with_reducible refine w_eq_ss ?_)
  | (with_reducible refine w_ne_ss ?_)
  | (with_reducible refine w_eq_bb ?_)
  | (with_reducible refine w_ne_bb ?_)
  | (with_reducible refine w_is_n ?_)
  | (with_reducible refine w_isn_n ?_)
  | (with_reducible refine w_is_bb ?_)
  | (with_reducible refine w_isn_bb ?_)
  | ((with_reducible show rIx _ (V.ref _) (V.int _) _ _); (first | (refine n_ix (by decide) (by walk_at "lk") (by exact rfl) ?_) | (refine n_ixl (by decide) (by walk_at "sl") (by exact rfl) ?_) | (refine n_ixt (by decide) (by walk_at "st") (by exact rfl) ?_)))
  | (with_reducible refine w_ipadd ?_)
  | (with_reducible refine w_ipsub ?_)
  | (with_reducible refine w_int_i ?_)
  | (with_reducible refine w_int_b ?_)
  | (with_reducible refine w_abs ?_)
  | ((with_reducible refine w_max2r ?_); intro _ _ _ _)
  | ((with_reducible refine w_min2r ?_); intro _ _ _ _)
  | ((with_reducible show uLen _ [V.ref _] _ _); (first | (refine n_len (by walk_at "lk") (by exact rfl) ?_) | (refine w_len_l (by walk_at "sl") ?_) | (refine w_len_t (by walk_at "st") ?_) | (refine w_len_d (by walk_at "lk") ?_)))
  | ((with_reducible show uIsi _ [_, V.ty _] _ _); (refine w_isk (by walk_at "kd") (by decide) ?_))
  | ((with_reducible show uIsi _ [_, V.ref _] _ _); (refine w_isk2 (by walk_at "lk") (by walk_at "kd") (by decide) (by decide) ?_))
  | (with_reducible refine w_wN ?_)
  | (with_reducible refine w_lc ?_)
  | ((with_reducible refine' w_rng2e ?k1 ?_); (case k1 => (refine ⟨?_, ?_, ?_, ?_⟩ <;> omega)))
  | ((with_reducible refine' w_rng1e ?k1 ?k2 ?_); (case k1 => omega); (case k2 => omega))
  | ((with_reducible show ∃ a', V.ref _ = .ref a' ∧ (∃ xs, SqL _ _ a' xs) ∧ _); (refine w_sqLe (by walk_at "sl") ?_))
  | ((with_reducible show ∃ a', V.ref _ = .ref a' ∧ (∃ xs, SqT _ _ a' xs) ∧ _); (refine w_sqTe (by walk_at "st") ?_))
  | (with_reducible refine w_slc ?_)
  | (with_reducible refine w_nop ?_)
  | (with_reducible refine w_part ?_)
  | (with_reducible refine w_exi ?_)
  | ((with_reducible show uSl _ (V.ref _) _ _ _ _); (refine n_slL (by walk_at "sl") ?_); intro _ _ _ _ _)
  | (with_reducible refine w_gsub ?_)
  | ((with_reducible show rSetL (V.ref _) (V.int _) _ _ _); (refine w_setl (by walk_at "lk") (by exact rfl) ?_))
  | (with_reducible refine w_pow_9 ?_)
  | (with_reducible refine w_pow_12 ?_)
  | (with_reducible refine w_pow_13 ?_)
  | (with_reducible refine w_pow_18 ?_)
  | (with_reducible refine w_pow_29 ?_)
  | ((with_reducible refine n_disp1 ?_); intro _ _ _ _ _)
  | (with_reducible refine w_dput ?_)
  | ((with_reducible show rAppend (V.ref _) [_] _ _); (refine w_append (by walk_at "lk") (by first | omega | (exact Nat.lt_of_le_of_lt (wN_le rfl) (by decide))) ?_))
  | ((with_reducible show ∃ a' H4, V.ref _ = .ref a' ∧ DPut _ a' (V.str _) _ H4 ∧ _); (refine w_dputS (by walk_at "lk") (by first | omega | exact wN_le rfl) ?_))
  | (with_reducible refine w_try ?_)
  | ((with_reducible show wManyA _ _ _ _ (.ref (He.ga _ _)) _ _ _); (first | ((refine w_hit (ExT.ex (by assumption) _ (by decide) _ (by decide)) ?_); intro _ _) | (refine w_miss (ExT.ex (by assumption) _ (by decide) _ (by decide)) ?_)))
  | (with_reducible refine w_xg ?_)
  | ((with_reducible show V.ref _ = .ref _ ∧ ∃ _ _ _ _, Value.ref (He.ga _ _) = _ ∧ _); (refine w_xge (ExT.xf (by assumption) _ (by decide)) (ExT.fg (by assumption) _ (by decide)) (by walk_at "lk") ?_))
  | ((with_reducible show rIsX _ (.ref (He.ga _ _)) _ _ _ _ _); (refine w_isx (ExT.xx (by assumption) _ (by decide)) (ExT.kd (by assumption) _ (by decide)) (by walk_at "lk") ?_))
  | ((with_reducible show uAdd _ (V.ref _) (V.ref _) _ _); (refine n_add_ll (by walk_at "lk") (by walk_at "lk") rfl ?_); intro _ _ _ _ _)
  | ((with_reducible show iSeq _ (tLst _) _ _ _); (refine w_sqL ?_))
  | ((with_reducible show iSeq _ (tTup _) _ _ _); (refine w_sqT ?_))
  | (refine ⟨(rfl : wipe _ _ = wipe _ _), ?_⟩)
  | (walk_at "hc"))
local macro_rules | `(tactic| walk_at "hs") => `(tactic| repeat' (walk_at "hs1"))

local macro_rules | `(tactic| walk_at "rg") => `(tactic| repeat' (first | exact rg_nil | (refine rg_cons (by omega) (by omega) ?_)))
local macro_rules | `(tactic| walk_at "sm") => `(tactic| first | exact Same.refl _ | assumption | ((with_reducible show Same _ (upd _ _ _)); (refine Same.trans ?_ (sm_new (by assumption))); walk_at "sm") | ((refine Same.trans ?_ (by assumption)); walk_at "sm"))
local macro_rules | `(tactic| walk_at "bx") => `(tactic| first | assumption | ((with_reducible show BoxAt (upd _ _ _) _ _); (exact BoxAt.new (by assumption) (by walk_at "bx"))) | (exact BoxAt.same (by assumption) (by walk_at "bx")))
local macro_rules | `(tactic| walk_at "ks") => `(tactic| first | exact Ks.refl _ | assumption | ((with_reducible show Ks _ (upd _ _ _)); (refine Ks.trans ?_ (Ks.of (sm_new (by assumption))); walk_at "ks")) | (refine Ks.trans ?_ (by assumption); walk_at "ks") | (refine Ks.trans ?_ (Ks.of (by assumption)); walk_at "ks"))
local macro_rules | `(tactic| walk_at "ob") => `(tactic| first | assumption | exact .sc rfl | (exact Ob.same (by assumption) (by walk_at "ob")) | (exact Ob.ks (by assumption) (by walk_at "ob")))
local macro_rules | `(tactic| walk_at "nd") => `(tactic| first | assumption | (exact Nd.same (by assumption) (by walk_at "nd")) | (exact Nd.ks (by assumption) (by walk_at "nd")))
local macro_rules | `(tactic| walk_at "df") => `(tactic| first | assumption | exact df_sc rfl | (exact df_vr (by assumption) (by walk_at "lk")) | (exact df_rv (by assumption) (by walk_at "ob")) | (exact df_vv (by assumption) (by walk_at "ob")) | (exact Df.symm (df_vv (by assumption) (by walk_at "ob"))))
local macro_rules | `(tactic| walk_at "hc") => `(tactic| (with_reducible show sp_is_whole _ _ _ _ _); (refine u_is_whole (by walk_at "kd") ?_))
local macro_rules | `(tactic| walk_at "hc") => `(tactic| (with_reducible show sp_is_between _ _ _ _ _); (refine u_is_between (by walk_at "kd") ?_))
local macro_rules | `(tactic| walk_at "hc") => `(tactic| (with_reducible show sp_is_day _ _ _ _ _); (refine u_is_day (by walk_at "kd") ?_))
local macro_rules | `(tactic| walk_at "hc") => `(tactic| (with_reducible refine u_is_leap_year ?_))
local macro_rules | `(tactic| walk_at "hc") => `(tactic| (with_reducible refine' u_length_of ?k1 ?k2 ?_); (case k1 => omega); (case k2 => omega))
local macro_rules | `(tactic| walk_at "hc") => `(tactic| (with_reducible refine' u_year_begin ?k1 ?k2 ?_); (case k1 => omega); (case k2 => omega))
local macro_rules | `(tactic| walk_at "hc") => `(tactic| (with_reducible refine' u_month_begin ?k1 ?k2 ?k3 ?k4 ?_); (case k1 => omega); (case k2 => omega); (case k3 => omega); (case k4 => omega); intro _ _)
local macro_rules | `(tactic| walk_at "hc") => `(tactic| (with_reducible show sp__law_take _ _ _ _ _); (refine u__law_take (by walk_at "bx") (by omega) (by omega) (by omega) ?_); intro _ _ _ _ _ _)
local macro_rules | `(tactic| walk_at "hc") => `(tactic| (with_reducible refine u__law_leap ?_))
local macro_rules | `(tactic| walk_at "hc") => `(tactic| (with_reducible show sp__law_length _ _ _ _ _); (refine u__law_length (by omega) (by omega) ?_); intro _ _)
local macro_rules | `(tactic| walk_at "hc") => `(tactic| (with_reducible show sp__law_next _ _ _ _ _); (refine u__law_next (by walk_at "st") (by omega) (by omega) ?_); intro _ _ _ _ _)
local macro_rules | `(tactic| walk_at "hc") => `(tactic| (with_reducible show sp__law_no_number _ _ _ _ _); (refine u__law_no_number (by walk_at "bx") (by omega) (by omega) (by omega) ?_); intro _ _ _ _ _ _ _)
variable {K : PySem.W.Frag}
theorem leap_400 (y : Int) (q : Int) : lp (y + 400 * q) = lp y := by
  rw [lp_eq, lp_eq]
  have : (y + 400 * q) % 4 = y % 4 := by omega
  have : (y + 400 * q) % 100 = y % 100 := by omega
  have : (y + 400 * q) % 400 = y % 400 := by omega
  simp [*]
theorem yb_400k (y q : Int) : yb (y + 400 * q) = yb y + 146097 * q := by
  unfold yb
  omega
theorem p__law_day_of (vs : List V) (H : Hp) (Q : VK) (E : XK) (h : sp__law_day_of K vs H Q E) : t__law_day_of K E (D0 Q) (start N__law_day_of vs) H := by
  obtain ⟨a, y, m, d, rfl, hs, y0, y1, m1, m2, q⟩ := h
  walk_at "hs"
  refine for_range (lo := 0) (n := ((y - 2000) % 400).toNat) (fun i σ H1 => ∃ s3, σ = [some (.ref a), some (.int (y - 2000)), some (.int (d - 1 + (yb (2000 + (i : Int)) - yb 2000))), s3] ∧ Same H H1)
    ⟨_, by simp; rfl, Same.refl _⟩ ?_ ?_
  · rintro i σ H1 hi ⟨s3, rfl, e⟩
    walk_at "hs"
    have e1 : yb (2000 + ((i + 1 : Nat) : Int)) = yb (2000 + (i : Int)) + 365 + lp (2000 + (i : Int)) := by
      rw [show 2000 + ((i + 1 : Nat) : Int) = (2000 + (i : Int)) + 1 by omega, yb_succ]
    have e2 : lp (2000 + (i : Int)) = lp (0 + (i : Int)) := by
      have := leap_400 (0 + (i : Int)) 5
      rw [show (0 : Int) + (i : Int) + 400 * 5 = 2000 + (i : Int) by omega] at this
      exact this
    have key : d - 1 + (yb (2000 + (i : Int)) - yb 2000) + 365 + lp (0 + (i : Int)) = d - 1 + (yb (2000 + ((i + 1 : Nat) : Int)) - yb 2000) := by rw [e1, e2]; omega
    exact ⟨some (.int (0 + (i : Int))), by rw [← key]; rfl, by walk_at "sm"⟩
  · rintro σ H1 ⟨s3, rfl, e⟩
    have er : ((((y - 2000) % 400).toNat : Nat) : Int) = (y - 2000) % 400 := by omega
    rw [er]
    have ey : yb y = yb (2000 + (y - 2000) % 400) + 146097 * ((y - 2000) / 400) := by
      rw [← yb_400k]
      congr 1
      omega
    have e0 : yb 2000 = 0 := by decide
    walk_at "hs"
    intro D hD
    refine lc_range (lo := 1) (n := (m - 1).toNat) (LcP H1 D fun i => ((List.range i).map fun (j : Nat) => mlen y (1 + (j : Int))).map V.int) (LcP.zero hD rfl) ?_ ?_
    · intro i H' hi P
      have P1 := P.1
      walk_at "hs"
      refine LcP.one P (by walk_at "sm") hD ?_ ?_
      · simp; omega
      · simp [List.range_succ]
    · intro H' P
      walk_at "hs"
      refine w_sum (l_of P.2) ?_
      rw [ahead_sum]
      walk_at "hs"
      have em : mb y m = yb y + ahead y (m - 1).toNat := rfl
      have := q H' (Same.trans e P.1)
      rw [em, ey] at this
      rw [show 146097 * ((y - 2000) / 400) + (d - 1 + (yb (2000 + (y - 2000) % 400) - yb 2000)) + ahead y (m - 1).toNat = yb (2000 + (y - 2000) % 400) + 146097 * ((y - 2000) / 400) + ahead y (m - 1).toNat + d - 1 by omega]
      exact this
theorem u__law_day_of {H : Hp} {Q : VK} {E : XK} {a : Addr} {y m d : Int} (hs : SqT K H a [.int y, .int m, .int d]) (y0 : 2000 ≤ y) (y1 : y < 10000000000000) (m1 : 1 ≤ m) (m2 : m ≤ 12) (q : ∀ H', Same H H' → Q (.int (mb y m + d - 1)) H') : sp__law_day_of K [.ref a] H Q E := ⟨a, y, m, d, rfl, hs, y0, y1, m1, m2, q⟩
local macro_rules | `(tactic| walk_at "hc") => `(tactic| (with_reducible show sp__law_day_of _ _ _ _ _); (refine u__law_day_of (by walk_at "st") (by omega) (by omega) (by omega) (by omega) ?_); intro _ _)
theorem oV_le (r : Int) : oV (if r ≤ MOST then some r else none) = if r ≤ MOST then .int r else .non := by split <;> rfl
theorem p__law_in_months (vs : List V) (H : Hp) (Q : VK) (E : XK) (h : sp__law_in_months K vs H Q E) : t__law_in_months K E (D0 Q) (start N__law_in_months vs) H := by
  obtain ⟨a, y, m, d, k, rfl, hs, y0, y1, m1, m2, k0, k1, q⟩ := h
  unfold later inMon at q
  walk_at "hs"
  refine w_b2 (fun c => ?_) (fun c => ?_)
  · have c2 := of_decide_eq_true c
    have c' : 12 * y + m - 1 + k < 24000 := by omega
    rw [if_pos c'] at q
    walk_at "hs"
    exact q _ (Same.refl _)
  · have c2 := of_decide_eq_false c
    have c' : ¬ 12 * y + m - 1 + k < 24000 := by omega
    walk_at "hs"
    rw [if_neg c'] at q
    have q2 : ∀ v, v = (if mlen ((12 * y + m - 1 + k) / 12) ((12 * y + m - 1 + k) % 12 + 1) < d then mlen ((12 * y + m - 1 + k) / 12) ((12 * y + m - 1 + k) % 12 + 1) else d) → ∀ H', Same H H' → Q (if mb ((12 * y + m - 1 + k) / 12) ((12 * y + m - 1 + k) % 12 + 1) + v - 1 ≤ MOST then .int (mb ((12 * y + m - 1 + k) / 12) ((12 * y + m - 1 + k) % 12 + 1) + v - 1) else .non) H' := by
      rintro v rfl H' e
      have := q H' e
      dsimp only at this
      rw [oV_le] at this
      exact this
    rename_i H2 e2 r r1 r2 r3 p H3 n3 e3 h3 H4 e4
    have q3 := q2 r (by split <;> omega) H4 (by walk_at "sm")
    refine w_b2 (fun c => ?_) (fun c => ?_) <;> walk_at "hs"
    · rw [if_pos (show _ ≤ MOST from of_decide_eq_true c)] at q3
      exact q3
    · rw [if_neg (show ¬ _ ≤ MOST from of_decide_eq_false c)] at q3
      exact q3
theorem u__law_in_months {H : Hp} {Q : VK} {E : XK} {a : Addr} {y m d k : Int} (hs : SqT K H a [.int y, .int m, .int d]) (y0 : 2000 ≤ y) (y1 : y < 1000000000000) (m1 : 1 ≤ m) (m2 : m ≤ 12) (k0 : -1000000 < k) (k1 : k < 1000000) (q : ∀ H', Same H H' → Q (oV (later y m d k)) H') : sp__law_in_months K [.ref a, .int k] H Q E := ⟨a, y, m, d, k, rfl, hs, y0, y1, m1, m2, k0, k1, q⟩
end My
set_option linter.all false
set_option maxRecDepth 100000
set_option maxHeartbeats 2000000
namespace My
open PySem PySem.Spec PyProof.Rows L2 Kx
local macro_rules | `(tactic| walk_at "lk") => `(tactic| first | assumption | ((with_reducible show upd _ _ _ _ = _); (first | exact upd_same | (exact up_new (by assumption) (by walk_at "lk")) | (exact up_other (by assumption) (by walk_at "lk")))) | (exact (by assumption : Same _ _) _ _ (by walk_at "lk")) | (exact ks_get (by assumption) (by walk_at "lk") (by first | rfl | exact notBox_len rfl)))
local macro_rules | `(tactic| walk_at "sl") => `(tactic| first | assumption | (exact l_of (by walk_at "lk")) | (exact Same.seq (by assumption) (by walk_at "sl")) | ((with_reducible show SqL _ (upd _ _ _) _ _); (exact Same.seq (sm_new (by assumption)) (by walk_at "sl"))))
local macro_rules | `(tactic| walk_at "st") => `(tactic| first | assumption | (exact t_of (by walk_at "lk")) | (exact Kx.Same.tup (by assumption) (by walk_at "st")) | ((with_reducible show SqT _ (upd _ _ _) _ _); (exact Kx.Same.tup (sm_new (by assumption)) (by walk_at "st"))) | (exact ks_tup (by assumption) (by walk_at "st")))
local macro_rules | `(tactic| walk_at "kd") => `(tactic| first | assumption | exact .non | exact .bl _ | exact .int _ | exact .str _ | (exact .lst (by walk_at "sl")) | (exact .tup (by walk_at "st")) | (exact .dic (by walk_at "lk")) | (exact Kd.same (by assumption) (by walk_at "kd")) | ((with_reducible show Kd _ (upd _ _ _) _ _); (exact Kd.same (sm_new (by assumption)) (by walk_at "kd"))))
local macro_rules | `(tactic| walk_at "tt") => `(tactic| first | rfl | assumption | decide +kernel | (simp only [decide_eq_true_eq, Bool.not_eq_true', decide_eq_false_iff_not, Bool.and_eq_true, Bool.or_eq_true]; omega))
local macro_rules | `(tactic| walk_at "ff") => `(tactic| first | rfl | assumption | decide +kernel | (simp only [decide_eq_true_eq, Bool.not_eq_false', decide_eq_false_iff_not, Bool.and_eq_false_imp, Bool.or_eq_false_iff]; omega))
local macro_rules | `(tactic| walk_at "hc") => `(tactic| fail)
local macro_rules | `(tactic| walk_at "hif") => `(tactic| ((with_reducible refine w_b2 ?_ ?_) <;> intro))
local macro_rules | `(tactic| walk_at "hs1") => `(tactic| first
  | (with_reducible refine w_seq ?_)
  | (with_reducible refine w_asg ?_)
  | ((with_reducible refine' w_var ?k1 ?_); (case k1 => exact rfl))
  | (with_reducible refine w_c ?_)
  | (with_reducible refine w_op ?_)
  | (with_reducible refine w_cons ?_)
  | (with_reducible refine w_nil ?_)
  | (with_reducible refine w_name ?_)
  | (with_reducible refine w_kn ?_)
  | (with_reducible refine w_kx ?_)
  | (with_reducible refine w_kk ?_)
  | (with_reducible refine w_cb ?_)
  | (with_reducible refine w_if ?_)
  | (with_reducible refine w_test ?_)
  | (with_reducible refine w_exb ?_)
  | (with_reducible refine iteT ?_)
  | (with_reducible refine iteF ?_)
  | ((with_reducible refine w_bt ?_ ?_); (first | rfl | decide +kernel))
  | ((with_reducible refine w_bf ?_ ?_); (first | rfl | decide +kernel))
  | ((with_reducible refine w_bt ?_ ?_); (walk_at "tt"))
  | ((with_reducible refine w_bf ?_ ?_); (walk_at "ff"))
  | (with_reducible refine w_ret ?_)
  | (with_reducible refine w_retN ?_)
  | (with_reducible refine w_drop ?_)
  | (with_reducible refine w_next ?_)
  | (with_reducible refine w_brk ?_)
  | (with_reducible refine w_cont ?_)
  | (with_reducible refine w_and ?_)
  | (with_reducible refine w_or ?_)
  | (with_reducible refine w_not ?_)
  | (with_reducible refine w_tr ?_)
  | (with_reducible refine w_yes ?_)
  | (with_reducible refine w_tru_bl ?_)
  | (with_reducible refine w_tru_int ?_)
  | (with_reducible refine w_tru_non ?_)
  | (with_reducible refine w_andV ?_)
  | (with_reducible refine w_orV ?_)
  | (with_reducible refine w_notV ?_)
  | (with_reducible refine w_ifx ?_)
  | (with_reducible refine w_chain ?_)
  | (with_reducible refine w_un ?_)
  | (with_reducible refine n_tup ?_)
  | (with_reducible refine n_lst ?_)
  | ((with_reducible show kTup _ _ _); (refine n_ktup rfl ?_); intro _ _ _ _ _)
  | ((with_reducible show kLst _ _ _); (refine n_klst rfl ?_); intro _ _ _ _ _)
  | (with_reducible refine w_par ?_)
  | (with_reducible refine w_par2 ?_)
  | (with_reducible refine w_par3 ?_)
  | (with_reducible refine w_par33 ?_)
  | ((with_reducible refine' w_aug ?k1 ?_); (case k1 => exact rfl))
  | (with_reducible refine w_raise ?_)
  | (with_reducible refine w_mkdue ?_)
  | (with_reducible refine w_one ?_)
  | ((with_reducible show gSq _ _ _ (V.ref _) _ _ _); (first | (refine n_gsq (by walk_at "lk") (by exact rfl) (by exact rfl) ?_) | (refine w_gtup (by walk_at "st") (by exact rfl) ?_) | (refine w_glst (by walk_at "sl") (by exact rfl) ?_)))
  | (with_reducible refine w_gcons ?_)
  | (with_reducible refine w_gnil ?_)
  | (with_reducible refine w_bm ?_)
  | ((with_reducible show tyV _ "list" (V.ref _) _ ∧ _); (refine w_tyl (by walk_at "sl") ?_))
  | (with_reducible refine w_for ?_)
  | (with_reducible refine w_rng1 ?_)
  | (with_reducible refine w_rng2 ?_)
  | (with_reducible refine w_add_ii ?_)
  | (with_reducible refine w_sub_ii ?_)
  | ((with_reducible refine w_fdv_ii ?_ ?_ ?_); (first | decide | omega); (first | decide | omega))
  | ((with_reducible refine w_mul_b ?_ ?_ ?_); (refine ⟨?_, ?_⟩ <;> omega); (refine ⟨?_, ?_⟩ <;> omega))
  | ((with_reducible refine w_mod_ii ?_ ?_); (first | decide | omega))
  | (with_reducible refine w_neg_i ?_)
  | (with_reducible refine w_lt_ii ?_)
  | (with_reducible refine w_le_ii ?_)
  | (with_reducible refine w_gt_ii ?_)
  | (with_reducible refine w_ge_ii ?_)
  | (with_reducible refine w_eq_ii ?_)
  | (with_reducible refine w_ne_ii ?_)
  | (with_reducible refine n_eq_same ?_)
  | (with_reducible refine n_ne_same ?_)
  | (with_reducible refine w_eq_ss ?_)
  | (with_reducible refine w_ne_ss ?_)
  | (with_reducible refine w_eq_bb ?_)
  | (with_reducible refine w_ne_bb ?_)
  | (with_reducible refine w_is_n ?_)
  | (with_reducible refine w_isn_n ?_)
  | (with_reducible refine w_is_bb ?_)
  | (with_reducible refine w_isn_bb ?_)
  | ((with_reducible show rIx _ (V.ref _) (V.int _) _ _); (first | (refine n_ix (by decide) (by walk_at "lk") (by exact rfl) ?_) | (refine n_ixl (by decide) (by walk_at "sl") (by exact rfl) ?_) | (refine n_ixt (by decide) (by walk_at "st") (by exact rfl) ?_)))
  | (with_reducible refine w_ipadd ?_)
  | (with_reducible refine w_ipsub ?_)
  | (with_reducible refine w_int_i ?_)
  | (with_reducible refine w_int_b ?_)
  | (with_reducible refine w_abs ?_)
  | ((with_reducible refine w_max2r ?_); intro _ _ _ _)
  | ((with_reducible refine w_min2r ?_); intro _ _ _ _)
  | ((with_reducible show uLen _ [V.ref _] _ _); (first | (refine n_len (by walk_at "lk") (by exact rfl) ?_) | (refine w_len_l (by walk_at "sl") ?_) | (refine w_len_t (by walk_at "st") ?_) | (refine w_len_d (by walk_at "lk") ?_)))
  | ((with_reducible show uIsi _ [_, V.ty _] _ _); (refine w_isk (by walk_at "kd") (by decide) ?_))
  | ((with_reducible show uIsi _ [_, V.ref _] _ _); (refine w_isk2 (by walk_at "lk") (by walk_at "kd") (by decide) (by decide) ?_))
  | (with_reducible refine w_wN ?_)
  | (with_reducible refine w_lc ?_)
  | ((with_reducible refine' w_rng2e ?k1 ?_); (case k1 => (refine ⟨?_, ?_, ?_, ?_⟩ <;> omega)))
  | ((with_reducible refine' w_rng1e ?k1 ?k2 ?_); (case k1 => omega); (case k2 => omega))
  | ((with_reducible show ∃ a', V.ref _ = .ref a' ∧ (∃ xs, SqL _ _ a' xs) ∧ _); (refine w_sqLe (by walk_at "sl") ?_))
  | ((with_reducible show ∃ a', V.ref _ = .ref a' ∧ (∃ xs, SqT _ _ a' xs) ∧ _); (refine w_sqTe (by walk_at "st") ?_))
  | (with_reducible refine w_slc ?_)
  | (with_reducible refine w_nop ?_)
  | (with_reducible refine w_part ?_)
  | (with_reducible refine w_exi ?_)
  | ((with_reducible show uSl _ (V.ref _) _ _ _ _); (refine n_slL (by walk_at "sl") ?_); intro _ _ _ _ _)
  | (with_reducible refine w_gsub ?_)
  | ((with_reducible show rSetL (V.ref _) (V.int _) _ _ _); (refine w_setl (by walk_at "lk") (by exact rfl) ?_))
  | (with_reducible refine w_pow_9 ?_)
  | (with_reducible refine w_pow_12 ?_)
  | (with_reducible refine w_pow_13 ?_)
  | (with_reducible refine w_pow_18 ?_)
  | (with_reducible refine w_pow_29 ?_)
  | ((with_reducible refine n_disp1 ?_); intro _ _ _ _ _)
  | (with_reducible refine w_dput ?_)
  | ((with_reducible show rAppend (V.ref _) [_] _ _); (refine w_append (by walk_at "lk") (by first | omega | (exact Nat.lt_of_le_of_lt (wN_le rfl) (by decide))) ?_))
  | ((with_reducible show ∃ a' H4, V.ref _ = .ref a' ∧ DPut _ a' (V.str _) _ H4 ∧ _); (refine w_dputS (by walk_at "lk") (by first | omega | exact wN_le rfl) ?_))
  | (with_reducible refine w_try ?_)
  | ((with_reducible show wManyA _ _ _ _ (.ref (He.ga _ _)) _ _ _); (first | ((refine w_hit (ExT.ex (by assumption) _ (by decide) _ (by decide)) ?_); intro _ _) | (refine w_miss (ExT.ex (by assumption) _ (by decide) _ (by decide)) ?_)))
  | (with_reducible refine w_xg ?_)
  | ((with_reducible show V.ref _ = .ref _ ∧ ∃ _ _ _ _, Value.ref (He.ga _ _) = _ ∧ _); (refine w_xge (ExT.xf (by assumption) _ (by decide)) (ExT.fg (by assumption) _ (by decide)) (by walk_at "lk") ?_))
  | ((with_reducible show rIsX _ (.ref (He.ga _ _)) _ _ _ _ _); (refine w_isx (ExT.xx (by assumption) _ (by decide)) (ExT.kd (by assumption) _ (by decide)) (by walk_at "lk") ?_))
  | ((with_reducible show uAdd _ (V.ref _) (V.ref _) _ _); (refine n_add_ll (by walk_at "lk") (by walk_at "lk") rfl ?_); intro _ _ _ _ _)
  | ((with_reducible show iSeq _ (tLst _) _ _ _); (refine w_sqL ?_))
  | ((with_reducible show iSeq _ (tTup _) _ _ _); (refine w_sqT ?_))
  | (refine ⟨(rfl : wipe _ _ = wipe _ _), ?_⟩)
  | (walk_at "hc"))
local macro_rules | `(tactic| walk_at "hs") => `(tactic| repeat' (walk_at "hs1"))

local macro_rules | `(tactic| walk_at "rg") => `(tactic| repeat' (first | exact rg_nil | (refine rg_cons (by omega) (by omega) ?_)))
local macro_rules | `(tactic| walk_at "sm") => `(tactic| first | exact Same.refl _ | assumption | ((with_reducible show Same _ (upd _ _ _)); (refine Same.trans ?_ (sm_new (by assumption))); walk_at "sm") | ((refine Same.trans ?_ (by assumption)); walk_at "sm"))
local macro_rules | `(tactic| walk_at "bx") => `(tactic| first | assumption | ((with_reducible show BoxAt (upd _ _ _) _ _); (exact BoxAt.new (by assumption) (by walk_at "bx"))) | (exact BoxAt.same (by assumption) (by walk_at "bx")))
local macro_rules | `(tactic| walk_at "ks") => `(tactic| first | exact Ks.refl _ | assumption | ((with_reducible show Ks _ (upd _ _ _)); (refine Ks.trans ?_ (Ks.of (sm_new (by assumption))); walk_at "ks")) | (refine Ks.trans ?_ (by assumption); walk_at "ks") | (refine Ks.trans ?_ (Ks.of (by assumption)); walk_at "ks"))
local macro_rules | `(tactic| walk_at "ob") => `(tactic| first | assumption | exact .sc rfl | (exact Ob.same (by assumption) (by walk_at "ob")) | (exact Ob.ks (by assumption) (by walk_at "ob")))
local macro_rules | `(tactic| walk_at "nd") => `(tactic| first | assumption | (exact Nd.same (by assumption) (by walk_at "nd")) | (exact Nd.ks (by assumption) (by walk_at "nd")))
local macro_rules | `(tactic| walk_at "df") => `(tactic| first | assumption | exact df_sc rfl | (exact df_vr (by assumption) (by walk_at "lk")) | (exact df_rv (by assumption) (by walk_at "ob")) | (exact df_vv (by assumption) (by walk_at "ob")) | (exact Df.symm (df_vv (by assumption) (by walk_at "ob"))))
local macro_rules | `(tactic| walk_at "hc") => `(tactic| (with_reducible show sp_is_whole _ _ _ _ _); (refine u_is_whole (by walk_at "kd") ?_))
local macro_rules | `(tactic| walk_at "hc") => `(tactic| (with_reducible show sp_is_between _ _ _ _ _); (refine u_is_between (by walk_at "kd") ?_))
local macro_rules | `(tactic| walk_at "hc") => `(tactic| (with_reducible show sp_is_day _ _ _ _ _); (refine u_is_day (by walk_at "kd") ?_))
local macro_rules | `(tactic| walk_at "hc") => `(tactic| (with_reducible refine u_is_leap_year ?_))
local macro_rules | `(tactic| walk_at "hc") => `(tactic| (with_reducible refine' u_length_of ?k1 ?k2 ?_); (case k1 => omega); (case k2 => omega))
local macro_rules | `(tactic| walk_at "hc") => `(tactic| (with_reducible refine' u_year_begin ?k1 ?k2 ?_); (case k1 => omega); (case k2 => omega))
local macro_rules | `(tactic| walk_at "hc") => `(tactic| (with_reducible refine' u_month_begin ?k1 ?k2 ?k3 ?k4 ?_); (case k1 => omega); (case k2 => omega); (case k3 => omega); (case k4 => omega); intro _ _)
local macro_rules | `(tactic| walk_at "hc") => `(tactic| (with_reducible show sp__law_take _ _ _ _ _); (refine u__law_take (by walk_at "bx") (by omega) (by omega) (by omega) ?_); intro _ _ _ _ _ _)
local macro_rules | `(tactic| walk_at "hc") => `(tactic| (with_reducible refine u__law_leap ?_))
local macro_rules | `(tactic| walk_at "hc") => `(tactic| (with_reducible show sp__law_length _ _ _ _ _); (refine u__law_length (by omega) (by omega) ?_); intro _ _)
local macro_rules | `(tactic| walk_at "hc") => `(tactic| (with_reducible show sp__law_next _ _ _ _ _); (refine u__law_next (by walk_at "st") (by omega) (by omega) ?_); intro _ _ _ _ _)
local macro_rules | `(tactic| walk_at "hc") => `(tactic| (with_reducible show sp__law_no_number _ _ _ _ _); (refine u__law_no_number (by walk_at "bx") (by omega) (by omega) (by omega) ?_); intro _ _ _ _ _ _ _)
local macro_rules | `(tactic| walk_at "hc") => `(tactic| (with_reducible show sp__law_day_of _ _ _ _ _); (refine u__law_day_of (by walk_at "st") (by omega) (by omega) (by omega) (by omega) ?_); intro _ _)
variable {K : PySem.W.Frag}
theorem p__law_day (vs : List V) (H : Hp) (Q : VK) (E : XK) (h : sp__law_day K vs H Q E) : t__law_day K E (D0 Q) (start N__law_day vs) H := by
  obtain ⟨b, c, rfl, hb, hc, q⟩ := h
  walk_at "hs"
  refine w_b2 (fun z => ?_) (fun z => ?_)
  · walk_at "hs"
    refine w_ixl_int 0 1000000000000 4 (by walk_at "sl") rfl (by omega) (by omega) (by walk_at "rg") fun n n0 n1 => ?_
    exact q _ _ n0 n1 (by walk_at "ks") (BoxAt.mono (by walk_at "bx") (by omega))
  · walk_at "hs"
    refine w_b2 (fun z => ?_) (fun z => ?_)
    · walk_at "hs"
      exact q _ _ (by omega) (by omega) (by walk_at "ks") (BoxAt.mono (by walk_at "bx") (by omega))
    · walk_at "hs"
      refine w_ixl_int 0 999999999 3 (by walk_at "sl") rfl (by omega) (by omega) (by walk_at "rg") fun y y0 y1 => ?_
      walk_at "hs"
      rename_i mo HH m0 m1 _ _ H3 s3 H4 s4 r r1 r2 r3 tk H5 t0 t1 k5 b5 pl H6 n6 s6 h6 ix H7 i0 i1 k7 b7
      have ml := mlen_le (2000 + y) (1 + mo)
      refine w_ixl_int 1 (mlen (2000 + y) (1 + mo)) 5 (by walk_at "sl") rfl (by omega) (by omega) (by walk_at "rg") fun d d0 d1 => ?_
      have hd : IsD (mb (2000 + y) (1 + mo) + d - 1) (2000 + y) (1 + mo) d := ⟨by omega, by omega, d0, d1, rfl⟩
      have hy := hd.year
      have hy0 : 0 ≤ yb (2000 + y) := by unfold yb; omega
      have hy1 : yb (2000 + y + 1) ≤ 1000000000000 := by unfold yb; omega
      walk_at "hs"
      exact q _ _ (by omega) (by omega) (by walk_at "ks") (BoxAt.mono (by walk_at "bx") (by omega))
theorem u__law_day {H : Hp} {Q : VK} {E : XK} {b : Addr} {c : Int} (hb : BoxAt H b c) (hc : c < 800000000) (q : ∀ n H', 0 ≤ n → n ≤ 1000000000000 → Ks H H' → BoxAt H' b (c + 12) → Q (.int n) H') : sp__law_day K [.ref b] H Q E := ⟨b, c, rfl, hb, hc, q⟩
theorem p__law_told (vs : List V) (H : Hp) (Q : VK) (E : XK) (h : sp__law_told K vs H Q E) : t__law_told K E (D0 Q) (start N__law_told vs) H := by
  obtain ⟨w, x, z, due, d, nm, rfl, hd, hdue, ask, q⟩ := h
  walk_at "hs"
  rename_i pl Ha na sa ha
  refine for_list (xs := [.bl nm, .bl (!nm)]) (fun j σ H3 => ∃ s5 s6, σ = [some (.str w), some x, some z, some due, some (.bl nm), s5, s6] ∧ Same H H3 ∧ H3 pl = some (.lst [.bl nm, .bl (!nm)]))
    ⟨_, _, rfl, by walk_at "sm", by walk_at "lk"⟩ (fun _ _ _ _ ⟨_, _, _, _, h⟩ => l_of h) ?_ ?_
  · rintro j v σ H3 hx ⟨s5, s6, rfl, e3, hl3⟩
    obtain ⟨bo, rfl⟩ : ∃ bo, v = .bl bo := by
      match j, hx with
      | 0, hx => cases hx; exact ⟨_, rfl⟩
      | 1, hx => cases hx; exact ⟨_, rfl⟩
    clear sa ha
    walk_at "hs"
    refine ask H3 bo e3 _ fun v l H4 e4 dv hl => ?_
    walk_at "hs"
    refine u__law_same (n := 8) dv (Dp.same (Same.trans e3 e4) hdue) hd fun H5 e5 => ?_
    walk_at "hs"
    exact ⟨_, _, rfl, by walk_at "sm", by walk_at "lk"⟩
  · rintro σ H3 ⟨s5, s6, rfl, e3, hl3⟩
    walk_at "hs"
    exact q _ e3
theorem u__law_told {H : Hp} {Q : VK} {E : XK} {w : Str} {x z due : V} {d : PyData} {nm : Bool} (hd : okD 8 d) (hdue : Dp K H due d)
    (ask : ∀ H1 b, Same H H1 → ∀ Q' : VK, (∀ v l H', Same H1 H' → Dp K H' v d → H' l = some (.lst [.str "told", v]) → Q' (.ref l) H') → sp__law_ask K [.str w, x, z, .bl b] H1 Q' E00) (q : ∀ H', Same H H' → Q (.bl true) H') : sp__law_told K [.str w, x, z, due, .bl nm] H Q E := ⟨w, x, z, due, d, nm, rfl, hd, hdue, ask, q⟩
end My
set_option linter.all false
set_option maxRecDepth 100000
set_option maxHeartbeats 2000000
namespace My
open PySem PySem.Spec PyProof.Rows L2 Kx
local macro_rules | `(tactic| walk_at "lk") => `(tactic| first | assumption | ((with_reducible show upd _ _ _ _ = _); (first | exact upd_same | (exact up_new (by assumption) (by walk_at "lk")) | (exact up_other (by assumption) (by walk_at "lk")))) | (exact (by assumption : Same _ _) _ _ (by walk_at "lk")) | (exact ks_get (by assumption) (by walk_at "lk") (by first | rfl | assumption | exact notBox_len rfl)))
local macro_rules | `(tactic| walk_at "sl") => `(tactic| first | assumption | (exact l_of (by walk_at "lk")) | (exact Same.seq (by assumption) (by walk_at "sl")) | ((with_reducible show SqL _ (upd _ _ _) _ _); (exact Same.seq (sm_new (by assumption)) (by walk_at "sl"))))
local macro_rules | `(tactic| walk_at "st") => `(tactic| first | assumption | (exact t_of (by walk_at "lk")) | (exact Kx.Same.tup (by assumption) (by walk_at "st")) | ((with_reducible show SqT _ (upd _ _ _) _ _); (exact Kx.Same.tup (sm_new (by assumption)) (by walk_at "st"))) | (exact ks_tup (by assumption) (by walk_at "st")))
local macro_rules | `(tactic| walk_at "kd") => `(tactic| first | assumption | exact .non | exact .bl _ | exact .int _ | exact .str _ | (exact .lst (by walk_at "sl")) | (exact .tup (by walk_at "st")) | (exact .dic (by walk_at "lk")) | (exact Kd.same (by assumption) (by walk_at "kd")) | ((with_reducible show Kd _ (upd _ _ _) _ _); (exact Kd.same (sm_new (by assumption)) (by walk_at "kd"))))
local macro_rules | `(tactic| walk_at "tt") => `(tactic| first | rfl | assumption | decide +kernel | (simp only [decide_eq_true_eq, Bool.not_eq_true', decide_eq_false_iff_not, Bool.and_eq_true, Bool.or_eq_true]; omega))
local macro_rules | `(tactic| walk_at "ff") => `(tactic| first | rfl | assumption | decide +kernel | (simp only [decide_eq_true_eq, Bool.not_eq_false', decide_eq_false_iff_not, Bool.and_eq_false_imp, Bool.or_eq_false_iff]; omega))
local macro_rules | `(tactic| walk_at "hc") => `(tactic| fail)
local macro_rules | `(tactic| walk_at "hif") => `(tactic| ((with_reducible refine w_b2 ?_ ?_) <;> intro))
local macro_rules | `(tactic| walk_at "hs1") => `(tactic| first
  | (with_reducible refine w_seq ?_)
  | (with_reducible refine w_asg ?_)
  | ((with_reducible refine' w_var ?k1 ?_); (case k1 => exact rfl))
  | (with_reducible refine w_c ?_)
  | (with_reducible refine w_op ?_)
  | (with_reducible refine w_cons ?_)
  | (with_reducible refine w_nil ?_)
  | (with_reducible refine w_name ?_)
  | (with_reducible refine w_kn ?_)
  | (with_reducible refine w_kx ?_)
  | (with_reducible refine w_kk ?_)
  | (with_reducible refine w_cb ?_)
  | (with_reducible refine w_if ?_)
  | (with_reducible refine w_test ?_)
  | (with_reducible refine w_exb ?_)
  | (with_reducible refine iteT ?_)
  | (with_reducible refine iteF ?_)
  | ((with_reducible refine w_bt ?_ ?_); (first | rfl | decide +kernel))
  | ((with_reducible refine w_bf ?_ ?_); (first | rfl | decide +kernel))
  | ((with_reducible refine w_bt ?_ ?_); (walk_at "tt"))
  | ((with_reducible refine w_bf ?_ ?_); (walk_at "ff"))
  | (with_reducible refine w_ret ?_)
  | (with_reducible refine w_retN ?_)
  | (with_reducible refine w_drop ?_)
  | (with_reducible refine w_next ?_)
  | (with_reducible refine w_brk ?_)
  | (with_reducible refine w_cont ?_)
  | (with_reducible refine w_and ?_)
  | (with_reducible refine w_or ?_)
  | (with_reducible refine w_not ?_)
  | (with_reducible refine w_tr ?_)
  | (with_reducible refine w_yes ?_)
  | (with_reducible refine w_tru_bl ?_)
  | (with_reducible refine w_tru_int ?_)
  | (with_reducible refine w_tru_non ?_)
  | (with_reducible refine w_andV ?_)
  | (with_reducible refine w_orV ?_)
  | (with_reducible refine w_notV ?_)
  | (with_reducible refine w_ifx ?_)
  | (with_reducible refine w_chain ?_)
  | (with_reducible refine w_un ?_)
  | (with_reducible refine n_tup ?_)
  | (with_reducible refine n_lst ?_)
  | ((with_reducible show kTup _ _ _); (refine n_ktup rfl ?_); intro _ _ _ _ _)
  | ((with_reducible show kLst _ _ _); (refine n_klst rfl ?_); intro _ _ _ _ _)
  | (with_reducible refine w_par ?_)
  | (with_reducible refine w_par2 ?_)
  | (with_reducible refine w_par3 ?_)
  | (with_reducible refine w_par33 ?_)
  | ((with_reducible refine' w_aug ?k1 ?_); (case k1 => exact rfl))
  | (with_reducible refine w_raise ?_)
  | (with_reducible refine w_mkdue ?_)
  | (with_reducible refine w_one ?_)
  | ((with_reducible show gSq _ _ _ (V.ref _) _ _ _); (first | (refine n_gsq (by walk_at "lk") (by exact rfl) (by exact rfl) ?_) | (refine w_gtup (by walk_at "st") (by exact rfl) ?_) | (refine w_glst (by walk_at "sl") (by exact rfl) ?_)))
  | (with_reducible refine w_gcons ?_)
  | (with_reducible refine w_gnil ?_)
  | (with_reducible refine w_bm ?_)
  | ((with_reducible show tyV _ "list" (V.ref _) _ ∧ _); (refine w_tyl (by walk_at "sl") ?_))
  | (with_reducible refine w_for ?_)
  | (with_reducible refine w_rng1 ?_)
  | (with_reducible refine w_rng2 ?_)
  | (with_reducible refine w_add_ii ?_)
  | (with_reducible refine w_sub_ii ?_)
  | ((with_reducible refine w_fdv_ii ?_ ?_ ?_); (first | decide | omega); (first | decide | omega))
  | ((with_reducible refine w_mul_b ?_ ?_ ?_); (refine ⟨?_, ?_⟩ <;> omega); (refine ⟨?_, ?_⟩ <;> omega))
  | ((with_reducible refine w_mod_ii ?_ ?_); (first | decide | omega))
  | (with_reducible refine w_neg_i ?_)
  | (with_reducible refine w_lt_ii ?_)
  | (with_reducible refine w_le_ii ?_)
  | (with_reducible refine w_gt_ii ?_)
  | (with_reducible refine w_ge_ii ?_)
  | (with_reducible refine w_eq_ii ?_)
  | (with_reducible refine w_ne_ii ?_)
  | (with_reducible refine n_eq_same ?_)
  | (with_reducible refine n_ne_same ?_)
  | (with_reducible refine w_eq_ss ?_)
  | (with_reducible refine w_ne_ss ?_)
  | (with_reducible refine w_eq_bb ?_)
  | (with_reducible refine w_ne_bb ?_)
  | (with_reducible refine w_is_n ?_)
  | (with_reducible refine w_isn_n ?_)
  | (with_reducible refine w_is_bb ?_)
  | (with_reducible refine w_isn_bb ?_)
  | ((with_reducible show rIx _ (V.ref _) (V.int _) _ _); (first | (refine n_ix (by decide) (by walk_at "lk") (by exact rfl) ?_) | (refine n_ixl (by decide) (by walk_at "sl") (by exact rfl) ?_) | (refine n_ixt (by decide) (by walk_at "st") (by exact rfl) ?_)))
  | (with_reducible refine w_ipadd ?_)
  | (with_reducible refine w_ipsub ?_)
  | (with_reducible refine w_int_i ?_)
  | (with_reducible refine w_int_b ?_)
  | (with_reducible refine w_abs ?_)
  | ((with_reducible refine w_max2r ?_); intro _ _ _ _)
  | ((with_reducible refine w_min2r ?_); intro _ _ _ _)
  | ((with_reducible show uLen _ [V.ref _] _ _); (first | (refine n_len (by walk_at "lk") (by exact rfl) ?_) | (refine w_len_l (by walk_at "sl") ?_) | (refine w_len_t (by walk_at "st") ?_) | (refine w_len_d (by walk_at "lk") ?_)))
  | ((with_reducible show uIsi _ [_, V.ty _] _ _); (refine w_isk (by walk_at "kd") (by decide) ?_))
  | ((with_reducible show uIsi _ [_, V.ref _] _ _); (refine w_isk2 (by walk_at "lk") (by walk_at "kd") (by decide) (by decide) ?_))
  | (with_reducible refine w_wN ?_)
  | (with_reducible refine w_lc ?_)
  | ((with_reducible refine' w_rng2e ?k1 ?_); (case k1 => (refine ⟨?_, ?_, ?_, ?_⟩ <;> omega)))
  | ((with_reducible refine' w_rng1e ?k1 ?k2 ?_); (case k1 => omega); (case k2 => omega))
  | ((with_reducible show ∃ a', V.ref _ = .ref a' ∧ (∃ xs, SqL _ _ a' xs) ∧ _); (refine w_sqLe (by walk_at "sl") ?_))
  | ((with_reducible show ∃ a', V.ref _ = .ref a' ∧ (∃ xs, SqT _ _ a' xs) ∧ _); (refine w_sqTe (by walk_at "st") ?_))
  | (with_reducible refine w_slc ?_)
  | (with_reducible refine w_nop ?_)
  | (with_reducible refine w_part ?_)
  | (with_reducible refine w_exi ?_)
  | ((with_reducible show uSl _ (V.ref _) _ _ _ _); (refine n_slL (by walk_at "sl") ?_); intro _ _ _ _ _)
  | (with_reducible refine w_gsub ?_)
  | ((with_reducible show rSetL (V.ref _) (V.int _) _ _ _); (refine w_setl (by walk_at "lk") (by exact rfl) ?_))
  | (with_reducible refine w_pow_9 ?_)
  | (with_reducible refine w_pow_12 ?_)
  | (with_reducible refine w_pow_13 ?_)
  | (with_reducible refine w_pow_18 ?_)
  | (with_reducible refine w_pow_29 ?_)
  | ((with_reducible refine n_disp1 ?_); intro _ _ _ _ _)
  | (with_reducible refine w_dput ?_)
  | ((with_reducible show rAppend (V.ref _) [_] _ _); (refine w_append (by walk_at "lk") (by first | omega | (exact Nat.lt_of_le_of_lt (wN_le rfl) (by decide))) ?_))
  | ((with_reducible show ∃ a' H4, V.ref _ = .ref a' ∧ DPut _ a' (V.str _) _ H4 ∧ _); (refine w_dputS (by walk_at "lk") (by first | omega | exact wN_le rfl) ?_))
  | (with_reducible refine w_try ?_)
  | ((with_reducible show wManyA _ _ _ _ (.ref (He.ga _ _)) _ _ _); (first | ((refine w_hit (ExT.ex (by assumption) _ (by decide) _ (by decide)) ?_); intro _ _) | (refine w_miss (ExT.ex (by assumption) _ (by decide) _ (by decide)) ?_)))
  | (with_reducible refine w_xg ?_)
  | ((with_reducible show V.ref _ = .ref _ ∧ ∃ _ _ _ _, Value.ref (He.ga _ _) = _ ∧ _); (refine w_xge (ExT.xf (by assumption) _ (by decide)) (ExT.fg (by assumption) _ (by decide)) (by walk_at "lk") ?_))
  | ((with_reducible show rIsX _ (.ref (He.ga _ _)) _ _ _ _ _); (refine w_isx (ExT.xx (by assumption) _ (by decide)) (ExT.kd (by assumption) _ (by decide)) (by walk_at "lk") ?_))
  | ((with_reducible show uAdd _ (V.ref _) (V.ref _) _ _); (refine n_add_ll (by walk_at "lk") (by walk_at "lk") rfl ?_); intro _ _ _ _ _)
  | ((with_reducible show iSeq _ (tLst _) _ _ _); (refine w_sqL ?_))
  | ((with_reducible show iSeq _ (tTup _) _ _ _); (refine w_sqT ?_))
  | (refine ⟨(rfl : wipe _ _ = wipe _ _), ?_⟩)
  | (walk_at "hc"))
local macro_rules | `(tactic| walk_at "hs") => `(tactic| repeat' (walk_at "hs1"))

local macro_rules | `(tactic| walk_at "rg") => `(tactic| repeat' (first | exact rg_nil | (refine rg_cons (by omega) (by omega) ?_)))
local macro_rules | `(tactic| walk_at "sm") => `(tactic| first | exact Same.refl _ | assumption | ((with_reducible show Same _ (upd _ _ _)); (refine Same.trans ?_ (sm_new (by assumption))); walk_at "sm") | ((refine Same.trans ?_ (by assumption)); walk_at "sm"))
local macro_rules | `(tactic| walk_at "bx") => `(tactic| first | assumption | ((with_reducible show BoxAt (upd _ _ _) _ _); (exact BoxAt.new (by assumption) (by walk_at "bx"))) | (exact BoxAt.same (by assumption) (by walk_at "bx")))
local macro_rules | `(tactic| walk_at "ks") => `(tactic| first | exact Ks.refl _ | assumption | ((with_reducible show Ks _ (upd _ _ _)); (refine Ks.trans ?_ (Ks.of (sm_new (by assumption))); walk_at "ks")) | (refine Ks.trans ?_ (by assumption); walk_at "ks") | (refine Ks.trans ?_ (Ks.of (by assumption)); walk_at "ks"))
local macro_rules | `(tactic| walk_at "ob") => `(tactic| first | assumption | exact .sc rfl | (exact Ob.same (by assumption) (by walk_at "ob")) | (exact Ob.ks (by assumption) (by walk_at "ob")))
local macro_rules | `(tactic| walk_at "nd") => `(tactic| first | assumption | (exact Nd.same (by assumption) (by walk_at "nd")) | (exact Nd.ks (by assumption) (by walk_at "nd")))
local macro_rules | `(tactic| walk_at "df") => `(tactic| first | assumption | exact df_sc rfl | (exact df_vr (by assumption) (by walk_at "lk")) | (exact df_rv (by assumption) (by walk_at "ob")) | (exact df_vv (by assumption) (by walk_at "ob")) | (exact Df.symm (df_vv (by assumption) (by walk_at "ob"))))
local macro_rules | `(tactic| walk_at "hc") => `(tactic| (with_reducible show sp_is_whole _ _ _ _ _); (refine u_is_whole (by walk_at "kd") ?_))
local macro_rules | `(tactic| walk_at "hc") => `(tactic| (with_reducible show sp_is_between _ _ _ _ _); (refine u_is_between (by walk_at "kd") ?_))
local macro_rules | `(tactic| walk_at "hc") => `(tactic| (with_reducible show sp_is_day _ _ _ _ _); (refine u_is_day (by walk_at "kd") ?_))
local macro_rules | `(tactic| walk_at "hc") => `(tactic| (with_reducible refine u_is_leap_year ?_))
local macro_rules | `(tactic| walk_at "hc") => `(tactic| (with_reducible refine' u_length_of ?k1 ?k2 ?_); (case k1 => omega); (case k2 => omega))
local macro_rules | `(tactic| walk_at "hc") => `(tactic| (with_reducible refine' u_year_begin ?k1 ?k2 ?_); (case k1 => omega); (case k2 => omega))
local macro_rules | `(tactic| walk_at "hc") => `(tactic| (with_reducible refine' u_month_begin ?k1 ?k2 ?k3 ?k4 ?_); (case k1 => omega); (case k2 => omega); (case k3 => omega); (case k4 => omega); intro _ _)
local macro_rules | `(tactic| walk_at "hc") => `(tactic| (with_reducible show sp__law_take _ _ _ _ _); (refine u__law_take (by walk_at "bx") (by omega) (by omega) (by omega) ?_); intro _ _ _ _ _ _)
local macro_rules | `(tactic| walk_at "hc") => `(tactic| (with_reducible refine u__law_leap ?_))
local macro_rules | `(tactic| walk_at "hc") => `(tactic| (with_reducible show sp__law_length _ _ _ _ _); (refine u__law_length (by omega) (by omega) ?_); intro _ _)
local macro_rules | `(tactic| walk_at "hc") => `(tactic| (with_reducible show sp__law_next _ _ _ _ _); (refine u__law_next (by walk_at "st") (by omega) (by omega) ?_); intro _ _ _ _ _)
local macro_rules | `(tactic| walk_at "hc") => `(tactic| (with_reducible show sp__law_no_number _ _ _ _ _); (refine u__law_no_number (by walk_at "bx") (by omega) (by omega) (by omega) ?_); intro _ _ _ _ _ _ _)
local macro_rules | `(tactic| walk_at "hc") => `(tactic| (with_reducible show sp__law_day_of _ _ _ _ _); (refine u__law_day_of (by walk_at "st") (by omega) (by omega) (by omega) (by omega) ?_); intro _ _)
variable {K : PySem.W.Frag}
/-- the days of a month that have the weekday of the day n, the d-th of it, as far as the i-th -/
def al (n d : Int) : Nat → List Int
  | 0 => []
  | i + 1 => if (n - d + 1 + (i : Int) - n) % 7 = 0 then al n d i ++ [n - d + 1 + (i : Int)] else al n d i
theorem al_pos {n d : Int} {i : Nat} (c : (n - d + 1 + (i : Int) - n) % 7 = 0) : al n d (i + 1) = al n d i ++ [n - d + 1 + (i : Int)] := if_pos c
theorem al_neg {n d : Int} {i : Nat} (c : ¬ (n - d + 1 + (i : Int) - n) % 7 = 0) : al n d (i + 1) = al n d i := if_neg c
theorem yb_uniq {y z n : Int} (h1 : yb y ≤ n) (h2 : n < yb (y + 1)) (h3 : yb z ≤ n) (h4 : n < yb (z + 1)) : y = z := by
  rcases Int.lt_trichotomy y z with h | h | h
  · by_cases e : y + 1 = z
    · rw [e] at h2; omega
    · have := yb_lt (y := y + 1) (z := z) (by omega)
      omega
  · exact h
  · by_cases e : z + 1 = y
    · rw [e] at h4; omega
    · have := yb_lt (y := z + 1) (z := y) (by omega)
      omega
theorem u_ask_month {H : Hp} {Q : VK} {E : XK} {n y m d : Int} {z : V} {nm : Bool} (hd : IsD n y m d) (n0 : 0 ≤ n) (n1 : n ≤ 1000000000000) (q : ∀ p l H', Same H H' → H' p = some (.tup (plc d (mlen y m))) → H' l = some (.lst [.str "told", .ref p]) → Q (.ref l) H') :
    sp__law_ask K [.str "month", .int n, z, .bl nm] H Q E := ⟨_, _, _, _, rfl, .inr (.inl ⟨rfl, _, .int n, fun n' e _ y' m' d' p l H' hd' f hp hl => by
      cases e
      obtain ⟨rfl, rfl, rfl⟩ := IsD.uniq hd hd'
      exact q p l H' f hp hl, fun c => by rw [betw_t (hi := MOST) n0 n1] at c; cases c⟩)⟩
theorem u_ask_year {H : Hp} {Q : VK} {E : XK} {n y : Int} {z : V} {nm : Bool} (y0 : yb y ≤ n) (y1 : n < yb (y + 1)) (n0 : 0 ≤ n) (n1 : n ≤ 1000000000000) (q : ∀ l H', Same H H' → H' l = some (.lst [.str "told", .int (n - yb y + 1)]) → Q (.ref l) H') :
    sp__law_ask K [.str "year", .int n, z, .bl nm] H Q E := ⟨_, _, _, _, rfl, .inl ⟨rfl, _, .int n, fun n' e _ y' g0 g1 l H' f hl => by
      cases e
      have := yb_uniq y0 y1 g0 g1
      subst this
      exact q l H' f hl, fun c => by rw [betw_t (hi := MOST) n0 n1] at c; cases c⟩⟩
theorem al_len (n d : Int) : ∀ i : Nat, ((al n d i).length : Int) = ((i : Int) - d) / 7 - (-d) / 7
  | 0 => by simp [al]
  | i + 1 => by
    have := al_len n d i
    unfold al
    split
    · rw [List.length_append]
      simp only [List.length_cons, List.length_nil]
      omega
    · omega
theorem al_le (n d : Int) : ∀ i : Nat, (al n d i).length ≤ i
  | 0 => Nat.le_refl _
  | i + 1 => by
    have := al_le n d i
    unfold al
    split
    · rw [List.length_append]
      simp only [List.length_cons, List.length_nil]
      omega
    · omega
theorem al2_len (n d : Int) (h : 1 ≤ d) : ∀ i : Nat, ((((al n d i).filter fun v => decide (v ≤ n)).length : Nat) : Int) = (if (i : Int) ≤ d then ((i : Int) - d) / 7 else 0) - (-d) / 7
  | 0 => by
    simp only [al, List.filter_nil, List.length_nil]
    rw [if_pos (by omega)]
    omega
  | i + 1 => by
    have := al2_len n d h i
    unfold al
    split
    · rename_i c
      rw [List.filter_append, List.length_append]
      by_cases z : (i : Int) + 1 ≤ d
      · rw [if_pos (by omega)] at this ⊢
        rw [List.filter_cons_of_pos (by simpa using (by omega : n - d + 1 + (i : Int) ≤ n))]
        simp only [List.filter_nil, List.length_cons, List.length_nil]
        omega
      · rw [List.filter_cons_of_neg (by simpa using (by omega : n < n - d + 1 + (i : Int)))]
        simp only [List.filter_nil, List.length_nil]
        rw [if_neg (by omega)]
        split at this <;> omega
    · split at this <;> split <;> omega
theorem p__law_places_right (vs : List V) (H : Hp) (Q : VK) (E : XK) (h : sp__law_places_right K vs H Q E) : t__law_places_right K E (D0 Q) (start N__law_places_right vs) H := by
  obtain ⟨n, nm, rfl, n0, n1, q⟩ := h
  walk_at "hs"
  refine u__law_date n0 (by omega) fun y m d p H1 hd e hp => ?_
  have m1 := hd.m1
  have m2 := hd.m2
  have d1 := hd.d1
  have d2 := hd.d2
  have ml := mlen_le y m
  have y0 := hd.year
  have y1 := yb_bd y0.1 n0 (by omega)
  have y2 := yb_bd0 y0.2 n0
  walk_at "hs"
  rename_i H2 e2
  intro D hD
  rw [show (n - d + 1 + mlen y m - (n - d + 1)).toNat = (mlen y m).toNat by congr 1; omega]
  refine lc_range (lo := n - d + 1) (n := (mlen y m).toNat) (LcP H2 D fun i => (al n d i).map V.int) (LcP.zero hD rfl) ?_ ?_
  · intro i H' hi P
    have P1 := P.1
    walk_at "hs"
    have hl := al_le n d i
    refine w_b2 (fun c => ?_) (fun c => ?_) <;> walk_at "hs"
    · have c' := of_decide_eq_true c
      refine LcP.one P (Same.refl _) hD (by simp; omega) ?_
      show (al n d (i + 1)).map V.int = _
      rw [al_pos c', List.map_append]
      rfl
    · have c' := of_decide_eq_false c
      refine LcP.no P (Same.refl _) ?_
      show (al n d (i + 1)).map V.int = _
      rw [al_neg c']
  · intro H3 P
    have P1 := P.1
    have P2 : H3 D = some (.lst ((al n d (mlen y m).toNat).map V.int)) := P.2
    clear P
    have hl := al_le n d (mlen y m).toNat
    have l1 := al_len n d (mlen y m).toNat
    have l2 := al2_len n d d1 (mlen y m).toNat
    have em : (((mlen y m).toNat : Nat) : Int) = mlen y m := by omega
    rw [em] at l1 l2
    generalize al n d (mlen y m).toNat = ws at *
    walk_at "hs"
    refine w_sqL ?_
    walk_at "hs"
    intro D2 hD2
    refine lc_list (a := D) (xs := ws.map V.int) (LcP H3 D2 fun i => ((ws.take i).filter fun v => decide (v ≤ n)).map V.int) (LcP.zero hD2 (by simp)) (fun i H4 _ P => l_of (P.1 D _ P2)) ?_ ?_
    · intro i x H4 hx P
      rw [List.getElem?_map] at hx
      obtain ⟨v, hv, rfl⟩ := Option.map_eq_some_iff.mp hx
      have hlen := List.length_filter_le (fun v => decide (v ≤ n)) (ws.take i)
      have htk := List.length_take_le i ws
      have hws : i < ws.length := (List.getElem?_eq_some_iff.mp hv).1
      walk_at "hs"
      refine w_b2 (fun c => ?_) (fun c => ?_) <;> walk_at "hs"
      · refine LcP.one P (Same.refl _) hD2 (by rw [List.length_map]; omega) ?_
        simp [List.take_succ, hv, List.filter_append, of_decide_eq_true c]
      · refine LcP.no P (Same.refl _) ?_
        have c' := of_decide_eq_false c
        simp [List.take_succ, hv, List.filter_append, c']
    · intro H4 P
      have P3 := P.1
      have P4 : H4 D2 = some (.lst ((ws.filter fun v => decide (v ≤ n)).map V.int)) := by
        have := P.2
        simpa using this
      clear P
      have lf : ((ws.filter fun v => decide (v ≤ n)).map V.int).length = (ws.filter fun v => decide (v ≤ n)).length := List.length_map _
      have lw : (ws.map V.int).length = ws.length := List.length_map _
      generalize (ws.filter fun v => decide (v ≤ n)) = us at *
      walk_at "hs"
      rename_i tp H5 n5 s5 h5
      have e3 : (((us.map V.int).length : Nat) : Int) = (d - 1) / 7 + 1 := by rw [lf]; split at l2 <;> omega
      have e4 : (((us.map V.int).length : Nat) : Int) - (((ws.map V.int).length : Nat) : Int) - 1 = -((mlen y m - d) / 7) - 1 := by rw [e3, lw]; omega
      rw [e3] at h5
      rw [e3] at e4
      rw [e4] at h5
      have hdp : ∀ {H' : Hp} {p' : Addr}, H' p' = some (.tup (plc d (mlen y m))) → Dp K H' (.ref p') (.tuple [.int d, .int (d - mlen y m - 1), .int ((d - 1) / 7 + 1), .int (-((mlen y m - d) / 7) - 1)]) := fun h => .tup (t_of h) (.cons (.int _) (.cons (.int _) (.cons (.int _) (.cons (.int _) .nil))))
      refine u__law_told (d := .tuple [.int d, .int (d - mlen y m - 1), .int ((d - 1) / 7 + 1), .int (-((mlen y m - d) / 7) - 1)]) (by simp [okD, okAll]) (hdp h5) (fun H6 bo e6 Q' k => u_ask_month hd n0 n1 fun p' l' H7 e7 hp7 hl7 => k _ l' H7 e7 (hdp hp7) hl7) fun H6 e6 => ?_
      walk_at "hs"
      rename_i tq H7 n7 s7 h7 H8 e8
      have em1 : n - (mb y 1 + 1 - 1) + 1 = n - yb y + 1 := by rw [mb_one]; omega
      rw [em1]
      refine u__law_told (d := .int (n - yb y + 1)) (by simp [okD]) (.int _) (fun H9 bo e9 Q' k => u_ask_year y0.1 y0.2 n0 n1 fun l' H7 e7 hl7 => k _ l' H7 e7 (.int _) hl7) fun H9 e9 => ?_
      exact q _ (by walk_at "sm")
theorem u__law_places_right {H : Hp} {Q : VK} {E : XK} {n : Int} {nm : Bool} (n0 : 0 ≤ n) (n1 : n ≤ 1000000000000) (q : ∀ H', Same H H' → Q (.bl true) H') : sp__law_places_right K [.int n, .bl nm] H Q E := ⟨n, nm, rfl, n0, n1, q⟩
end My
set_option linter.all false
set_option maxRecDepth 100000
set_option maxHeartbeats 2000000
namespace My
open PySem PySem.Spec PyProof.Rows L2 Kx
local macro_rules | `(tactic| walk_at "lk") => `(tactic| first | assumption | ((with_reducible show upd _ _ _ _ = _); (first | exact upd_same | (exact up_new (by assumption) (by walk_at "lk")) | (exact up_other (by assumption) (by walk_at "lk")))) | (exact (by assumption : Same _ _) _ _ (by walk_at "lk")) | (exact ks_get (by assumption) (by walk_at "lk") (by first | rfl | assumption | exact notBox_len rfl)))
local macro_rules | `(tactic| walk_at "sl") => `(tactic| first | assumption | (exact l_of (by walk_at "lk")) | (exact Same.seq (by assumption) (by walk_at "sl")) | ((with_reducible show SqL _ (upd _ _ _) _ _); (exact Same.seq (sm_new (by assumption)) (by walk_at "sl"))))
local macro_rules | `(tactic| walk_at "st") => `(tactic| first | assumption | (exact t_of (by walk_at "lk")) | (exact Kx.Same.tup (by assumption) (by walk_at "st")) | ((with_reducible show SqT _ (upd _ _ _) _ _); (exact Kx.Same.tup (sm_new (by assumption)) (by walk_at "st"))) | (exact ks_tup (by assumption) (by walk_at "st")))
local macro_rules | `(tactic| walk_at "kd") => `(tactic| first | assumption | exact .non | exact .bl _ | exact .int _ | exact .str _ | (exact .lst (by walk_at "sl")) | (exact .tup (by walk_at "st")) | (exact .dic (by walk_at "lk")) | (exact Kd.same (by assumption) (by walk_at "kd")) | ((with_reducible show Kd _ (upd _ _ _) _ _); (exact Kd.same (sm_new (by assumption)) (by walk_at "kd"))))
local macro_rules | `(tactic| walk_at "tt") => `(tactic| first | rfl | assumption | decide +kernel | (simp only [decide_eq_true_eq, Bool.not_eq_true', decide_eq_false_iff_not, Bool.and_eq_true, Bool.or_eq_true]; omega))
local macro_rules | `(tactic| walk_at "ff") => `(tactic| first | rfl | assumption | decide +kernel | (simp only [decide_eq_true_eq, Bool.not_eq_false', decide_eq_false_iff_not, Bool.and_eq_false_imp, Bool.or_eq_false_iff]; omega))
local macro_rules | `(tactic| walk_at "hc") => `(tactic| fail)
local macro_rules | `(tactic| walk_at "hif") => `(tactic| ((with_reducible refine w_b2 ?_ ?_) <;> intro))
local macro_rules | `(tactic| walk_at "hs1") => `(tactic| first
  | (with_reducible refine w_seq ?_)
  | (with_reducible refine w_asg ?_)
  | ((with_reducible refine' w_var ?k1 ?_); (case k1 => exact rfl))
  | (with_reducible refine w_c ?_)
  | (with_reducible refine w_op ?_)
  | (with_reducible refine w_cons ?_)
  | (with_reducible refine w_nil ?_)
  | (with_reducible refine w_name ?_)
  | (with_reducible refine w_kn ?_)
  | (with_reducible refine w_kx ?_)
  | (with_reducible refine w_kk ?_)
  | (with_reducible refine w_cb ?_)
  | (with_reducible refine w_if ?_)
  | (with_reducible refine w_test ?_)
  | (with_reducible refine w_exb ?_)
  | (with_reducible refine iteT ?_)
  | (with_reducible refine iteF ?_)
  | ((with_reducible refine w_bt ?_ ?_); (first | rfl | decide +kernel))
  | ((with_reducible refine w_bf ?_ ?_); (first | rfl | decide +kernel))
  | ((with_reducible refine w_bt ?_ ?_); (walk_at "tt"))
  | ((with_reducible refine w_bf ?_ ?_); (walk_at "ff"))
  | (with_reducible refine w_ret ?_)
  | (with_reducible refine w_retN ?_)
  | (with_reducible refine w_drop ?_)
  | (with_reducible refine w_next ?_)
  | (with_reducible refine w_brk ?_)
  | (with_reducible refine w_cont ?_)
  | (with_reducible refine w_and ?_)
  | (with_reducible refine w_or ?_)
  | (with_reducible refine w_not ?_)
  | (with_reducible refine w_tr ?_)
  | (with_reducible refine w_yes ?_)
  | (with_reducible refine w_tru_bl ?_)
  | (with_reducible refine w_tru_int ?_)
  | (with_reducible refine w_tru_non ?_)
  | (with_reducible refine w_andV ?_)
  | (with_reducible refine w_orV ?_)
  | (with_reducible refine w_notV ?_)
  | (with_reducible refine w_ifx ?_)
  | (with_reducible refine w_chain ?_)
  | (with_reducible refine w_un ?_)
  | (with_reducible refine n_tup ?_)
  | (with_reducible refine n_lst ?_)
  | ((with_reducible show kTup _ _ _); (refine n_ktup rfl ?_); intro _ _ _ _ _)
  | ((with_reducible show kLst _ _ _); (refine n_klst rfl ?_); intro _ _ _ _ _)
  | (with_reducible refine w_par ?_)
  | (with_reducible refine w_par2 ?_)
  | (with_reducible refine w_par3 ?_)
  | (with_reducible refine w_par33 ?_)
  | ((with_reducible refine' w_aug ?k1 ?_); (case k1 => exact rfl))
  | (with_reducible refine w_raise ?_)
  | (with_reducible refine w_mkdue ?_)
  | (with_reducible refine w_one ?_)
  | ((with_reducible show gSq _ _ _ (V.ref _) _ _ _); (first | (refine n_gsq (by walk_at "lk") (by exact rfl) (by exact rfl) ?_) | (refine w_gtup (by walk_at "st") (by exact rfl) ?_) | (refine w_glst (by walk_at "sl") (by exact rfl) ?_)))
  | (with_reducible refine w_gcons ?_)
  | (with_reducible refine w_gnil ?_)
  | (with_reducible refine w_bm ?_)
  | ((with_reducible show tyV _ "list" (V.ref _) _ ∧ _); (refine w_tyl (by walk_at "sl") ?_))
  | (with_reducible refine w_for ?_)
  | (with_reducible refine w_rng1 ?_)
  | (with_reducible refine w_rng2 ?_)
  | (with_reducible refine w_add_ii ?_)
  | (with_reducible refine w_sub_ii ?_)
  | ((with_reducible refine w_fdv_ii ?_ ?_ ?_); (first | decide | omega); (first | decide | omega))
  | ((with_reducible refine w_mul_b ?_ ?_ ?_); (refine ⟨?_, ?_⟩ <;> omega); (refine ⟨?_, ?_⟩ <;> omega))
  | ((with_reducible refine w_mod_ii ?_ ?_); (first | decide | omega))
  | (with_reducible refine w_neg_i ?_)
  | (with_reducible refine w_lt_ii ?_)
  | (with_reducible refine w_le_ii ?_)
  | (with_reducible refine w_gt_ii ?_)
  | (with_reducible refine w_ge_ii ?_)
  | (with_reducible refine w_eq_ii ?_)
  | (with_reducible refine w_ne_ii ?_)
  | (with_reducible refine n_eq_same ?_)
  | (with_reducible refine n_ne_same ?_)
  | (with_reducible refine w_eq_ss ?_)
  | (with_reducible refine w_ne_ss ?_)
  | (with_reducible refine w_eq_bb ?_)
  | (with_reducible refine w_ne_bb ?_)
  | (with_reducible refine w_is_n ?_)
  | (with_reducible refine w_isn_n ?_)
  | (with_reducible refine w_is_bb ?_)
  | (with_reducible refine w_isn_bb ?_)
  | ((with_reducible show rIx _ (V.ref _) (V.int _) _ _); (first | (refine n_ix (by decide) (by walk_at "lk") (by exact rfl) ?_) | (refine n_ixl (by decide) (by walk_at "sl") (by exact rfl) ?_) | (refine n_ixt (by decide) (by walk_at "st") (by exact rfl) ?_)))
  | (with_reducible refine w_ipadd ?_)
  | (with_reducible refine w_ipsub ?_)
  | (with_reducible refine w_int_i ?_)
  | (with_reducible refine w_int_b ?_)
  | (with_reducible refine w_abs ?_)
  | ((with_reducible refine w_max2r ?_); intro _ _ _ _)
  | ((with_reducible refine w_min2r ?_); intro _ _ _ _)
  | ((with_reducible show uLen _ [V.ref _] _ _); (first | (refine n_len (by walk_at "lk") (by exact rfl) ?_) | (refine w_len_l (by walk_at "sl") ?_) | (refine w_len_t (by walk_at "st") ?_) | (refine w_len_d (by walk_at "lk") ?_)))
  | ((with_reducible show uIsi _ [_, V.ty _] _ _); (refine w_isk (by walk_at "kd") (by decide) ?_))
  | ((with_reducible show uIsi _ [_, V.ref _] _ _); (refine w_isk2 (by walk_at "lk") (by walk_at "kd") (by decide) (by decide) ?_))
  | (with_reducible refine w_wN ?_)
  | (with_reducible refine w_lc ?_)
  | ((with_reducible refine' w_rng2e ?k1 ?_); (case k1 => (refine ⟨?_, ?_, ?_, ?_⟩ <;> omega)))
  | ((with_reducible refine' w_rng1e ?k1 ?k2 ?_); (case k1 => omega); (case k2 => omega))
  | ((with_reducible show ∃ a', V.ref _ = .ref a' ∧ (∃ xs, SqL _ _ a' xs) ∧ _); (refine w_sqLe (by walk_at "sl") ?_))
  | ((with_reducible show ∃ a', V.ref _ = .ref a' ∧ (∃ xs, SqT _ _ a' xs) ∧ _); (refine w_sqTe (by walk_at "st") ?_))
  | (with_reducible refine w_slc ?_)
  | (with_reducible refine w_nop ?_)
  | (with_reducible refine w_part ?_)
  | (with_reducible refine w_exi ?_)
  | ((with_reducible show uSl _ (V.ref _) _ _ _ _); (refine n_slL (by walk_at "sl") ?_); intro _ _ _ _ _)
  | (with_reducible refine w_gsub ?_)
  | ((with_reducible show rSetL (V.ref _) (V.int _) _ _ _); (refine w_setl (by walk_at "lk") (by exact rfl) ?_))
  | (with_reducible refine w_pow_9 ?_)
  | (with_reducible refine w_pow_12 ?_)
  | (with_reducible refine w_pow_13 ?_)
  | (with_reducible refine w_pow_18 ?_)
  | (with_reducible refine w_pow_29 ?_)
  | ((with_reducible refine n_disp1 ?_); intro _ _ _ _ _)
  | (with_reducible refine w_dput ?_)
  | ((with_reducible show rAppend (V.ref _) [_] _ _); (refine w_append (by walk_at "lk") (by first | omega | (exact Nat.lt_of_le_of_lt (wN_le rfl) (by decide))) ?_))
  | ((with_reducible show ∃ a' H4, V.ref _ = .ref a' ∧ DPut _ a' (V.str _) _ H4 ∧ _); (refine w_dputS (by walk_at "lk") (by first | omega | exact wN_le rfl) ?_))
  | (with_reducible refine w_try ?_)
  | ((with_reducible show wManyA _ _ _ _ (.ref (He.ga _ _)) _ _ _); (first | ((refine w_hit (ExT.ex (by assumption) _ (by decide) _ (by decide)) ?_); intro _ _) | (refine w_miss (ExT.ex (by assumption) _ (by decide) _ (by decide)) ?_)))
  | (with_reducible refine w_xg ?_)
  | ((with_reducible show V.ref _ = .ref _ ∧ ∃ _ _ _ _, Value.ref (He.ga _ _) = _ ∧ _); (refine w_xge (ExT.xf (by assumption) _ (by decide)) (ExT.fg (by assumption) _ (by decide)) (by walk_at "lk") ?_))
  | ((with_reducible show rIsX _ (.ref (He.ga _ _)) _ _ _ _ _); (refine w_isx (ExT.xx (by assumption) _ (by decide)) (ExT.kd (by assumption) _ (by decide)) (by walk_at "lk") ?_))
  | ((with_reducible show uAdd _ (V.ref _) (V.ref _) _ _); (refine n_add_ll (by walk_at "lk") (by walk_at "lk") rfl ?_); intro _ _ _ _ _)
  | ((with_reducible show iSeq _ (tLst _) _ _ _); (refine w_sqL ?_))
  | ((with_reducible show iSeq _ (tTup _) _ _ _); (refine w_sqT ?_))
  | (refine ⟨(rfl : wipe _ _ = wipe _ _), ?_⟩)
  | (walk_at "hc"))
local macro_rules | `(tactic| walk_at "hs") => `(tactic| repeat' (walk_at "hs1"))

local macro_rules | `(tactic| walk_at "rg") => `(tactic| repeat' (first | exact rg_nil | (refine rg_cons (by omega) (by omega) ?_)))
local macro_rules | `(tactic| walk_at "sm") => `(tactic| first | exact Same.refl _ | assumption | ((with_reducible show Same _ (upd _ _ _)); (refine Same.trans ?_ (sm_new (by assumption))); walk_at "sm") | ((refine Same.trans ?_ (by assumption)); walk_at "sm"))
local macro_rules | `(tactic| walk_at "bx") => `(tactic| first | assumption | ((with_reducible show BoxAt (upd _ _ _) _ _); (exact BoxAt.new (by assumption) (by walk_at "bx"))) | (exact BoxAt.same (by assumption) (by walk_at "bx")))
local macro_rules | `(tactic| walk_at "ks") => `(tactic| first | exact Ks.refl _ | assumption | ((with_reducible show Ks _ (upd _ _ _)); (refine Ks.trans ?_ (Ks.of (sm_new (by assumption))); walk_at "ks")) | (refine Ks.trans ?_ (by assumption); walk_at "ks") | (refine Ks.trans ?_ (Ks.of (by assumption)); walk_at "ks"))
local macro_rules | `(tactic| walk_at "ob") => `(tactic| first | assumption | exact .sc rfl | (exact Ob.same (by assumption) (by walk_at "ob")) | (exact Ob.ks (by assumption) (by walk_at "ob")))
local macro_rules | `(tactic| walk_at "nd") => `(tactic| first | assumption | (exact Nd.same (by assumption) (by walk_at "nd")) | (exact Nd.ks (by assumption) (by walk_at "nd")))
local macro_rules | `(tactic| walk_at "df") => `(tactic| first | assumption | exact df_sc rfl | (exact df_vr (by assumption) (by walk_at "lk")) | (exact df_rv (by assumption) (by walk_at "ob")) | (exact df_vv (by assumption) (by walk_at "ob")) | (exact Df.symm (df_vv (by assumption) (by walk_at "ob"))))
local macro_rules | `(tactic| walk_at "hc") => `(tactic| (with_reducible show sp_is_whole _ _ _ _ _); (refine u_is_whole (by walk_at "kd") ?_))
local macro_rules | `(tactic| walk_at "hc") => `(tactic| (with_reducible show sp_is_between _ _ _ _ _); (refine u_is_between (by walk_at "kd") ?_))
local macro_rules | `(tactic| walk_at "hc") => `(tactic| (with_reducible show sp_is_day _ _ _ _ _); (refine u_is_day (by walk_at "kd") ?_))
local macro_rules | `(tactic| walk_at "hc") => `(tactic| (with_reducible refine u_is_leap_year ?_))
local macro_rules | `(tactic| walk_at "hc") => `(tactic| (with_reducible refine' u_length_of ?k1 ?k2 ?_); (case k1 => omega); (case k2 => omega))
local macro_rules | `(tactic| walk_at "hc") => `(tactic| (with_reducible refine' u_year_begin ?k1 ?k2 ?_); (case k1 => omega); (case k2 => omega))
local macro_rules | `(tactic| walk_at "hc") => `(tactic| (with_reducible refine' u_month_begin ?k1 ?k2 ?k3 ?k4 ?_); (case k1 => omega); (case k2 => omega); (case k3 => omega); (case k4 => omega); intro _ _)
local macro_rules | `(tactic| walk_at "hc") => `(tactic| (with_reducible show sp__law_take _ _ _ _ _); (refine u__law_take (by walk_at "bx") (by omega) (by omega) (by omega) ?_); intro _ _ _ _ _ _)
local macro_rules | `(tactic| walk_at "hc") => `(tactic| (with_reducible refine u__law_leap ?_))
local macro_rules | `(tactic| walk_at "hc") => `(tactic| (with_reducible show sp__law_length _ _ _ _ _); (refine u__law_length (by omega) (by omega) ?_); intro _ _)
local macro_rules | `(tactic| walk_at "hc") => `(tactic| (with_reducible show sp__law_next _ _ _ _ _); (refine u__law_next (by walk_at "st") (by omega) (by omega) ?_); intro _ _ _ _ _)
local macro_rules | `(tactic| walk_at "hc") => `(tactic| (with_reducible show sp__law_no_number _ _ _ _ _); (refine u__law_no_number (by walk_at "bx") (by omega) (by omega) (by omega) ?_); intro _ _ _ _ _ _ _)
local macro_rules | `(tactic| walk_at "hc") => `(tactic| (with_reducible show sp__law_day_of _ _ _ _ _); (refine u__law_day_of (by walk_at "st") (by omega) (by omega) (by omega) (by omega) ?_); intro _ _)
variable {K : PySem.W.Frag}
theorem later_some {n y m d k r : Int} (hd : IsD n y m d) (n0 : 0 ≤ n) (n1 : n ≤ 1000000000000) (y0 : 2000 ≤ y) (h : later y m d k = some r) :
    ∃ y2 m2 d2, IsD r y2 m2 d2 ∧ 0 ≤ r ∧ r ≤ 1000000000000 ∧ (d2 = d → later y2 m2 d2 (-k) = some n) := by
  have hM : MOST = 1000000000000 := rfl
  have m1 := hd.m1
  have m2 := hd.m2
  have d1 := hd.d1
  have d2 := hd.d2
  have de := hd.eq
  unfold later inMon at h
  by_cases c : 12 * y + m - 1 + k < 24000
  · rw [if_pos c] at h; cases h
  rw [if_neg c] at h
  dsimp only at h
  have g1 : (12 * y + m - 1 + k) / 12 * 12 + (12 * y + m - 1 + k) % 12 = 12 * y + m - 1 + k := by omega
  generalize hY : (12 * y + m - 1 + k) / 12 = Y at *
  generalize hX : (12 * y + m - 1 + k) % 12 = X at *
  have X0 : 0 ≤ X := by omega
  have X1 : X ≤ 11 := by omega
  have Y0 : 2000 ≤ Y := by omega
  have ml := mlen_le Y (X + 1)
  generalize hD : (if mlen Y (X + 1) < d then mlen Y (X + 1) else d) = D at *
  have D0 : 1 ≤ D := by rw [← hD]; split <;> omega
  have D1 : D ≤ mlen Y (X + 1) := by rw [← hD]; split <;> omega
  by_cases z : mb Y (X + 1) + D - 1 ≤ MOST
  · rw [if_pos z] at h
    cases h
    have hi : IsD (mb Y (X + 1) + D - 1) Y (X + 1) D := ⟨by omega, by omega, D0, D1, rfl⟩
    have hy := hi.year
    have hy0 : 0 ≤ yb Y := by unfold yb; omega
    refine ⟨Y, X + 1, D, hi, by omega, by omega, fun e => ?_⟩
    subst e
    unfold later inMon
    have f1 : 12 * Y + (X + 1) - 1 + -k = 12 * y + m - 1 := by omega
    have f2 : (12 * y + m - 1) / 12 = y := by omega
    have f3 : (12 * y + m - 1) % 12 + 1 = m := by omega
    rw [f1, if_neg (by omega), f2, f3, if_neg (by omega)]
    dsimp only
    rw [if_pos (by omega), de]
  · rw [if_neg z] at h
    cases h
theorem u_ask_later {H : Hp} {Q : VK} {E : XK} {n y m d k : Int} {nm : Bool} (hd : IsD n y m d) (n0 : 0 ≤ n) (n1 : n ≤ 1000000000000) (k0 : -100000 ≤ k) (k1 : k ≤ 100000)
    (q1 : ∀ r, later y m d k = some r → ∀ l H', Same H H' → H' l = some (.lst [.str "told", .int r]) → Q (.ref l) H') (q2 : later y m d k = none → ∀ l H', Same H H' → H' l = some (.lst [.str "count", .int k, .bl true]) → Q (.ref l) H') :
    sp__law_ask K [.str "later", .int n, .int k, .bl nm] H Q E := ⟨_, _, _, _, rfl, .inr (.inr ⟨rfl, _, _, .int n, .int k, fun n' k' e e2 _ _ y' m' d' hd' => by
      cases e; cases e2
      obtain ⟨rfl, rfl, rfl⟩ := IsD.uniq hd hd'
      exact ⟨q1, q2⟩, fun c => (by rw [betw_t (hi := MOST) n0 n1] at c; cases c), fun _ c => (by rw [betw_t k0 k1] at c; cases c)⟩)⟩
theorem ks_mut {H1 H4 : Hp} {D : Addr} {o : HO} (e : Ks H1 H4) (hD : H1 D = none) : Ks H1 (upd H4 D o) := fun a u hu => by
  obtain ⟨o', h', k⟩ := e a u hu
  exact ⟨o', by rw [upd_ne (ne_of_none hu hD)]; exact h', k⟩
theorem BoxAt.mut {H1 H4 : Hp} {D b : Addr} {o : HO} {c c1 : Int} (h : BoxAt H4 b c) (h1 : BoxAt H1 b c1) (hD : H1 D = none) : BoxAt (upd H4 D o) b c := by
  obtain ⟨n, m, c0, bo, h, r⟩ := h
  obtain ⟨_, _, _, _, h1, _⟩ := h1
  exact ⟨n, m, c0, bo, by rw [upd_ne (ne_of_none h1 hD)]; exact h, r⟩
theorem p__law_months_right (vs : List V) (H : Hp) (Q : VK) (E : XK) (h : sp__law_months_right K vs H Q E) : t__law_months_right K E (D0 Q) (start N__law_months_right vs) H := by
  obtain ⟨b, c, n, nm, rfl, hb, hc, n0, n1, q⟩ := h
  walk_at "hs"
  refine u__law_date n0 (by omega) fun y m d p H1 hd e hp => ?_
  have m1 := hd.m1
  have m2 := hd.m2
  have y0 := hd.year
  have y1 := yb_bd y0.1 n0 (by omega)
  have y2 := yb_bd0 y0.2 n0
  walk_at "hs"
  rename_i ra Ha a0 a1 ka ba rb Hb b0 b1 kb bb L1 Hc nc sc hc1 x1 x10 x11 x12 x2 x20 x21 x22 L2 Hd nd sd hd1 L3 He ne se he1
  have hr : ∀ v ∈ ([V.int 0, V.int 1, V.int (-1), V.int 12, V.int (-12), V.int 4800, V.int (ra - 30), V.int (rb - 100000)] ++ [V.int (-x1), V.int (-x2), V.int 100000, V.int (-100000)]), ∃ j, v = .int j ∧ -100000 ≤ j ∧ j ≤ 100000 := by
    show ∀ v ∈ [V.int 0, V.int 1, V.int (-1), V.int 12, V.int (-12), V.int 4800, V.int (ra - 30), V.int (rb - 100000), V.int (-x1), V.int (-x2), V.int 100000, V.int (-100000)], ∃ j, v = .int j ∧ -100000 ≤ j ∧ j ≤ 100000
    walk_at "rg"
  have hlen : ([V.int 0, V.int 1, V.int (-1), V.int 12, V.int (-12), V.int 4800, V.int (ra - 30), V.int (rb - 100000)] ++ [V.int (-x1), V.int (-x2), V.int 100000, V.int (-100000)]).length = 12 := rfl
  have hnb := notBox_len (xs := [V.int 0, V.int 1, V.int (-1), V.int 12, V.int (-12), V.int 4800, V.int (ra - 30), V.int (rb - 100000)] ++ [V.int (-x1), V.int (-x2), V.int 100000, V.int (-100000)]) rfl
  have be : BoxAt He b (c + 2) := BoxAt.mono (by walk_at "bx") (by omega)
  have kHe : Ks H He := by walk_at "ks"
  have hpe : SqT K He p [.int y, .int m, .int d] := by
    clear kHe
    walk_at "st"
  generalize [V.int 0, V.int 1, V.int (-1), V.int 12, V.int (-12), V.int 4800, V.int (ra - 30), V.int (rb - 100000)] ++ [V.int (-x1), V.int (-x2), V.int 100000, V.int (-100000)] = cl at *
  clear ka ba kb bb nc sc hc1 x10 x11 x12 x20 x21 x22 nd sd hd1 ne se a0 a1 b0 b1 e hp
  refine w_sqL ?_
  walk_at "hs"
  intro D hD
  refine lc_range (lo := 0) (n := 5) (fun i H2 => ∃ ks : List Int, H2 D = some (.lst (ks.map V.int)) ∧ ks.length = i ∧ (∀ k ∈ ks, -100000 ≤ k ∧ k ≤ 100000) ∧ Ks He H2 ∧ BoxAt H2 b (c + 2 + (i : Int)))
    ⟨[], upd_same, rfl, fun _ h => (by cases h), Ks.of (sm_new hD), by rw [show c + 2 + ((0 : Nat) : Int) = c + 2 by omega]; exact BoxAt.new hD be⟩ ?_ ?_
  · rintro i H2 hi ⟨ks, hDk, hlk, hb1, k2, b2⟩
    have i1 : (i : Int) < 5 := by omega
    walk_at "hs"
    rename_i r H3 r0 r1 k3 b3
    refine w_ixl_int (-100000) 100000 12 (l_of (ks_get k3 (ks_get k2 he1 hnb) hnb)) hlen (by omega) (by omega) hr fun j j0 j1 => ?_
    refine ⟨_, ks_get k3 hDk (notBox_int ks), by rw [List.length_map, hlk]; exact Nat.lt_of_lt_of_le (by omega : i < 1000) (by decide), ks ++ [j], by rw [upd_same, List.map_append]; rfl, by simp [hlk], fun k hk => ?_, ks_mut (Ks.trans k2 k3) hD, ?_⟩
    · rcases List.mem_append.mp hk with hk | hk
      · exact hb1 k hk
      · rcases List.mem_cons.mp hk with rfl | hk
        · exact ⟨j0, j1⟩
        · cases hk
    · rw [show c + 2 + ((i + 1 : Nat) : Int) = c + 2 + (i : Int) + 1 by omega]
      exact BoxAt.mut b3 be hD
  · rintro H2 ⟨ks, hDk, hlk, hb1, k2, b2⟩
    have hp2 := ks_tup k2 hpe
    have kk : Ks H H2 := Ks.trans kHe k2
    clear hpe kHe k2 be he1
    walk_at "hs"
    refine for_list (xs := ks.map V.int) (fun i σ H3 => ∃ s6 s7 s8 s9, σ = [some (.ref b), some (.int n), some (.bl nm), some (.ref p), some (.int (12 * (y - 2000) + m - 1)), some (.ref L3), s6, s7, s8, s9] ∧ Same H2 H3)
      ⟨_, _, _, _, rfl, Same.refl _⟩ (fun i σ H3 _ ⟨_, _, _, _, _, e3⟩ => l_of (e3 D _ hDk)) ?_ ?_
    · rintro i x σ H3 hx ⟨s6, s7, s8, s9, rfl, e3⟩
      rw [List.getElem?_map] at hx
      obtain ⟨k, hk, rfl⟩ := Option.map_eq_some_iff.mp hx
      obtain ⟨kb0, kb1⟩ := hb1 k (List.mem_of_getElem? hk)
      have hp3 := Kx.Same.tup e3 hp2
      clear hp2 hDk
      walk_at "hs"
      refine u__law_in_months hp3 y2 y1 m1 m2 (by omega) (by omega) fun H4 e4 => ?_
      cases el : later y m d k with
      | none =>
        dsimp only [oV]
        walk_at "hs"
        refine u_ask_later hd n0 n1 kb0 kb1 (fun r er => by rw [el] at er; cases er) fun _ l H5 e5 hl => ?_
        walk_at "hs"
        refine u__law_same (n := 8) (.int _) (.int _) (by simp [okD]) fun H6 e6 => ?_
        walk_at "hs"
        exact ⟨_, _, _, _, rfl, by walk_at "sm"⟩
      | some r =>
        obtain ⟨y3, m3, d3, hi, r0, r1, back⟩ := later_some hd n0 n1 y2 el
        dsimp only [oV]
        walk_at "hs"
        refine u__law_told (d := .int r) (by simp [okD]) (.int _) (fun H9 bo e9 Q' kq => u_ask_later hd n0 n1 kb0 kb1 (fun r' er l H7 e7 hl7 => by rw [el] at er; cases er; exact kq _ l H7 e7 (.int _) hl7) fun en => by rw [el] at en; cases en) fun H5 e5 => ?_
        walk_at "hs"
        refine u__law_date r0 (by omega) fun y4 m4 d4 p4 H6 hd4 e6 hp4 => ?_
        obtain ⟨rfl, rfl, rfl⟩ := IsD.uniq hi hd4
        walk_at "hs"
        refine w_b2 (fun c => ?_) (fun c => ?_)
        · have c' : d3 = d := of_decide_eq_true c
          have hb := back c'
          walk_at "hs"
          refine u__law_told (d := .int n) (by simp [okD]) (.int _) (fun H9 bo e9 Q' kq => u_ask_later hi r0 r1 (by omega) (by omega) (fun r' er l H7 e7 hl7 => by rw [hb] at er; cases er; exact kq _ l H7 e7 (.int _) hl7) fun en => by rw [hb] at en; cases en) fun H7 e7 => ?_
          walk_at "hs"
          exact ⟨_, _, _, _, rfl, by walk_at "sm"⟩
        · walk_at "hs"
          exact ⟨_, _, _, _, rfl, by walk_at "sm"⟩
    · rintro σ H3 ⟨s6, s7, s8, s9, rfl, e3⟩
      walk_at "hs"
      exact q _ (Ks.trans kk (Ks.of e3)) (BoxAt.mono (BoxAt.same e3 b2) (by omega))
theorem u__law_months_right {H : Hp} {Q : VK} {E : XK} {b : Addr} {c n : Int} {nm : Bool} (hb : BoxAt H b c) (hc : c < 800000000) (n0 : 0 ≤ n) (n1 : n ≤ 1000000000000) (q : ∀ H', Ks H H' → BoxAt H' b (c + 20) → Q (.bl true) H') : sp__law_months_right K [.ref b, .int n, .bl nm] H Q E := ⟨b, c, n, nm, rfl, hb, hc, n0, n1, q⟩
end My
set_option linter.all false
set_option maxRecDepth 100000
set_option maxHeartbeats 4000000
namespace My
open PySem PySem.Spec PyProof.Rows L2 Kx
local macro_rules | `(tactic| walk_at "lk") => `(tactic| first | assumption | ((with_reducible show upd _ _ _ _ = _); (first | exact upd_same | (exact up_new (by assumption) (by walk_at "lk")) | (exact up_other (by assumption) (by walk_at "lk")))) | (exact (by assumption : Same _ _) _ _ (by walk_at "lk")) | (exact ks_get (by assumption) (by walk_at "lk") (by first | rfl | assumption | exact notBox_len rfl)))
local macro_rules | `(tactic| walk_at "sl") => `(tactic| first | assumption | (exact l_of (by walk_at "lk")) | (exact Same.seq (by assumption) (by walk_at "sl")) | ((with_reducible show SqL _ (upd _ _ _) _ _); (exact Same.seq (sm_new (by assumption)) (by walk_at "sl"))))
local macro_rules | `(tactic| walk_at "st") => `(tactic| first | assumption | (exact t_of (by walk_at "lk")) | (exact Kx.Same.tup (by assumption) (by walk_at "st")) | ((with_reducible show SqT _ (upd _ _ _) _ _); (exact Kx.Same.tup (sm_new (by assumption)) (by walk_at "st"))) | (exact ks_tup (by assumption) (by walk_at "st")))
local macro_rules | `(tactic| walk_at "kd") => `(tactic| first | assumption | exact .non | exact .bl _ | exact .int _ | exact .str _ | (exact .lst (by walk_at "sl")) | (exact .tup (by walk_at "st")) | (exact .dic (by walk_at "lk")) | (exact Kd.same (by assumption) (by walk_at "kd")) | ((with_reducible show Kd _ (upd _ _ _) _ _); (exact Kd.same (sm_new (by assumption)) (by walk_at "kd"))))
local macro_rules | `(tactic| walk_at "tt") => `(tactic| first | rfl | assumption | decide +kernel | (simp only [decide_eq_true_eq, Bool.not_eq_true', decide_eq_false_iff_not, Bool.and_eq_true, Bool.or_eq_true]; omega))
local macro_rules | `(tactic| walk_at "ff") => `(tactic| first | rfl | assumption | decide +kernel | (simp only [decide_eq_true_eq, Bool.not_eq_false', decide_eq_false_iff_not, Bool.and_eq_false_imp, Bool.or_eq_false_iff]; omega))
local macro_rules | `(tactic| walk_at "hc") => `(tactic| fail)
local macro_rules | `(tactic| walk_at "hif") => `(tactic| ((with_reducible refine w_b2 ?_ ?_) <;> intro))
local macro_rules | `(tactic| walk_at "hs1") => `(tactic| first
  | (with_reducible refine w_seq ?_)
  | (with_reducible refine w_asg ?_)
  | ((with_reducible refine' w_var ?k1 ?_); (case k1 => exact rfl))
  | (with_reducible refine w_c ?_)
  | (with_reducible refine w_op ?_)
  | (with_reducible refine w_cons ?_)
  | (with_reducible refine w_nil ?_)
  | (with_reducible refine w_name ?_)
  | (with_reducible refine w_kn ?_)
  | (with_reducible refine w_kx ?_)
  | (with_reducible refine w_kk ?_)
  | (with_reducible refine w_cb ?_)
  | (with_reducible refine w_if ?_)
  | (with_reducible refine w_test ?_)
  | (with_reducible refine w_exb ?_)
  | (with_reducible refine iteT ?_)
  | (with_reducible refine iteF ?_)
  | ((with_reducible refine w_bt ?_ ?_); (first | rfl | decide +kernel))
  | ((with_reducible refine w_bf ?_ ?_); (first | rfl | decide +kernel))
  | ((with_reducible refine w_bt ?_ ?_); (walk_at "tt"))
  | ((with_reducible refine w_bf ?_ ?_); (walk_at "ff"))
  | (with_reducible refine w_ret ?_)
  | (with_reducible refine w_retN ?_)
  | (with_reducible refine w_drop ?_)
  | (with_reducible refine w_next ?_)
  | (with_reducible refine w_brk ?_)
  | (with_reducible refine w_cont ?_)
  | (with_reducible refine w_and ?_)
  | (with_reducible refine w_or ?_)
  | (with_reducible refine w_not ?_)
  | (with_reducible refine w_tr ?_)
  | (with_reducible refine w_yes ?_)
  | (with_reducible refine w_tru_bl ?_)
  | (with_reducible refine w_tru_int ?_)
  | (with_reducible refine w_tru_non ?_)
  | (with_reducible refine w_andV ?_)
  | (with_reducible refine w_orV ?_)
  | (with_reducible refine w_notV ?_)
  | (with_reducible refine w_ifx ?_)
  | (with_reducible refine w_chain ?_)
  | (with_reducible refine w_un ?_)
  | (with_reducible refine n_tup ?_)
  | (with_reducible refine n_lst ?_)
  | ((with_reducible show kTup _ _ _); (refine n_ktup rfl ?_); intro _ _ _ _ _)
  | ((with_reducible show kLst _ _ _); (refine n_klst rfl ?_); intro _ _ _ _ _)
  | (with_reducible refine w_par ?_)
  | (with_reducible refine w_par2 ?_)
  | (with_reducible refine w_par3 ?_)
  | (with_reducible refine w_par33 ?_)
  | ((with_reducible refine' w_aug ?k1 ?_); (case k1 => exact rfl))
  | (with_reducible refine w_raise ?_)
  | (with_reducible refine w_mkdue ?_)
  | (with_reducible refine w_one ?_)
  | ((with_reducible show gSq _ _ _ (V.ref _) _ _ _); (first | (refine n_gsq (by walk_at "lk") (by exact rfl) (by exact rfl) ?_) | (refine w_gtup (by walk_at "st") (by exact rfl) ?_) | (refine w_glst (by walk_at "sl") (by exact rfl) ?_)))
  | (with_reducible refine w_gcons ?_)
  | (with_reducible refine w_gnil ?_)
  | (with_reducible refine w_bm ?_)
  | ((with_reducible show tyV _ "list" (V.ref _) _ ∧ _); (refine w_tyl (by walk_at "sl") ?_))
  | (with_reducible refine w_for ?_)
  | (with_reducible refine w_rng1 ?_)
  | (with_reducible refine w_rng2 ?_)
  | (with_reducible refine w_add_ii ?_)
  | (with_reducible refine w_sub_ii ?_)
  | ((with_reducible refine w_fdv_ii ?_ ?_ ?_); (first | decide | omega); (first | decide | omega))
  | ((with_reducible refine w_mul_b ?_ ?_ ?_); (refine ⟨?_, ?_⟩ <;> omega); (refine ⟨?_, ?_⟩ <;> omega))
  | ((with_reducible refine w_mod_ii ?_ ?_); (first | decide | omega))
  | (with_reducible refine w_neg_i ?_)
  | (with_reducible refine w_lt_ii ?_)
  | (with_reducible refine w_le_ii ?_)
  | (with_reducible refine w_gt_ii ?_)
  | (with_reducible refine w_ge_ii ?_)
  | (with_reducible refine w_eq_ii ?_)
  | (with_reducible refine w_ne_ii ?_)
  | (with_reducible refine n_eq_same ?_)
  | (with_reducible refine n_ne_same ?_)
  | (with_reducible refine w_eq_ss ?_)
  | (with_reducible refine w_ne_ss ?_)
  | (with_reducible refine w_eq_bb ?_)
  | (with_reducible refine w_ne_bb ?_)
  | (with_reducible refine w_is_n ?_)
  | (with_reducible refine w_isn_n ?_)
  | (with_reducible refine w_is_bb ?_)
  | (with_reducible refine w_isn_bb ?_)
  | ((with_reducible show rIx _ (V.ref _) (V.int _) _ _); (first | (refine n_ix (by decide) (by walk_at "lk") (by exact rfl) ?_) | (refine n_ixl (by decide) (by walk_at "sl") (by exact rfl) ?_) | (refine n_ixt (by decide) (by walk_at "st") (by exact rfl) ?_)))
  | (with_reducible refine w_ipadd ?_)
  | (with_reducible refine w_ipsub ?_)
  | (with_reducible refine w_int_i ?_)
  | (with_reducible refine w_int_b ?_)
  | (with_reducible refine w_abs ?_)
  | ((with_reducible refine w_max2r ?_); intro _ _ _ _)
  | ((with_reducible refine w_min2r ?_); intro _ _ _ _)
  | ((with_reducible show uLen _ [V.ref _] _ _); (first | (refine n_len (by walk_at "lk") (by exact rfl) ?_) | (refine w_len_l (by walk_at "sl") ?_) | (refine w_len_t (by walk_at "st") ?_) | (refine w_len_d (by walk_at "lk") ?_)))
  | ((with_reducible show uIsi _ [_, V.ty _] _ _); (refine w_isk (by walk_at "kd") (by decide) ?_))
  | ((with_reducible show uIsi _ [_, V.ref _] _ _); (refine w_isk2 (by walk_at "lk") (by walk_at "kd") (by decide) (by decide) ?_))
  | (with_reducible refine w_wN ?_)
  | (with_reducible refine w_lc ?_)
  | ((with_reducible refine' w_rng2e ?k1 ?_); (case k1 => (refine ⟨?_, ?_, ?_, ?_⟩ <;> omega)))
  | ((with_reducible refine' w_rng1e ?k1 ?k2 ?_); (case k1 => omega); (case k2 => omega))
  | ((with_reducible show ∃ a', V.ref _ = .ref a' ∧ (∃ xs, SqL _ _ a' xs) ∧ _); (refine w_sqLe (by walk_at "sl") ?_))
  | ((with_reducible show ∃ a', V.ref _ = .ref a' ∧ (∃ xs, SqT _ _ a' xs) ∧ _); (refine w_sqTe (by walk_at "st") ?_))
  | (with_reducible refine w_slc ?_)
  | (with_reducible refine w_nop ?_)
  | (with_reducible refine w_part ?_)
  | (with_reducible refine w_exi ?_)
  | ((with_reducible show uSl _ (V.ref _) _ _ _ _); (refine n_slL (by walk_at "sl") ?_); intro _ _ _ _ _)
  | (with_reducible refine w_gsub ?_)
  | ((with_reducible show rSetL (V.ref _) (V.int _) _ _ _); (refine w_setl (by walk_at "lk") (by exact rfl) ?_))
  | (with_reducible refine w_pow_9 ?_)
  | (with_reducible refine w_pow_12 ?_)
  | (with_reducible refine w_pow_13 ?_)
  | (with_reducible refine w_pow_18 ?_)
  | (with_reducible refine w_pow_29 ?_)
  | ((with_reducible refine n_disp1 ?_); intro _ _ _ _ _)
  | (with_reducible refine w_dput ?_)
  | ((with_reducible show rAppend (V.ref _) [_] _ _); (refine w_append (by walk_at "lk") (by first | omega | (exact Nat.lt_of_le_of_lt (wN_le rfl) (by decide))) ?_))
  | ((with_reducible show ∃ a' H4, V.ref _ = .ref a' ∧ DPut _ a' (V.str _) _ H4 ∧ _); (refine w_dputS (by walk_at "lk") (by first | omega | exact wN_le rfl) ?_))
  | (with_reducible refine w_try ?_)
  | ((with_reducible show wManyA _ _ _ _ (.ref (He.ga _ _)) _ _ _); (first | ((refine w_hit (ExT.ex (by assumption) _ (by decide) _ (by decide)) ?_); intro _ _) | (refine w_miss (ExT.ex (by assumption) _ (by decide) _ (by decide)) ?_)))
  | (with_reducible refine w_xg ?_)
  | ((with_reducible show V.ref _ = .ref _ ∧ ∃ _ _ _ _, Value.ref (He.ga _ _) = _ ∧ _); (refine w_xge (ExT.xf (by assumption) _ (by decide)) (ExT.fg (by assumption) _ (by decide)) (by walk_at "lk") ?_))
  | ((with_reducible show rIsX _ (.ref (He.ga _ _)) _ _ _ _ _); (refine w_isx (ExT.xx (by assumption) _ (by decide)) (ExT.kd (by assumption) _ (by decide)) (by walk_at "lk") ?_))
  | ((with_reducible show uAdd _ (V.ref _) (V.ref _) _ _); (refine n_add_ll (by walk_at "lk") (by walk_at "lk") rfl ?_); intro _ _ _ _ _)
  | ((with_reducible show iSeq _ (tLst _) _ _ _); (refine w_sqL ?_))
  | ((with_reducible show iSeq _ (tTup _) _ _ _); (refine w_sqT ?_))
  | (refine ⟨(rfl : wipe _ _ = wipe _ _), ?_⟩)
  | (walk_at "hc"))
local macro_rules | `(tactic| walk_at "hs") => `(tactic| repeat' (walk_at "hs1"))

local macro_rules | `(tactic| walk_at "rg") => `(tactic| repeat' (first | exact rg_nil | (refine rg_cons (by omega) (by omega) ?_)))
local macro_rules | `(tactic| walk_at "sm") => `(tactic| first | exact Same.refl _ | assumption | ((with_reducible show Same _ (upd _ _ _)); (refine Same.trans ?_ (sm_new (by assumption))); walk_at "sm") | ((refine Same.trans ?_ (by assumption)); walk_at "sm"))
local macro_rules | `(tactic| walk_at "bx") => `(tactic| first | assumption | ((with_reducible show BoxAt (upd _ _ _) _ _); (exact BoxAt.new (by assumption) (by walk_at "bx"))) | (exact BoxAt.same (by assumption) (by walk_at "bx")))
local macro_rules | `(tactic| walk_at "ks") => `(tactic| first | exact Ks.refl _ | assumption | ((with_reducible show Ks _ (upd _ _ _)); (refine Ks.trans ?_ (Ks.of (sm_new (by assumption))); walk_at "ks")) | (refine Ks.trans ?_ (by assumption); walk_at "ks") | (refine Ks.trans ?_ (Ks.of (by assumption)); walk_at "ks"))
local macro_rules | `(tactic| walk_at "ob") => `(tactic| first | assumption | exact .sc rfl | (exact Ob.same (by assumption) (by walk_at "ob")) | (exact Ob.ks (by assumption) (by walk_at "ob")))
local macro_rules | `(tactic| walk_at "nd") => `(tactic| first | assumption | (exact Nd.same (by assumption) (by walk_at "nd")) | (exact Nd.ks (by assumption) (by walk_at "nd")))
local macro_rules | `(tactic| walk_at "df") => `(tactic| first | assumption | exact df_sc rfl | (exact df_vr (by assumption) (by walk_at "lk")) | (exact df_rv (by assumption) (by walk_at "ob")) | (exact df_vv (by assumption) (by walk_at "ob")) | (exact Df.symm (df_vv (by assumption) (by walk_at "ob"))))
local macro_rules | `(tactic| walk_at "hc") => `(tactic| (with_reducible show sp_is_whole _ _ _ _ _); (refine u_is_whole (by walk_at "kd") ?_))
local macro_rules | `(tactic| walk_at "hc") => `(tactic| (with_reducible show sp_is_between _ _ _ _ _); (refine u_is_between (by walk_at "kd") ?_))
local macro_rules | `(tactic| walk_at "hc") => `(tactic| (with_reducible show sp_is_day _ _ _ _ _); (refine u_is_day (by walk_at "kd") ?_))
local macro_rules | `(tactic| walk_at "hc") => `(tactic| (with_reducible refine u_is_leap_year ?_))
local macro_rules | `(tactic| walk_at "hc") => `(tactic| (with_reducible refine' u_length_of ?k1 ?k2 ?_); (case k1 => omega); (case k2 => omega))
local macro_rules | `(tactic| walk_at "hc") => `(tactic| (with_reducible refine' u_year_begin ?k1 ?k2 ?_); (case k1 => omega); (case k2 => omega))
local macro_rules | `(tactic| walk_at "hc") => `(tactic| (with_reducible refine' u_month_begin ?k1 ?k2 ?k3 ?k4 ?_); (case k1 => omega); (case k2 => omega); (case k3 => omega); (case k4 => omega); intro _ _)
local macro_rules | `(tactic| walk_at "hc") => `(tactic| (with_reducible show sp__law_take _ _ _ _ _); (refine u__law_take (by walk_at "bx") (by omega) (by omega) (by omega) ?_); intro _ _ _ _ _ _)
local macro_rules | `(tactic| walk_at "hc") => `(tactic| (with_reducible refine u__law_leap ?_))
local macro_rules | `(tactic| walk_at "hc") => `(tactic| (with_reducible show sp__law_length _ _ _ _ _); (refine u__law_length (by omega) (by omega) ?_); intro _ _)
local macro_rules | `(tactic| walk_at "hc") => `(tactic| (with_reducible show sp__law_next _ _ _ _ _); (refine u__law_next (by walk_at "st") (by omega) (by omega) ?_); intro _ _ _ _ _)
local macro_rules | `(tactic| walk_at "hc") => `(tactic| (with_reducible show sp__law_no_number _ _ _ _ _); (refine u__law_no_number (by walk_at "bx") (by omega) (by omega) (by omega) ?_); intro _ _ _ _ _ _ _)
local macro_rules | `(tactic| walk_at "hc") => `(tactic| (with_reducible show sp__law_day_of _ _ _ _ _); (refine u__law_day_of (by walk_at "st") (by omega) (by omega) (by omega) (by omega) ?_); intro _ _)
variable {K : PySem.W.Frag}
structure RowOk (K : PySem.W.Frag) (H0 : Hp) (x : Rw) : Prop where
  row : H0 x.r = some (.lst [.str x.w, x.one, x.more, .str x.e, .int x.n])
  ix : (x.n = 0 ∧ x.t = x.one) ∨ (x.n = 1 ∧ x.t = x.more)
  ask : ∀ H nm Q E, Std H0 H x.one → Std H0 H x.more → Ans H Q [.str x.e, x.t, .bl true] → sp__law_ask K [.str x.w, x.one, x.more, .bl nm] H Q E
  ob : Ob H0 x.t
theorem row_y {H0 : Hp} {r : Addr} {v : V} (h : H0 r = some (.lst [.str "year", v, .non, .str "day", .int 0])) (ob : Ob H0 v) (hb : betw v 0 1000000000000 = false) : RowOk K H0 ⟨r, "year", v, .non, "day", 0, v⟩ :=
  ⟨h, .inl ⟨rfl, rfl⟩, fun H nm Q E e1 _ q => by
    obtain ⟨T, k⟩ := (ob.std e1).kd (K := K)
    exact ⟨_, _, _, _, rfl, .inl ⟨rfl, T, k, fun n _ c => (by rw [show betw v 0 MOST = false from hb] at c; cases c), fun _ => q⟩⟩, ob⟩
theorem row_m {H0 : Hp} {r : Addr} {v : V} (h : H0 r = some (.lst [.str "month", v, .non, .str "day", .int 0])) (ob : Ob H0 v) (hb : betw v 0 1000000000000 = false) : RowOk K H0 ⟨r, "month", v, .non, "day", 0, v⟩ :=
  ⟨h, .inl ⟨rfl, rfl⟩, fun H nm Q E e1 _ q => by
    obtain ⟨T, k⟩ := (ob.std e1).kd (K := K)
    exact ⟨_, _, _, _, rfl, .inr (.inl ⟨rfl, T, k, fun n _ c => (by rw [show betw v 0 MOST = false from hb] at c; cases c), fun _ => q⟩)⟩, ob⟩
theorem row_l {H0 : Hp} {r : Addr} {v z : V} (h : H0 r = some (.lst [.str "later", v, z, .str "day", .int 0])) (ob : Ob H0 v) (oz : Ob H0 z) (hb : betw v 0 1000000000000 = false) : RowOk K H0 ⟨r, "later", v, z, "day", 0, v⟩ :=
  ⟨h, .inl ⟨rfl, rfl⟩, fun H nm Q E e1 e2 q => by
    obtain ⟨T, k⟩ := (ob.std e1).kd (K := K)
    obtain ⟨U, k2⟩ := (oz.std e2).kd (K := K)
    have hb : betw v 0 MOST = false := hb
    exact ⟨_, _, _, _, rfl, .inr (.inr ⟨rfl, T, U, k, k2, fun n c _ _ h1 _ => (by rw [hb] at h1; cases h1), fun _ => q, fun c _ => (by rw [hb] at c; cases c)⟩)⟩, ob⟩
theorem row_c {H0 : Hp} {r : Addr} {v : V} {n : Int} (n0 : 0 ≤ n) (n1 : n ≤ 1000000000000) (h : H0 r = some (.lst [.str "later", .int n, v, .str "count", .int 1])) (ob : Ob H0 v) (hb : betw v (-100000) 100000 = false) : RowOk K H0 ⟨r, "later", .int n, v, "count", 1, v⟩ :=
  ⟨h, .inr ⟨rfl, rfl⟩, fun H nm Q E _ e2 q => by
    obtain ⟨U, k2⟩ := (ob.std e2).kd (K := K)
    exact ⟨_, _, _, _, rfl, .inr (.inr ⟨rfl, _, U, .int n, k2, fun n c _ _ _ h1 => (by rw [hb] at h1; cases h1), fun c => (by rw [betw_t (hi := MOST) n0 n1] at c; cases c), fun _ _ => q⟩)⟩, ob⟩
theorem p__law_refused (vs : List V) (H : Hp) (Q : VK) (E : XK) (h : sp__law_refused K vs H Q E) : t__law_refused K E (D0 Q) (start N__law_refused vs) H := by
  obtain ⟨b, c, n, nm, rfl, hb, hc, n0, n1, q⟩ := h
  walk_at "hs"
  refine for_range (lo := 0) (n := 3) (fun i σ H2 => ∃ s3 s4 s5 s6 s7 s8 s9 s10 s11, σ = [some (.ref b), some (.int n), some (.bl nm), s3, s4, s5, s6, s7, s8, s9, s10, s11] ∧ Ks H H2 ∧ BoxAt H2 b (c + 40 * (i : Int)))
    ⟨_, _, _, _, _, _, _, _, _, rfl, Ks.refl _, by simpa using hb⟩ ?_ ?_
  · rintro i σ H2 hi ⟨s3, s4, s5, s6, s7, s8, s9, s10, s11, rfl, e, hb⟩
    have i1 : (i : Int) < 3 := by omega
    have e1 : c + 40 * ((i + 1 : Nat) : Int) = c + 40 * (i : Int) + 40 := by omega
    rw [e1]
    clear e1 hi
    generalize hk : c + 40 * (i : Int) = k at *
    have k0 : k < 800000200 := by omega
    clear hk
    walk_at "hs"
    rename_i cv Ha ka ba oa wa fa v1 Hb kb bb ob wb fb r0 Hc nc sc hc v2 Hd kd bd od wd fd r1 He ne se he la Hf nf sf hf v3 Hg kg bg og wg fg lc Hh nh sh hh rr Hi g0 g1 ki bi
    refine w_ixl_v 2 (by walk_at "sl") rfl (by omega) (by omega) fun z hz => ?_
    have hz : sca z = true := by
      rcases List.mem_cons.mp hz with rfl | hz
      · rfl
      · rcases List.mem_cons.mp hz with rfl | hz
        · rfl
        · cases hz
    walk_at "hs"
    rename_i r2 Hj nj sj hj r3 Hk nk sk hk lb Hl nl sl hl L H0 nm0 sm0 hm0
    refine w_sqL ?_
    walk_at "hs"
    have R0 := row_y (K := K) (H0 := H0) (r := r0) (by walk_at "lk") (by walk_at "ob") wb
    have R1 := row_m (K := K) (H0 := H0) (r := r1) (by walk_at "lk") (by walk_at "ob") wd
    have R2 := row_l (K := K) (H0 := H0) (r := r2) (by walk_at "lk") (by walk_at "ob") (.sc hz) wg
    have R3 := row_c (K := K) (H0 := H0) (r := r3) n0 n1 (by walk_at "lk") (by walk_at "ob") wa
    obtain ⟨rows, hrows⟩ : ∃ rows : List Rw, rows = [⟨r0, "year", v1, .non, "day", 0, v1⟩, ⟨r1, "month", v2, .non, "day", 0, v2⟩, ⟨r2, "later", v3, z, "day", 0, v3⟩, ⟨r3, "later", .int n, cv, "count", 1, cv⟩] := ⟨_, rfl⟩
    have RA : ∀ x ∈ rows, RowOk K H0 x := by
      rw [hrows]
      exact List.forall_mem_cons.mpr ⟨R0, List.forall_mem_cons.mpr ⟨R1, List.forall_mem_cons.mpr ⟨R2, List.forall_mem_cons.mpr ⟨R3, fun _ h => by cases h⟩⟩⟩⟩
    have TL : ∀ x ∈ rows, Df x.t (.ref L) := by
      rw [hrows]
      exact List.forall_mem_cons.mpr ⟨by walk_at "df", List.forall_mem_cons.mpr ⟨by walk_at "df", List.forall_mem_cons.mpr ⟨by walk_at "df", List.forall_mem_cons.mpr ⟨by walk_at "df", fun _ h => by cases h⟩⟩⟩⟩
    have f1 : Fresh H2 v1 := Fresh.back fb (by walk_at "ks")
    have f2 : Fresh H2 v2 := Fresh.back fd (by walk_at "ks")
    have f3 : Fresh H2 v3 := Fresh.back fg (by walk_at "ks")
    have TF : ∀ x ∈ rows, Fresh H2 x.t := by
      rw [hrows]
      exact List.forall_mem_cons.mpr ⟨f1, List.forall_mem_cons.mpr ⟨f2, List.forall_mem_cons.mpr ⟨f3, List.forall_mem_cons.mpr ⟨fa, fun _ h => by cases h⟩⟩⟩⟩
    have RP : rows.Pairwise (fun x y => Df x.t y.one ∧ Df x.t y.more ∧ Df x.t (.ref y.r)) := by
      clear f1 f2 f3 TF TL RA
      rw [hrows]
      refine .cons (List.forall_mem_cons.mpr ⟨⟨by walk_at "df", df_sc rfl, by walk_at "df"⟩, List.forall_mem_cons.mpr ⟨⟨by walk_at "df", df_sc hz, by walk_at "df"⟩, List.forall_mem_cons.mpr ⟨⟨df_sc rfl, by walk_at "df", by walk_at "df"⟩, fun _ h => by cases h⟩⟩⟩) ?_
      refine .cons (List.forall_mem_cons.mpr ⟨⟨by walk_at "df", df_sc hz, by walk_at "df"⟩, List.forall_mem_cons.mpr ⟨⟨df_sc rfl, by walk_at "df", by walk_at "df"⟩, fun _ h => by cases h⟩⟩) ?_
      refine .cons (List.forall_mem_cons.mpr ⟨⟨df_sc rfl, by walk_at "df", by walk_at "df"⟩, fun _ h => by cases h⟩) ?_
      exact .cons (fun _ h => by cases h) .nil
    have L0 : H0 L = some (.lst (rows.map fun x => V.ref x.r)) := by rw [hrows]; exact hm0
    have bq : BoxAt H0 b (k + 40) := BoxAt.mono (by walk_at "bx") (by omega)
    have k20 : Ks H2 H0 := by walk_at "ks"
    obtain ⟨bn, bm, bc0, bbo, hb0, _⟩ := hb
    clear hrows R0 R1 R2 R3 f1 f2 f3
    refine for_list (xs := rows.map fun x => V.ref x.r) (fun j σ H3 => ∃ s6 s7 s8 s9 s10 s11, σ = [some (.ref b), some (.int n), some (.bl nm), some (.int (0 + (i : Int))), some cv, some (.ref L), s6, s7, s8, s9, s10, s11] ∧ Bt rows j H0 H3)
      ⟨_, _, _, _, _, _, rfl, fun a o _ h => h⟩ ?_ ?_ ?_
    · rintro j σ H3 _ ⟨_, _, _, _, _, _, _, bt⟩
      exact l_of (bt L _ (fun j x _ hx z => TL x (List.mem_of_getElem? hx) L z rfl) L0)
    · rintro j x σ H3 hx ⟨s6, s7, s8, s9, s10, s11, rfl, bt⟩
      rw [List.getElem?_map] at hx
      obtain ⟨y, hy, rfl⟩ := Option.map_eq_some_iff.mp hx
      have R := RA y (List.mem_of_getElem? hy)
      have row := bt y.r _ (fun j x hj hx z => (pw_get RP hj hx hy).2.2 y.r z rfl) R.row
      have sd1 : Std H0 H3 y.one := bt.std fun j x hj hx => (pw_get RP hj hx hy).1
      have sd2 : Std H0 H3 y.more := bt.std fun j x hj hx => (pw_get RP hj hx hy).2.1
      have ot : Ob H3 y.t := by
        rcases R.ix with ⟨_, e2⟩ | ⟨_, e2⟩
        · exact R.ob.std (by rw [e2]; exact sd1)
        · exact R.ob.std (by rw [e2]; exact sd2)
      clear sc hc se he sf hf sh hh sj hj sk hk sl hl sm0 hm0 k20 ka kb kd kg ki
      walk_at "hs"
      refine w_b2 (fun _ => ?_) (fun _ => ?_) <;> walk_at "hs"
      all_goals
        refine R.ask _ _ _ _ sd1 sd2 fun l H4 e4 hl => ?_
        walk_at "hs"
        rename_i lt H5 nt st ht
        have fin : (y.n = 0 ∧ y.t = y.one) ∨ (y.n = 1 ∧ y.t = y.more) := R.ix
        rcases fin with ⟨e1, e2⟩ | ⟨e1, e2⟩
        · rw [e1]
          walk_at "hs"
          rw [← e2]
          refine u__law_very (Ob.gv (by walk_at "ob")) fun H6 g => ?_
          walk_at "hs"
          exact ⟨_, _, _, _, _, _, rfl, Bt.one bt (by walk_at "sm") hy g⟩
        · rw [e1]
          walk_at "hs"
          rw [← e2]
          refine u__law_very (Ob.gv (by walk_at "ob")) fun H6 g => ?_
          walk_at "hs"
          exact ⟨_, _, _, _, _, _, rfl, Bt.one bt (by walk_at "sm") hy g⟩
    · rintro σ H3 ⟨s6, s7, s8, s9, s10, s11, rfl, bt⟩
      obtain ⟨qn, qm, qc0, qbo, qh, qr⟩ := bq
      exact ⟨_, _, _, _, _, _, _, _, _, rfl, Ks.trans e (Ks.bt k20 bt TF), ⟨qn, qm, qc0, qbo, bt b _ (fun j x _ hx z => by
        have := TF x (List.mem_of_getElem? hx) b z
        rw [hb0] at this
        cases this) qh, qr⟩⟩
  · rintro σ H2 ⟨s3, s4, s5, s6, s7, s8, s9, s10, s11, rfl, e, hb⟩
    walk_at "hs"
    exact q _ e
theorem u__law_refused {H : Hp} {Q : VK} {E : XK} {b : Addr} {c n : Int} {nm : Bool} (hb : BoxAt H b c) (hc : c < 800000000) (n0 : 0 ≤ n) (n1 : n ≤ 1000000000000) (q : ∀ H', Ks H H' → Q (.bl true) H') : sp__law_refused K [.ref b, .int n, .bl nm] H Q E := ⟨b, c, n, nm, rfl, hb, hc, n0, n1, q⟩
local macro_rules | `(tactic| walk_at "sn") => `(tactic| first | assumption | (exact Same.seq (by assumption) (by walk_at "sn")) | (exact ks_ints (by assumption) (by walk_at "sn")))
local macro_rules | `(tactic| walk_at "hc") => `(tactic| (with_reducible show sp__law_cell _ _ _ _ _); (refine u__law_cell (by walk_at "sn") (by omega) (by omega) (by omega) ?_); intro _ _ _)
local macro_rules | `(tactic| walk_at "hc") => `(tactic| (with_reducible show sp__law_box _ _ _ _ _); (refine u__law_box ?_); intro _ _ _ _)
local macro_rules | `(tactic| walk_at "hc") => `(tactic| (with_reducible show sp__law_day _ _ _ _ _); (refine u__law_day (by walk_at "bx") (by omega) ?_); intro _ _ _ _ _ _)
local macro_rules | `(tactic| walk_at "hc") => `(tactic| (with_reducible show sp__law_places_right _ _ _ _ _); (refine u__law_places_right (by omega) (by omega) ?_); intro _ _)
local macro_rules | `(tactic| walk_at "hc") => `(tactic| (with_reducible show sp__law_months_right _ _ _ _ _); (refine u__law_months_right (by walk_at "bx") (by omega) (by omega) (by omega) ?_); intro _ _ _)
local macro_rules | `(tactic| walk_at "hc") => `(tactic| (with_reducible show sp__law_refused _ _ _ _ _); (refine u__law_refused (by walk_at "bx") (by omega) (by omega) (by omega) ?_); intro _ _)
theorem p_law (vs : List V) (H : Hp) (Q : VK) (E : XK) (h : sp_law K vs H Q E) : t_law K E (D0 Q) (start N_law vs) H := by
  obtain ⟨a, ns, rfl, hs, hn, q⟩ := h
  walk_at "hs"
  rename_i m m1 m2 m3 r r1 r2 r3
  refine for_range (lo := 0) (n := r.toNat) (fun i σ H2 => ∃ s1 s2 s3 s4 s5 s6, σ = [some (.ref a), s1, s2, s3, s4, s5, s6] ∧ Ks H H2)
    ⟨_, _, _, _, _, _, rfl, Ks.refl _⟩ ?_ ?_
  · rintro i σ H2 hi ⟨s1, s2, s3, s4, s5, s6, rfl, e⟩
    have i1 : (i : Int) < 3 := by omega
    have hs := ks_ints e hs
    clear hi r1 r2 r3 m1 m2 m3
    walk_at "hs"
    rename_i cv Ha sa bA Hb sb bb0 rr Hc g0 g1 kc bc
    generalize decide (rr = 0) = nm
    refine for_range (lo := 0) (n := 5) (fun j σ H3 => ∃ s4 s5 s6, σ = [some (.ref a), some (.int (0 + (i : Int))), some (.ref bA), some (.bl nm), s4, s5, s6] ∧ Ks Hc H3 ∧ BoxAt H3 bA (1 + 40 * (j : Int)))
      ⟨_, _, _, rfl, Ks.refl _, by simpa using bc⟩ ?_ ?_
    · rintro j σ H3 hj ⟨s4, s5, s6, rfl, k3, b3⟩
      have j1 : (j : Int) < 5 := by omega
      have e1 : 1 + 40 * ((j + 1 : Nat) : Int) = 1 + 40 * (j : Int) + 40 := by omega
      rw [e1]
      clear e1 hj
      walk_at "hs"
      rename_i dy H4 d0 d1 k4 b4 lo l1 l2 l3 hi h1 h2 h3
      refine for_range (lo := lo) (n := (hi - lo).toNat) (fun u σ H5 => ∃ s6, σ = [some (.ref a), some (.int (0 + (i : Int))), some (.ref bA), some (.bl nm), some (.int (0 + (j : Int))), some (.int dy), s6] ∧ Same H4 H5)
        ⟨_, rfl, Same.refl _⟩ ?_ ?_
      · rintro u σ H5 hu ⟨s6, rfl, e5⟩
        have u1 : lo + (u : Int) < hi := by omega
        have u0 : 0 ≤ lo + (u : Int) := by omega
        walk_at "hs"
        exact ⟨_, rfl, by walk_at "sm"⟩
      · rintro σ H5 ⟨s6, rfl, e5⟩
        walk_at "hs"
        exact ⟨_, _, _, rfl, by walk_at "ks", BoxAt.mono (by walk_at "bx") (by omega)⟩
    · rintro σ H3 ⟨s4, s5, s6, rfl, k3, b3⟩
      walk_at "hs"
      exact ⟨_, _, _, _, _, _, rfl, by walk_at "ks"⟩
  · rintro σ H2 ⟨s1, s2, s3, s4, s5, s6, rfl, e⟩
    walk_at "hs"
    exact q _
end My
set_option Elab.async false
set_option linter.all false
set_option maxRecDepth 100000
set_option maxHeartbeats 0
namespace My
open PySem PySem.Spec PyProof.Rows L2 Kx
abbrev PR : Program := (PySem.Challenge.rw_dueagain_k03_places_in_years_and_months).prog
abbrev RR : PySem.W.OpenRow := PySem.W.OpenLaw.row PySem.Challenge.rw_dueagain_k03_places_in_years_and_months
theorem Kn_mono {P : Program} {w : World} {K : PySem.W.Frag} {mg : Str → Option Value} {base : Heap} {j k : Nat} {x : Str} {ps : List Str} {sp : Sp} (c : Kn P w K mg base j x ps sp) (h : j ≤ k) : Kn P w K mg base k x ps sp := by
  obtain ⟨f, fd, ok, r⟩ := c.ex
  exact ⟨f, fd, ok.mono h, r⟩
abbrev dd (x : Str) (i : Nat) : He.DefD := ⟨(x, none), x, x, defArgs (top i), defBody (top i), defScope (top i), [], []⟩
def clsBody (s : Stmt) : List Stmt := match s with
  | .ClassDef _ _ _ b _ _ _ _ _ _ _ => b
  | _ => []
def iniS : Stmt := (clsBody (top 1)).getD 0 (.Pass ⟨0, 0, 0, 0⟩)
abbrev iniP : Pn × He.FnW := ((PySem.Str.ofString "DueError", some (PySem.Str.ofString "__init__")), some (PySem.Str.ofString "__init__", PySem.Str.ofString "DueError.__init__", defArgs iniS, FuncBody.stmts (defBody iniS), defScope iniS, mainGlobals, [(PySem.Str.ofString "__class__", 0)], builtinsNs))
theorem ini_eq : ∃ p1 p2 p3 q1 q2 q3 q4 q5 q6 r1 r2 r3 r4 : Pos, iniP.2 = PySem.DueE.iFn p1 p2 p3 q1 q2 q3 q4 q5 q6 r1 r2 r3 r4 ∧ (q3.endLine == q5.line) = true := ⟨_, _, _, _, _, _, _, _, _, _, _, _, _, rfl, by decide +kernel⟩
abbrev fc : List (Pn × He.FnW) := [iniP]
abbrev fn : List He.DefD := [dd "is_whole" 6, dd "is_between" 7, dd "is_day" 8, dd "is_leap_year" 15, dd "length_of" 16, dd "check_day" 17, dd "year_begin" 18, dd "month_begin" 19, dd "year_of" 20, dd "date_at" 21, dd "number_in_year" 24, dd "places_at" 25, dd "places_in_month" 26, dd "day_in_months" 27, dd "months_later" 28, dd "_law_cell" 30, dd "_law_box" 31, dd "_law_take" 32, dd "_law_same" 33, dd "_law_very" 34, dd "_law_leap" 35, dd "_law_length" 36, dd "_law_date" 37, dd "_law_next" 38, dd "_law_ask" 39, dd "_law_day_of" 40, dd "_law_in_months" 41, dd "_law_day" 42, dd "_law_told" 43, dd "_law_places_right" 44, dd "_law_months_right" 45, dd "_law_no_number" 46, dd "_law_refused" 47, dd "law" 48]
def fs : List Fx := [fun K => (He.Fa.free "abs").ok K,
  fun K => (He.Fa.free "bool").ok K,
  fun K => (He.Fa.free "dict").ok K,
  fun K => (He.Fa.free "int").ok K,
  fun K => (He.Fa.free "isinstance").ok K,
  fun K => (He.Fa.free "len").ok K,
  fun K => (He.Fa.free "list").ok K,
  fun K => (He.Fa.free "max").ok K,
  fun K => (He.Fa.free "min").ok K,
  fun K => (He.Fa.free "range").ok K,
  fun K => (He.Fa.free "str").ok K,
  fun K => (He.Fa.free "sum").ok K,
  fun K => (He.Fa.free "super").ok K,
  fun K => (He.Fa.free "tuple").ok K,
  fun K => (He.Fa.int "FEBRUARY" 2).ok K,
  fun K => (He.Fa.int "FIRST_YEAR" 2000).ok K,
  fun K => (He.Fa.glo "LENGTHS").ok K,
  fun K => (He.Fa.int "LONG_DAYS" 146097).ok K,
  fun K => (He.Fa.int "LONG_YEARS" 400).ok K,
  fun K => (He.Fa.int "MOST_DAY" 1000000000000).ok K,
  fun K => (He.Fa.int "MOST_MONTHS" 100000).ok K,
  fun K => (He.Fa.glo "DueError").ok K,
  fun K => PySem.DueE.dueClsB (He.ga K "DueError") (He.ga K "DueError") (He.ma K (He.ga K "DueError") "__init__") K,
  fun K => (He.Fa.glo "InvalidCount").ok K,
  fun K => PySem.DueE.dueClsB (He.ga K "DueError") (He.ga K "InvalidCount") (He.ma K (He.ga K "DueError") "__init__") K,
  fun K => (He.Fa.glo "InvalidDay").ok K,
  fun K => PySem.DueE.dueClsB (He.ga K "DueError") (He.ga K "InvalidDay") (He.ma K (He.ga K "DueError") "__init__") K,
  fun K => PySem.DueE.dueInitB PR.main.file (He.ga K "DueError") (He.ma K (He.ga K "DueError") "__init__") K,
  fun K => He.eqO (PySem.W.nsIn K mainGlobals "super") (some none),
  fun K => He.eqO (PySem.W.nsIn K cStatics "thirdparty.any") (some none),
  fun K => He.tupB K "LENGTHS" ([31, 28, 31, 30, 31, 30, 31, 31, 30, 31, 30, 31].map He.Dv.int),
  fun K => extB ["InvalidDay", "InvalidCount"] "DueError" K,
  fun K => (He.Fa.glo "is_whole").ok K,
  fun K => (He.Fa.glo "is_between").ok K,
  fun K => (He.Fa.glo "is_day").ok K,
  fun K => (He.Fa.glo "is_leap_year").ok K,
  fun K => (He.Fa.glo "length_of").ok K,
  fun K => (He.Fa.glo "check_day").ok K,
  fun K => (He.Fa.glo "year_begin").ok K,
  fun K => (He.Fa.glo "month_begin").ok K,
  fun K => (He.Fa.glo "year_of").ok K,
  fun K => (He.Fa.glo "date_at").ok K,
  fun K => (He.Fa.glo "number_in_year").ok K,
  fun K => (He.Fa.glo "places_at").ok K,
  fun K => (He.Fa.glo "places_in_month").ok K,
  fun K => (He.Fa.glo "day_in_months").ok K,
  fun K => (He.Fa.glo "months_later").ok K,
  fun K => (He.Fa.glo "_law_cell").ok K,
  fun K => (He.Fa.glo "_law_box").ok K,
  fun K => (He.Fa.glo "_law_take").ok K,
  fun K => (He.Fa.glo "_law_same").ok K,
  fun K => (He.Fa.glo "_law_very").ok K,
  fun K => (He.Fa.glo "_law_leap").ok K,
  fun K => (He.Fa.glo "_law_length").ok K,
  fun K => (He.Fa.glo "_law_date").ok K,
  fun K => (He.Fa.glo "_law_next").ok K,
  fun K => (He.Fa.glo "_law_ask").ok K,
  fun K => (He.Fa.glo "_law_day_of").ok K,
  fun K => (He.Fa.glo "_law_in_months").ok K,
  fun K => (He.Fa.glo "_law_day").ok K,
  fun K => (He.Fa.glo "_law_told").ok K,
  fun K => (He.Fa.glo "_law_places_right").ok K,
  fun K => (He.Fa.glo "_law_months_right").ok K,
  fun K => (He.Fa.glo "_law_no_number").ok K,
  fun K => (He.Fa.glo "_law_refused").ok K,
  fun K => (He.Fa.glo "law").ok K]
section
variable {K : PySem.W.Frag} {h : Heap} {mg : Str → Option Value}
theorem tx (X : K.In h) (G : h.Ns mainGlobals mg) (c : SaysM fs fn fc K) : Tx PR K mg where
  n_abs := He.free_ok X G (x := "abs") (c.fact 0 (f := fun K => (He.Fa.free "abs").ok K) rfl)
  n_bool := He.free_ok X G (x := "bool") (c.fact 1 (f := fun K => (He.Fa.free "bool").ok K) rfl)
  n_dict := He.free_ok X G (x := "dict") (c.fact 2 (f := fun K => (He.Fa.free "dict").ok K) rfl)
  n_int := He.free_ok X G (x := "int") (c.fact 3 (f := fun K => (He.Fa.free "int").ok K) rfl)
  n_isinstance := He.free_ok X G (x := "isinstance") (c.fact 4 (f := fun K => (He.Fa.free "isinstance").ok K) rfl)
  n_len := He.free_ok X G (x := "len") (c.fact 5 (f := fun K => (He.Fa.free "len").ok K) rfl)
  n_list := He.free_ok X G (x := "list") (c.fact 6 (f := fun K => (He.Fa.free "list").ok K) rfl)
  n_max := He.free_ok X G (x := "max") (c.fact 7 (f := fun K => (He.Fa.free "max").ok K) rfl)
  n_min := He.free_ok X G (x := "min") (c.fact 8 (f := fun K => (He.Fa.free "min").ok K) rfl)
  n_range := He.free_ok X G (x := "range") (c.fact 9 (f := fun K => (He.Fa.free "range").ok K) rfl)
  n_str := He.free_ok X G (x := "str") (c.fact 10 (f := fun K => (He.Fa.free "str").ok K) rfl)
  n_sum := He.free_ok X G (x := "sum") (c.fact 11 (f := fun K => (He.Fa.free "sum").ok K) rfl)
  n_super := He.free_ok X G (x := "super") (c.fact 12 (f := fun K => (He.Fa.free "super").ok K) rfl)
  n_tuple := He.free_ok X G (x := "tuple") (c.fact 13 (f := fun K => (He.Fa.free "tuple").ok K) rfl)
  c_FEBRUARY := (by obtain ⟨t, e⟩ := He.int_ok X G (x := "FEBRUARY") (c.fact 14 (f := fun K => (He.Fa.int "FEBRUARY" 2).ok K) rfl); exact ⟨_, e, ⟨t, rfl⟩⟩)
  c_FIRST_YEAR := (by obtain ⟨t, e⟩ := He.int_ok X G (x := "FIRST_YEAR") (c.fact 15 (f := fun K => (He.Fa.int "FIRST_YEAR" 2000).ok K) rfl); exact ⟨_, e, ⟨t, rfl⟩⟩)
  r_LENGTHS := ⟨_, He.glo_ok X G (x := "LENGTHS") (c.fact 16 (f := fun K => (He.Fa.glo "LENGTHS").ok K) rfl), rfl⟩
  c_LONG_DAYS := (by obtain ⟨t, e⟩ := He.int_ok X G (x := "LONG_DAYS") (c.fact 17 (f := fun K => (He.Fa.int "LONG_DAYS" 146097).ok K) rfl); exact ⟨_, e, ⟨t, rfl⟩⟩)
  c_LONG_YEARS := (by obtain ⟨t, e⟩ := He.int_ok X G (x := "LONG_YEARS") (c.fact 18 (f := fun K => (He.Fa.int "LONG_YEARS" 400).ok K) rfl); exact ⟨_, e, ⟨t, rfl⟩⟩)
  c_MOST_DAY := (by obtain ⟨t, e⟩ := He.int_ok X G (x := "MOST_DAY") (c.fact 19 (f := fun K => (He.Fa.int "MOST_DAY" 1000000000000).ok K) rfl); exact ⟨_, e, ⟨t, rfl⟩⟩)
  c_MOST_MONTHS := (by obtain ⟨t, e⟩ := He.int_ok X G (x := "MOST_MONTHS") (c.fact 20 (f := fun K => (He.Fa.int "MOST_MONTHS" 100000).ok K) rfl); exact ⟨_, e, ⟨t, rfl⟩⟩)
  r_DueError := ⟨_, He.glo_ok X G (x := "DueError") (c.fact 21 (f := fun K => (He.Fa.glo "DueError").ok K) rfl), rfl⟩
  g_DueError := He.glo_ok X G (x := "DueError") (c.fact 21 (f := fun K => (He.Fa.glo "DueError").ok K) rfl)
  x_DueError := PySem.DueE.cls_ok (c.fact 22 (f := fun K => PySem.DueE.dueClsB (He.ga K "DueError") (He.ga K "DueError") (He.ma K (He.ga K "DueError") "__init__") K) rfl)
  r_InvalidCount := ⟨_, He.glo_ok X G (x := "InvalidCount") (c.fact 23 (f := fun K => (He.Fa.glo "InvalidCount").ok K) rfl), rfl⟩
  g_InvalidCount := He.glo_ok X G (x := "InvalidCount") (c.fact 23 (f := fun K => (He.Fa.glo "InvalidCount").ok K) rfl)
  x_InvalidCount := PySem.DueE.cls_ok (c.fact 24 (f := fun K => PySem.DueE.dueClsB (He.ga K "DueError") (He.ga K "InvalidCount") (He.ma K (He.ga K "DueError") "__init__") K) rfl)
  r_InvalidDay := ⟨_, He.glo_ok X G (x := "InvalidDay") (c.fact 25 (f := fun K => (He.Fa.glo "InvalidDay").ok K) rfl), rfl⟩
  g_InvalidDay := He.glo_ok X G (x := "InvalidDay") (c.fact 25 (f := fun K => (He.Fa.glo "InvalidDay").ok K) rfl)
  x_InvalidDay := PySem.DueE.cls_ok (c.fact 26 (f := fun K => PySem.DueE.dueClsB (He.ga K "DueError") (He.ga K "InvalidDay") (He.ma K (He.ga K "DueError") "__init__") K) rfl)
  due := by
    obtain ⟨p1, p2, p3, q1, q2, q3, q4, q5, q6, r1, r2, r3, r4, e1, e2⟩ := ini_eq
    exact PySem.DueE.init_ok ((c.cell 0 (p := iniP) rfl).trans e1) e2 (c.fact 27 (f := fun K => PySem.DueE.dueInitB PR.main.file (He.ga K "DueError") (He.ma K (He.ga K "DueError") "__init__") K) rfl) (by decide +kernel) (c.fact 28 (f := fun K => He.eqO (PySem.W.nsIn K mainGlobals "super") (some none)) rfl) (c.fact 29 (f := fun K => He.eqO (PySem.W.nsIn K cStatics "thirdparty.any") (some none)) rfl)
end
local macro_rules | `(tactic| walk_at "ln") => `(tactic| (intro vs H Q E h; repeat (first | (obtain ⟨e, _⟩ := h; subst e; rfl) | (obtain ⟨_, h⟩ := h))))
theorem g_months_later_count_day_rel {zs : List V} {ws : List Value} (r : Vals zs ws) : Vals (g_months_later_count_day zs) (g_months_later_count_day ws) := by
  cases r with
  | nil => exact .nil
  | cons r0 r =>
    cases r with
    | nil => exact .nil
    | cons r1 r =>
      cases r with
      | cons _ _ => exact .nil
      | nil => exact .cons r1 (.cons r0 (.nil))
theorem g_number_in_year_day_rel {zs : List V} {ws : List Value} (r : Vals zs ws) : Vals (g_number_in_year_day zs) (g_number_in_year_day ws) := by
  cases r with
  | nil => exact .nil
  | cons r0 r =>
    cases r with
    | cons _ _ => exact .nil
    | nil => exact .cons r0 (.nil)
theorem g_places_in_month_day_rel {zs : List V} {ws : List Value} (r : Vals zs ws) : Vals (g_places_in_month_day zs) (g_places_in_month_day ws) := by
  cases r with
  | nil => exact .nil
  | cons r0 r =>
    cases r with
    | cons _ _ => exact .nil
    | nil => exact .cons r0 (.nil)
theorem facts {w : World} {K : PySem.W.Frag} {h : Heap} {mg : Str → Option Value} (X : K.In h) (G : h.Ns mainGlobals mg) (c : SaysM fs fn fc K) :
    ∃ fd : FuncData, (∀ (s : Shared) (v : Value), BindsTo s fd ⟨[v], []⟩ [("script", v)]) ∧ ∀ base : Heap, K.In base → base.Ns mainGlobals mg → FnOk PR w K mg base (L2.CX PR w) 43 (He.ga K "law") fd ["script"] (sp_law K) := by
  have T := tx X G c
  obtain ⟨fd_is_whole, F_is_whole⟩ := c.def_ 0 (d := dd "is_whole" 6) rfl
  obtain ⟨fd_is_between, F_is_between⟩ := c.def_ 1 (d := dd "is_between" 7) rfl
  obtain ⟨fd_is_day, F_is_day⟩ := c.def_ 2 (d := dd "is_day" 8) rfl
  obtain ⟨fd_is_leap_year, F_is_leap_year⟩ := c.def_ 3 (d := dd "is_leap_year" 15) rfl
  obtain ⟨fd_length_of, F_length_of⟩ := c.def_ 4 (d := dd "length_of" 16) rfl
  obtain ⟨fd_check_day, F_check_day⟩ := c.def_ 5 (d := dd "check_day" 17) rfl
  obtain ⟨fd_year_begin, F_year_begin⟩ := c.def_ 6 (d := dd "year_begin" 18) rfl
  obtain ⟨fd_month_begin, F_month_begin⟩ := c.def_ 7 (d := dd "month_begin" 19) rfl
  obtain ⟨fd_year_of, F_year_of⟩ := c.def_ 8 (d := dd "year_of" 20) rfl
  obtain ⟨fd_date_at, F_date_at⟩ := c.def_ 9 (d := dd "date_at" 21) rfl
  obtain ⟨fd_number_in_year, F_number_in_year⟩ := c.def_ 10 (d := dd "number_in_year" 24) rfl
  obtain ⟨fd_places_at, F_places_at⟩ := c.def_ 11 (d := dd "places_at" 25) rfl
  obtain ⟨fd_places_in_month, F_places_in_month⟩ := c.def_ 12 (d := dd "places_in_month" 26) rfl
  obtain ⟨fd_day_in_months, F_day_in_months⟩ := c.def_ 13 (d := dd "day_in_months" 27) rfl
  obtain ⟨fd_months_later, F_months_later⟩ := c.def_ 14 (d := dd "months_later" 28) rfl
  obtain ⟨fd__law_cell, F__law_cell⟩ := c.def_ 15 (d := dd "_law_cell" 30) rfl
  obtain ⟨fd__law_box, F__law_box⟩ := c.def_ 16 (d := dd "_law_box" 31) rfl
  obtain ⟨fd__law_take, F__law_take⟩ := c.def_ 17 (d := dd "_law_take" 32) rfl
  obtain ⟨fd__law_same, F__law_same⟩ := c.def_ 18 (d := dd "_law_same" 33) rfl
  obtain ⟨fd__law_very, F__law_very⟩ := c.def_ 19 (d := dd "_law_very" 34) rfl
  obtain ⟨fd__law_leap, F__law_leap⟩ := c.def_ 20 (d := dd "_law_leap" 35) rfl
  obtain ⟨fd__law_length, F__law_length⟩ := c.def_ 21 (d := dd "_law_length" 36) rfl
  obtain ⟨fd__law_date, F__law_date⟩ := c.def_ 22 (d := dd "_law_date" 37) rfl
  obtain ⟨fd__law_next, F__law_next⟩ := c.def_ 23 (d := dd "_law_next" 38) rfl
  obtain ⟨fd__law_ask, F__law_ask⟩ := c.def_ 24 (d := dd "_law_ask" 39) rfl
  obtain ⟨fd__law_day_of, F__law_day_of⟩ := c.def_ 25 (d := dd "_law_day_of" 40) rfl
  obtain ⟨fd__law_in_months, F__law_in_months⟩ := c.def_ 26 (d := dd "_law_in_months" 41) rfl
  obtain ⟨fd__law_day, F__law_day⟩ := c.def_ 27 (d := dd "_law_day" 42) rfl
  obtain ⟨fd__law_told, F__law_told⟩ := c.def_ 28 (d := dd "_law_told" 43) rfl
  obtain ⟨fd__law_places_right, F__law_places_right⟩ := c.def_ 29 (d := dd "_law_places_right" 44) rfl
  obtain ⟨fd__law_months_right, F__law_months_right⟩ := c.def_ 30 (d := dd "_law_months_right" 45) rfl
  obtain ⟨fd__law_no_number, F__law_no_number⟩ := c.def_ 31 (d := dd "_law_no_number" 46) rfl
  obtain ⟨fd__law_refused, F__law_refused⟩ := c.def_ 32 (d := dd "_law_refused" 47) rfl
  obtain ⟨fd_law, F_law⟩ := c.def_ 33 (d := dd "law" 48) rfl
  have bl := FunD.bindsA (ps := ["script"]) F_law fun _ _ _ _ _ _ us hl => match us, hl with | [_], _ => rfl
  refine ⟨fd_law, fun s v => bl s [v] rfl, fun base _ _ => ?_⟩
  have ok_is_whole : FnOk PR w K mg base (L2.CX PR w) 3 (He.ga K "is_whole") fd_is_whole ["value"] (sp_is_whole K) := kn_ok F_is_whole sc_is_whole (by walk_at "ln") (fun E => t_is_whole K E) (fun cdv A outer s H E hr => d_is_whole T  hr) (fun vs H Q E h => p_is_whole  vs H Q E h)
  have c_is_whole : Kn PR w K mg base 3 "is_whole" ["value"] (sp_is_whole K) := Kn.of F_is_whole ok_is_whole (He.glo_ok X G (x := "is_whole") (c.fact 32 (f := fun K => (He.Fa.glo "is_whole").ok K) rfl)) (FunD.bindsN (ps := ["value"]) F_is_whole fun _ _ _ _ _ _ us hl => match us, hl with | [_], _ => rfl)
  have ok_is_between : FnOk PR w K mg base (L2.CX PR w) 4 (He.ga K "is_between") fd_is_between ["value", "least", "most"] (sp_is_between K) := kn_ok F_is_between sc_is_between (by walk_at "ln") (fun E => t_is_between K E) (fun cdv A outer s H E hr => d_is_between T c_is_whole hr) (fun vs H Q E h => p_is_between  vs H Q E h)
  have c_is_between : Kn PR w K mg base 4 "is_between" ["value", "least", "most"] (sp_is_between K) := Kn.of F_is_between ok_is_between (He.glo_ok X G (x := "is_between") (c.fact 33 (f := fun K => (He.Fa.glo "is_between").ok K) rfl)) (FunD.bindsN (ps := ["value", "least", "most"]) F_is_between fun _ _ _ _ _ _ us hl => match us, hl with | [_, _, _], _ => rfl)
  have ok_is_day : FnOk PR w K mg base (L2.CX PR w) 5 (He.ga K "is_day") fd_is_day ["value"] (sp_is_day K) := kn_ok F_is_day sc_is_day (by walk_at "ln") (fun E => t_is_day K E) (fun cdv A outer s H E hr => d_is_day T c_is_between hr) (fun vs H Q E h => p_is_day  vs H Q E h)
  have c_is_day : Kn PR w K mg base 5 "is_day" ["value"] (sp_is_day K) := Kn.of F_is_day ok_is_day (He.glo_ok X G (x := "is_day") (c.fact 34 (f := fun K => (He.Fa.glo "is_day").ok K) rfl)) (FunD.bindsN (ps := ["value"]) F_is_day fun _ _ _ _ _ _ us hl => match us, hl with | [_], _ => rfl)
  have ok_is_leap_year : FnOk PR w K mg base (L2.CX PR w) 3 (He.ga K "is_leap_year") fd_is_leap_year ["year"] (sp_is_leap_year K) := kn_ok F_is_leap_year sc_is_leap_year (by walk_at "ln") (fun E => t_is_leap_year K E) (fun cdv A outer s H E hr => d_is_leap_year T  hr) (fun vs H Q E h => p_is_leap_year  vs H Q E h)
  have c_is_leap_year : Kn PR w K mg base 3 "is_leap_year" ["year"] (sp_is_leap_year K) := Kn.of F_is_leap_year ok_is_leap_year (He.glo_ok X G (x := "is_leap_year") (c.fact 35 (f := fun K => (He.Fa.glo "is_leap_year").ok K) rfl)) (FunD.bindsN (ps := ["year"]) F_is_leap_year fun _ _ _ _ _ _ us hl => match us, hl with | [_], _ => rfl)
  have ok_length_of : FnOk PR w K mg base (L2.CX PR w) 4 (He.ga K "length_of") fd_length_of ["year", "month"] (sp_length_of K) := kn_ok F_length_of sc_length_of (by walk_at "ln") (fun E => t_length_of K E) (fun cdv A outer s H E hr => d_length_of T c_is_leap_year hr) (fun vs H Q E h => p_length_of (fun H => He.tupB_ok (vs := [31, 28, 31, 30, 31, 30, 31, 31, 30, 31, 30, 31].map He.Dv.int) (c.fact 30 (f := fun K => He.tupB K "LENGTHS" ([31, 28, 31, 30, 31, 30, 31, 31, 30, 31, 30, 31].map He.Dv.int)) rfl) H) vs H Q E h)
  have c_length_of : Kn PR w K mg base 4 "length_of" ["year", "month"] (sp_length_of K) := Kn.of F_length_of ok_length_of (He.glo_ok X G (x := "length_of") (c.fact 36 (f := fun K => (He.Fa.glo "length_of").ok K) rfl)) (FunD.bindsN (ps := ["year", "month"]) F_length_of fun _ _ _ _ _ _ us hl => match us, hl with | [_, _], _ => rfl)
  have ok_check_day : FnOk PR w K mg base (L2.CX PR w) 6 (He.ga K "check_day") fd_check_day ["day"] (sp_check_day K) := kn_ok F_check_day sc_check_day (by walk_at "ln") (fun E => t_check_day K E) (fun cdv A outer s H E hr => d_check_day T c_is_day hr) (fun vs H Q E h => p_check_day  vs H Q E h)
  have c_check_day : Kn PR w K mg base 6 "check_day" ["day"] (sp_check_day K) := Kn.of F_check_day ok_check_day (He.glo_ok X G (x := "check_day") (c.fact 37 (f := fun K => (He.Fa.glo "check_day").ok K) rfl)) (FunD.bindsN (ps := ["day"]) F_check_day fun _ _ _ _ _ _ us hl => match us, hl with | [_], _ => rfl)
  have ok_year_begin : FnOk PR w K mg base (L2.CX PR w) 3 (He.ga K "year_begin") fd_year_begin ["year"] (sp_year_begin K) := kn_ok F_year_begin sc_year_begin (by walk_at "ln") (fun E => t_year_begin K E) (fun cdv A outer s H E hr => d_year_begin T  hr) (fun vs H Q E h => p_year_begin  vs H Q E h)
  have c_year_begin : Kn PR w K mg base 3 "year_begin" ["year"] (sp_year_begin K) := Kn.of F_year_begin ok_year_begin (He.glo_ok X G (x := "year_begin") (c.fact 38 (f := fun K => (He.Fa.glo "year_begin").ok K) rfl)) (FunD.bindsN (ps := ["year"]) F_year_begin fun _ _ _ _ _ _ us hl => match us, hl with | [_], _ => rfl)
  have ok_month_begin : FnOk PR w K mg base (L2.CX PR w) 5 (He.ga K "month_begin") fd_month_begin ["year", "month"] (sp_month_begin K) := kn_ok F_month_begin sc_month_begin (by walk_at "ln") (fun E => t_month_begin K E) (fun cdv A outer s H E hr => d_month_begin T c_length_of c_year_begin hr) (fun vs H Q E h => p_month_begin  vs H Q E h)
  have c_month_begin : Kn PR w K mg base 5 "month_begin" ["year", "month"] (sp_month_begin K) := Kn.of F_month_begin ok_month_begin (He.glo_ok X G (x := "month_begin") (c.fact 39 (f := fun K => (He.Fa.glo "month_begin").ok K) rfl)) (FunD.bindsN (ps := ["year", "month"]) F_month_begin fun _ _ _ _ _ _ us hl => match us, hl with | [_, _], _ => rfl)
  have ok_year_of : FnOk PR w K mg base (L2.CX PR w) 4 (He.ga K "year_of") fd_year_of ["day"] (sp_year_of K) := kn_ok F_year_of sc_year_of (by walk_at "ln") (fun E => t_year_of K E) (fun cdv A outer s H E hr => d_year_of T c_year_begin hr) (fun vs H Q E h => p_year_of  vs H Q E h)
  have c_year_of : Kn PR w K mg base 4 "year_of" ["day"] (sp_year_of K) := Kn.of F_year_of ok_year_of (He.glo_ok X G (x := "year_of") (c.fact 40 (f := fun K => (He.Fa.glo "year_of").ok K) rfl)) (FunD.bindsN (ps := ["day"]) F_year_of fun _ _ _ _ _ _ us hl => match us, hl with | [_], _ => rfl)
  have ok_date_at : FnOk PR w K mg base (L2.CX PR w) 5 (He.ga K "date_at") fd_date_at ["day"] (sp_date_at K) := kn_ok F_date_at sc_date_at (by walk_at "ln") (fun E => t_date_at K E) (fun cdv A outer s H E hr => d_date_at T c_length_of c_year_begin c_year_of hr) (fun vs H Q E h => p_date_at  vs H Q E h)
  have c_date_at : Kn PR w K mg base 5 "date_at" ["day"] (sp_date_at K) := Kn.of F_date_at ok_date_at (He.glo_ok X G (x := "date_at") (c.fact 41 (f := fun K => (He.Fa.glo "date_at").ok K) rfl)) (FunD.bindsN (ps := ["day"]) F_date_at fun _ _ _ _ _ _ us hl => match us, hl with | [_], _ => rfl)
  have ok_number_in_year : FnOk PR w K mg base (L2.CX PR w) 7 (He.ga K "number_in_year") fd_number_in_year ["day"] (sp_number_in_year K) := kn_ok F_number_in_year sc_number_in_year (by walk_at "ln") (fun E => t_number_in_year K E) (fun cdv A outer s H E hr => d_number_in_year T c_check_day c_date_at c_year_begin hr) (fun vs H Q E h => p_number_in_year  vs H Q E h)
  have c_number_in_year : Kn PR w K mg base 7 "number_in_year" ["day"] (sp_number_in_year K) := Kn.of F_number_in_year ok_number_in_year (He.glo_ok X G (x := "number_in_year") (c.fact 42 (f := fun K => (He.Fa.glo "number_in_year").ok K) rfl)) (FunD.bindsN (ps := ["day"]) F_number_in_year fun _ _ _ _ _ _ us hl => match us, hl with | [_], _ => rfl)
  have k_number_in_year_day : Kk PR w K mg base 7 "number_in_year" ["day"] ["day"] g_number_in_year_day (sp_number_in_year K) := Kk.of F_number_in_year ok_number_in_year (He.glo_ok X G (x := "number_in_year") (c.fact 42 (f := fun K => (He.Fa.glo "number_in_year").ok K) rfl)) (fun _ _ _ _ _ _ us hl => match us, hl with | [_], _ => rfl) (fun {zs ws} r => g_number_in_year_day_rel r)
  have ok_places_at : FnOk PR w K mg base (L2.CX PR w) 3 (He.ga K "places_at") fd_places_at ["number", "length"] (sp_places_at K) := kn_ok F_places_at sc_places_at (by walk_at "ln") (fun E => t_places_at K E) (fun cdv A outer s H E hr => d_places_at T  hr) (fun vs H Q E h => p_places_at  vs H Q E h)
  have c_places_at : Kn PR w K mg base 3 "places_at" ["number", "length"] (sp_places_at K) := Kn.of F_places_at ok_places_at (He.glo_ok X G (x := "places_at") (c.fact 43 (f := fun K => (He.Fa.glo "places_at").ok K) rfl)) (FunD.bindsN (ps := ["number", "length"]) F_places_at fun _ _ _ _ _ _ us hl => match us, hl with | [_, _], _ => rfl)
  have ok_places_in_month : FnOk PR w K mg base (L2.CX PR w) 7 (He.ga K "places_in_month") fd_places_in_month ["day"] (sp_places_in_month K) := kn_ok F_places_in_month sc_places_in_month (by walk_at "ln") (fun E => t_places_in_month K E) (fun cdv A outer s H E hr => d_places_in_month T c_check_day c_date_at c_length_of c_places_at hr) (fun vs H Q E h => p_places_in_month  vs H Q E h)
  have c_places_in_month : Kn PR w K mg base 7 "places_in_month" ["day"] (sp_places_in_month K) := Kn.of F_places_in_month ok_places_in_month (He.glo_ok X G (x := "places_in_month") (c.fact 44 (f := fun K => (He.Fa.glo "places_in_month").ok K) rfl)) (FunD.bindsN (ps := ["day"]) F_places_in_month fun _ _ _ _ _ _ us hl => match us, hl with | [_], _ => rfl)
  have k_places_in_month_day : Kk PR w K mg base 7 "places_in_month" ["day"] ["day"] g_places_in_month_day (sp_places_in_month K) := Kk.of F_places_in_month ok_places_in_month (He.glo_ok X G (x := "places_in_month") (c.fact 44 (f := fun K => (He.Fa.glo "places_in_month").ok K) rfl)) (fun _ _ _ _ _ _ us hl => match us, hl with | [_], _ => rfl) (fun {zs ws} r => g_places_in_month_day_rel r)
  have ok_day_in_months : FnOk PR w K mg base (L2.CX PR w) 6 (He.ga K "day_in_months") fd_day_in_months ["day", "count"] (sp_day_in_months K) := kn_ok F_day_in_months sc_day_in_months (by walk_at "ln") (fun E => t_day_in_months K E) (fun cdv A outer s H E hr => d_day_in_months T c_date_at c_length_of c_month_begin hr) (fun vs H Q E h => p_day_in_months  vs H Q E h)
  have c_day_in_months : Kn PR w K mg base 6 "day_in_months" ["day", "count"] (sp_day_in_months K) := Kn.of F_day_in_months ok_day_in_months (He.glo_ok X G (x := "day_in_months") (c.fact 45 (f := fun K => (He.Fa.glo "day_in_months").ok K) rfl)) (FunD.bindsN (ps := ["day", "count"]) F_day_in_months fun _ _ _ _ _ _ us hl => match us, hl with | [_, _], _ => rfl)
  have ok_months_later : FnOk PR w K mg base (L2.CX PR w) 7 (He.ga K "months_later") fd_months_later ["day", "count"] (sp_months_later K) := kn_ok F_months_later sc_months_later (by walk_at "ln") (fun E => t_months_later K E) (fun cdv A outer s H E hr => d_months_later T c_check_day c_day_in_months c_is_between hr) (fun vs H Q E h => p_months_later  vs H Q E h)
  have c_months_later : Kn PR w K mg base 7 "months_later" ["day", "count"] (sp_months_later K) := Kn.of F_months_later ok_months_later (He.glo_ok X G (x := "months_later") (c.fact 46 (f := fun K => (He.Fa.glo "months_later").ok K) rfl)) (FunD.bindsN (ps := ["day", "count"]) F_months_later fun _ _ _ _ _ _ us hl => match us, hl with | [_, _], _ => rfl)
  have k_months_later_count_day : Kk PR w K mg base 7 "months_later" ["day", "count"] ["count", "day"] g_months_later_count_day (sp_months_later K) := Kk.of F_months_later ok_months_later (He.glo_ok X G (x := "months_later") (c.fact 46 (f := fun K => (He.Fa.glo "months_later").ok K) rfl)) (fun _ _ _ _ _ _ us hl => match us, hl with | [_, _], _ => rfl) (fun {zs ws} r => g_months_later_count_day_rel r)
  have ok__law_cell : FnOk PR w K mg base (L2.CX PR w) 3 (He.ga K "_law_cell") fd__law_cell ["script", "k"] (sp__law_cell K) := kn_ok F__law_cell sc__law_cell (by walk_at "ln") (fun E => t__law_cell K E) (fun cdv A outer s H E hr => d__law_cell T  hr) (fun vs H Q E h => p__law_cell  vs H Q E h)
  have c__law_cell : Kn PR w K mg base 3 "_law_cell" ["script", "k"] (sp__law_cell K) := Kn.of F__law_cell ok__law_cell (He.glo_ok X G (x := "_law_cell") (c.fact 47 (f := fun K => (He.Fa.glo "_law_cell").ok K) rfl)) (FunD.bindsN (ps := ["script", "k"]) F__law_cell fun _ _ _ _ _ _ us hl => match us, hl with | [_, _], _ => rfl)
  have ok__law_box : FnOk PR w K mg base (L2.CX PR w) 3 (He.ga K "_law_box") fd__law_box ["great"] (sp__law_box K) := kn_ok F__law_box sc__law_box (by walk_at "ln") (fun E => t__law_box K E) (fun cdv A outer s H E hr => d__law_box T  hr) (fun vs H Q E h => p__law_box  vs H Q E h)
  have c__law_box : Kn PR w K mg base 3 "_law_box" ["great"] (sp__law_box K) := Kn.of F__law_box ok__law_box (He.glo_ok X G (x := "_law_box") (c.fact 48 (f := fun K => (He.Fa.glo "_law_box").ok K) rfl)) (FunD.bindsN (ps := ["great"]) F__law_box fun _ _ _ _ _ _ us hl => match us, hl with | [_], _ => rfl)
  have ok__law_take : FnOk PR w K mg base (L2.CX PR w) 3 (He.ga K "_law_take") fd__law_take ["box", "many"] (sp__law_take K) := kn_ok F__law_take sc__law_take (by walk_at "ln") (fun E => t__law_take K E) (fun cdv A outer s H E hr => d__law_take T  hr) (fun vs H Q E h => p__law_take  vs H Q E h)
  have c__law_take : Kn PR w K mg base 3 "_law_take" ["box", "many"] (sp__law_take K) := Kn.of F__law_take ok__law_take (He.glo_ok X G (x := "_law_take") (c.fact 49 (f := fun K => (He.Fa.glo "_law_take").ok K) rfl)) (FunD.bindsN (ps := ["box", "many"]) F__law_take fun _ _ _ _ _ _ us hl => match us, hl with | [_, _], _ => rfl)
  have cs : ∀ n, Kn PR w K mg base (4 + n) "_law_same" ["told", "due"] (spIn K n) := by
    intro n
    induction n with
    | zero => exact Kn.of F__law_same ⟨fun _ _ _ _ z => z.elim, fun _ _ _ _ _ _ _ _ _ _ _ _ _ z => z.elim⟩ (He.glo_ok X G (x := "_law_same") (c.fact 50 (f := fun K => (He.Fa.glo "_law_same").ok K) rfl)) (FunD.bindsN (ps := ["told", "due"]) F__law_same fun _ _ _ _ _ _ us hl => match us, hl with | [_, _], _ => rfl)
    | succ n ih => exact Kn.of F__law_same (kn_ok F__law_same sc__law_same (by walk_at "ln") (fun E => t__law_same K (spIn K n) E) (fun cdv A outer s H E hr => d__law_same T ih (Nat.le_refl _) (by omega) hr) (fun vs H Q E h => p__law_same n vs H Q E h)) (He.glo_ok X G (x := "_law_same") (c.fact 50 (f := fun K => (He.Fa.glo "_law_same").ok K) rfl)) (FunD.bindsN (ps := ["told", "due"]) F__law_same fun _ _ _ _ _ _ us hl => match us, hl with | [_, _], _ => rfl)
  have c__law_same : Kn PR w K mg base 40 "_law_same" ["told", "due"] (sp__law_same K) := Kn_mono (cs 9) (by decide)
  have ok__law_very : FnOk PR w K mg base (L2.CX PR w) 41 (He.ga K "_law_very") fd__law_very ["given", "value"] (sp__law_very K) := kn_ok F__law_very sc__law_very (by walk_at "ln") (fun E => t__law_very K E) (fun cdv A outer s H E hr => d__law_very T c__law_same hr) (fun vs H Q E h => p__law_very  vs H Q E h)
  have c__law_very : Kn PR w K mg base 41 "_law_very" ["given", "value"] (sp__law_very K) := Kn.of F__law_very ok__law_very (He.glo_ok X G (x := "_law_very") (c.fact 51 (f := fun K => (He.Fa.glo "_law_very").ok K) rfl)) (FunD.bindsN (ps := ["given", "value"]) F__law_very fun _ _ _ _ _ _ us hl => match us, hl with | [_, _], _ => rfl)
  have ok__law_leap : FnOk PR w K mg base (L2.CX PR w) 3 (He.ga K "_law_leap") fd__law_leap ["year"] (sp__law_leap K) := kn_ok F__law_leap sc__law_leap (by walk_at "ln") (fun E => t__law_leap K E) (fun cdv A outer s H E hr => d__law_leap T  hr) (fun vs H Q E h => p__law_leap  vs H Q E h)
  have c__law_leap : Kn PR w K mg base 3 "_law_leap" ["year"] (sp__law_leap K) := Kn.of F__law_leap ok__law_leap (He.glo_ok X G (x := "_law_leap") (c.fact 52 (f := fun K => (He.Fa.glo "_law_leap").ok K) rfl)) (FunD.bindsN (ps := ["year"]) F__law_leap fun _ _ _ _ _ _ us hl => match us, hl with | [_], _ => rfl)
  have ok__law_length : FnOk PR w K mg base (L2.CX PR w) 4 (He.ga K "_law_length") fd__law_length ["year", "month"] (sp__law_length K) := kn_ok F__law_length sc__law_length (by walk_at "ln") (fun E => t__law_length K E) (fun cdv A outer s H E hr => d__law_length T c__law_leap hr) (fun vs H Q E h => p__law_length  vs H Q E h)
  have c__law_length : Kn PR w K mg base 4 "_law_length" ["year", "month"] (sp__law_length K) := Kn.of F__law_length ok__law_length (He.glo_ok X G (x := "_law_length") (c.fact 53 (f := fun K => (He.Fa.glo "_law_length").ok K) rfl)) (FunD.bindsN (ps := ["year", "month"]) F__law_length fun _ _ _ _ _ _ us hl => match us, hl with | [_, _], _ => rfl)
  have ok__law_date : FnOk PR w K mg base (L2.CX PR w) 5 (He.ga K "_law_date") fd__law_date ["day"] (sp__law_date K) := kn_ok F__law_date sc__law_date (by walk_at "ln") (fun E => t__law_date K E) (fun cdv A outer s H E hr => d__law_date T c__law_leap c__law_length hr) (fun vs H Q E h => p__law_date  vs H Q E h)
  have c__law_date : Kn PR w K mg base 5 "_law_date" ["day"] (sp__law_date K) := Kn.of F__law_date ok__law_date (He.glo_ok X G (x := "_law_date") (c.fact 54 (f := fun K => (He.Fa.glo "_law_date").ok K) rfl)) (FunD.bindsN (ps := ["day"]) F__law_date fun _ _ _ _ _ _ us hl => match us, hl with | [_], _ => rfl)
  have ok__law_next : FnOk PR w K mg base (L2.CX PR w) 5 (He.ga K "_law_next") fd__law_next ["date"] (sp__law_next K) := kn_ok F__law_next sc__law_next (by walk_at "ln") (fun E => t__law_next K E) (fun cdv A outer s H E hr => d__law_next T c__law_length hr) (fun vs H Q E h => p__law_next  vs H Q E h)
  have c__law_next : Kn PR w K mg base 5 "_law_next" ["date"] (sp__law_next K) := Kn.of F__law_next ok__law_next (He.glo_ok X G (x := "_law_next") (c.fact 55 (f := fun K => (He.Fa.glo "_law_next").ok K) rfl)) (FunD.bindsN (ps := ["date"]) F__law_next fun _ _ _ _ _ _ us hl => match us, hl with | [_], _ => rfl)
  have ok__law_ask : FnOk PR w K mg base (L2.CX PR w) 8 (He.ga K "_law_ask") fd__law_ask ["word", "day", "count", "named"] (sp__law_ask K) := kn_ok F__law_ask sc__law_ask (by walk_at "ln") (fun E => t__law_ask K E) (fun cdv A outer s H E hr => d__law_ask T c_months_later c_number_in_year c_places_in_month k_months_later_count_day k_number_in_year_day k_places_in_month_day hr) (fun vs H Q E h => p__law_ask (ext_ok (c.fact 31 (f := fun K => extB ["InvalidDay", "InvalidCount"] "DueError" K) rfl)) vs H Q E h)
  have c__law_ask : Kn PR w K mg base 8 "_law_ask" ["word", "day", "count", "named"] (sp__law_ask K) := Kn.of F__law_ask ok__law_ask (He.glo_ok X G (x := "_law_ask") (c.fact 56 (f := fun K => (He.Fa.glo "_law_ask").ok K) rfl)) (FunD.bindsN (ps := ["word", "day", "count", "named"]) F__law_ask fun _ _ _ _ _ _ us hl => match us, hl with | [_, _, _, _], _ => rfl)
  have ok__law_day_of : FnOk PR w K mg base (L2.CX PR w) 5 (He.ga K "_law_day_of") fd__law_day_of ["date"] (sp__law_day_of K) := kn_ok F__law_day_of sc__law_day_of (by walk_at "ln") (fun E => t__law_day_of K E) (fun cdv A outer s H E hr => d__law_day_of T c__law_leap c__law_length hr) (fun vs H Q E h => p__law_day_of  vs H Q E h)
  have c__law_day_of : Kn PR w K mg base 5 "_law_day_of" ["date"] (sp__law_day_of K) := Kn.of F__law_day_of ok__law_day_of (He.glo_ok X G (x := "_law_day_of") (c.fact 57 (f := fun K => (He.Fa.glo "_law_day_of").ok K) rfl)) (FunD.bindsN (ps := ["date"]) F__law_day_of fun _ _ _ _ _ _ us hl => match us, hl with | [_], _ => rfl)
  have ok__law_in_months : FnOk PR w K mg base (L2.CX PR w) 6 (He.ga K "_law_in_months") fd__law_in_months ["date", "count"] (sp__law_in_months K) := kn_ok F__law_in_months sc__law_in_months (by walk_at "ln") (fun E => t__law_in_months K E) (fun cdv A outer s H E hr => d__law_in_months T c__law_day_of c__law_length hr) (fun vs H Q E h => p__law_in_months  vs H Q E h)
  have c__law_in_months : Kn PR w K mg base 6 "_law_in_months" ["date", "count"] (sp__law_in_months K) := Kn.of F__law_in_months ok__law_in_months (He.glo_ok X G (x := "_law_in_months") (c.fact 58 (f := fun K => (He.Fa.glo "_law_in_months").ok K) rfl)) (FunD.bindsN (ps := ["date", "count"]) F__law_in_months fun _ _ _ _ _ _ us hl => match us, hl with | [_, _], _ => rfl)
  have ok__law_day : FnOk PR w K mg base (L2.CX PR w) 6 (He.ga K "_law_day") fd__law_day ["box"] (sp__law_day K) := kn_ok F__law_day sc__law_day (by walk_at "ln") (fun E => t__law_day K E) (fun cdv A outer s H E hr => d__law_day T c__law_day_of c__law_length c__law_take hr) (fun vs H Q E h => p__law_day  vs H Q E h)
  have c__law_day : Kn PR w K mg base 6 "_law_day" ["box"] (sp__law_day K) := Kn.of F__law_day ok__law_day (He.glo_ok X G (x := "_law_day") (c.fact 59 (f := fun K => (He.Fa.glo "_law_day").ok K) rfl)) (FunD.bindsN (ps := ["box"]) F__law_day fun _ _ _ _ _ _ us hl => match us, hl with | [_], _ => rfl)
  have ok__law_told : FnOk PR w K mg base (L2.CX PR w) 41 (He.ga K "_law_told") fd__law_told ["word", "day", "count", "due", "named"] (sp__law_told K) := kn_ok F__law_told sc__law_told (by walk_at "ln") (fun E => t__law_told K E) (fun cdv A outer s H E hr => d__law_told T c__law_ask c__law_same hr) (fun vs H Q E h => p__law_told  vs H Q E h)
  have c__law_told : Kn PR w K mg base 41 "_law_told" ["word", "day", "count", "due", "named"] (sp__law_told K) := Kn.of F__law_told ok__law_told (He.glo_ok X G (x := "_law_told") (c.fact 60 (f := fun K => (He.Fa.glo "_law_told").ok K) rfl)) (FunD.bindsN (ps := ["word", "day", "count", "due", "named"]) F__law_told fun _ _ _ _ _ _ us hl => match us, hl with | [_, _, _, _, _], _ => rfl)
  have ok__law_places_right : FnOk PR w K mg base (L2.CX PR w) 42 (He.ga K "_law_places_right") fd__law_places_right ["day", "named"] (sp__law_places_right K) := kn_ok F__law_places_right sc__law_places_right (by walk_at "ln") (fun E => t__law_places_right K E) (fun cdv A outer s H E hr => d__law_places_right T c__law_date c__law_day_of c__law_length c__law_told hr) (fun vs H Q E h => p__law_places_right  vs H Q E h)
  have c__law_places_right : Kn PR w K mg base 42 "_law_places_right" ["day", "named"] (sp__law_places_right K) := Kn.of F__law_places_right ok__law_places_right (He.glo_ok X G (x := "_law_places_right") (c.fact 61 (f := fun K => (He.Fa.glo "_law_places_right").ok K) rfl)) (FunD.bindsN (ps := ["day", "named"]) F__law_places_right fun _ _ _ _ _ _ us hl => match us, hl with | [_, _], _ => rfl)
  have ok__law_months_right : FnOk PR w K mg base (L2.CX PR w) 42 (He.ga K "_law_months_right") fd__law_months_right ["box", "day", "named"] (sp__law_months_right K) := kn_ok F__law_months_right sc__law_months_right (by walk_at "ln") (fun E => t__law_months_right K E) (fun cdv A outer s H E hr => d__law_months_right T c__law_ask c__law_date c__law_in_months c__law_same c__law_take c__law_told hr) (fun vs H Q E h => p__law_months_right  vs H Q E h)
  have c__law_months_right : Kn PR w K mg base 42 "_law_months_right" ["box", "day", "named"] (sp__law_months_right K) := Kn.of F__law_months_right ok__law_months_right (He.glo_ok X G (x := "_law_months_right") (c.fact 62 (f := fun K => (He.Fa.glo "_law_months_right").ok K) rfl)) (FunD.bindsN (ps := ["box", "day", "named"]) F__law_months_right fun _ _ _ _ _ _ us hl => match us, hl with | [_, _, _], _ => rfl)
  have ok__law_no_number : FnOk PR w K mg base (L2.CX PR w) 4 (He.ga K "_law_no_number") fd__law_no_number ["box", "low", "high"] (sp__law_no_number K) := kn_ok F__law_no_number sc__law_no_number (by walk_at "ln") (fun E => t__law_no_number K E) (fun cdv A outer s H E hr => d__law_no_number T c__law_take hr) (fun vs H Q E h => p__law_no_number  vs H Q E h)
  have c__law_no_number : Kn PR w K mg base 4 "_law_no_number" ["box", "low", "high"] (sp__law_no_number K) := Kn.of F__law_no_number ok__law_no_number (He.glo_ok X G (x := "_law_no_number") (c.fact 63 (f := fun K => (He.Fa.glo "_law_no_number").ok K) rfl)) (FunD.bindsN (ps := ["box", "low", "high"]) F__law_no_number fun _ _ _ _ _ _ us hl => match us, hl with | [_, _, _], _ => rfl)
  have ok__law_refused : FnOk PR w K mg base (L2.CX PR w) 42 (He.ga K "_law_refused") fd__law_refused ["box", "day", "named"] (sp__law_refused K) := kn_ok F__law_refused sc__law_refused (by walk_at "ln") (fun E => t__law_refused K E) (fun cdv A outer s H E hr => d__law_refused T c__law_ask c__law_no_number c__law_take c__law_very hr) (fun vs H Q E h => p__law_refused  vs H Q E h)
  have c__law_refused : Kn PR w K mg base 42 "_law_refused" ["box", "day", "named"] (sp__law_refused K) := Kn.of F__law_refused ok__law_refused (He.glo_ok X G (x := "_law_refused") (c.fact 64 (f := fun K => (He.Fa.glo "_law_refused").ok K) rfl)) (FunD.bindsN (ps := ["box", "day", "named"]) F__law_refused fun _ _ _ _ _ _ us hl => match us, hl with | [_, _, _], _ => rfl)
  have ok_law : FnOk PR w K mg base (L2.CX PR w) 43 (He.ga K "law") fd_law ["script"] (sp_law K) := kn_ok F_law sc_law (by walk_at "ln") (fun E => t_law K E) (fun cdv A outer s H E hr => d_law T c__law_box c__law_cell c__law_day c__law_months_right c__law_places_right c__law_refused c__law_take hr) (fun vs H Q E h => p_law  vs H Q E h)
  exact ok_law
abbrev hk : PySem.W.Hook := hookM 5 fs fn fc
def ob (s : PySem.W.SharedT) : He.AlD := obsMG 5 fs fn fc (HandSHeadRun.getT s)
theorem ob_eq (s : PySem.W.SharedT) : ob s = hk.obs s.abs := obsMG_eq (HandSHeadRun.getT_eq s)
def names0 : List Str := ["DueError", "InvalidCount", "InvalidDay", "MOST_DAY", "is_whole", "is_between", "is_day", "FIRST_YEAR", "LONG_YEARS", "LONG_DAYS", "LENGTHS", "FEBRUARY", "is_leap_year", "length_of", "check_day", "year_begin", "month_begin", "year_of", "date_at", "MOST_MONTHS"]
def names1 : List Str := ["number_in_year", "places_at", "places_in_month", "day_in_months", "months_later", "_law_cell", "_law_box", "_law_take", "_law_same", "_law_very", "_law_leap", "_law_length", "_law_date", "_law_next", "_law_ask", "_law_day_of", "_law_in_months", "_law_day", "_law_told", "_law_places_right"]
def names2 : List Str := ["_law_months_right", "_law_no_number", "_law_refused"]
def names : List Str := names0 ++ names1 ++ names2
theorem run (w : World) : HandSHeadRun.RunEq RR (PySem.W.view RR.prog [48]) hk ob 4000 names w := by
  intro os
  kernel_rfl
end My
open PySem PySem.W PySem.Calls PyProof.Rows
theorem PySem.Challenge.cw_dueagain_k03_places_in_years_and_months_holds : PySem.Challenge.rw_dueagain_k03_places_in_years_and_months.Holds := by
  w_on; o_law
  refine HandSHeadRun.head_any (r := OpenLaw.row PySem.Challenge.rw_dueagain_k03_places_in_years_and_months) (q := view (OpenLaw.row PySem.Challenge.rw_dueagain_k03_places_in_years_and_months).prog [48]) (H := My.hk) (ob := My.ob) (M := 4000) (loose := My.names) (d := HandSHeadRun.topDef (OpenLaw.row PySem.Challenge.rw_dueagain_k03_places_in_years_and_months).prog 48) (kwd := []) My.ob_eq
    (by kernel_rfl) (fun s => by kernel_rfl) My.run (by kernel_rfl) (by kernel_rfl) (by kernel_rfl) (by rfl) (by first | assumption | decide +kernel) (by decide +kernel) ⟨rfl, rfl, rfl, rfl, rfl, by decide +kernel⟩ ?hw ?hc
  case hw => w_witness2
  case hc =>
    refine Kx.walk_ofX (l := PySem.Challenge.rw_dueagain_k03_places_in_years_and_months) (n := 63) (k := 43) (x := "script") rfl (by decide) (by kernel_rfl) ⟨rfl, by decide, by decide⟩ ?F
    intro w mg fa h Y G hmg0
    obtain ⟨K, KX, c⟩ := Y
    have hmg : mg ("law" : PySem.Str) = some (.ref fa) := by
      have e : (HandSHeadRun.topDef (OpenLaw.row PySem.Challenge.rw_dueagain_k03_places_in_years_and_months).prog 48).name = ("law" : PySem.Str) := by kernel_rfl
      rw [← e]
      exact hmg0
    have e := hmg.symm.trans (He.glo_ok KX G (x := "law") (c.fact 65 rfl))
    cases e
    obtain ⟨fd, hb, hF⟩ := My.facts (w := w) KX G c
    exact ⟨K, fd, My.sp_law K, KX, hb, fun H a ns hl _ hS => ⟨a, ns, rfl, hS, hl, fun _ => rfl⟩, hF⟩
